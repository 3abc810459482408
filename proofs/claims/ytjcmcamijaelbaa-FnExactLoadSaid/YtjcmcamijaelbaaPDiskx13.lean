/- Functions of the program, each with its contract, written by a program out of the translation. -/
import Derived.Test.YtjcmcamijaelbaaPDiskx0
import Derived.Test.YtjcmcamijaelbaaPDiskx7
import Derived.Test.YtjcmcamijaelbaaPDiskx8
import Derived.Test.YtjcmcamijaelbaaPDiskx9
import Derived.Test.YtjcmcamijaelbaaPDiskxH
import Derived.Test.YtjcmcamijaelbaaPDiskx10
import Derived.Test.YtjcmcamijaelbaaPDiskx12
import Derived.Test.YtjcmcamijaelbaaZip
namespace Go.Proofs.Ytjcmcamijaelbaa.PDisk
open Go.RowKit Go.Proofs.YtjcmcamijaelbaaW.PrintWords Go.Proofs.YtjcmcamijaelbaaW.PrintLast Go.Proofs.YtjcmcamijaelbaaW.PrintMore Go.Proofs.Ytjcmcamijaelbaa.Zip
attribute [local go_sem] max2_int min2_int max_two min_two max_three min_three max_four min_four   -- for this text's walks alone
set_option linter.unusedVariables false
set_option linter.unusedSimpArgs false
/-! ### impl_DiskOk: function 28 -/
mutual
def impl_DiskOk.j0 : Nat → Bool → Int → Int → List (S89) → List (S93) → List (S95) → Option (Bool)
 | 0, _, _, _, _, _, _ => none
 | k + 1, x31, x330000, x330001, x330002, x330003, x330004 => if x31 = true then (some false) else (impl_DiskOk.l0 k (([] : List Int)) x330003 (x330003.length : Int) 0 x330000 x330001 x330002 x330003 x330004)
def impl_DiskOk.l0 : Nat → List Int → List (S93) → Int → Int → Int → Int → List (S89) → List (S93) → List (S95) → Option (Bool)
 | 0, _, _, _, _, _, _, _, _, _ => none
 | k + 1, x3, x34, x35, x36, x330000, x330001, x330002, x330003, x330004 => if x36 < x35 then (if 0 ≤ x36 then (if x36 < (x34.length : Int) then ((impl_nameOk.f k ((rd_T93 x34 x36).f0)).bind fun t338 => (if t338 = true then (if x36 > 0 then (if 0 ≤ (wrap64 (x36 - 1)) then (if (wrap64 (x36 - 1)) < (x330003.length : Int) then (if ((Op.bytesLess (((rd_T93 x330003 (wrap64 (x36 - 1))).f0).toList) (((rd_T93 x34 x36).f0).toList)) = true) then ((impl_inodeAt.f x330000 x330001 x330002 x330003 x330004 ((rd_T93 x34 x36).f1)).bind fun t340 => (if t340 < 0 then (some false) else ((slices_Contains_int_int.f k x3 ((rd_T93 x34 x36).f1)).bind fun t341 => (if t341 = true then (some false) else (if x3.length < 17592186044416 then (impl_DiskOk.l0 k (x3 ++ [(rd_T93 x34 x36).f1]) x34 x35 (wrap64 (x36 + 1)) x330000 x330001 x330002 x330003 x330004) else (none)))))) else (some false)) else (none)) else (none)) else ((impl_inodeAt.f x330000 x330001 x330002 x330003 x330004 ((rd_T93 x34 x36).f1)).bind fun t345 => (if t345 < 0 then (some false) else ((slices_Contains_int_int.f k x3 ((rd_T93 x34 x36).f1)).bind fun t346 => (if t346 = true then (some false) else (if x3.length < 17592186044416 then (impl_DiskOk.l0 k (x3 ++ [(rd_T93 x34 x36).f1]) x34 x35 (wrap64 (x36 + 1)) x330000 x330001 x330002 x330003 x330004) else (none))))))) else (some false))) else (none)) else (none)) else (impl_DiskOk.l1 k x3 x330003 x330004 (x330004.length : Int) 0 x330000 x330001 x330002 x330003 x330004)
def impl_DiskOk.l1 : Nat → List Int → List (S93) → List (S95) → Int → Int → Int → Int → List (S89) → List (S93) → List (S95) → Option (Bool)
 | 0, _, _, _, _, _, _, _, _, _, _ => none
 | k + 1, x3, x6, x83, x84, x85, x330000, x330001, x330002, x330003, x330004 => if x85 < x84 then (if 0 ≤ x85 then (if x85 < (x83.length : Int) then ((impl_applied.f k x6 ((rd_T95 x83 x85).f0) ((rd_T95 x83 x85).f1) ((rd_T95 x83 x85).f2) ((rd_T95 x83 x85).f3)).bind fun bt352 => (if bt352.2 = true then ((impl_nameOk.f k ((rd_T95 x83 x85).f1)).bind fun t356 => (impl_DiskOk.j3 k x3 bt352.1 x83 x84 x85 (!t356) x330000 x330001 x330002 x330003 x330004 ((rd_T95 x83 x85).f0) ((rd_T95 x83 x85).f1) ((rd_T95 x83 x85).f2) ((rd_T95 x83 x85).f3))) else (impl_DiskOk.j3 k x3 bt352.1 x83 x84 x85 true x330000 x330001 x330002 x330003 x330004 ((rd_T95 x83 x85).f0) ((rd_T95 x83 x85).f1) ((rd_T95 x83 x85).f2) ((rd_T95 x83 x85).f3)))) else (none)) else (none)) else (some ((x3.length : Int) == (x330002.length : Int)))
def impl_DiskOk.j3 : Nat → List Int → List (S93) → List (S95) → Int → Int → Bool → Int → Int → List (S89) → List (S93) → List (S95) → Int → ByteArray → ByteArray → Int → Option (Bool)
 | 0, _, _, _, _, _, _, _, _, _, _, _, _, _, _, _ => none
 | k + 1, x3, x9, x83, x84, x85, x102, x330000, x330001, x330002, x330003, x330004, x352000, x352001, x352002, x352003 => if x102 = true then (some false) else (if x352000 = 1 then ((impl_inodeAt.f x330000 x330001 x330002 x330003 x330004 x352003).bind fun t357 => (if t357 < 0 then (some false) else ((slices_Contains_int_int.f k x3 x352003).bind fun t358 => (if t358 = true then (some false) else (if x3.length < 17592186044416 then (impl_DiskOk.l1 k (x3 ++ [x352003]) x9 x83 x84 (wrap64 (x85 + 1)) x330000 x330001 x330002 x330003 x330004) else (none)))))) else (impl_DiskOk.l1 k x3 x9 x83 x84 (wrap64 (x85 + 1)) x330000 x330001 x330002 x330003 x330004))
end
def impl_DiskOk.f (k : Nat) (a0_0 : Int) (a0_1 : Int) (l0_2 : List (S89)) (l0_3 : List (S93)) (l0_4 : List (S95)) : Option (Bool) := (impl_from.f a0_0 0 1048576).bind fun t330 => (if t330 = true then ((impl_from.f a0_1 1 1000000).bind fun t331 => (if t331 = true then ((impl_inodesOk.f k a0_0 a0_1 l0_2 l0_3 l0_4).bind fun t332 => (if t332 = true then (impl_DiskOk.j0 k (decide ((l0_4.length : Int) > 20)) a0_0 a0_1 l0_2 l0_3 l0_4) else (impl_DiskOk.j0 k true a0_0 a0_1 l0_2 l0_3 l0_4))) else (impl_DiskOk.j0 k true a0_0 a0_1 l0_2 l0_3 l0_4))) else (impl_DiskOk.j0 k true a0_0 a0_1 l0_2 l0_3 l0_4))
theorem impl_DiskOk.mono_l : ∀ k, (∀ y0 y1 y2 y3 y4 y5, LeO (impl_DiskOk.j0 k y0 y1 y2 y3 y4 y5) (impl_DiskOk.j0 (k + 1) y0 y1 y2 y3 y4 y5)) ∧ (∀ y0 y1 y2 y3 y4 y5 y6 y7 y8, LeO (impl_DiskOk.l0 k y0 y1 y2 y3 y4 y5 y6 y7 y8) (impl_DiskOk.l0 (k + 1) y0 y1 y2 y3 y4 y5 y6 y7 y8)) ∧ (∀ y0 y1 y2 y3 y4 y5 y6 y7 y8 y9, LeO (impl_DiskOk.l1 k y0 y1 y2 y3 y4 y5 y6 y7 y8 y9) (impl_DiskOk.l1 (k + 1) y0 y1 y2 y3 y4 y5 y6 y7 y8 y9)) ∧ (∀ y0 y1 y2 y3 y4 y5 y6 y7 y8 y9 y10 y11 y12 y13 y14, LeO (impl_DiskOk.j3 k y0 y1 y2 y3 y4 y5 y6 y7 y8 y9 y10 y11 y12 y13 y14) (impl_DiskOk.j3 (k + 1) y0 y1 y2 y3 y4 y5 y6 y7 y8 y9 y10 y11 y12 y13 y14))
 | 0 => ⟨fun _ _ _ _ _ _ r h => by simp [impl_DiskOk.j0] at h, fun _ _ _ _ _ _ _ _ _ r h => by simp [impl_DiskOk.l0] at h, fun _ _ _ _ _ _ _ _ _ _ r h => by simp [impl_DiskOk.l1] at h, fun _ _ _ _ _ _ _ _ _ _ _ _ _ _ _ r h => by simp [impl_DiskOk.j3] at h⟩
 | k + 1 => by
  obtain ⟨ih0, ih1, ih2, ih3⟩ := impl_DiskOk.mono_l k
  refine ⟨?_, ?_, ?_, ?_⟩
  ·intro y0 y1 y2 y3 y4 y5
   unfold impl_DiskOk.j0
   repeat' first
   | (with_reducible exact ih0 _ _ _ _ _ _)
   | (with_reducible exact ih1 _ _ _ _ _ _ _ _ _)
   | (with_reducible exact ih2 _ _ _ _ _ _ _ _ _ _)
   | (with_reducible exact ih3 _ _ _ _ _ _ _ _ _ _ _ _ _ _ _)
   | (with_reducible exact impl_applied.mono _ _ _ _ _ _)
   | (with_reducible exact impl_inodesOk.mono _ _ _ _ _ _)
   | (with_reducible exact impl_nameOk.mono _ _)
   | (with_reducible exact slices_Contains_int_int.mono _ _ _)
   | (with_reducible exact LeO.refl _)
   | (with_reducible exact LeO.none _)
   | (with_reducible refine LeO.ite ?_ ?_)
   | (with_reducible refine LeO.bind ?_ (fun _ => ?_))
   | exact ih0 _ _ _ _ _ _
   | exact ih1 _ _ _ _ _ _ _ _ _
   | exact ih2 _ _ _ _ _ _ _ _ _ _
   | exact ih3 _ _ _ _ _ _ _ _ _ _ _ _ _ _ _
   | exact impl_applied.mono _ _ _ _ _ _
   | exact impl_inodesOk.mono _ _ _ _ _ _
   | exact impl_nameOk.mono _ _
   | exact slices_Contains_int_int.mono _ _ _
   | exact LeO.none _
   | refine LeO.ite ?_ ?_
   | refine LeO.bind ?_ (fun _ => ?_)
  ·intro y0 y1 y2 y3 y4 y5 y6 y7 y8
   unfold impl_DiskOk.l0
   repeat' first
   | (with_reducible exact ih0 _ _ _ _ _ _)
   | (with_reducible exact ih1 _ _ _ _ _ _ _ _ _)
   | (with_reducible exact ih2 _ _ _ _ _ _ _ _ _ _)
   | (with_reducible exact ih3 _ _ _ _ _ _ _ _ _ _ _ _ _ _ _)
   | (with_reducible exact impl_applied.mono _ _ _ _ _ _)
   | (with_reducible exact impl_inodesOk.mono _ _ _ _ _ _)
   | (with_reducible exact impl_nameOk.mono _ _)
   | (with_reducible exact slices_Contains_int_int.mono _ _ _)
   | (with_reducible exact LeO.refl _)
   | (with_reducible exact LeO.none _)
   | (with_reducible refine LeO.ite ?_ ?_)
   | (with_reducible refine LeO.bind ?_ (fun _ => ?_))
   | exact ih0 _ _ _ _ _ _
   | exact ih1 _ _ _ _ _ _ _ _ _
   | exact ih2 _ _ _ _ _ _ _ _ _ _
   | exact ih3 _ _ _ _ _ _ _ _ _ _ _ _ _ _ _
   | exact impl_applied.mono _ _ _ _ _ _
   | exact impl_inodesOk.mono _ _ _ _ _ _
   | exact impl_nameOk.mono _ _
   | exact slices_Contains_int_int.mono _ _ _
   | exact LeO.none _
   | refine LeO.ite ?_ ?_
   | refine LeO.bind ?_ (fun _ => ?_)
  ·intro y0 y1 y2 y3 y4 y5 y6 y7 y8 y9
   unfold impl_DiskOk.l1
   repeat' first
   | (with_reducible exact ih0 _ _ _ _ _ _)
   | (with_reducible exact ih1 _ _ _ _ _ _ _ _ _)
   | (with_reducible exact ih2 _ _ _ _ _ _ _ _ _ _)
   | (with_reducible exact ih3 _ _ _ _ _ _ _ _ _ _ _ _ _ _ _)
   | (with_reducible exact impl_applied.mono _ _ _ _ _ _)
   | (with_reducible exact impl_inodesOk.mono _ _ _ _ _ _)
   | (with_reducible exact impl_nameOk.mono _ _)
   | (with_reducible exact slices_Contains_int_int.mono _ _ _)
   | (with_reducible exact LeO.refl _)
   | (with_reducible exact LeO.none _)
   | (with_reducible refine LeO.ite ?_ ?_)
   | (with_reducible refine LeO.bind ?_ (fun _ => ?_))
   | exact ih0 _ _ _ _ _ _
   | exact ih1 _ _ _ _ _ _ _ _ _
   | exact ih2 _ _ _ _ _ _ _ _ _ _
   | exact ih3 _ _ _ _ _ _ _ _ _ _ _ _ _ _ _
   | exact impl_applied.mono _ _ _ _ _ _
   | exact impl_inodesOk.mono _ _ _ _ _ _
   | exact impl_nameOk.mono _ _
   | exact slices_Contains_int_int.mono _ _ _
   | exact LeO.none _
   | refine LeO.ite ?_ ?_
   | refine LeO.bind ?_ (fun _ => ?_)
  ·intro y0 y1 y2 y3 y4 y5 y6 y7 y8 y9 y10 y11 y12 y13 y14
   unfold impl_DiskOk.j3
   repeat' first
   | (with_reducible exact ih0 _ _ _ _ _ _)
   | (with_reducible exact ih1 _ _ _ _ _ _ _ _ _)
   | (with_reducible exact ih2 _ _ _ _ _ _ _ _ _ _)
   | (with_reducible exact ih3 _ _ _ _ _ _ _ _ _ _ _ _ _ _ _)
   | (with_reducible exact impl_applied.mono _ _ _ _ _ _)
   | (with_reducible exact impl_inodesOk.mono _ _ _ _ _ _)
   | (with_reducible exact impl_nameOk.mono _ _)
   | (with_reducible exact slices_Contains_int_int.mono _ _ _)
   | (with_reducible exact LeO.refl _)
   | (with_reducible exact LeO.none _)
   | (with_reducible refine LeO.ite ?_ ?_)
   | (with_reducible refine LeO.bind ?_ (fun _ => ?_))
   | exact ih0 _ _ _ _ _ _
   | exact ih1 _ _ _ _ _ _ _ _ _
   | exact ih2 _ _ _ _ _ _ _ _ _ _
   | exact ih3 _ _ _ _ _ _ _ _ _ _ _ _ _ _ _
   | exact impl_applied.mono _ _ _ _ _ _
   | exact impl_inodesOk.mono _ _ _ _ _ _
   | exact impl_nameOk.mono _ _
   | exact slices_Contains_int_int.mono _ _ _
   | exact LeO.none _
   | refine LeO.ite ?_ ?_
   | refine LeO.bind ?_ (fun _ => ?_)
theorem impl_DiskOk.mono : ∀ a0 a1 a2 a3 a4 k, LeO (impl_DiskOk.f k a0 a1 a2 a3 a4) (impl_DiskOk.f (k + 1) a0 a1 a2 a3 a4) := by
 intro a0 a1 a2 a3 a4 k
 obtain ⟨ih0, ih1, ih2, ih3⟩ := impl_DiskOk.mono_l k
 unfold impl_DiskOk.f
 repeat' first
  | (with_reducible exact ih0 _ _ _ _ _ _)
  | (with_reducible exact ih1 _ _ _ _ _ _ _ _ _)
  | (with_reducible exact ih2 _ _ _ _ _ _ _ _ _ _)
  | (with_reducible exact ih3 _ _ _ _ _ _ _ _ _ _ _ _ _ _ _)
  | (with_reducible exact impl_applied.mono _ _ _ _ _ _)
  | (with_reducible exact impl_inodesOk.mono _ _ _ _ _ _)
  | (with_reducible exact impl_nameOk.mono _ _)
  | (with_reducible exact slices_Contains_int_int.mono _ _ _)
  | (with_reducible exact LeO.refl _)
  | (with_reducible exact LeO.none _)
  | (with_reducible refine LeO.ite ?_ ?_)
  | (with_reducible refine LeO.bind ?_ (fun _ => ?_))
  | exact ih0 _ _ _ _ _ _
  | exact ih1 _ _ _ _ _ _ _ _ _
  | exact ih2 _ _ _ _ _ _ _ _ _ _
  | exact ih3 _ _ _ _ _ _ _ _ _ _ _ _ _ _ _
  | exact impl_applied.mono _ _ _ _ _ _
  | exact impl_inodesOk.mono _ _ _ _ _ _
  | exact impl_nameOk.mono _ _
  | exact slices_Contains_int_int.mono _ _ _
  | exact LeO.none _
  | refine LeO.ite ?_ ?_
  | refine LeO.bind ?_ (fun _ => ?_)
def impl_DiskOk.T7 : Bool × List (List Nat × List Nat) := (true, [([], []), ([0], [0]), ([1], [1]), ([2], [2]), ([3, 2], [3]), ([4], [4]), ([5, 4], [4, 5]), ([6, 4, 4], [4, 6]), ([7], [7]), ([8, 7], [7, 8]), ([7], [7]), ([10, 7], [7, 10]), ([9, 11, 7], [7, 9, 11]), ([12, 7], [7, 12]), ([13, 7], [7, 13]), ([7], [7]), ([15, 7], [7, 15]), ([14, 16, 7], [7, 14, 16]), ([7, 17, 4], [4, 7, 17]), ([4, 18], [4, 18]), ([19, 7], [19]), ([20], [20]), ([20], [20]), ([22, 20], [20, 22]), ([21, 23, 20, 20], [20, 21, 23]), ([24, 20], [20, 24]), ([20, 25], [20, 25]), ([26, 24], [26]), ([27], [27]), ([27], [27]), ([29, 27], [27, 29]), ([28, 30, 27, 27], [27, 28, 30]), ([27, 31], [27, 31])])
def impl_DiskOk.B7 : List Nat := [0, 1, 3, 7, 15, 31, 63, 127, 255, 511, 255, 1279, 4095, 8191, 16383, 255, 33023, 131071, 262143, 524287, 1048575, 2097151, 2097151, 6291455, 16777215, 33554431, 67108863, 134217727, 268435455, 268435455, 805306367, 2147483647, 4294967295]
theorem impl_DiskOk.tab7 : rtab .any (opsOf Try.f28 7) = impl_DiskOk.T7 := by kernel_rfl
theorem impl_DiskOk.bits7 : waitsOk impl_DiskOk.T7.2 impl_DiskOk.B7 = true := by kernel_rfl
set_option maxHeartbeats 8000000 in
set_option maxRecDepth 100000 in
theorem impl_DiskOk.calls (k : Nat) (a0_0 : Int) (a0_1 : Int) (A0_2 : Option Addr) (c0_2 : Nat) (l0_2 : List (S89)) (P0_3_ : Nat → Prop) (A0_3 : Option Addr) (c0_3 : Nat) (l0_3 : List (S93)) (A0_4 : Option Addr) (c0_4 : Nat) (l0_4 : List (S95)) (r : Bool) (w : World) (hr0_2 : Kd.C k89 w A0_2 l0_2.length l0_2) (hc0_2 : l0_2.length ≤ c0_2) (hs0_3 : Kd.V k93 93 w w.heap.size (fun k_ => P0_3_ k_) (.slice A0_3 l0_3.length c0_3) l0_3) (hr0_4 : Kd.C k95 w A0_4 l0_4.length l0_4) (hc0_4 : l0_4.length ≤ c0_4) (h : impl_DiskOk.f k a0_0 a0_1 l0_2 l0_3 l0_4 = some r) :
 Calls Try.prog 28 #[.agg #[.int .i64 a0_0, .int .i64 a0_1, .slice A0_2 l0_2.length c0_2, .slice A0_3 l0_3.length c0_3, .slice A0_4 l0_4.length c0_4]] w fun e w' => e = .returned (.bool r) ∧ Below w.heap.size w w' := by
 have hu26 := Try.underlying26
 have hu93 := Try.underlying93
 have hu95 := Try.underlying95
 have HR0_2 := Aside0.mk hr0_2
 have HC0_2 := Aside0.mk hc0_2
 clear hr0_2 hc0_2
 have HO0_3 := Aside0.mk (show Kd.V k93 93 w w.heap.size (fun k_ => (P0_3_ k_ ∨ w.heap.size ≤ k_)) (.slice A0_3 l0_3.length c0_3) l0_3 from Kd.V_mono hs0_3 (fun k_ hk => .inl hk))
 have HR0_4 := Aside0.mk hr0_4
 have HC0_4 := Aside0.mk hc0_4
 clear hr0_4 hc0_4
 have HB := Aside0.mk (Below.refl w.heap.size w)
 have H : ((impl_from.f a0_0 0 1048576).bind fun t330 => (if t330 = true then ((impl_from.f a0_1 1 1000000).bind fun t331 => (if t331 = true then ((impl_inodesOk.f k a0_0 a0_1 l0_2 l0_3 l0_4).bind fun t332 => (if t332 = true then (impl_DiskOk.j0 k (decide ((l0_4.length : Int) > 20)) a0_0 a0_1 l0_2 l0_3 l0_4) else (impl_DiskOk.j0 k true a0_0 a0_1 l0_2 l0_3 l0_4))) else (impl_DiskOk.j0 k true a0_0 a0_1 l0_2 l0_3 l0_4))) else (impl_DiskOk.j0 k true a0_0 a0_1 l0_2 l0_3 l0_4))) = some r := h
 clear h
 have HC2 := Aside0.mk H
 clear H
 go_enter Try.func28, Try.ntmps28
 go_upto_region 1 with (first | ((with_reducible refine gD 1 rfl ?_); (try (refine gate_guard rfl ?_; dsimp only)); refine boxZ 1 #[.int .i64 a0_0, .int .i64 a0_1, .slice A0_2 l0_2.length c0_2, .slice A0_3 l0_3.length c0_3, .slice A0_4 l0_4.length c0_4] 26 ?_; intro gb329 hg w3 hbox hb; replace HO0_3 := Aside0.mk (Kd.V_below (Kd.V_elderB (rpV HO0_3.out) gb329 (Nat.le_of_eq hg.symm)) hb); have BK329 := Aside0.mk hbox; have GW329 := gw (w := w) hg; have GE329 := gw (w := w) hg; replace HB := bs (w := w) hb; clear hb hbox hg))
 (try simp only [Act.put, List.setIfInBounds_toArray, List.set_cons_zero, List.set_cons_succ])
 go_cut [31] (fun v31 wc => ∃ (kq : Nat) (x31_1 : Bool), v31 = .bool x31_1 ∧ Aside0 (impl_DiskOk.j0 kq x31_1 a0_0 a0_1 l0_2 l0_3 l0_4 = some r) ∧ Aside0 (kq ≤ k) ∧ Aside0 (Kd.V k93 93 wc w.heap.size (fun k_ => (P0_3_ k_ ∨ w.heap.size ≤ k_) ∧ k_ ≠ gb329) (.slice A0_3 l0_3.length c0_3) l0_3) ∧ Aside0 (wc.heap[gb329]? = some (.cells #[.int .i64 a0_0, .int .i64 a0_1, (.slice A0_2 l0_2.length c0_2), (.slice A0_3 l0_3.length c0_3), (.slice A0_4 l0_4.length c0_4)] 26 (0, 0))) ∧ Aside0 (Below w.heap.size w wc))
 case first => as_aux_lemma =>
  have H := HC2.out
  clear HC2
  obtain ⟨t330, A4, H⟩ := bd H
  by_cases c5 : t330 = true
  ·subst c5
   replace H := iT H
   obtain ⟨t331, A6, H⟩ := bd H
   by_cases c7 : t331 = true
   ·subst c7
    replace H := iT H
    obtain ⟨t332, A8, H⟩ := bd H
    by_cases c9 : t332 = true
    ·subst c9
     replace H := iT H
     have H' := Aside0.mk H
     clear H
     obtain ⟨Z10_0, Z10_1, Z10_2, Z10_3, Z10_4, Y10_0, Y10_1, Y10_2, Y10_3, Y10_4⟩ := cf5 BK329
     go_wp2_with (first | ((with_reducible refine gC 54 rfl ?_); refine goesZ (some 13) rfl Try.func54 #[.int .i64 a0_0, .int .i64 0, .int .i64 1048576] ?_; (with_reducible refine (impl_from.calls a0_0 0 1048576 true _ A4.out).mono ?_); rintro e w' ⟨rfl, ⟨nd, rfl⟩⟩; refine ⟨_, rfl, ?_⟩) | (go_at_call 54; (with_reducible refine (impl_from.calls a0_1 1 1000000 true _ A6.out).mono ?_); rintro e w' ⟨rfl, ⟨nd, rfl⟩⟩) | (go_at_call 85; (with_reducible refine (impl_inodesOk.calls k a0_0 a0_1 _ _ l0_2 _ _ l0_3 _ _ l0_4 true _ ?side1 ?side2 ?side3 ?side4 ?side5 ?side6 A8.out).mono ?_); (case side1 => exact ca (Kd.C_below HR0_2.out bl)); (case side2 => exact HC0_2.out); (case side3 => exact ca ((Kd.V_reads' HO0_3.out).2.2)); (case side4 => exact (Kd.V_reads' HO0_3.out).2.1); (case side5 => exact ca (Kd.C_below HR0_4.out bl)); (case side6 => exact HC0_4.out); rintro e w11 ⟨rfl, hb⟩; replace HO0_3 := Aside0.mk (Kd.V_below (rpV HO0_3.out) hb); replace BK329 := bv BK329 hb; replace HB := bs (w := w) hb; (try clear hb); obtain ⟨Z12_0, Z12_1, Z12_2, Z12_3, Z12_4, Y12_0, Y12_1, Y12_2, Y12_3, Y12_4⟩ := cf5 BK329))
     go_meet
     case rel => exact ⟨_, (decide ((l0_4.length : Int) > 20)), fa, H', ⟨by first | omega | exact Nat.le_refl _⟩, ⟨rpV HO0_3.out⟩, ⟨by (with_reducible repeat (first | refine blk_drewN ?_ _ | refine blk_drew ?_ | refine blk_alloc ?_ _)); exact BK329.out⟩, ⟨bl⟩⟩
    ·replace c9 := Bool.eq_false_iff.mpr c9
     subst c9
     replace H := iF H
     have H' := Aside0.mk H
     clear H
     obtain ⟨Z13_0, Z13_1, Z13_2, Z13_3, Z13_4, Y13_0, Y13_1, Y13_2, Y13_3, Y13_4⟩ := cf5 BK329
     go_wp2_with (first | ((with_reducible refine gC 54 rfl ?_); refine goesZ (some 13) rfl Try.func54 #[.int .i64 a0_0, .int .i64 0, .int .i64 1048576] ?_; (with_reducible refine (impl_from.calls a0_0 0 1048576 true _ A4.out).mono ?_); rintro e w' ⟨rfl, ⟨nd, rfl⟩⟩; refine ⟨_, rfl, ?_⟩) | (go_at_call 54; (with_reducible refine (impl_from.calls a0_1 1 1000000 true _ A6.out).mono ?_); rintro e w' ⟨rfl, ⟨nd, rfl⟩⟩) | (go_at_call 85; (with_reducible refine (impl_inodesOk.calls k a0_0 a0_1 _ _ l0_2 _ _ l0_3 _ _ l0_4 false _ ?side1 ?side2 ?side3 ?side4 ?side5 ?side6 A8.out).mono ?_); (case side1 => exact ca (Kd.C_below HR0_2.out bl)); (case side2 => exact HC0_2.out); (case side3 => exact ca ((Kd.V_reads' HO0_3.out).2.2)); (case side4 => exact (Kd.V_reads' HO0_3.out).2.1); (case side5 => exact ca (Kd.C_below HR0_4.out bl)); (case side6 => exact HC0_4.out); rintro e w14 ⟨rfl, hb⟩; replace HO0_3 := Aside0.mk (Kd.V_below (rpV HO0_3.out) hb); replace BK329 := bv BK329 hb; replace HB := bs (w := w) hb; (try clear hb)))
     go_meet
     case rel => exact ⟨_, (true), fa, H', ⟨by first | omega | exact Nat.le_refl _⟩, ⟨rpV HO0_3.out⟩, ⟨by (with_reducible repeat (first | refine blk_drewN ?_ _ | refine blk_drew ?_ | refine blk_alloc ?_ _)); exact BK329.out⟩, ⟨bl⟩⟩
   ·replace c7 := Bool.eq_false_iff.mpr c7
    subst c7
    replace H := iF H
    have H' := Aside0.mk H
    clear H
    obtain ⟨Z15_0, Z15_1, Z15_2, Z15_3, Z15_4, Y15_0, Y15_1, Y15_2, Y15_3, Y15_4⟩ := cf5 BK329
    go_wp2_with (first | ((with_reducible refine gC 54 rfl ?_); refine goesZ (some 13) rfl Try.func54 #[.int .i64 a0_0, .int .i64 0, .int .i64 1048576] ?_; (with_reducible refine (impl_from.calls a0_0 0 1048576 true _ A4.out).mono ?_); rintro e w' ⟨rfl, ⟨nd, rfl⟩⟩; refine ⟨_, rfl, ?_⟩) | (go_at_call 54; (with_reducible refine (impl_from.calls a0_1 1 1000000 false _ A6.out).mono ?_); rintro e w' ⟨rfl, ⟨nd, rfl⟩⟩))
    go_meet
    case rel => exact ⟨_, (true), fa, H', ⟨by first | omega | exact Nat.le_refl _⟩, ⟨rpV HO0_3.out⟩, ⟨by (with_reducible repeat (first | refine blk_drewN ?_ _ | refine blk_drew ?_ | refine blk_alloc ?_ _)); exact BK329.out⟩, ⟨bl⟩⟩
  ·replace c5 := Bool.eq_false_iff.mpr c5
   subst c5
   replace H := iF H
   have H' := Aside0.mk H
   clear H
   obtain ⟨Z16_0, Z16_1, Z16_2, Z16_3, Z16_4, Y16_0, Y16_1, Y16_2, Y16_3, Y16_4⟩ := cf5 BK329
   go_wp2_with (first | ((with_reducible refine gC 54 rfl ?_); refine goesZ (some 13) rfl Try.func54 #[.int .i64 a0_0, .int .i64 0, .int .i64 1048576] ?_; (with_reducible refine (impl_from.calls a0_0 0 1048576 false _ A4.out).mono ?_); rintro e w' ⟨rfl, ⟨nd, rfl⟩⟩; refine ⟨_, rfl, ?_⟩))
   go_meet
   case rel => exact ⟨_, (true), fa, H', ⟨by first | omega | exact Nat.le_refl _⟩, ⟨rpV HO0_3.out⟩, ⟨by (with_reducible repeat (first | refine blk_drewN ?_ _ | refine blk_drew ?_ | refine blk_alloc ?_ _)); exact BK329.out⟩, ⟨bl⟩⟩
 case rest => as_aux_lemma =>
  clear HC2
  try clear c2
  try clear p2
  try clear c5
  try clear c7
  try clear c9
  try clear Z10_0 Z10_1 Z10_2 Z10_3 Z10_4
  try clear Z12_0 Z12_1 Z12_2 Z12_3 Z12_4
  try clear Z13_0 Z13_1 Z13_2 Z13_3 Z13_4
  try clear Z15_0 Z15_1 Z15_2 Z15_3 Z15_4
  try clear Z16_0 Z16_1 Z16_2 Z16_3 Z16_4
  try clear Y10_0 Y10_1 Y10_2 Y10_3 Y10_4
  try clear Y12_0 Y12_1 Y12_2 Y12_3 Y12_4
  try clear Y13_0 Y13_1 Y13_2 Y13_3 Y13_4
  try clear Y15_0 Y15_1 Y15_2 Y15_3 Y15_4
  try clear Y16_0 Y16_1 Y16_2 Y16_3 Y16_4
  obtain ⟨kq, x31_1, rfl, HA, HJ1, HO_330003, BK329, HB⟩ := hcut
  cases kq with
  | zero => exact absurd HA.out (by simp [impl_DiskOk.j0])
  | succ kj1 =>
   have H := HA.out
   clear HA
   simp only [impl_DiskOk.j0] at H
   by_cases c17 : x31_1 = true
   ·subst c17
    replace H := iT H
    obtain rfl := Option.some.inj H
    go_wp2
    go_ret
    exact ⟨fe, bl⟩
   ·replace c17 := Bool.eq_false_iff.mpr c17
    subst c17
    replace H := iF H
    obtain ⟨y333, hy333⟩ : ∃ y_ : List Int, y_ = (([] : List Int)) := ⟨_, rfl⟩
    replace H : (impl_DiskOk.l0 kj1 y333 l0_3 (l0_3.length : Int) 0 a0_0 a0_1 l0_2 l0_3 l0_4) = some r := by first | (rw [hy333]; with_reducible exact H) | (have H2_ := (Option.bind_some _ _).symm.trans H; rw [hy333]; with_reducible exact H2_) | (have H2_ := (Option.bind_some _ _).symm.trans H; with_reducible exact H2_) | with_reducible exact H | (rw [hy333]; exact H) | exact H
    have Ny333 := Aside0.mk hy333
    clear hy333
    have H' := Aside0.mk H
    clear H
    go_wp2_with (first | ((with_reducible refine gD 32 rfl ?_); (try (refine gate_guard rfl ?_; dsimp only)); refine Kd.R_lit (Kd.int .i64) _ 3 ?hg (N := 32) ?hd (xs := ([] : List Int)) (inner := []) (ok := fun _ => True) (okp := fun _ => True) ?hr ?hp (fun _ hk => hk) trivial (Below.refl _ _) (Nat.le_refl _) (by simp) ?_; (case hd => rfl); (case hg => rfl); (case hr => first | (go_simp; done) | (go_simp; rfl)); (case hp => exact (Reps.none _ _)); intro v334 w18 ho19 hb hg_ hnew_; clear hg_ hnew_; (first | rw [← Ny333.out] at ho19 | (simp only [Int.reduceToNat] at ho19; rw [← Ny333.out] at ho19)); replace HO_330003 := Aside0.mk (Kd.V_elder' (rpV HO_330003.out) (Kd.R_base ho19) hb); have HO335 := Aside0.mk (Kd.R_lower (Kd.R_newM (M := fun k_ => (w.heap.size ≤ k_)) ho19 (below_size bl) (fun k_ h_ => h_)) (below_size bl)); replace BK329 := bv BK329 hb; replace HB := bs (w := w) hb; clear hb ho19; obtain ⟨Z20_0, Z20_1, Z20_2, Z20_3, Z20_4, Y20_0, Y20_1, Y20_2, Y20_3, Y20_4⟩ := cf5 BK329))
    go_loopg [3, 36] kj1 (fun kq v3 v36 w' => ∃ (x3_2 : List Int) (x36_2 : Int), v36 = .int .i64 x36_2 ∧ Aside0 (impl_DiskOk.l0 kq x3_2 l0_3 (l0_3.length : Int) x36_2 a0_0 a0_1 l0_2 l0_3 l0_4 = some r) ∧ Aside0 (kq ≤ kj1) ∧ Aside0 (Kd.R (Kd.int .i64) 3 w' w.heap.size (fun k_ => (w.heap.size ≤ k_)) v3 x3_2) ∧ Aside0 (Kd.V k93 93 w' w.heap.size (fun k_ => (P0_3_ k_ ∨ w.heap.size ≤ k_) ∧ some k_ ≠ (v3 : Value).ownBlock ∧ k_ ≠ gb329) (.slice A0_3 l0_3.length c0_3) l0_3) ∧ Aside0 (Kd.V k93 93 w' w.heap.size (fun k_ => (P0_3_ k_ ∨ w.heap.size ≤ k_) ∧ some k_ ≠ (v3 : Value).ownBlock ∧ k_ ≠ gb329) (.slice A0_3 l0_3.length c0_3) l0_3) ∧ Aside0 (w'.heap[gb329]? = some (.cells #[.int .i64 a0_0, .int .i64 a0_1, (.slice A0_2 l0_2.length c0_2), (.slice A0_3 l0_3.length c0_3), (.slice A0_4 l0_4.length c0_4)] 26 (0, 0))) ∧ Aside0 (Below w.heap.size w w'))
    case atStart => exact ⟨(y333), (0), fa, H', ⟨Nat.le_refl _⟩, ⟨rpR (Kd.R_mono HO335.out (fun _ hk => hk.1))⟩, ⟨rpV (Kd.V_mono HO_330003.out (fun _ hk => ⟨hk.1.1, ⟨hk.2, hk.1.2⟩⟩))⟩, ⟨rpV (Kd.V_mono HO_330003.out (fun _ hk => ⟨hk.1.1, ⟨hk.2, hk.1.2⟩⟩))⟩, ⟨by (with_reducible repeat (first | refine blk_drewN ?_ _ | refine blk_drew ?_ | refine blk_alloc ?_ _)); exact BK329.out⟩, ⟨bl⟩⟩
    case round => as_aux_lemma =>
     clear H'
     try clear c1
     try clear c2
     try clear p2
     try clear c5
     try clear c7
     try clear c9
     try clear c17
     try clear Z10_0 Z10_1 Z10_2 Z10_3 Z10_4
     try clear Z12_0 Z12_1 Z12_2 Z12_3 Z12_4
     try clear Z13_0 Z13_1 Z13_2 Z13_3 Z13_4
     try clear Z15_0 Z15_1 Z15_2 Z15_3 Z15_4
     try clear Z16_0 Z16_1 Z16_2 Z16_3 Z16_4
     try clear Z20_0 Z20_1 Z20_2 Z20_3 Z20_4
     try clear Y10_0 Y10_1 Y10_2 Y10_3 Y10_4
     try clear Y12_0 Y12_1 Y12_2 Y12_3 Y12_4
     try clear Y13_0 Y13_1 Y13_2 Y13_3 Y13_4
     try clear Y15_0 Y15_1 Y15_2 Y15_3 Y15_4
     try clear Y16_0 Y16_1 Y16_2 Y16_3 Y16_4
     try clear Y20_0 Y20_1 Y20_2 Y20_3 Y20_4
     try clear p2
     obtain ⟨x3_2, x36_2, rfl, HA, HK2, HO_3, HO_34, HO_330003, BK329, HB⟩ := hrel
     cases gk with
     | zero => exact absurd HA.out (by simp [impl_DiskOk.l0])
     | succ k2 =>
      have H := HA.out
      clear HA
      simp only [impl_DiskOk.l0] at H
      by_cases c21 : x36_2 < (l0_3.length : Int)
      ·rw [if_pos c21] at H
       have c21b0 : decide (x36_2 < (l0_3.length : Int)) = true := decide_eq_true c21
       clear c21
       by_cases c22 : 0 ≤ x36_2
       ·rw [if_pos c22] at H
        have c22b0 : decide (0 ≤ x36_2) = true := decide_eq_true c22
        clear c22
        by_cases c23 : x36_2 < (l0_3.length : Int)
        ·rw [if_pos c23] at H
         have c23b0 : decide (x36_2 < (l0_3.length : Int)) = true := decide_eq_true c23
         clear c23
         obtain ⟨t338, A24, H⟩ := bd H
         by_cases c25 : t338 = true
         ·subst c25
          replace H := iT H
          by_cases c26 : x36_2 > 0
          ·rw [if_pos c26] at H
           have c26b0 : decide (0 < x36_2) = true := decide_eq_true c26
           clear c26
           obtain ⟨ji27, hji27⟩ : ∃ j_ : Int, (wrap64 (x36_2 - 1)) = j_ := ⟨_, rfl⟩
           replace H : (if 0 ≤ (ji27) then (if (ji27) < (l0_3.length : Int) then (if ((Op.bytesLess (((rd_T93 l0_3 (ji27)).f0).toList) (((rd_T93 l0_3 x36_2).f0).toList)) = true) then ((impl_inodeAt.f a0_0 a0_1 l0_2 l0_3 l0_4 ((rd_T93 l0_3 x36_2).f1)).bind fun t340 => (if t340 < 0 then (some false) else ((slices_Contains_int_int.f k2 x3_2 ((rd_T93 l0_3 x36_2).f1)).bind fun t341 => (if t341 = true then (some false) else (if x3_2.length < 17592186044416 then (impl_DiskOk.l0 k2 (x3_2 ++ [(rd_T93 l0_3 x36_2).f1]) l0_3 (l0_3.length : Int) (wrap64 (x36_2 + 1)) a0_0 a0_1 l0_2 l0_3 l0_4) else (none)))))) else (some false)) else (none)) else (none)) = some r := by first | (rw [hji27] at H; exact H) | (simp only [hji27] at H ⊢; exact H)
           (try rw [hji27] at A24)
           have hji27w : (IntKind.i64.wrap (x36_2 - 1)) = ji27 := (i64_w _).trans hji27
           by_cases c28 : 0 ≤ (ji27)
           ·rw [if_pos c28] at H
            have c28b0 : decide (0 ≤ (ji27)) = true := decide_eq_true c28
            clear c28
            by_cases c29 : (ji27) < (l0_3.length : Int)
            ·rw [if_pos c29] at H
             have c29b0 : decide ((ji27) < (l0_3.length : Int)) = true := decide_eq_true c29
             clear c29
             by_cases c30 : ((Op.bytesLess (((rd_T93 l0_3 (ji27)).f0).toList) (((rd_T93 l0_3 x36_2).f0).toList)) = true)
             ·rw [if_pos c30] at H
              have c30b0 : (Op.bytesLess (((rd_T93 l0_3 (ji27)).f0).toList) (((rd_T93 l0_3 x36_2).f0).toList)) = true := c30
              clear c30
              obtain ⟨t340, A31, H⟩ := bd H
              by_cases c32 : t340 < 0
              ·rw [if_pos c32] at H
               have c32b0 : decide (t340 < 0) = true := decide_eq_true c32
               clear c32
               obtain rfl := Option.some.inj H
               have p336 : 0 ≤ (x36_2 : Int) := of_decide_eq_true am
               have q336 : x36_2 < (l0_3.length : Int) := of_decide_eq_true am
               obtain ⟨ad336, e336, hx336_0, hx336_1⟩ := at_T93 (Kd.V_reads' HO_34.out).2.2 x36_2 p336 q336
               cases e336
               replace p336 := eq_true p336
               replace q336 := eq_true q336
               try go_wp2_with (first | ((with_reducible refine gD 5 rfl ?_); (try (refine gate_guard rfl ?_; dsimp only)); refine boxZ 5 #[.string (⟨#[]⟩ : ByteArray), .int .i64 0] 93 ?_; intro gb337 hg w33 hbox hb; replace HO_3 := Aside0.mk (Kd.R_below (rpR HO_3.out) hb); replace HO_34 := Aside0.mk (Kd.V_below (Kd.V_elderB (rpV HO_34.out) gb337 (Nat.le_of_eq hg.symm)) hb); replace HO_330003 := Aside0.mk (Kd.V_below (Kd.V_elderB (rpV HO_330003.out) gb337 (Nat.le_of_eq hg.symm)) hb); have BK337 := Aside0.mk hbox; have GW337 := gw (w := w) hg; have GE337 := gw (w := w) hg; replace HB := bs (w := w) hb; have NB329_337 := nl BK329 hg; have NB337_329 := nr BK329 hg; replace BK329 := bv BK329 hb; clear hb hbox hg; have hnb34 := NB337_329.out; have hnc34 := NB329_337.out; obtain ⟨Z35_0, Z35_1, Y35_0, Y35_1⟩ := cf2 BK337))
               have n0_ : Aside0 (Kd.R (Kd.int .i64) 3 ((w33.setCell ⟨gb337, 0, none⟩ (.string ((rd_T93 l0_3 x36_2).f0))).setCell ⟨gb337, 1, none⟩ (.int .i64 ((rd_T93 l0_3 x36_2).f1))) w.heap.size (fun k_ => (w.heap.size ≤ k_)) u3 x3_2) := ⟨rpR (Kd.R_mono (Kd.R_far (p := ⟨gb337, 1, none⟩) (Kd.R_far (p := ⟨gb337, 0, none⟩) (Kd.R_types HO_3.out BK337.out (by decide)) (fun _ hk => hk.2) (.string ((rd_T93 l0_3 x36_2).f0))) (fun _ hk => hk.2) (.int .i64 ((rd_T93 l0_3 x36_2).f1))) (fun _ hk => hk.1))⟩
               have n1_ : Aside0 (Kd.V k93 93 ((w33.setCell ⟨gb337, 0, none⟩ (.string ((rd_T93 l0_3 x36_2).f0))).setCell ⟨gb337, 1, none⟩ (.int .i64 ((rd_T93 l0_3 x36_2).f1))) w.heap.size (fun k_ => (P0_3_ k_ ∨ w.heap.size ≤ k_) ∧ some k_ ≠ (u3 : Value).ownBlock ∧ k_ ≠ gb329 ∧ k_ ≠ gb337) (.slice (some ad336) l0_3.length c0_3) l0_3) := ⟨rpV (Kd.V_mono (Kd.V_far (p := ⟨gb337, 1, none⟩) (Kd.V_far (p := ⟨gb337, 0, none⟩) (Kd.V_mono HO_34.out (fun k_ hk => (⟨hk, hk.2⟩ : _ ∧ k_ ≠ gb337))) (fun _ hk => hk.2) (.string ((rd_T93 l0_3 x36_2).f0))) (fun _ hk => hk.2) (.int .i64 ((rd_T93 l0_3 x36_2).f1))) (fun _ hk => ⟨hk.1.1.1, ⟨hk.1.1.2.1, ⟨hk.1.1.2.2, hk.1.2⟩⟩⟩))⟩
               have n2_ : Aside0 (Kd.V k93 93 ((w33.setCell ⟨gb337, 0, none⟩ (.string ((rd_T93 l0_3 x36_2).f0))).setCell ⟨gb337, 1, none⟩ (.int .i64 ((rd_T93 l0_3 x36_2).f1))) w.heap.size (fun k_ => (P0_3_ k_ ∨ w.heap.size ≤ k_) ∧ some k_ ≠ (u3 : Value).ownBlock ∧ k_ ≠ gb329 ∧ k_ ≠ gb337) (.slice (some ad336) l0_3.length c0_3) l0_3) := ⟨rpV (Kd.V_mono (Kd.V_far (p := ⟨gb337, 1, none⟩) (Kd.V_far (p := ⟨gb337, 0, none⟩) (Kd.V_mono HO_330003.out (fun k_ hk => (⟨hk, hk.2⟩ : _ ∧ k_ ≠ gb337))) (fun _ hk => hk.2) (.string ((rd_T93 l0_3 x36_2).f0))) (fun _ hk => hk.2) (.int .i64 ((rd_T93 l0_3 x36_2).f1))) (fun _ hk => ⟨hk.1.1.1, ⟨hk.1.1.2.1, ⟨hk.1.1.2.2, hk.1.2⟩⟩⟩))⟩
               have n3_ : Aside0 (((w33.setCell ⟨gb337, 0, none⟩ (.string ((rd_T93 l0_3 x36_2).f0))).setCell ⟨gb337, 1, none⟩ (.int .i64 ((rd_T93 l0_3 x36_2).f1))).heap[gb329]? = some (.cells #[.int .i64 a0_0, .int .i64 a0_1, .slice A0_2 l0_2.length c0_2, .slice (some ad336) l0_3.length c0_3, .slice A0_4 l0_4.length c0_4] 26 (0, 0))) := ⟨bkk⟩
               have n4_ : Aside0 (((w33.setCell ⟨gb337, 0, none⟩ (.string ((rd_T93 l0_3 x36_2).f0))).setCell ⟨gb337, 1, none⟩ (.int .i64 ((rd_T93 l0_3 x36_2).f1))).heap[gb337]? = some (.cells #[.string ((rd_T93 l0_3 x36_2).f0), .int .i64 ((rd_T93 l0_3 x36_2).f1)] 93 (0, 0))) := ⟨bkk⟩
               have n5_ : Aside0 (Below w.heap.size w ((w33.setCell ⟨gb337, 0, none⟩ (.string ((rd_T93 l0_3 x36_2).f0))).setCell ⟨gb337, 1, none⟩ (.int .i64 ((rd_T93 l0_3 x36_2).f1)))) := ⟨bl⟩
               (try clear HO_3)
               (try clear HO_34)
               (try clear HO_330003)
               (try clear BK329)
               (try clear BK337)
               (try clear HB)
               generalize ((w33.setCell ⟨gb337, 0, none⟩ (.string ((rd_T93 l0_3 x36_2).f0))).setCell ⟨gb337, 1, none⟩ (.int .i64 ((rd_T93 l0_3 x36_2).f1))) = w36 at n0_ n1_ n2_ n3_ n4_ n5_ ⊢
               have HO_3 := n0_
               have HO_34 := n1_
               have HO_330003 := n2_
               have BK329 := n3_
               have BK337 := n4_
               have HB := n5_
               clear n0_ n1_ n2_ n3_ n4_ n5_
               replace HO_3 := Aside0.mk (Kd.R_drew HO_3.out); replace HO_34 := Aside0.mk (Kd.V_drew HO_34.out); replace HO_330003 := Aside0.mk (Kd.V_drew HO_330003.out); replace BK329 := Aside0.mk (blk_drew BK329.out); replace BK337 := Aside0.mk (blk_drew BK337.out); replace HB := Aside0.mk (below_drew1 HB.out)
               have p339 : 0 ≤ ((ji27) : Int) := of_decide_eq_true am
               have q339 : (ji27) < (l0_3.length : Int) := of_decide_eq_true am
               obtain ⟨ad339, e339, hx339_0, hx339_1⟩ := at_T93 (Kd.V_reads' HO_330003.out).2.2 (ji27) p339 q339
               obtain rfl : ad336 = ad339 := (by injection e339)
               replace p339 := eq_true p339
               replace q339 := eq_true q339
               refine start_ (n := 33) (S := fun w' => w'.cell? ⟨gb337, 0, none⟩ = some (.string ((rd_T93 l0_3 x36_2).f0)) ∧ w'.cell? ⟨gb337, 1, none⟩ = some (.int .i64 ((rd_T93 l0_3 x36_2).f1)) ∧ w'.cell? ⟨gb329, 0, none⟩ = some (.int .i64 a0_0) ∧ w'.cell? ⟨gb329, 1, none⟩ = some (.int .i64 a0_1) ∧ w'.cell? ⟨gb329, 2, none⟩ = some (.slice A0_2 l0_2.length c0_2) ∧ w'.cell? ⟨gb329, 3, none⟩ = some (.slice (some ad336) l0_3.length c0_3) ∧ w'.cell? ⟨gb329, 4, none⟩ = some (.slice A0_4 l0_4.length c0_4) ∧ w'.cell? (ad336.add (((ji27)).toNat * 2)) = some (.string ((rd_T93 l0_3 (ji27)).f0)) ∧ w'.cell? ⟨(ad336.add (((ji27)).toNat * 2)).block, (ad336.add (((ji27)).toNat * 2)).off + 1, none⟩ = some (.int .i64 ((rd_T93 l0_3 (ji27)).f1))) (ds := []) (bo 33 0) (by kernel_rfl) rfl rfl ⟨cb 0 BK337, cb 1 BK337, cb 0 BK329, cb 1 BK329, cb 2 BK329, cb 3 BK329, cb 4 BK329, hx339_0, hx339_1⟩ (fun hHeld => ?_); refine with_tabW impl_DiskOk.tab7 impl_DiskOk.bits7 (fun HT_ HW_ => ?_)
               generalize w36.drew = w37 at HO_3 HO_34 HO_330003 BK329 BK337 HB hx339_0 hx339_1 hHeld ⊢
               refine pV 0 41 (bo 33 1) ?_
               refine tV 1 42 (bo 33 3) ?_
               refine one_ (i := 2) (N := some 43) (bo 33 7) rfl rfl (one_of HT_.out (by kernel_rfl)) (by decide) (fun K hK => ?_)
               refine goes_ Try.func86 (by kernel_rfl) rfl #[.string ((rd_T93 l0_3 x36_2).f0)] (by rfl) rfl rfl sa ?_
               with_reducible refine (impl_nameOk.calls k2 ((rd_T93 l0_3 x36_2).f0) true _ A24.out).mono ?_
               rintro e w' ⟨rfl, ⟨nd, rfl⟩⟩
               refine ⟨_, rfl, ?_⟩
               refine hK.out _ _ ⟨cb 0 BK337, cb 1 BK337, cb 0 BK329, cb 1 BK329, cb 2 BK329, cb 3 BK329, cb 4 BK329, hHeld.2.2.2.2.2.2.2.1, hHeld.2.2.2.2.2.2.2.2⟩ (fun hHeld => ?_)
               clear hK K
               refine norm_ (a' := ?_) ?_ ?_
               rotate_left
               ·show Act.put _ (some 43) _ = _
                simp only [Act.put, List.setIfInBounds_toArray, List.set_cons_zero, List.set_cons_succ, i64_w, i32_w]
                rfl
               refine pV 3 44 (bo 33 15) ?_
               refine pV 4 45 (bo 33 31) ?_
               refine pV 5 46 (bo 33 63) ?_
               refine pV 6 47 (bo 33 127) ?_
               refine pV 7 48 (bo 33 255) ?_
               refine pV 8 49 (bo 33 511) ?_
               refine pV 10 51 (bo 33 1535) ?_
               refine pV 11 52 (bo 33 3583) ?_
               refine pV 15 56 (bo 33 36351) ?_
               refine tV 9 50 (bo 33 36863) ?_
               refine pV 12 53 (bo 33 40959) ?_
               refine pV 13 54 (bo 33 49151) ?_
               refine tV 14 55 (bo 33 65535) ?_
               refine tV 16 57 (bo 33 131071) ?_
               refine pV 17 58 (bo 33 262143) ?_
               refine pV 18 59 (bo 33 524287) ?_
               refine pV 19 60 (bo 33 1048575) ?_
               refine pV 20 61 (bo 33 2097151) ?_
               refine pV 22 63 (bo 33 6291455) ?_
               refine tV 21 62 (bo 33 8388607) ?_
               refine tV 23 64 (bo 33 16777215) ?_
               refine one_ (i := 24) (N := some 65) (bo 33 33554431) rfl rfl (one_of HT_.out (by kernel_rfl)) (by decide) (fun K hK => ?_)
               refine goes_ Try.func87 (by kernel_rfl) rfl #[.agg #[.int .i64 a0_0, .int .i64 a0_1, .slice A0_2 l0_2.length c0_2, .slice (some ad336) l0_3.length c0_3, .slice A0_4 l0_4.length c0_4], .int .i64 ((rd_T93 l0_3 x36_2).f1)] (by rfl) rfl rfl sa ?_
               with_reducible refine (impl_inodeAt.calls a0_0 a0_1 _ _ l0_2 _ _ l0_3 _ _ l0_4 ((rd_T93 l0_3 x36_2).f1) t340 _ ?side1 ?side2 ?side3 ?side4 ?side5 ?side6 A31.out).mono ?_
               (case side1 => exact ca (Kd.C_below HR0_2.out bl))
               (case side2 => exact HC0_2.out)
               (case side3 => exact ca ((Kd.V_reads' HO_330003.out).2.2))
               (case side4 => exact (Kd.V_reads' HO_330003.out).2.1)
               (case side5 => exact ca (Kd.C_below HR0_4.out bl))
               (case side6 => exact HC0_4.out)
               rintro e w38 ⟨rfl, hb⟩
               have HS7_ := (hb.cell (World.block_lt_of_cell? _ _ (hHeld.2.2.2.2.2.2.2.1))).trans (hHeld.2.2.2.2.2.2.2.1)
               have HS8_ := (hb.cell (World.block_lt_of_cell? _ _ (hHeld.2.2.2.2.2.2.2.2))).trans (hHeld.2.2.2.2.2.2.2.2)
               refine ⟨_, rfl, ?_⟩
               replace HO_3 := Aside0.mk (Kd.R_below (rpR HO_3.out) hb); replace HO_34 := Aside0.mk (Kd.V_below (rpV HO_34.out) hb); replace HO_330003 := Aside0.mk (Kd.V_below (rpV HO_330003.out) hb); replace BK329 := bv BK329 hb; replace BK337 := bv BK337 hb; replace HB := bs (w := w) hb; (try clear hb hb2 hk hi)
               refine hK.out _ _ ⟨cb 0 BK337, cb 1 BK337, cb 0 BK329, cb 1 BK329, cb 2 BK329, cb 3 BK329, cb 4 BK329, HS7_, HS8_⟩ (fun hHeld => ?_)
               clear hK K
               refine norm_ (a' := ?_) ?_ ?_
               rotate_left
               ·show Act.put _ (some 65) _ = _
                simp only [Act.put, List.setIfInBounds_toArray, List.set_cons_zero, List.set_cons_succ, i64_w, i32_w]
                rfl
               refine pV 25 66 (bo 33 67108863) ?_
               refine pV 26 67 (bo 33 134217727) ?_
               refine pV 27 68 (bo 33 268435455) ?_
               refine pU 28 69 (bo 33 536870911) ?_
               refine pU 29 70 (bo 33 1073741823) ?_
               refine pU 30 71 (bo 33 2147483647) ?_
               refine pU 31 72 (bo 33 4294967295) ?_
               refine pV 32 73 (bo 33 8589934591) ?_
               refine done_ (done_of HT_.out (by kernel_rfl)) ?_
               try go_wp2
               go_ret
               exact ⟨by first | rfl | (simp [errW_none, errW_some] <;> rfl) | (simp only [← hji27]; first | rfl | (simp [errW_none, errW_some] <;> rfl)) | (simp [*, errW_none, errW_some] <;> rfl), bl⟩
              ·rw [if_neg c32] at H
               have c32b0 : decide (t340 < 0) = false := decide_eq_false c32
               clear c32
               obtain ⟨t341, A39, H⟩ := bd H
               by_cases c40 : t341 = true
               ·subst c40
                replace H := iT H
                obtain rfl := Option.some.inj H
                have p336 : 0 ≤ (x36_2 : Int) := of_decide_eq_true am
                have q336 : x36_2 < (l0_3.length : Int) := of_decide_eq_true am
                obtain ⟨ad336, e336, hx336_0, hx336_1⟩ := at_T93 (Kd.V_reads' HO_34.out).2.2 x36_2 p336 q336
                cases e336
                replace p336 := eq_true p336
                replace q336 := eq_true q336
                try go_wp2_with (first | ((with_reducible refine gD 5 rfl ?_); (try (refine gate_guard rfl ?_; dsimp only)); refine boxZ 5 #[.string (⟨#[]⟩ : ByteArray), .int .i64 0] 93 ?_; intro gb337 hg w41 hbox hb; replace HO_3 := Aside0.mk (Kd.R_below (rpR HO_3.out) hb); replace HO_34 := Aside0.mk (Kd.V_below (Kd.V_elderB (rpV HO_34.out) gb337 (Nat.le_of_eq hg.symm)) hb); replace HO_330003 := Aside0.mk (Kd.V_below (Kd.V_elderB (rpV HO_330003.out) gb337 (Nat.le_of_eq hg.symm)) hb); have BK337 := Aside0.mk hbox; have GW337 := gw (w := w) hg; have GE337 := gw (w := w) hg; replace HB := bs (w := w) hb; have NB329_337 := nl BK329 hg; have NB337_329 := nr BK329 hg; replace BK329 := bv BK329 hb; clear hb hbox hg; have hnb42 := NB337_329.out; have hnc42 := NB329_337.out; obtain ⟨Z43_0, Z43_1, Y43_0, Y43_1⟩ := cf2 BK337))
                have n0_ : Aside0 (Kd.R (Kd.int .i64) 3 ((w41.setCell ⟨gb337, 0, none⟩ (.string ((rd_T93 l0_3 x36_2).f0))).setCell ⟨gb337, 1, none⟩ (.int .i64 ((rd_T93 l0_3 x36_2).f1))) w.heap.size (fun k_ => (w.heap.size ≤ k_)) u3 x3_2) := ⟨rpR (Kd.R_mono (Kd.R_far (p := ⟨gb337, 1, none⟩) (Kd.R_far (p := ⟨gb337, 0, none⟩) (Kd.R_types HO_3.out BK337.out (by decide)) (fun _ hk => hk.2) (.string ((rd_T93 l0_3 x36_2).f0))) (fun _ hk => hk.2) (.int .i64 ((rd_T93 l0_3 x36_2).f1))) (fun _ hk => hk.1))⟩
                have n1_ : Aside0 (Kd.V k93 93 ((w41.setCell ⟨gb337, 0, none⟩ (.string ((rd_T93 l0_3 x36_2).f0))).setCell ⟨gb337, 1, none⟩ (.int .i64 ((rd_T93 l0_3 x36_2).f1))) w.heap.size (fun k_ => (P0_3_ k_ ∨ w.heap.size ≤ k_) ∧ some k_ ≠ (u3 : Value).ownBlock ∧ k_ ≠ gb329 ∧ k_ ≠ gb337) (.slice (some ad336) l0_3.length c0_3) l0_3) := ⟨rpV (Kd.V_mono (Kd.V_far (p := ⟨gb337, 1, none⟩) (Kd.V_far (p := ⟨gb337, 0, none⟩) (Kd.V_mono HO_34.out (fun k_ hk => (⟨hk, hk.2⟩ : _ ∧ k_ ≠ gb337))) (fun _ hk => hk.2) (.string ((rd_T93 l0_3 x36_2).f0))) (fun _ hk => hk.2) (.int .i64 ((rd_T93 l0_3 x36_2).f1))) (fun _ hk => ⟨hk.1.1.1, ⟨hk.1.1.2.1, ⟨hk.1.1.2.2, hk.1.2⟩⟩⟩))⟩
                have n2_ : Aside0 (Kd.V k93 93 ((w41.setCell ⟨gb337, 0, none⟩ (.string ((rd_T93 l0_3 x36_2).f0))).setCell ⟨gb337, 1, none⟩ (.int .i64 ((rd_T93 l0_3 x36_2).f1))) w.heap.size (fun k_ => (P0_3_ k_ ∨ w.heap.size ≤ k_) ∧ some k_ ≠ (u3 : Value).ownBlock ∧ k_ ≠ gb329 ∧ k_ ≠ gb337) (.slice (some ad336) l0_3.length c0_3) l0_3) := ⟨rpV (Kd.V_mono (Kd.V_far (p := ⟨gb337, 1, none⟩) (Kd.V_far (p := ⟨gb337, 0, none⟩) (Kd.V_mono HO_330003.out (fun k_ hk => (⟨hk, hk.2⟩ : _ ∧ k_ ≠ gb337))) (fun _ hk => hk.2) (.string ((rd_T93 l0_3 x36_2).f0))) (fun _ hk => hk.2) (.int .i64 ((rd_T93 l0_3 x36_2).f1))) (fun _ hk => ⟨hk.1.1.1, ⟨hk.1.1.2.1, ⟨hk.1.1.2.2, hk.1.2⟩⟩⟩))⟩
                have n3_ : Aside0 (((w41.setCell ⟨gb337, 0, none⟩ (.string ((rd_T93 l0_3 x36_2).f0))).setCell ⟨gb337, 1, none⟩ (.int .i64 ((rd_T93 l0_3 x36_2).f1))).heap[gb329]? = some (.cells #[.int .i64 a0_0, .int .i64 a0_1, .slice A0_2 l0_2.length c0_2, .slice (some ad336) l0_3.length c0_3, .slice A0_4 l0_4.length c0_4] 26 (0, 0))) := ⟨bkk⟩
                have n4_ : Aside0 (((w41.setCell ⟨gb337, 0, none⟩ (.string ((rd_T93 l0_3 x36_2).f0))).setCell ⟨gb337, 1, none⟩ (.int .i64 ((rd_T93 l0_3 x36_2).f1))).heap[gb337]? = some (.cells #[.string ((rd_T93 l0_3 x36_2).f0), .int .i64 ((rd_T93 l0_3 x36_2).f1)] 93 (0, 0))) := ⟨bkk⟩
                have n5_ : Aside0 (Below w.heap.size w ((w41.setCell ⟨gb337, 0, none⟩ (.string ((rd_T93 l0_3 x36_2).f0))).setCell ⟨gb337, 1, none⟩ (.int .i64 ((rd_T93 l0_3 x36_2).f1)))) := ⟨bl⟩
                (try clear HO_3)
                (try clear HO_34)
                (try clear HO_330003)
                (try clear BK329)
                (try clear BK337)
                (try clear HB)
                generalize ((w41.setCell ⟨gb337, 0, none⟩ (.string ((rd_T93 l0_3 x36_2).f0))).setCell ⟨gb337, 1, none⟩ (.int .i64 ((rd_T93 l0_3 x36_2).f1))) = w44 at n0_ n1_ n2_ n3_ n4_ n5_ ⊢
                have HO_3 := n0_
                have HO_34 := n1_
                have HO_330003 := n2_
                have BK329 := n3_
                have BK337 := n4_
                have HB := n5_
                clear n0_ n1_ n2_ n3_ n4_ n5_
                replace HO_3 := Aside0.mk (Kd.R_drew HO_3.out); replace HO_34 := Aside0.mk (Kd.V_drew HO_34.out); replace HO_330003 := Aside0.mk (Kd.V_drew HO_330003.out); replace BK329 := Aside0.mk (blk_drew BK329.out); replace BK337 := Aside0.mk (blk_drew BK337.out); replace HB := Aside0.mk (below_drew1 HB.out)
                have p339 : 0 ≤ ((ji27) : Int) := of_decide_eq_true am
                have q339 : (ji27) < (l0_3.length : Int) := of_decide_eq_true am
                obtain ⟨ad339, e339, hx339_0, hx339_1⟩ := at_T93 (Kd.V_reads' HO_330003.out).2.2 (ji27) p339 q339
                obtain rfl : ad336 = ad339 := (by injection e339)
                replace p339 := eq_true p339
                replace q339 := eq_true q339
                refine start_ (n := 33) (S := fun w' => w'.cell? ⟨gb337, 0, none⟩ = some (.string ((rd_T93 l0_3 x36_2).f0)) ∧ w'.cell? ⟨gb337, 1, none⟩ = some (.int .i64 ((rd_T93 l0_3 x36_2).f1)) ∧ w'.cell? ⟨gb329, 0, none⟩ = some (.int .i64 a0_0) ∧ w'.cell? ⟨gb329, 1, none⟩ = some (.int .i64 a0_1) ∧ w'.cell? ⟨gb329, 2, none⟩ = some (.slice A0_2 l0_2.length c0_2) ∧ w'.cell? ⟨gb329, 3, none⟩ = some (.slice (some ad336) l0_3.length c0_3) ∧ w'.cell? ⟨gb329, 4, none⟩ = some (.slice A0_4 l0_4.length c0_4) ∧ w'.cell? (ad336.add (((ji27)).toNat * 2)) = some (.string ((rd_T93 l0_3 (ji27)).f0)) ∧ w'.cell? ⟨(ad336.add (((ji27)).toNat * 2)).block, (ad336.add (((ji27)).toNat * 2)).off + 1, none⟩ = some (.int .i64 ((rd_T93 l0_3 (ji27)).f1))) (ds := []) (bo 33 0) (by kernel_rfl) rfl rfl ⟨cb 0 BK337, cb 1 BK337, cb 0 BK329, cb 1 BK329, cb 2 BK329, cb 3 BK329, cb 4 BK329, hx339_0, hx339_1⟩ (fun hHeld => ?_); refine with_tabW impl_DiskOk.tab7 impl_DiskOk.bits7 (fun HT_ HW_ => ?_)
                generalize w44.drew = w45 at HO_3 HO_34 HO_330003 BK329 BK337 HB hx339_0 hx339_1 hHeld ⊢
                refine pV 0 41 (bo 33 1) ?_
                refine tV 1 42 (bo 33 3) ?_
                refine one_ (i := 2) (N := some 43) (bo 33 7) rfl rfl (one_of HT_.out (by kernel_rfl)) (by decide) (fun K hK => ?_)
                refine goes_ Try.func86 (by kernel_rfl) rfl #[.string ((rd_T93 l0_3 x36_2).f0)] (by rfl) rfl rfl sa ?_
                with_reducible refine (impl_nameOk.calls k2 ((rd_T93 l0_3 x36_2).f0) true _ A24.out).mono ?_
                rintro e w' ⟨rfl, ⟨nd, rfl⟩⟩
                refine ⟨_, rfl, ?_⟩
                refine hK.out _ _ ⟨cb 0 BK337, cb 1 BK337, cb 0 BK329, cb 1 BK329, cb 2 BK329, cb 3 BK329, cb 4 BK329, hHeld.2.2.2.2.2.2.2.1, hHeld.2.2.2.2.2.2.2.2⟩ (fun hHeld => ?_)
                clear hK K
                refine norm_ (a' := ?_) ?_ ?_
                rotate_left
                ·show Act.put _ (some 43) _ = _
                 simp only [Act.put, List.setIfInBounds_toArray, List.set_cons_zero, List.set_cons_succ, i64_w, i32_w]
                 rfl
                refine pV 3 44 (bo 33 15) ?_
                refine pV 4 45 (bo 33 31) ?_
                refine pV 5 46 (bo 33 63) ?_
                refine pV 6 47 (bo 33 127) ?_
                refine pV 7 48 (bo 33 255) ?_
                refine pV 8 49 (bo 33 511) ?_
                refine pV 10 51 (bo 33 1535) ?_
                refine pV 11 52 (bo 33 3583) ?_
                refine pV 15 56 (bo 33 36351) ?_
                refine tV 9 50 (bo 33 36863) ?_
                refine pV 12 53 (bo 33 40959) ?_
                refine pV 13 54 (bo 33 49151) ?_
                refine tV 14 55 (bo 33 65535) ?_
                refine tV 16 57 (bo 33 131071) ?_
                refine pV 17 58 (bo 33 262143) ?_
                refine pV 18 59 (bo 33 524287) ?_
                refine pV 19 60 (bo 33 1048575) ?_
                refine pV 20 61 (bo 33 2097151) ?_
                refine pV 22 63 (bo 33 6291455) ?_
                refine tV 21 62 (bo 33 8388607) ?_
                refine tV 23 64 (bo 33 16777215) ?_
                refine one_ (i := 24) (N := some 65) (bo 33 33554431) rfl rfl (one_of HT_.out (by kernel_rfl)) (by decide) (fun K hK => ?_)
                refine goes_ Try.func87 (by kernel_rfl) rfl #[.agg #[.int .i64 a0_0, .int .i64 a0_1, .slice A0_2 l0_2.length c0_2, .slice (some ad336) l0_3.length c0_3, .slice A0_4 l0_4.length c0_4], .int .i64 ((rd_T93 l0_3 x36_2).f1)] (by rfl) rfl rfl sa ?_
                with_reducible refine (impl_inodeAt.calls a0_0 a0_1 _ _ l0_2 _ _ l0_3 _ _ l0_4 ((rd_T93 l0_3 x36_2).f1) t340 _ ?side1 ?side2 ?side3 ?side4 ?side5 ?side6 A31.out).mono ?_
                (case side1 => exact ca (Kd.C_below HR0_2.out bl))
                (case side2 => exact HC0_2.out)
                (case side3 => exact ca ((Kd.V_reads' HO_330003.out).2.2))
                (case side4 => exact (Kd.V_reads' HO_330003.out).2.1)
                (case side5 => exact ca (Kd.C_below HR0_4.out bl))
                (case side6 => exact HC0_4.out)
                rintro e w46 ⟨rfl, hb⟩
                have HS7_ := (hb.cell (World.block_lt_of_cell? _ _ (hHeld.2.2.2.2.2.2.2.1))).trans (hHeld.2.2.2.2.2.2.2.1)
                have HS8_ := (hb.cell (World.block_lt_of_cell? _ _ (hHeld.2.2.2.2.2.2.2.2))).trans (hHeld.2.2.2.2.2.2.2.2)
                refine ⟨_, rfl, ?_⟩
                replace HO_3 := Aside0.mk (Kd.R_below (rpR HO_3.out) hb); replace HO_34 := Aside0.mk (Kd.V_below (rpV HO_34.out) hb); replace HO_330003 := Aside0.mk (Kd.V_below (rpV HO_330003.out) hb); replace BK329 := bv BK329 hb; replace BK337 := bv BK337 hb; replace HB := bs (w := w) hb; (try clear hb hb2 hk hi)
                obtain ⟨Ao47, co47, eo47⟩ := Kd.R_slice HO_3.out
                (first | subst eo47 | (injection eo47 with f1_ f2_ f3_; have f4_ := f1_.symm; have f5_ := f3_.symm; clear f1_ f2_ f3_; subst f4_; subst f5_))
                refine hK.out _ _ ⟨cb 0 BK337, cb 1 BK337, cb 0 BK329, cb 1 BK329, cb 2 BK329, cb 3 BK329, cb 4 BK329, HS7_, HS8_⟩ (fun hHeld => ?_)
                clear hK K
                refine norm_ (a' := ?_) ?_ ?_
                rotate_left
                ·show Act.put _ (some 65) _ = _
                 simp only [Act.put, List.setIfInBounds_toArray, List.set_cons_zero, List.set_cons_succ, i64_w, i32_w]
                 rfl
                refine pV 25 66 (bo 33 67108863) ?_
                refine pV 26 67 (bo 33 134217727) ?_
                refine pV 27 68 (bo 33 268435455) ?_
                refine pV 28 69 (bo 33 536870911) ?_
                refine pV 29 70 (bo 33 1073741823) ?_
                refine tV 30 71 (bo 33 2147483647) ?_
                refine one_ (i := 31) (N := some 72) (bo 33 4294967295) rfl rfl (one_of HT_.out (by kernel_rfl)) (by decide) (fun K hK => ?_)
                refine goes_ Try.func88 (by kernel_rfl) rfl #[.slice Ao47 x3_2.length co47, .int .i64 ((rd_T93 l0_3 x36_2).f1)] (by rfl) rfl rfl sa ?_
                with_reducible refine (slices_Contains_int_int.calls k2 _ _ x3_2 ((rd_T93 l0_3 x36_2).f1) true _ ?side1 ?side2 A39.out).mono ?_
                (case side1 => exact ca ((Kd.R_reads' HO_3.out).2.2))
                (case side2 => exact (Kd.R_reads' HO_3.out).2.1)
                rintro e w' ⟨rfl, ⟨nd, rfl⟩⟩
                refine ⟨_, rfl, ?_⟩
                refine hK.out _ _ ⟨cb 0 BK337, cb 1 BK337, cb 0 BK329, cb 1 BK329, cb 2 BK329, cb 3 BK329, cb 4 BK329, hHeld.2.2.2.2.2.2.2.1, hHeld.2.2.2.2.2.2.2.2⟩ (fun hHeld => ?_)
                clear hK K
                refine norm_ (a' := ?_) ?_ ?_
                rotate_left
                ·show Act.put _ (some 72) _ = _
                 simp only [Act.put, List.setIfInBounds_toArray, List.set_cons_zero, List.set_cons_succ, i64_w, i32_w]
                 rfl
                refine pV 32 73 (bo 33 8589934591) ?_
                refine done_ (done_of HT_.out (by kernel_rfl)) ?_
                try go_wp2
                go_ret
                exact ⟨by first | rfl | (simp [errW_none, errW_some] <;> rfl) | (simp only [← hji27]; first | rfl | (simp [errW_none, errW_some] <;> rfl)) | (simp [*, errW_none, errW_some] <;> rfl), bl⟩
               ·replace c40 := Bool.eq_false_iff.mpr c40
                subst c40
                replace H := iF H
                by_cases c48 : x3_2.length < 17592186044416
                ·rw [if_pos c48] at H
                 have LMc48 := Aside0.mk c48
                 clear c48
                 obtain ⟨y342, hy342⟩ : ∃ y_ : List Int, y_ = (x3_2 ++ [(rd_T93 l0_3 x36_2).f1]) := ⟨_, rfl⟩
                 replace H : (impl_DiskOk.l0 k2 y342 l0_3 (l0_3.length : Int) (wrap64 (x36_2 + 1)) a0_0 a0_1 l0_2 l0_3 l0_4) = some r := by first | (rw [hy342]; with_reducible exact H) | (have H2_ := (Option.bind_some _ _).symm.trans H; rw [hy342]; with_reducible exact H2_) | (have H2_ := (Option.bind_some _ _).symm.trans H; with_reducible exact H2_) | with_reducible exact H | (rw [hy342]; exact H) | exact H
                 have Ny342 := Aside0.mk hy342
                 clear hy342
                 have H' := Aside0.mk H
                 clear H
                 have p336 : 0 ≤ (x36_2 : Int) := of_decide_eq_true am
                 have q336 : x36_2 < (l0_3.length : Int) := of_decide_eq_true am
                 obtain ⟨ad336, e336, hx336_0, hx336_1⟩ := at_T93 (Kd.V_reads' HO_34.out).2.2 x36_2 p336 q336
                 cases e336
                 replace p336 := eq_true p336
                 replace q336 := eq_true q336
                 try go_wp2_with (first | ((with_reducible refine gD 5 rfl ?_); (try (refine gate_guard rfl ?_; dsimp only)); refine boxZ 5 #[.string (⟨#[]⟩ : ByteArray), .int .i64 0] 93 ?_; intro gb337 hg w49 hbox hb; replace HO_3 := Aside0.mk (Kd.R_below (rpR HO_3.out) hb); replace HO_34 := Aside0.mk (Kd.V_below (Kd.V_elderB (rpV HO_34.out) gb337 (Nat.le_of_eq hg.symm)) hb); replace HO_330003 := Aside0.mk (Kd.V_below (Kd.V_elderB (rpV HO_330003.out) gb337 (Nat.le_of_eq hg.symm)) hb); have BK337 := Aside0.mk hbox; have GW337 := gw (w := w) hg; have GE337 := gw (w := w) hg; replace HB := bs (w := w) hb; have NB329_337 := nl BK329 hg; have NB337_329 := nr BK329 hg; replace BK329 := bv BK329 hb; clear hb hbox hg; have hnb50 := NB337_329.out; have hnc50 := NB329_337.out; obtain ⟨Z51_0, Z51_1, Y51_0, Y51_1⟩ := cf2 BK337))
                 have n0_ : Aside0 (Kd.R (Kd.int .i64) 3 ((w49.setCell ⟨gb337, 0, none⟩ (.string ((rd_T93 l0_3 x36_2).f0))).setCell ⟨gb337, 1, none⟩ (.int .i64 ((rd_T93 l0_3 x36_2).f1))) w.heap.size (fun k_ => (w.heap.size ≤ k_)) u3 x3_2) := ⟨rpR (Kd.R_mono (Kd.R_far (p := ⟨gb337, 1, none⟩) (Kd.R_far (p := ⟨gb337, 0, none⟩) (Kd.R_types HO_3.out BK337.out (by decide)) (fun _ hk => hk.2) (.string ((rd_T93 l0_3 x36_2).f0))) (fun _ hk => hk.2) (.int .i64 ((rd_T93 l0_3 x36_2).f1))) (fun _ hk => hk.1))⟩
                 have n1_ : Aside0 (Kd.V k93 93 ((w49.setCell ⟨gb337, 0, none⟩ (.string ((rd_T93 l0_3 x36_2).f0))).setCell ⟨gb337, 1, none⟩ (.int .i64 ((rd_T93 l0_3 x36_2).f1))) w.heap.size (fun k_ => (P0_3_ k_ ∨ w.heap.size ≤ k_) ∧ some k_ ≠ (u3 : Value).ownBlock ∧ k_ ≠ gb329 ∧ k_ ≠ gb337) (.slice (some ad336) l0_3.length c0_3) l0_3) := ⟨rpV (Kd.V_mono (Kd.V_far (p := ⟨gb337, 1, none⟩) (Kd.V_far (p := ⟨gb337, 0, none⟩) (Kd.V_mono HO_34.out (fun k_ hk => (⟨hk, hk.2⟩ : _ ∧ k_ ≠ gb337))) (fun _ hk => hk.2) (.string ((rd_T93 l0_3 x36_2).f0))) (fun _ hk => hk.2) (.int .i64 ((rd_T93 l0_3 x36_2).f1))) (fun _ hk => ⟨hk.1.1.1, ⟨hk.1.1.2.1, ⟨hk.1.1.2.2, hk.1.2⟩⟩⟩))⟩
                 have n2_ : Aside0 (Kd.V k93 93 ((w49.setCell ⟨gb337, 0, none⟩ (.string ((rd_T93 l0_3 x36_2).f0))).setCell ⟨gb337, 1, none⟩ (.int .i64 ((rd_T93 l0_3 x36_2).f1))) w.heap.size (fun k_ => (P0_3_ k_ ∨ w.heap.size ≤ k_) ∧ some k_ ≠ (u3 : Value).ownBlock ∧ k_ ≠ gb329 ∧ k_ ≠ gb337) (.slice (some ad336) l0_3.length c0_3) l0_3) := ⟨rpV (Kd.V_mono (Kd.V_far (p := ⟨gb337, 1, none⟩) (Kd.V_far (p := ⟨gb337, 0, none⟩) (Kd.V_mono HO_330003.out (fun k_ hk => (⟨hk, hk.2⟩ : _ ∧ k_ ≠ gb337))) (fun _ hk => hk.2) (.string ((rd_T93 l0_3 x36_2).f0))) (fun _ hk => hk.2) (.int .i64 ((rd_T93 l0_3 x36_2).f1))) (fun _ hk => ⟨hk.1.1.1, ⟨hk.1.1.2.1, ⟨hk.1.1.2.2, hk.1.2⟩⟩⟩))⟩
                 have n3_ : Aside0 (((w49.setCell ⟨gb337, 0, none⟩ (.string ((rd_T93 l0_3 x36_2).f0))).setCell ⟨gb337, 1, none⟩ (.int .i64 ((rd_T93 l0_3 x36_2).f1))).heap[gb329]? = some (.cells #[.int .i64 a0_0, .int .i64 a0_1, .slice A0_2 l0_2.length c0_2, .slice (some ad336) l0_3.length c0_3, .slice A0_4 l0_4.length c0_4] 26 (0, 0))) := ⟨bkk⟩
                 have n4_ : Aside0 (((w49.setCell ⟨gb337, 0, none⟩ (.string ((rd_T93 l0_3 x36_2).f0))).setCell ⟨gb337, 1, none⟩ (.int .i64 ((rd_T93 l0_3 x36_2).f1))).heap[gb337]? = some (.cells #[.string ((rd_T93 l0_3 x36_2).f0), .int .i64 ((rd_T93 l0_3 x36_2).f1)] 93 (0, 0))) := ⟨bkk⟩
                 have n5_ : Aside0 (Below w.heap.size w ((w49.setCell ⟨gb337, 0, none⟩ (.string ((rd_T93 l0_3 x36_2).f0))).setCell ⟨gb337, 1, none⟩ (.int .i64 ((rd_T93 l0_3 x36_2).f1)))) := ⟨bl⟩
                 (try clear HO_3)
                 (try clear HO_34)
                 (try clear HO_330003)
                 (try clear BK329)
                 (try clear BK337)
                 (try clear HB)
                 generalize ((w49.setCell ⟨gb337, 0, none⟩ (.string ((rd_T93 l0_3 x36_2).f0))).setCell ⟨gb337, 1, none⟩ (.int .i64 ((rd_T93 l0_3 x36_2).f1))) = w52 at n0_ n1_ n2_ n3_ n4_ n5_ ⊢
                 have HO_3 := n0_
                 have HO_34 := n1_
                 have HO_330003 := n2_
                 have BK329 := n3_
                 have BK337 := n4_
                 have HB := n5_
                 clear n0_ n1_ n2_ n3_ n4_ n5_
                 replace HO_3 := Aside0.mk (Kd.R_drew HO_3.out); replace HO_34 := Aside0.mk (Kd.V_drew HO_34.out); replace HO_330003 := Aside0.mk (Kd.V_drew HO_330003.out); replace BK329 := Aside0.mk (blk_drew BK329.out); replace BK337 := Aside0.mk (blk_drew BK337.out); replace HB := Aside0.mk (below_drew1 HB.out)
                 have p339 : 0 ≤ ((ji27) : Int) := of_decide_eq_true am
                 have q339 : (ji27) < (l0_3.length : Int) := of_decide_eq_true am
                 obtain ⟨ad339, e339, hx339_0, hx339_1⟩ := at_T93 (Kd.V_reads' HO_330003.out).2.2 (ji27) p339 q339
                 obtain rfl : ad336 = ad339 := (by injection e339)
                 replace p339 := eq_true p339
                 replace q339 := eq_true q339
                 refine start_ (n := 33) (S := fun w' => w'.cell? ⟨gb337, 0, none⟩ = some (.string ((rd_T93 l0_3 x36_2).f0)) ∧ w'.cell? ⟨gb337, 1, none⟩ = some (.int .i64 ((rd_T93 l0_3 x36_2).f1)) ∧ w'.cell? ⟨gb329, 0, none⟩ = some (.int .i64 a0_0) ∧ w'.cell? ⟨gb329, 1, none⟩ = some (.int .i64 a0_1) ∧ w'.cell? ⟨gb329, 2, none⟩ = some (.slice A0_2 l0_2.length c0_2) ∧ w'.cell? ⟨gb329, 3, none⟩ = some (.slice (some ad336) l0_3.length c0_3) ∧ w'.cell? ⟨gb329, 4, none⟩ = some (.slice A0_4 l0_4.length c0_4) ∧ w'.cell? (ad336.add (((ji27)).toNat * 2)) = some (.string ((rd_T93 l0_3 (ji27)).f0)) ∧ w'.cell? ⟨(ad336.add (((ji27)).toNat * 2)).block, (ad336.add (((ji27)).toNat * 2)).off + 1, none⟩ = some (.int .i64 ((rd_T93 l0_3 (ji27)).f1))) (ds := []) (bo 33 0) (by kernel_rfl) rfl rfl ⟨cb 0 BK337, cb 1 BK337, cb 0 BK329, cb 1 BK329, cb 2 BK329, cb 3 BK329, cb 4 BK329, hx339_0, hx339_1⟩ (fun hHeld => ?_); refine with_tabW impl_DiskOk.tab7 impl_DiskOk.bits7 (fun HT_ HW_ => ?_)
                 generalize w52.drew = w53 at HO_3 HO_34 HO_330003 BK329 BK337 HB hx339_0 hx339_1 hHeld ⊢
                 refine pV 0 41 (bo 33 1) ?_
                 refine tV 1 42 (bo 33 3) ?_
                 refine one_ (i := 2) (N := some 43) (bo 33 7) rfl rfl (one_of HT_.out (by kernel_rfl)) (by decide) (fun K hK => ?_)
                 refine goes_ Try.func86 (by kernel_rfl) rfl #[.string ((rd_T93 l0_3 x36_2).f0)] (by rfl) rfl rfl sa ?_
                 with_reducible refine (impl_nameOk.calls k2 ((rd_T93 l0_3 x36_2).f0) true _ A24.out).mono ?_
                 rintro e w' ⟨rfl, ⟨nd, rfl⟩⟩
                 refine ⟨_, rfl, ?_⟩
                 refine hK.out _ _ ⟨cb 0 BK337, cb 1 BK337, cb 0 BK329, cb 1 BK329, cb 2 BK329, cb 3 BK329, cb 4 BK329, hHeld.2.2.2.2.2.2.2.1, hHeld.2.2.2.2.2.2.2.2⟩ (fun hHeld => ?_)
                 clear hK K
                 refine norm_ (a' := ?_) ?_ ?_
                 rotate_left
                 ·show Act.put _ (some 43) _ = _
                  simp only [Act.put, List.setIfInBounds_toArray, List.set_cons_zero, List.set_cons_succ, i64_w, i32_w]
                  rfl
                 refine pV 3 44 (bo 33 15) ?_
                 refine pV 4 45 (bo 33 31) ?_
                 refine pV 5 46 (bo 33 63) ?_
                 refine pV 6 47 (bo 33 127) ?_
                 refine pV 7 48 (bo 33 255) ?_
                 refine pV 8 49 (bo 33 511) ?_
                 refine pV 10 51 (bo 33 1535) ?_
                 refine pV 11 52 (bo 33 3583) ?_
                 refine pV 15 56 (bo 33 36351) ?_
                 refine tV 9 50 (bo 33 36863) ?_
                 refine pV 12 53 (bo 33 40959) ?_
                 refine pV 13 54 (bo 33 49151) ?_
                 refine tV 14 55 (bo 33 65535) ?_
                 refine tV 16 57 (bo 33 131071) ?_
                 refine pV 17 58 (bo 33 262143) ?_
                 refine pV 18 59 (bo 33 524287) ?_
                 refine pV 19 60 (bo 33 1048575) ?_
                 refine pV 20 61 (bo 33 2097151) ?_
                 refine pV 22 63 (bo 33 6291455) ?_
                 refine tV 21 62 (bo 33 8388607) ?_
                 refine tV 23 64 (bo 33 16777215) ?_
                 refine one_ (i := 24) (N := some 65) (bo 33 33554431) rfl rfl (one_of HT_.out (by kernel_rfl)) (by decide) (fun K hK => ?_)
                 refine goes_ Try.func87 (by kernel_rfl) rfl #[.agg #[.int .i64 a0_0, .int .i64 a0_1, .slice A0_2 l0_2.length c0_2, .slice (some ad336) l0_3.length c0_3, .slice A0_4 l0_4.length c0_4], .int .i64 ((rd_T93 l0_3 x36_2).f1)] (by rfl) rfl rfl sa ?_
                 with_reducible refine (impl_inodeAt.calls a0_0 a0_1 _ _ l0_2 _ _ l0_3 _ _ l0_4 ((rd_T93 l0_3 x36_2).f1) t340 _ ?side1 ?side2 ?side3 ?side4 ?side5 ?side6 A31.out).mono ?_
                 (case side1 => exact ca (Kd.C_below HR0_2.out bl))
                 (case side2 => exact HC0_2.out)
                 (case side3 => exact ca ((Kd.V_reads' HO_330003.out).2.2))
                 (case side4 => exact (Kd.V_reads' HO_330003.out).2.1)
                 (case side5 => exact ca (Kd.C_below HR0_4.out bl))
                 (case side6 => exact HC0_4.out)
                 rintro e w54 ⟨rfl, hb⟩
                 have HS7_ := (hb.cell (World.block_lt_of_cell? _ _ (hHeld.2.2.2.2.2.2.2.1))).trans (hHeld.2.2.2.2.2.2.2.1)
                 have HS8_ := (hb.cell (World.block_lt_of_cell? _ _ (hHeld.2.2.2.2.2.2.2.2))).trans (hHeld.2.2.2.2.2.2.2.2)
                 refine ⟨_, rfl, ?_⟩
                 replace HO_3 := Aside0.mk (Kd.R_below (rpR HO_3.out) hb); replace HO_34 := Aside0.mk (Kd.V_below (rpV HO_34.out) hb); replace HO_330003 := Aside0.mk (Kd.V_below (rpV HO_330003.out) hb); replace BK329 := bv BK329 hb; replace BK337 := bv BK337 hb; replace HB := bs (w := w) hb; (try clear hb hb2 hk hi)
                 obtain ⟨Ao55, co55, eo55⟩ := Kd.R_slice HO_3.out
                 (first | subst eo55 | (injection eo55 with f1_ f2_ f3_; have f4_ := f1_.symm; have f5_ := f3_.symm; clear f1_ f2_ f3_; subst f4_; subst f5_))
                 refine hK.out _ _ ⟨cb 0 BK337, cb 1 BK337, cb 0 BK329, cb 1 BK329, cb 2 BK329, cb 3 BK329, cb 4 BK329, HS7_, HS8_⟩ (fun hHeld => ?_)
                 clear hK K
                 refine norm_ (a' := ?_) ?_ ?_
                 rotate_left
                 ·show Act.put _ (some 65) _ = _
                  simp only [Act.put, List.setIfInBounds_toArray, List.set_cons_zero, List.set_cons_succ, i64_w, i32_w]
                  rfl
                 refine pV 25 66 (bo 33 67108863) ?_
                 refine pV 26 67 (bo 33 134217727) ?_
                 refine pV 27 68 (bo 33 268435455) ?_
                 refine pV 28 69 (bo 33 536870911) ?_
                 refine pV 29 70 (bo 33 1073741823) ?_
                 refine tV 30 71 (bo 33 2147483647) ?_
                 refine one_ (i := 31) (N := some 72) (bo 33 4294967295) rfl rfl (one_of HT_.out (by kernel_rfl)) (by decide) (fun K hK => ?_)
                 refine goes_ Try.func88 (by kernel_rfl) rfl #[.slice Ao55 x3_2.length co55, .int .i64 ((rd_T93 l0_3 x36_2).f1)] (by rfl) rfl rfl sa ?_
                 with_reducible refine (slices_Contains_int_int.calls k2 _ _ x3_2 ((rd_T93 l0_3 x36_2).f1) false _ ?side1 ?side2 A39.out).mono ?_
                 (case side1 => exact ca ((Kd.R_reads' HO_3.out).2.2))
                 (case side2 => exact (Kd.R_reads' HO_3.out).2.1)
                 rintro e w' ⟨rfl, ⟨nd, rfl⟩⟩
                 refine ⟨_, rfl, ?_⟩
                 refine hK.out _ _ ⟨cb 0 BK337, cb 1 BK337, cb 0 BK329, cb 1 BK329, cb 2 BK329, cb 3 BK329, cb 4 BK329, hHeld.2.2.2.2.2.2.2.1, hHeld.2.2.2.2.2.2.2.2⟩ (fun hHeld => ?_)
                 clear hK K
                 refine norm_ (a' := ?_) ?_ ?_
                 rotate_left
                 ·show Act.put _ (some 72) _ = _
                  simp only [Act.put, List.setIfInBounds_toArray, List.set_cons_zero, List.set_cons_succ, i64_w, i32_w]
                  rfl
                 refine pV 32 73 (bo 33 8589934591) ?_
                 refine done_ (done_of HT_.out (by kernel_rfl)) ?_
                 obtain ⟨Z56_0, Z56_1, Y56_0, Y56_1⟩ := cf2 BK337
                 try go_wp2_with (first | ((with_reducible refine gate_builtin (b := .append) (xs := #[.tmp 74, .tmp 77]) rfl ?_); (try (refine gate_guard rfl ?_; dsimp only)); at_builtin; refine Kd.R_append (Kd.int .i64) (w0 := w) w.heap.size rfl (.tmp 74) (.tmp 77) 61 3 (.int .i64 0) 8 rfl Try.underlying61 info3 rfl (by decide) (by omega) (.slice Ao55 x3_2.length co55) x3_2 ((rd_T93 l0_3 x36_2).f1) [.int .i64 ((rd_T93 l0_3 x36_2).f1)] (fun k_ => (w.heap.size ≤ k_)) (fun _ => False) rfl rfl ?aP (fun _ hk => hk.elim) ?aF ?aO ?aB ?aS ?aL ?_; (case aP => exact rfl); (case aB => exact bl); (case aF => exact (fun k_ hk => (Nat.le_trans (below_size bl) hk))); (case aO => exact (rpR HO_3.out)); (case aS => exact (below_size bl)); (case aL => have := LMc48.out; omega); intro v343 w57 ho hb hg hat; rw [← Ny342.out] at ho; replace HO_34 := Aside0.mk (Kd.V_afterv (ok := (fun k_ => (P0_3_ k_ ∨ w.heap.size ≤ k_) ∧ k_ ≠ gb329 ∧ k_ ≠ gb337)) (rpV (Kd.V_mono HO_34.out (fun _ hk => ⟨⟨hk.1, ⟨hk.2.2.1, hk.2.2.2⟩⟩, hk.2.1⟩))) hg hat); replace HO_330003 := Aside0.mk (Kd.V_afterv (ok := (fun k_ => (P0_3_ k_ ∨ w.heap.size ≤ k_) ∧ k_ ≠ gb329 ∧ k_ ≠ gb337)) (rpV (Kd.V_mono HO_330003.out (fun _ hk => ⟨⟨hk.1, ⟨hk.2.2.1, hk.2.2.2⟩⟩, hk.2.1⟩))) hg hat); replace BK329 := Aside0.mk (blk_grown (g := gb329) (o := .cells #[.int .i64 a0_0, .int .i64 a0_1, .slice A0_2 l0_2.length c0_2, .slice (some ad336) l0_3.length c0_3, .slice A0_4 l0_4.length c0_4] 26 (0, 0)) bk hg (Kd.R_ne HO_3.out BK329.out (by decide))); replace BK337 := Aside0.mk (blk_grown (g := gb337) (o := .cells #[.string ((rd_T93 l0_3 x36_2).f0), .int .i64 ((rd_T93 l0_3 x36_2).f1)] 93 (0, 0)) bk hg (Kd.R_ne HO_3.out BK337.out (by decide))); replace HB := Aside0.mk (hb); have HO344 := Aside0.mk (ho); clear HO_3; clear ho hb hg hat))
                 go_roundg k2
                 case measure => have := HJ1.out; have := HK2.out; omega
                 case rel => exact ⟨(y342), (wrap64 (x36_2 + 1)), fa, H', ⟨by have := HJ1.out; have := HK2.out; omega⟩, ⟨rpR HO344.out⟩, ⟨rpV (Kd.V_mono HO_34.out (fun _ hk => ⟨hk.1.1, ⟨hk.2, hk.1.2.1⟩⟩))⟩, ⟨rpV (Kd.V_mono HO_330003.out (fun _ hk => ⟨hk.1.1, ⟨hk.2, hk.1.2.1⟩⟩))⟩, ⟨by (with_reducible repeat (first | refine blk_drewN ?_ _ | refine blk_drew ?_ | refine blk_alloc ?_ _)); exact BK329.out⟩, ⟨bl⟩⟩
                ·rw [if_neg c48] at H
                 exact absurd H (by simp)
             ·rw [if_neg c30] at H
              have c30b0 : (Op.bytesLess (((rd_T93 l0_3 (ji27)).f0).toList) (((rd_T93 l0_3 x36_2).f0).toList)) = false := by simpa using c30
              clear c30
              obtain rfl := Option.some.inj H
              have p336 : 0 ≤ (x36_2 : Int) := of_decide_eq_true am
              have q336 : x36_2 < (l0_3.length : Int) := of_decide_eq_true am
              obtain ⟨ad336, e336, hx336_0, hx336_1⟩ := at_T93 (Kd.V_reads' HO_34.out).2.2 x36_2 p336 q336
              cases e336
              replace p336 := eq_true p336
              replace q336 := eq_true q336
              try go_wp2_with (first | ((with_reducible refine gD 5 rfl ?_); (try (refine gate_guard rfl ?_; dsimp only)); refine boxZ 5 #[.string (⟨#[]⟩ : ByteArray), .int .i64 0] 93 ?_; intro gb337 hg w58 hbox hb; replace HO_3 := Aside0.mk (Kd.R_below (rpR HO_3.out) hb); replace HO_34 := Aside0.mk (Kd.V_below (Kd.V_elderB (rpV HO_34.out) gb337 (Nat.le_of_eq hg.symm)) hb); replace HO_330003 := Aside0.mk (Kd.V_below (Kd.V_elderB (rpV HO_330003.out) gb337 (Nat.le_of_eq hg.symm)) hb); have BK337 := Aside0.mk hbox; have GW337 := gw (w := w) hg; have GE337 := gw (w := w) hg; replace HB := bs (w := w) hb; have NB329_337 := nl BK329 hg; have NB337_329 := nr BK329 hg; replace BK329 := bv BK329 hb; clear hb hbox hg; have hnb59 := NB337_329.out; have hnc59 := NB329_337.out; obtain ⟨Z60_0, Z60_1, Y60_0, Y60_1⟩ := cf2 BK337))
              have n0_ : Aside0 (Kd.R (Kd.int .i64) 3 ((w58.setCell ⟨gb337, 0, none⟩ (.string ((rd_T93 l0_3 x36_2).f0))).setCell ⟨gb337, 1, none⟩ (.int .i64 ((rd_T93 l0_3 x36_2).f1))) w.heap.size (fun k_ => (w.heap.size ≤ k_)) u3 x3_2) := ⟨rpR (Kd.R_mono (Kd.R_far (p := ⟨gb337, 1, none⟩) (Kd.R_far (p := ⟨gb337, 0, none⟩) (Kd.R_types HO_3.out BK337.out (by decide)) (fun _ hk => hk.2) (.string ((rd_T93 l0_3 x36_2).f0))) (fun _ hk => hk.2) (.int .i64 ((rd_T93 l0_3 x36_2).f1))) (fun _ hk => hk.1))⟩
              have n1_ : Aside0 (Kd.V k93 93 ((w58.setCell ⟨gb337, 0, none⟩ (.string ((rd_T93 l0_3 x36_2).f0))).setCell ⟨gb337, 1, none⟩ (.int .i64 ((rd_T93 l0_3 x36_2).f1))) w.heap.size (fun k_ => (P0_3_ k_ ∨ w.heap.size ≤ k_) ∧ some k_ ≠ (u3 : Value).ownBlock ∧ k_ ≠ gb329 ∧ k_ ≠ gb337) (.slice (some ad336) l0_3.length c0_3) l0_3) := ⟨rpV (Kd.V_mono (Kd.V_far (p := ⟨gb337, 1, none⟩) (Kd.V_far (p := ⟨gb337, 0, none⟩) (Kd.V_mono HO_34.out (fun k_ hk => (⟨hk, hk.2⟩ : _ ∧ k_ ≠ gb337))) (fun _ hk => hk.2) (.string ((rd_T93 l0_3 x36_2).f0))) (fun _ hk => hk.2) (.int .i64 ((rd_T93 l0_3 x36_2).f1))) (fun _ hk => ⟨hk.1.1.1, ⟨hk.1.1.2.1, ⟨hk.1.1.2.2, hk.1.2⟩⟩⟩))⟩
              have n2_ : Aside0 (Kd.V k93 93 ((w58.setCell ⟨gb337, 0, none⟩ (.string ((rd_T93 l0_3 x36_2).f0))).setCell ⟨gb337, 1, none⟩ (.int .i64 ((rd_T93 l0_3 x36_2).f1))) w.heap.size (fun k_ => (P0_3_ k_ ∨ w.heap.size ≤ k_) ∧ some k_ ≠ (u3 : Value).ownBlock ∧ k_ ≠ gb329 ∧ k_ ≠ gb337) (.slice (some ad336) l0_3.length c0_3) l0_3) := ⟨rpV (Kd.V_mono (Kd.V_far (p := ⟨gb337, 1, none⟩) (Kd.V_far (p := ⟨gb337, 0, none⟩) (Kd.V_mono HO_330003.out (fun k_ hk => (⟨hk, hk.2⟩ : _ ∧ k_ ≠ gb337))) (fun _ hk => hk.2) (.string ((rd_T93 l0_3 x36_2).f0))) (fun _ hk => hk.2) (.int .i64 ((rd_T93 l0_3 x36_2).f1))) (fun _ hk => ⟨hk.1.1.1, ⟨hk.1.1.2.1, ⟨hk.1.1.2.2, hk.1.2⟩⟩⟩))⟩
              have n3_ : Aside0 (((w58.setCell ⟨gb337, 0, none⟩ (.string ((rd_T93 l0_3 x36_2).f0))).setCell ⟨gb337, 1, none⟩ (.int .i64 ((rd_T93 l0_3 x36_2).f1))).heap[gb329]? = some (.cells #[.int .i64 a0_0, .int .i64 a0_1, .slice A0_2 l0_2.length c0_2, .slice (some ad336) l0_3.length c0_3, .slice A0_4 l0_4.length c0_4] 26 (0, 0))) := ⟨bkk⟩
              have n4_ : Aside0 (((w58.setCell ⟨gb337, 0, none⟩ (.string ((rd_T93 l0_3 x36_2).f0))).setCell ⟨gb337, 1, none⟩ (.int .i64 ((rd_T93 l0_3 x36_2).f1))).heap[gb337]? = some (.cells #[.string ((rd_T93 l0_3 x36_2).f0), .int .i64 ((rd_T93 l0_3 x36_2).f1)] 93 (0, 0))) := ⟨bkk⟩
              have n5_ : Aside0 (Below w.heap.size w ((w58.setCell ⟨gb337, 0, none⟩ (.string ((rd_T93 l0_3 x36_2).f0))).setCell ⟨gb337, 1, none⟩ (.int .i64 ((rd_T93 l0_3 x36_2).f1)))) := ⟨bl⟩
              (try clear HO_3)
              (try clear HO_34)
              (try clear HO_330003)
              (try clear BK329)
              (try clear BK337)
              (try clear HB)
              generalize ((w58.setCell ⟨gb337, 0, none⟩ (.string ((rd_T93 l0_3 x36_2).f0))).setCell ⟨gb337, 1, none⟩ (.int .i64 ((rd_T93 l0_3 x36_2).f1))) = w61 at n0_ n1_ n2_ n3_ n4_ n5_ ⊢
              have HO_3 := n0_
              have HO_34 := n1_
              have HO_330003 := n2_
              have BK329 := n3_
              have BK337 := n4_
              have HB := n5_
              clear n0_ n1_ n2_ n3_ n4_ n5_
              replace HO_3 := Aside0.mk (Kd.R_drew HO_3.out); replace HO_34 := Aside0.mk (Kd.V_drew HO_34.out); replace HO_330003 := Aside0.mk (Kd.V_drew HO_330003.out); replace BK329 := Aside0.mk (blk_drew BK329.out); replace BK337 := Aside0.mk (blk_drew BK337.out); replace HB := Aside0.mk (below_drew1 HB.out)
              have p339 : 0 ≤ ((ji27) : Int) := of_decide_eq_true am
              have q339 : (ji27) < (l0_3.length : Int) := of_decide_eq_true am
              obtain ⟨ad339, e339, hx339_0, hx339_1⟩ := at_T93 (Kd.V_reads' HO_330003.out).2.2 (ji27) p339 q339
              obtain rfl : ad336 = ad339 := (by injection e339)
              replace p339 := eq_true p339
              replace q339 := eq_true q339
              refine start_ (n := 33) (S := fun w' => w'.cell? ⟨gb337, 0, none⟩ = some (.string ((rd_T93 l0_3 x36_2).f0)) ∧ w'.cell? ⟨gb337, 1, none⟩ = some (.int .i64 ((rd_T93 l0_3 x36_2).f1)) ∧ w'.cell? ⟨gb329, 0, none⟩ = some (.int .i64 a0_0) ∧ w'.cell? ⟨gb329, 1, none⟩ = some (.int .i64 a0_1) ∧ w'.cell? ⟨gb329, 2, none⟩ = some (.slice A0_2 l0_2.length c0_2) ∧ w'.cell? ⟨gb329, 3, none⟩ = some (.slice (some ad336) l0_3.length c0_3) ∧ w'.cell? ⟨gb329, 4, none⟩ = some (.slice A0_4 l0_4.length c0_4) ∧ w'.cell? (ad336.add (((ji27)).toNat * 2)) = some (.string ((rd_T93 l0_3 (ji27)).f0)) ∧ w'.cell? ⟨(ad336.add (((ji27)).toNat * 2)).block, (ad336.add (((ji27)).toNat * 2)).off + 1, none⟩ = some (.int .i64 ((rd_T93 l0_3 (ji27)).f1))) (ds := []) (bo 33 0) (by kernel_rfl) rfl rfl ⟨cb 0 BK337, cb 1 BK337, cb 0 BK329, cb 1 BK329, cb 2 BK329, cb 3 BK329, cb 4 BK329, hx339_0, hx339_1⟩ (fun hHeld => ?_); refine with_tabW impl_DiskOk.tab7 impl_DiskOk.bits7 (fun HT_ HW_ => ?_)
              generalize w61.drew = w62 at HO_3 HO_34 HO_330003 BK329 BK337 HB hx339_0 hx339_1 hHeld ⊢
              refine pV 0 41 (bo 33 1) ?_
              refine tV 1 42 (bo 33 3) ?_
              refine one_ (i := 2) (N := some 43) (bo 33 7) rfl rfl (one_of HT_.out (by kernel_rfl)) (by decide) (fun K hK => ?_)
              refine goes_ Try.func86 (by kernel_rfl) rfl #[.string ((rd_T93 l0_3 x36_2).f0)] (by rfl) rfl rfl sa ?_
              with_reducible refine (impl_nameOk.calls k2 ((rd_T93 l0_3 x36_2).f0) true _ A24.out).mono ?_
              rintro e w' ⟨rfl, ⟨nd, rfl⟩⟩
              refine ⟨_, rfl, ?_⟩
              refine hK.out _ _ ⟨cb 0 BK337, cb 1 BK337, cb 0 BK329, cb 1 BK329, cb 2 BK329, cb 3 BK329, cb 4 BK329, hHeld.2.2.2.2.2.2.2.1, hHeld.2.2.2.2.2.2.2.2⟩ (fun hHeld => ?_)
              clear hK K
              refine norm_ (a' := ?_) ?_ ?_
              rotate_left
              ·show Act.put _ (some 43) _ = _
               simp only [Act.put, List.setIfInBounds_toArray, List.set_cons_zero, List.set_cons_succ, i64_w, i32_w]
               rfl
              refine pV 3 44 (bo 33 15) ?_
              refine pV 4 45 (bo 33 31) ?_
              refine pV 5 46 (bo 33 63) ?_
              refine pV 6 47 (bo 33 127) ?_
              refine pV 7 48 (bo 33 255) ?_
              refine pV 8 49 (bo 33 511) ?_
              refine pV 10 51 (bo 33 1535) ?_
              refine pV 11 52 (bo 33 3583) ?_
              refine pV 15 56 (bo 33 36351) ?_
              refine tV 9 50 (bo 33 36863) ?_
              refine pV 12 53 (bo 33 40959) ?_
              refine pV 13 54 (bo 33 49151) ?_
              refine tV 14 55 (bo 33 65535) ?_
              refine tV 16 57 (bo 33 131071) ?_
              refine pV 17 58 (bo 33 262143) ?_
              refine pV 18 59 (bo 33 524287) ?_
              refine pV 19 60 (bo 33 1048575) ?_
              refine pV 20 61 (bo 33 2097151) ?_
              refine pU 21 62 (bo 33 4194303) ?_
              refine pU 22 63 (bo 33 8388607) ?_
              refine pU 23 64 (bo 33 16777215) ?_
              refine pU 24 65 (bo 33 33554431) ?_
              refine pU 25 66 (bo 33 67108863) ?_
              refine pV 26 67 (bo 33 134217727) ?_
              refine pV 27 68 (bo 33 268435455) ?_
              refine pU 28 69 (bo 33 536870911) ?_
              refine pU 29 70 (bo 33 1073741823) ?_
              refine pU 30 71 (bo 33 2147483647) ?_
              refine pU 31 72 (bo 33 4294967295) ?_
              refine pV 32 73 (bo 33 8589934591) ?_
              refine done_ (done_of HT_.out (by kernel_rfl)) ?_
              try go_wp2
              go_ret
              exact ⟨by first | rfl | (simp [errW_none, errW_some] <;> rfl) | (simp only [← hji27]; first | rfl | (simp [errW_none, errW_some] <;> rfl)) | (simp [*, errW_none, errW_some] <;> rfl), bl⟩
            ·rw [if_neg c29] at H
             exact absurd H (by simp)
           ·rw [if_neg c28] at H
            exact absurd H (by simp)
          ·rw [if_neg c26] at H
           have c26b0 : decide (0 < x36_2) = false := decide_eq_false c26
           clear c26
           obtain ⟨t345, A63, H⟩ := bd H
           by_cases c64 : t345 < 0
           ·rw [if_pos c64] at H
            have c64b0 : decide (t345 < 0) = true := decide_eq_true c64
            clear c64
            obtain rfl := Option.some.inj H
            have p336 : 0 ≤ (x36_2 : Int) := of_decide_eq_true am
            have q336 : x36_2 < (l0_3.length : Int) := of_decide_eq_true am
            obtain ⟨ad336, e336, hx336_0, hx336_1⟩ := at_T93 (Kd.V_reads' HO_34.out).2.2 x36_2 p336 q336
            cases e336
            replace p336 := eq_true p336
            replace q336 := eq_true q336
            try go_wp2_with (first | ((with_reducible refine gD 5 rfl ?_); (try (refine gate_guard rfl ?_; dsimp only)); refine boxZ 5 #[.string (⟨#[]⟩ : ByteArray), .int .i64 0] 93 ?_; intro gb337 hg w65 hbox hb; replace HO_3 := Aside0.mk (Kd.R_below (rpR HO_3.out) hb); replace HO_34 := Aside0.mk (Kd.V_below (Kd.V_elderB (rpV HO_34.out) gb337 (Nat.le_of_eq hg.symm)) hb); replace HO_330003 := Aside0.mk (Kd.V_below (Kd.V_elderB (rpV HO_330003.out) gb337 (Nat.le_of_eq hg.symm)) hb); have BK337 := Aside0.mk hbox; have GW337 := gw (w := w) hg; have GE337 := gw (w := w) hg; replace HB := bs (w := w) hb; have NB329_337 := nl BK329 hg; have NB337_329 := nr BK329 hg; replace BK329 := bv BK329 hb; clear hb hbox hg; have hnb66 := NB337_329.out; have hnc66 := NB329_337.out; obtain ⟨Z67_0, Z67_1, Y67_0, Y67_1⟩ := cf2 BK337))
            have n0_ : Aside0 (Kd.R (Kd.int .i64) 3 ((w65.setCell ⟨gb337, 0, none⟩ (.string ((rd_T93 l0_3 x36_2).f0))).setCell ⟨gb337, 1, none⟩ (.int .i64 ((rd_T93 l0_3 x36_2).f1))) w.heap.size (fun k_ => (w.heap.size ≤ k_)) u3 x3_2) := ⟨rpR (Kd.R_mono (Kd.R_far (p := ⟨gb337, 1, none⟩) (Kd.R_far (p := ⟨gb337, 0, none⟩) (Kd.R_types HO_3.out BK337.out (by decide)) (fun _ hk => hk.2) (.string ((rd_T93 l0_3 x36_2).f0))) (fun _ hk => hk.2) (.int .i64 ((rd_T93 l0_3 x36_2).f1))) (fun _ hk => hk.1))⟩
            have n1_ : Aside0 (Kd.V k93 93 ((w65.setCell ⟨gb337, 0, none⟩ (.string ((rd_T93 l0_3 x36_2).f0))).setCell ⟨gb337, 1, none⟩ (.int .i64 ((rd_T93 l0_3 x36_2).f1))) w.heap.size (fun k_ => (P0_3_ k_ ∨ w.heap.size ≤ k_) ∧ some k_ ≠ (u3 : Value).ownBlock ∧ k_ ≠ gb329 ∧ k_ ≠ gb337) (.slice (some ad336) l0_3.length c0_3) l0_3) := ⟨rpV (Kd.V_mono (Kd.V_far (p := ⟨gb337, 1, none⟩) (Kd.V_far (p := ⟨gb337, 0, none⟩) (Kd.V_mono HO_34.out (fun k_ hk => (⟨hk, hk.2⟩ : _ ∧ k_ ≠ gb337))) (fun _ hk => hk.2) (.string ((rd_T93 l0_3 x36_2).f0))) (fun _ hk => hk.2) (.int .i64 ((rd_T93 l0_3 x36_2).f1))) (fun _ hk => ⟨hk.1.1.1, ⟨hk.1.1.2.1, ⟨hk.1.1.2.2, hk.1.2⟩⟩⟩))⟩
            have n2_ : Aside0 (Kd.V k93 93 ((w65.setCell ⟨gb337, 0, none⟩ (.string ((rd_T93 l0_3 x36_2).f0))).setCell ⟨gb337, 1, none⟩ (.int .i64 ((rd_T93 l0_3 x36_2).f1))) w.heap.size (fun k_ => (P0_3_ k_ ∨ w.heap.size ≤ k_) ∧ some k_ ≠ (u3 : Value).ownBlock ∧ k_ ≠ gb329 ∧ k_ ≠ gb337) (.slice (some ad336) l0_3.length c0_3) l0_3) := ⟨rpV (Kd.V_mono (Kd.V_far (p := ⟨gb337, 1, none⟩) (Kd.V_far (p := ⟨gb337, 0, none⟩) (Kd.V_mono HO_330003.out (fun k_ hk => (⟨hk, hk.2⟩ : _ ∧ k_ ≠ gb337))) (fun _ hk => hk.2) (.string ((rd_T93 l0_3 x36_2).f0))) (fun _ hk => hk.2) (.int .i64 ((rd_T93 l0_3 x36_2).f1))) (fun _ hk => ⟨hk.1.1.1, ⟨hk.1.1.2.1, ⟨hk.1.1.2.2, hk.1.2⟩⟩⟩))⟩
            have n3_ : Aside0 (((w65.setCell ⟨gb337, 0, none⟩ (.string ((rd_T93 l0_3 x36_2).f0))).setCell ⟨gb337, 1, none⟩ (.int .i64 ((rd_T93 l0_3 x36_2).f1))).heap[gb329]? = some (.cells #[.int .i64 a0_0, .int .i64 a0_1, .slice A0_2 l0_2.length c0_2, .slice (some ad336) l0_3.length c0_3, .slice A0_4 l0_4.length c0_4] 26 (0, 0))) := ⟨bkk⟩
            have n4_ : Aside0 (((w65.setCell ⟨gb337, 0, none⟩ (.string ((rd_T93 l0_3 x36_2).f0))).setCell ⟨gb337, 1, none⟩ (.int .i64 ((rd_T93 l0_3 x36_2).f1))).heap[gb337]? = some (.cells #[.string ((rd_T93 l0_3 x36_2).f0), .int .i64 ((rd_T93 l0_3 x36_2).f1)] 93 (0, 0))) := ⟨bkk⟩
            have n5_ : Aside0 (Below w.heap.size w ((w65.setCell ⟨gb337, 0, none⟩ (.string ((rd_T93 l0_3 x36_2).f0))).setCell ⟨gb337, 1, none⟩ (.int .i64 ((rd_T93 l0_3 x36_2).f1)))) := ⟨bl⟩
            (try clear HO_3)
            (try clear HO_34)
            (try clear HO_330003)
            (try clear BK329)
            (try clear BK337)
            (try clear HB)
            generalize ((w65.setCell ⟨gb337, 0, none⟩ (.string ((rd_T93 l0_3 x36_2).f0))).setCell ⟨gb337, 1, none⟩ (.int .i64 ((rd_T93 l0_3 x36_2).f1))) = w68 at n0_ n1_ n2_ n3_ n4_ n5_ ⊢
            have HO_3 := n0_
            have HO_34 := n1_
            have HO_330003 := n2_
            have BK329 := n3_
            have BK337 := n4_
            have HB := n5_
            clear n0_ n1_ n2_ n3_ n4_ n5_
            replace HO_3 := Aside0.mk (Kd.R_drew HO_3.out); replace HO_34 := Aside0.mk (Kd.V_drew HO_34.out); replace HO_330003 := Aside0.mk (Kd.V_drew HO_330003.out); replace BK329 := Aside0.mk (blk_drew BK329.out); replace BK337 := Aside0.mk (blk_drew BK337.out); replace HB := Aside0.mk (below_drew1 HB.out)
            refine start_ (n := 33) (S := fun w' => w'.cell? ⟨gb337, 0, none⟩ = some (.string ((rd_T93 l0_3 x36_2).f0)) ∧ w'.cell? ⟨gb337, 1, none⟩ = some (.int .i64 ((rd_T93 l0_3 x36_2).f1)) ∧ w'.cell? ⟨gb329, 0, none⟩ = some (.int .i64 a0_0) ∧ w'.cell? ⟨gb329, 1, none⟩ = some (.int .i64 a0_1) ∧ w'.cell? ⟨gb329, 2, none⟩ = some (.slice A0_2 l0_2.length c0_2) ∧ w'.cell? ⟨gb329, 3, none⟩ = some (.slice (some ad336) l0_3.length c0_3) ∧ w'.cell? ⟨gb329, 4, none⟩ = some (.slice A0_4 l0_4.length c0_4)) (ds := []) (bo 33 0) (by kernel_rfl) rfl rfl ⟨cb 0 BK337, cb 1 BK337, cb 0 BK329, cb 1 BK329, cb 2 BK329, cb 3 BK329, cb 4 BK329⟩ (fun hHeld => ?_); refine with_tabW impl_DiskOk.tab7 impl_DiskOk.bits7 (fun HT_ HW_ => ?_)
            generalize w68.drew = w69 at HO_3 HO_34 HO_330003 BK329 BK337 HB hHeld ⊢
            refine pV 0 41 (bo 33 1) ?_
            refine tV 1 42 (bo 33 3) ?_
            refine one_ (i := 2) (N := some 43) (bo 33 7) rfl rfl (one_of HT_.out (by kernel_rfl)) (by decide) (fun K hK => ?_)
            refine goes_ Try.func86 (by kernel_rfl) rfl #[.string ((rd_T93 l0_3 x36_2).f0)] (by rfl) rfl rfl sa ?_
            with_reducible refine (impl_nameOk.calls k2 ((rd_T93 l0_3 x36_2).f0) true _ A24.out).mono ?_
            rintro e w' ⟨rfl, ⟨nd, rfl⟩⟩
            refine ⟨_, rfl, ?_⟩
            refine hK.out _ _ ⟨cb 0 BK337, cb 1 BK337, cb 0 BK329, cb 1 BK329, cb 2 BK329, cb 3 BK329, cb 4 BK329⟩ (fun hHeld => ?_)
            clear hK K
            refine norm_ (a' := ?_) ?_ ?_
            rotate_left
            ·show Act.put _ (some 43) _ = _
             simp only [Act.put, List.setIfInBounds_toArray, List.set_cons_zero, List.set_cons_succ, i64_w, i32_w]
             rfl
            refine pV 3 44 (bo 33 15) ?_
            refine pV 4 45 (bo 33 31) ?_
            refine pV 5 46 (bo 33 63) ?_
            refine pV 6 47 (bo 33 127) ?_
            refine pV 7 48 (bo 33 255) ?_
            refine pU 8 49 (bo 33 511) ?_
            refine pU 9 50 (bo 33 1023) ?_
            refine pU 10 51 (bo 33 2047) ?_
            refine pU 11 52 (bo 33 4095) ?_
            refine pU 12 53 (bo 33 8191) ?_
            refine pU 13 54 (bo 33 16383) ?_
            refine pU 14 55 (bo 33 32767) ?_
            refine pU 15 56 (bo 33 65535) ?_
            refine pU 16 57 (bo 33 131071) ?_
            refine pU 17 58 (bo 33 262143) ?_
            refine pV 18 59 (bo 33 524287) ?_
            refine pV 19 60 (bo 33 1048575) ?_
            refine pV 20 61 (bo 33 2097151) ?_
            refine pV 22 63 (bo 33 6291455) ?_
            refine tV 21 62 (bo 33 8388607) ?_
            refine tV 23 64 (bo 33 16777215) ?_
            refine one_ (i := 24) (N := some 65) (bo 33 33554431) rfl rfl (one_of HT_.out (by kernel_rfl)) (by decide) (fun K hK => ?_)
            refine goes_ Try.func87 (by kernel_rfl) rfl #[.agg #[.int .i64 a0_0, .int .i64 a0_1, .slice A0_2 l0_2.length c0_2, .slice (some ad336) l0_3.length c0_3, .slice A0_4 l0_4.length c0_4], .int .i64 ((rd_T93 l0_3 x36_2).f1)] (by rfl) rfl rfl sa ?_
            with_reducible refine (impl_inodeAt.calls a0_0 a0_1 _ _ l0_2 _ _ l0_3 _ _ l0_4 ((rd_T93 l0_3 x36_2).f1) t345 _ ?side1 ?side2 ?side3 ?side4 ?side5 ?side6 A63.out).mono ?_
            (case side1 => exact ca (Kd.C_below HR0_2.out bl))
            (case side2 => exact HC0_2.out)
            (case side3 => exact ca ((Kd.V_reads' HO_330003.out).2.2))
            (case side4 => exact (Kd.V_reads' HO_330003.out).2.1)
            (case side5 => exact ca (Kd.C_below HR0_4.out bl))
            (case side6 => exact HC0_4.out)
            rintro e w70 ⟨rfl, hb⟩
            refine ⟨_, rfl, ?_⟩
            replace HO_3 := Aside0.mk (Kd.R_below (rpR HO_3.out) hb); replace HO_34 := Aside0.mk (Kd.V_below (rpV HO_34.out) hb); replace HO_330003 := Aside0.mk (Kd.V_below (rpV HO_330003.out) hb); replace BK329 := bv BK329 hb; replace BK337 := bv BK337 hb; replace HB := bs (w := w) hb; (try clear hb hb2 hk hi)
            refine hK.out _ _ ⟨cb 0 BK337, cb 1 BK337, cb 0 BK329, cb 1 BK329, cb 2 BK329, cb 3 BK329, cb 4 BK329⟩ (fun hHeld => ?_)
            clear hK K
            refine norm_ (a' := ?_) ?_ ?_
            rotate_left
            ·show Act.put _ (some 65) _ = _
             simp only [Act.put, List.setIfInBounds_toArray, List.set_cons_zero, List.set_cons_succ, i64_w, i32_w]
             rfl
            refine pV 25 66 (bo 33 67108863) ?_
            refine pV 26 67 (bo 33 134217727) ?_
            refine pV 27 68 (bo 33 268435455) ?_
            refine pU 28 69 (bo 33 536870911) ?_
            refine pU 29 70 (bo 33 1073741823) ?_
            refine pU 30 71 (bo 33 2147483647) ?_
            refine pU 31 72 (bo 33 4294967295) ?_
            refine pV 32 73 (bo 33 8589934591) ?_
            refine done_ (done_of HT_.out (by kernel_rfl)) ?_
            try go_wp2
            go_ret
            exact ⟨fe, bl⟩
           ·rw [if_neg c64] at H
            have c64b0 : decide (t345 < 0) = false := decide_eq_false c64
            clear c64
            obtain ⟨t346, A71, H⟩ := bd H
            by_cases c72 : t346 = true
            ·subst c72
             replace H := iT H
             obtain rfl := Option.some.inj H
             have p336 : 0 ≤ (x36_2 : Int) := of_decide_eq_true am
             have q336 : x36_2 < (l0_3.length : Int) := of_decide_eq_true am
             obtain ⟨ad336, e336, hx336_0, hx336_1⟩ := at_T93 (Kd.V_reads' HO_34.out).2.2 x36_2 p336 q336
             cases e336
             replace p336 := eq_true p336
             replace q336 := eq_true q336
             try go_wp2_with (first | ((with_reducible refine gD 5 rfl ?_); (try (refine gate_guard rfl ?_; dsimp only)); refine boxZ 5 #[.string (⟨#[]⟩ : ByteArray), .int .i64 0] 93 ?_; intro gb337 hg w73 hbox hb; replace HO_3 := Aside0.mk (Kd.R_below (rpR HO_3.out) hb); replace HO_34 := Aside0.mk (Kd.V_below (Kd.V_elderB (rpV HO_34.out) gb337 (Nat.le_of_eq hg.symm)) hb); replace HO_330003 := Aside0.mk (Kd.V_below (Kd.V_elderB (rpV HO_330003.out) gb337 (Nat.le_of_eq hg.symm)) hb); have BK337 := Aside0.mk hbox; have GW337 := gw (w := w) hg; have GE337 := gw (w := w) hg; replace HB := bs (w := w) hb; have NB329_337 := nl BK329 hg; have NB337_329 := nr BK329 hg; replace BK329 := bv BK329 hb; clear hb hbox hg; have hnb74 := NB337_329.out; have hnc74 := NB329_337.out; obtain ⟨Z75_0, Z75_1, Y75_0, Y75_1⟩ := cf2 BK337))
             have n0_ : Aside0 (Kd.R (Kd.int .i64) 3 ((w73.setCell ⟨gb337, 0, none⟩ (.string ((rd_T93 l0_3 x36_2).f0))).setCell ⟨gb337, 1, none⟩ (.int .i64 ((rd_T93 l0_3 x36_2).f1))) w.heap.size (fun k_ => (w.heap.size ≤ k_)) u3 x3_2) := ⟨rpR (Kd.R_mono (Kd.R_far (p := ⟨gb337, 1, none⟩) (Kd.R_far (p := ⟨gb337, 0, none⟩) (Kd.R_types HO_3.out BK337.out (by decide)) (fun _ hk => hk.2) (.string ((rd_T93 l0_3 x36_2).f0))) (fun _ hk => hk.2) (.int .i64 ((rd_T93 l0_3 x36_2).f1))) (fun _ hk => hk.1))⟩
             have n1_ : Aside0 (Kd.V k93 93 ((w73.setCell ⟨gb337, 0, none⟩ (.string ((rd_T93 l0_3 x36_2).f0))).setCell ⟨gb337, 1, none⟩ (.int .i64 ((rd_T93 l0_3 x36_2).f1))) w.heap.size (fun k_ => (P0_3_ k_ ∨ w.heap.size ≤ k_) ∧ some k_ ≠ (u3 : Value).ownBlock ∧ k_ ≠ gb329 ∧ k_ ≠ gb337) (.slice (some ad336) l0_3.length c0_3) l0_3) := ⟨rpV (Kd.V_mono (Kd.V_far (p := ⟨gb337, 1, none⟩) (Kd.V_far (p := ⟨gb337, 0, none⟩) (Kd.V_mono HO_34.out (fun k_ hk => (⟨hk, hk.2⟩ : _ ∧ k_ ≠ gb337))) (fun _ hk => hk.2) (.string ((rd_T93 l0_3 x36_2).f0))) (fun _ hk => hk.2) (.int .i64 ((rd_T93 l0_3 x36_2).f1))) (fun _ hk => ⟨hk.1.1.1, ⟨hk.1.1.2.1, ⟨hk.1.1.2.2, hk.1.2⟩⟩⟩))⟩
             have n2_ : Aside0 (Kd.V k93 93 ((w73.setCell ⟨gb337, 0, none⟩ (.string ((rd_T93 l0_3 x36_2).f0))).setCell ⟨gb337, 1, none⟩ (.int .i64 ((rd_T93 l0_3 x36_2).f1))) w.heap.size (fun k_ => (P0_3_ k_ ∨ w.heap.size ≤ k_) ∧ some k_ ≠ (u3 : Value).ownBlock ∧ k_ ≠ gb329 ∧ k_ ≠ gb337) (.slice (some ad336) l0_3.length c0_3) l0_3) := ⟨rpV (Kd.V_mono (Kd.V_far (p := ⟨gb337, 1, none⟩) (Kd.V_far (p := ⟨gb337, 0, none⟩) (Kd.V_mono HO_330003.out (fun k_ hk => (⟨hk, hk.2⟩ : _ ∧ k_ ≠ gb337))) (fun _ hk => hk.2) (.string ((rd_T93 l0_3 x36_2).f0))) (fun _ hk => hk.2) (.int .i64 ((rd_T93 l0_3 x36_2).f1))) (fun _ hk => ⟨hk.1.1.1, ⟨hk.1.1.2.1, ⟨hk.1.1.2.2, hk.1.2⟩⟩⟩))⟩
             have n3_ : Aside0 (((w73.setCell ⟨gb337, 0, none⟩ (.string ((rd_T93 l0_3 x36_2).f0))).setCell ⟨gb337, 1, none⟩ (.int .i64 ((rd_T93 l0_3 x36_2).f1))).heap[gb329]? = some (.cells #[.int .i64 a0_0, .int .i64 a0_1, .slice A0_2 l0_2.length c0_2, .slice (some ad336) l0_3.length c0_3, .slice A0_4 l0_4.length c0_4] 26 (0, 0))) := ⟨bkk⟩
             have n4_ : Aside0 (((w73.setCell ⟨gb337, 0, none⟩ (.string ((rd_T93 l0_3 x36_2).f0))).setCell ⟨gb337, 1, none⟩ (.int .i64 ((rd_T93 l0_3 x36_2).f1))).heap[gb337]? = some (.cells #[.string ((rd_T93 l0_3 x36_2).f0), .int .i64 ((rd_T93 l0_3 x36_2).f1)] 93 (0, 0))) := ⟨bkk⟩
             have n5_ : Aside0 (Below w.heap.size w ((w73.setCell ⟨gb337, 0, none⟩ (.string ((rd_T93 l0_3 x36_2).f0))).setCell ⟨gb337, 1, none⟩ (.int .i64 ((rd_T93 l0_3 x36_2).f1)))) := ⟨bl⟩
             (try clear HO_3)
             (try clear HO_34)
             (try clear HO_330003)
             (try clear BK329)
             (try clear BK337)
             (try clear HB)
             generalize ((w73.setCell ⟨gb337, 0, none⟩ (.string ((rd_T93 l0_3 x36_2).f0))).setCell ⟨gb337, 1, none⟩ (.int .i64 ((rd_T93 l0_3 x36_2).f1))) = w76 at n0_ n1_ n2_ n3_ n4_ n5_ ⊢
             have HO_3 := n0_
             have HO_34 := n1_
             have HO_330003 := n2_
             have BK329 := n3_
             have BK337 := n4_
             have HB := n5_
             clear n0_ n1_ n2_ n3_ n4_ n5_
             replace HO_3 := Aside0.mk (Kd.R_drew HO_3.out); replace HO_34 := Aside0.mk (Kd.V_drew HO_34.out); replace HO_330003 := Aside0.mk (Kd.V_drew HO_330003.out); replace BK329 := Aside0.mk (blk_drew BK329.out); replace BK337 := Aside0.mk (blk_drew BK337.out); replace HB := Aside0.mk (below_drew1 HB.out)
             refine start_ (n := 33) (S := fun w' => w'.cell? ⟨gb337, 0, none⟩ = some (.string ((rd_T93 l0_3 x36_2).f0)) ∧ w'.cell? ⟨gb337, 1, none⟩ = some (.int .i64 ((rd_T93 l0_3 x36_2).f1)) ∧ w'.cell? ⟨gb329, 0, none⟩ = some (.int .i64 a0_0) ∧ w'.cell? ⟨gb329, 1, none⟩ = some (.int .i64 a0_1) ∧ w'.cell? ⟨gb329, 2, none⟩ = some (.slice A0_2 l0_2.length c0_2) ∧ w'.cell? ⟨gb329, 3, none⟩ = some (.slice (some ad336) l0_3.length c0_3) ∧ w'.cell? ⟨gb329, 4, none⟩ = some (.slice A0_4 l0_4.length c0_4)) (ds := []) (bo 33 0) (by kernel_rfl) rfl rfl ⟨cb 0 BK337, cb 1 BK337, cb 0 BK329, cb 1 BK329, cb 2 BK329, cb 3 BK329, cb 4 BK329⟩ (fun hHeld => ?_); refine with_tabW impl_DiskOk.tab7 impl_DiskOk.bits7 (fun HT_ HW_ => ?_)
             generalize w76.drew = w77 at HO_3 HO_34 HO_330003 BK329 BK337 HB hHeld ⊢
             refine pV 0 41 (bo 33 1) ?_
             refine tV 1 42 (bo 33 3) ?_
             refine one_ (i := 2) (N := some 43) (bo 33 7) rfl rfl (one_of HT_.out (by kernel_rfl)) (by decide) (fun K hK => ?_)
             refine goes_ Try.func86 (by kernel_rfl) rfl #[.string ((rd_T93 l0_3 x36_2).f0)] (by rfl) rfl rfl sa ?_
             with_reducible refine (impl_nameOk.calls k2 ((rd_T93 l0_3 x36_2).f0) true _ A24.out).mono ?_
             rintro e w' ⟨rfl, ⟨nd, rfl⟩⟩
             refine ⟨_, rfl, ?_⟩
             refine hK.out _ _ ⟨cb 0 BK337, cb 1 BK337, cb 0 BK329, cb 1 BK329, cb 2 BK329, cb 3 BK329, cb 4 BK329⟩ (fun hHeld => ?_)
             clear hK K
             refine norm_ (a' := ?_) ?_ ?_
             rotate_left
             ·show Act.put _ (some 43) _ = _
              simp only [Act.put, List.setIfInBounds_toArray, List.set_cons_zero, List.set_cons_succ, i64_w, i32_w]
              rfl
             refine pV 3 44 (bo 33 15) ?_
             refine pV 4 45 (bo 33 31) ?_
             refine pV 5 46 (bo 33 63) ?_
             refine pV 6 47 (bo 33 127) ?_
             refine pV 7 48 (bo 33 255) ?_
             refine pU 8 49 (bo 33 511) ?_
             refine pU 9 50 (bo 33 1023) ?_
             refine pU 10 51 (bo 33 2047) ?_
             refine pU 11 52 (bo 33 4095) ?_
             refine pU 12 53 (bo 33 8191) ?_
             refine pU 13 54 (bo 33 16383) ?_
             refine pU 14 55 (bo 33 32767) ?_
             refine pU 15 56 (bo 33 65535) ?_
             refine pU 16 57 (bo 33 131071) ?_
             refine pU 17 58 (bo 33 262143) ?_
             refine pV 18 59 (bo 33 524287) ?_
             refine pV 19 60 (bo 33 1048575) ?_
             refine pV 20 61 (bo 33 2097151) ?_
             refine pV 22 63 (bo 33 6291455) ?_
             refine tV 21 62 (bo 33 8388607) ?_
             refine tV 23 64 (bo 33 16777215) ?_
             refine one_ (i := 24) (N := some 65) (bo 33 33554431) rfl rfl (one_of HT_.out (by kernel_rfl)) (by decide) (fun K hK => ?_)
             refine goes_ Try.func87 (by kernel_rfl) rfl #[.agg #[.int .i64 a0_0, .int .i64 a0_1, .slice A0_2 l0_2.length c0_2, .slice (some ad336) l0_3.length c0_3, .slice A0_4 l0_4.length c0_4], .int .i64 ((rd_T93 l0_3 x36_2).f1)] (by rfl) rfl rfl sa ?_
             with_reducible refine (impl_inodeAt.calls a0_0 a0_1 _ _ l0_2 _ _ l0_3 _ _ l0_4 ((rd_T93 l0_3 x36_2).f1) t345 _ ?side1 ?side2 ?side3 ?side4 ?side5 ?side6 A63.out).mono ?_
             (case side1 => exact ca (Kd.C_below HR0_2.out bl))
             (case side2 => exact HC0_2.out)
             (case side3 => exact ca ((Kd.V_reads' HO_330003.out).2.2))
             (case side4 => exact (Kd.V_reads' HO_330003.out).2.1)
             (case side5 => exact ca (Kd.C_below HR0_4.out bl))
             (case side6 => exact HC0_4.out)
             rintro e w78 ⟨rfl, hb⟩
             refine ⟨_, rfl, ?_⟩
             replace HO_3 := Aside0.mk (Kd.R_below (rpR HO_3.out) hb); replace HO_34 := Aside0.mk (Kd.V_below (rpV HO_34.out) hb); replace HO_330003 := Aside0.mk (Kd.V_below (rpV HO_330003.out) hb); replace BK329 := bv BK329 hb; replace BK337 := bv BK337 hb; replace HB := bs (w := w) hb; (try clear hb hb2 hk hi)
             obtain ⟨Ao79, co79, eo79⟩ := Kd.R_slice HO_3.out
             (first | subst eo79 | (injection eo79 with f1_ f2_ f3_; have f4_ := f1_.symm; have f5_ := f3_.symm; clear f1_ f2_ f3_; subst f4_; subst f5_))
             refine hK.out _ _ ⟨cb 0 BK337, cb 1 BK337, cb 0 BK329, cb 1 BK329, cb 2 BK329, cb 3 BK329, cb 4 BK329⟩ (fun hHeld => ?_)
             clear hK K
             refine norm_ (a' := ?_) ?_ ?_
             rotate_left
             ·show Act.put _ (some 65) _ = _
              simp only [Act.put, List.setIfInBounds_toArray, List.set_cons_zero, List.set_cons_succ, i64_w, i32_w]
              rfl
             refine pV 25 66 (bo 33 67108863) ?_
             refine pV 26 67 (bo 33 134217727) ?_
             refine pV 27 68 (bo 33 268435455) ?_
             refine pV 28 69 (bo 33 536870911) ?_
             refine pV 29 70 (bo 33 1073741823) ?_
             refine tV 30 71 (bo 33 2147483647) ?_
             refine one_ (i := 31) (N := some 72) (bo 33 4294967295) rfl rfl (one_of HT_.out (by kernel_rfl)) (by decide) (fun K hK => ?_)
             refine goes_ Try.func88 (by kernel_rfl) rfl #[.slice Ao79 x3_2.length co79, .int .i64 ((rd_T93 l0_3 x36_2).f1)] (by rfl) rfl rfl sa ?_
             with_reducible refine (slices_Contains_int_int.calls k2 _ _ x3_2 ((rd_T93 l0_3 x36_2).f1) true _ ?side1 ?side2 A71.out).mono ?_
             (case side1 => exact ca ((Kd.R_reads' HO_3.out).2.2))
             (case side2 => exact (Kd.R_reads' HO_3.out).2.1)
             rintro e w' ⟨rfl, ⟨nd, rfl⟩⟩
             refine ⟨_, rfl, ?_⟩
             refine hK.out _ _ ⟨cb 0 BK337, cb 1 BK337, cb 0 BK329, cb 1 BK329, cb 2 BK329, cb 3 BK329, cb 4 BK329⟩ (fun hHeld => ?_)
             clear hK K
             refine norm_ (a' := ?_) ?_ ?_
             rotate_left
             ·show Act.put _ (some 72) _ = _
              simp only [Act.put, List.setIfInBounds_toArray, List.set_cons_zero, List.set_cons_succ, i64_w, i32_w]
              rfl
             refine pV 32 73 (bo 33 8589934591) ?_
             refine done_ (done_of HT_.out (by kernel_rfl)) ?_
             try go_wp2
             go_ret
             exact ⟨fe, bl⟩
            ·replace c72 := Bool.eq_false_iff.mpr c72
             subst c72
             replace H := iF H
             by_cases c80 : x3_2.length < 17592186044416
             ·rw [if_pos c80] at H
              have LMc80 := Aside0.mk c80
              clear c80
              obtain ⟨y347, hy347⟩ : ∃ y_ : List Int, y_ = (x3_2 ++ [(rd_T93 l0_3 x36_2).f1]) := ⟨_, rfl⟩
              replace H : (impl_DiskOk.l0 k2 y347 l0_3 (l0_3.length : Int) (wrap64 (x36_2 + 1)) a0_0 a0_1 l0_2 l0_3 l0_4) = some r := by first | (rw [hy347]; with_reducible exact H) | (have H2_ := (Option.bind_some _ _).symm.trans H; rw [hy347]; with_reducible exact H2_) | (have H2_ := (Option.bind_some _ _).symm.trans H; with_reducible exact H2_) | with_reducible exact H | (rw [hy347]; exact H) | exact H
              have Ny347 := Aside0.mk hy347
              clear hy347
              have H' := Aside0.mk H
              clear H
              have p336 : 0 ≤ (x36_2 : Int) := of_decide_eq_true am
              have q336 : x36_2 < (l0_3.length : Int) := of_decide_eq_true am
              obtain ⟨ad336, e336, hx336_0, hx336_1⟩ := at_T93 (Kd.V_reads' HO_34.out).2.2 x36_2 p336 q336
              cases e336
              replace p336 := eq_true p336
              replace q336 := eq_true q336
              try go_wp2_with (first | ((with_reducible refine gD 5 rfl ?_); (try (refine gate_guard rfl ?_; dsimp only)); refine boxZ 5 #[.string (⟨#[]⟩ : ByteArray), .int .i64 0] 93 ?_; intro gb337 hg w81 hbox hb; replace HO_3 := Aside0.mk (Kd.R_below (rpR HO_3.out) hb); replace HO_34 := Aside0.mk (Kd.V_below (Kd.V_elderB (rpV HO_34.out) gb337 (Nat.le_of_eq hg.symm)) hb); replace HO_330003 := Aside0.mk (Kd.V_below (Kd.V_elderB (rpV HO_330003.out) gb337 (Nat.le_of_eq hg.symm)) hb); have BK337 := Aside0.mk hbox; have GW337 := gw (w := w) hg; have GE337 := gw (w := w) hg; replace HB := bs (w := w) hb; have NB329_337 := nl BK329 hg; have NB337_329 := nr BK329 hg; replace BK329 := bv BK329 hb; clear hb hbox hg; have hnb82 := NB337_329.out; have hnc82 := NB329_337.out; obtain ⟨Z83_0, Z83_1, Y83_0, Y83_1⟩ := cf2 BK337))
              have n0_ : Aside0 (Kd.R (Kd.int .i64) 3 ((w81.setCell ⟨gb337, 0, none⟩ (.string ((rd_T93 l0_3 x36_2).f0))).setCell ⟨gb337, 1, none⟩ (.int .i64 ((rd_T93 l0_3 x36_2).f1))) w.heap.size (fun k_ => (w.heap.size ≤ k_)) u3 x3_2) := ⟨rpR (Kd.R_mono (Kd.R_far (p := ⟨gb337, 1, none⟩) (Kd.R_far (p := ⟨gb337, 0, none⟩) (Kd.R_types HO_3.out BK337.out (by decide)) (fun _ hk => hk.2) (.string ((rd_T93 l0_3 x36_2).f0))) (fun _ hk => hk.2) (.int .i64 ((rd_T93 l0_3 x36_2).f1))) (fun _ hk => hk.1))⟩
              have n1_ : Aside0 (Kd.V k93 93 ((w81.setCell ⟨gb337, 0, none⟩ (.string ((rd_T93 l0_3 x36_2).f0))).setCell ⟨gb337, 1, none⟩ (.int .i64 ((rd_T93 l0_3 x36_2).f1))) w.heap.size (fun k_ => (P0_3_ k_ ∨ w.heap.size ≤ k_) ∧ some k_ ≠ (u3 : Value).ownBlock ∧ k_ ≠ gb329 ∧ k_ ≠ gb337) (.slice (some ad336) l0_3.length c0_3) l0_3) := ⟨rpV (Kd.V_mono (Kd.V_far (p := ⟨gb337, 1, none⟩) (Kd.V_far (p := ⟨gb337, 0, none⟩) (Kd.V_mono HO_34.out (fun k_ hk => (⟨hk, hk.2⟩ : _ ∧ k_ ≠ gb337))) (fun _ hk => hk.2) (.string ((rd_T93 l0_3 x36_2).f0))) (fun _ hk => hk.2) (.int .i64 ((rd_T93 l0_3 x36_2).f1))) (fun _ hk => ⟨hk.1.1.1, ⟨hk.1.1.2.1, ⟨hk.1.1.2.2, hk.1.2⟩⟩⟩))⟩
              have n2_ : Aside0 (Kd.V k93 93 ((w81.setCell ⟨gb337, 0, none⟩ (.string ((rd_T93 l0_3 x36_2).f0))).setCell ⟨gb337, 1, none⟩ (.int .i64 ((rd_T93 l0_3 x36_2).f1))) w.heap.size (fun k_ => (P0_3_ k_ ∨ w.heap.size ≤ k_) ∧ some k_ ≠ (u3 : Value).ownBlock ∧ k_ ≠ gb329 ∧ k_ ≠ gb337) (.slice (some ad336) l0_3.length c0_3) l0_3) := ⟨rpV (Kd.V_mono (Kd.V_far (p := ⟨gb337, 1, none⟩) (Kd.V_far (p := ⟨gb337, 0, none⟩) (Kd.V_mono HO_330003.out (fun k_ hk => (⟨hk, hk.2⟩ : _ ∧ k_ ≠ gb337))) (fun _ hk => hk.2) (.string ((rd_T93 l0_3 x36_2).f0))) (fun _ hk => hk.2) (.int .i64 ((rd_T93 l0_3 x36_2).f1))) (fun _ hk => ⟨hk.1.1.1, ⟨hk.1.1.2.1, ⟨hk.1.1.2.2, hk.1.2⟩⟩⟩))⟩
              have n3_ : Aside0 (((w81.setCell ⟨gb337, 0, none⟩ (.string ((rd_T93 l0_3 x36_2).f0))).setCell ⟨gb337, 1, none⟩ (.int .i64 ((rd_T93 l0_3 x36_2).f1))).heap[gb329]? = some (.cells #[.int .i64 a0_0, .int .i64 a0_1, .slice A0_2 l0_2.length c0_2, .slice (some ad336) l0_3.length c0_3, .slice A0_4 l0_4.length c0_4] 26 (0, 0))) := ⟨bkk⟩
              have n4_ : Aside0 (((w81.setCell ⟨gb337, 0, none⟩ (.string ((rd_T93 l0_3 x36_2).f0))).setCell ⟨gb337, 1, none⟩ (.int .i64 ((rd_T93 l0_3 x36_2).f1))).heap[gb337]? = some (.cells #[.string ((rd_T93 l0_3 x36_2).f0), .int .i64 ((rd_T93 l0_3 x36_2).f1)] 93 (0, 0))) := ⟨bkk⟩
              have n5_ : Aside0 (Below w.heap.size w ((w81.setCell ⟨gb337, 0, none⟩ (.string ((rd_T93 l0_3 x36_2).f0))).setCell ⟨gb337, 1, none⟩ (.int .i64 ((rd_T93 l0_3 x36_2).f1)))) := ⟨bl⟩
              (try clear HO_3)
              (try clear HO_34)
              (try clear HO_330003)
              (try clear BK329)
              (try clear BK337)
              (try clear HB)
              generalize ((w81.setCell ⟨gb337, 0, none⟩ (.string ((rd_T93 l0_3 x36_2).f0))).setCell ⟨gb337, 1, none⟩ (.int .i64 ((rd_T93 l0_3 x36_2).f1))) = w84 at n0_ n1_ n2_ n3_ n4_ n5_ ⊢
              have HO_3 := n0_
              have HO_34 := n1_
              have HO_330003 := n2_
              have BK329 := n3_
              have BK337 := n4_
              have HB := n5_
              clear n0_ n1_ n2_ n3_ n4_ n5_
              replace HO_3 := Aside0.mk (Kd.R_drew HO_3.out); replace HO_34 := Aside0.mk (Kd.V_drew HO_34.out); replace HO_330003 := Aside0.mk (Kd.V_drew HO_330003.out); replace BK329 := Aside0.mk (blk_drew BK329.out); replace BK337 := Aside0.mk (blk_drew BK337.out); replace HB := Aside0.mk (below_drew1 HB.out)
              refine start_ (n := 33) (S := fun w' => w'.cell? ⟨gb337, 0, none⟩ = some (.string ((rd_T93 l0_3 x36_2).f0)) ∧ w'.cell? ⟨gb337, 1, none⟩ = some (.int .i64 ((rd_T93 l0_3 x36_2).f1)) ∧ w'.cell? ⟨gb329, 0, none⟩ = some (.int .i64 a0_0) ∧ w'.cell? ⟨gb329, 1, none⟩ = some (.int .i64 a0_1) ∧ w'.cell? ⟨gb329, 2, none⟩ = some (.slice A0_2 l0_2.length c0_2) ∧ w'.cell? ⟨gb329, 3, none⟩ = some (.slice (some ad336) l0_3.length c0_3) ∧ w'.cell? ⟨gb329, 4, none⟩ = some (.slice A0_4 l0_4.length c0_4)) (ds := []) (bo 33 0) (by kernel_rfl) rfl rfl ⟨cb 0 BK337, cb 1 BK337, cb 0 BK329, cb 1 BK329, cb 2 BK329, cb 3 BK329, cb 4 BK329⟩ (fun hHeld => ?_); refine with_tabW impl_DiskOk.tab7 impl_DiskOk.bits7 (fun HT_ HW_ => ?_)
              generalize w84.drew = w85 at HO_3 HO_34 HO_330003 BK329 BK337 HB hHeld ⊢
              refine pV 0 41 (bo 33 1) ?_
              refine tV 1 42 (bo 33 3) ?_
              refine one_ (i := 2) (N := some 43) (bo 33 7) rfl rfl (one_of HT_.out (by kernel_rfl)) (by decide) (fun K hK => ?_)
              refine goes_ Try.func86 (by kernel_rfl) rfl #[.string ((rd_T93 l0_3 x36_2).f0)] (by rfl) rfl rfl sa ?_
              with_reducible refine (impl_nameOk.calls k2 ((rd_T93 l0_3 x36_2).f0) true _ A24.out).mono ?_
              rintro e w' ⟨rfl, ⟨nd, rfl⟩⟩
              refine ⟨_, rfl, ?_⟩
              refine hK.out _ _ ⟨cb 0 BK337, cb 1 BK337, cb 0 BK329, cb 1 BK329, cb 2 BK329, cb 3 BK329, cb 4 BK329⟩ (fun hHeld => ?_)
              clear hK K
              refine norm_ (a' := ?_) ?_ ?_
              rotate_left
              ·show Act.put _ (some 43) _ = _
               simp only [Act.put, List.setIfInBounds_toArray, List.set_cons_zero, List.set_cons_succ, i64_w, i32_w]
               rfl
              refine pV 3 44 (bo 33 15) ?_
              refine pV 4 45 (bo 33 31) ?_
              refine pV 5 46 (bo 33 63) ?_
              refine pV 6 47 (bo 33 127) ?_
              refine pV 7 48 (bo 33 255) ?_
              refine pU 8 49 (bo 33 511) ?_
              refine pU 9 50 (bo 33 1023) ?_
              refine pU 10 51 (bo 33 2047) ?_
              refine pU 11 52 (bo 33 4095) ?_
              refine pU 12 53 (bo 33 8191) ?_
              refine pU 13 54 (bo 33 16383) ?_
              refine pU 14 55 (bo 33 32767) ?_
              refine pU 15 56 (bo 33 65535) ?_
              refine pU 16 57 (bo 33 131071) ?_
              refine pU 17 58 (bo 33 262143) ?_
              refine pV 18 59 (bo 33 524287) ?_
              refine pV 19 60 (bo 33 1048575) ?_
              refine pV 20 61 (bo 33 2097151) ?_
              refine pV 22 63 (bo 33 6291455) ?_
              refine tV 21 62 (bo 33 8388607) ?_
              refine tV 23 64 (bo 33 16777215) ?_
              refine one_ (i := 24) (N := some 65) (bo 33 33554431) rfl rfl (one_of HT_.out (by kernel_rfl)) (by decide) (fun K hK => ?_)
              refine goes_ Try.func87 (by kernel_rfl) rfl #[.agg #[.int .i64 a0_0, .int .i64 a0_1, .slice A0_2 l0_2.length c0_2, .slice (some ad336) l0_3.length c0_3, .slice A0_4 l0_4.length c0_4], .int .i64 ((rd_T93 l0_3 x36_2).f1)] (by rfl) rfl rfl sa ?_
              with_reducible refine (impl_inodeAt.calls a0_0 a0_1 _ _ l0_2 _ _ l0_3 _ _ l0_4 ((rd_T93 l0_3 x36_2).f1) t345 _ ?side1 ?side2 ?side3 ?side4 ?side5 ?side6 A63.out).mono ?_
              (case side1 => exact ca (Kd.C_below HR0_2.out bl))
              (case side2 => exact HC0_2.out)
              (case side3 => exact ca ((Kd.V_reads' HO_330003.out).2.2))
              (case side4 => exact (Kd.V_reads' HO_330003.out).2.1)
              (case side5 => exact ca (Kd.C_below HR0_4.out bl))
              (case side6 => exact HC0_4.out)
              rintro e w86 ⟨rfl, hb⟩
              refine ⟨_, rfl, ?_⟩
              replace HO_3 := Aside0.mk (Kd.R_below (rpR HO_3.out) hb); replace HO_34 := Aside0.mk (Kd.V_below (rpV HO_34.out) hb); replace HO_330003 := Aside0.mk (Kd.V_below (rpV HO_330003.out) hb); replace BK329 := bv BK329 hb; replace BK337 := bv BK337 hb; replace HB := bs (w := w) hb; (try clear hb hb2 hk hi)
              obtain ⟨Ao87, co87, eo87⟩ := Kd.R_slice HO_3.out
              (first | subst eo87 | (injection eo87 with f1_ f2_ f3_; have f4_ := f1_.symm; have f5_ := f3_.symm; clear f1_ f2_ f3_; subst f4_; subst f5_))
              refine hK.out _ _ ⟨cb 0 BK337, cb 1 BK337, cb 0 BK329, cb 1 BK329, cb 2 BK329, cb 3 BK329, cb 4 BK329⟩ (fun hHeld => ?_)
              clear hK K
              refine norm_ (a' := ?_) ?_ ?_
              rotate_left
              ·show Act.put _ (some 65) _ = _
               simp only [Act.put, List.setIfInBounds_toArray, List.set_cons_zero, List.set_cons_succ, i64_w, i32_w]
               rfl
              refine pV 25 66 (bo 33 67108863) ?_
              refine pV 26 67 (bo 33 134217727) ?_
              refine pV 27 68 (bo 33 268435455) ?_
              refine pV 28 69 (bo 33 536870911) ?_
              refine pV 29 70 (bo 33 1073741823) ?_
              refine tV 30 71 (bo 33 2147483647) ?_
              refine one_ (i := 31) (N := some 72) (bo 33 4294967295) rfl rfl (one_of HT_.out (by kernel_rfl)) (by decide) (fun K hK => ?_)
              refine goes_ Try.func88 (by kernel_rfl) rfl #[.slice Ao87 x3_2.length co87, .int .i64 ((rd_T93 l0_3 x36_2).f1)] (by rfl) rfl rfl sa ?_
              with_reducible refine (slices_Contains_int_int.calls k2 _ _ x3_2 ((rd_T93 l0_3 x36_2).f1) false _ ?side1 ?side2 A71.out).mono ?_
              (case side1 => exact ca ((Kd.R_reads' HO_3.out).2.2))
              (case side2 => exact (Kd.R_reads' HO_3.out).2.1)
              rintro e w' ⟨rfl, ⟨nd, rfl⟩⟩
              refine ⟨_, rfl, ?_⟩
              refine hK.out _ _ ⟨cb 0 BK337, cb 1 BK337, cb 0 BK329, cb 1 BK329, cb 2 BK329, cb 3 BK329, cb 4 BK329⟩ (fun hHeld => ?_)
              clear hK K
              refine norm_ (a' := ?_) ?_ ?_
              rotate_left
              ·show Act.put _ (some 72) _ = _
               simp only [Act.put, List.setIfInBounds_toArray, List.set_cons_zero, List.set_cons_succ, i64_w, i32_w]
               rfl
              refine pV 32 73 (bo 33 8589934591) ?_
              refine done_ (done_of HT_.out (by kernel_rfl)) ?_
              obtain ⟨Z88_0, Z88_1, Y88_0, Y88_1⟩ := cf2 BK337
              try go_wp2_with (first | ((with_reducible refine gate_builtin (b := .append) (xs := #[.tmp 74, .tmp 77]) rfl ?_); (try (refine gate_guard rfl ?_; dsimp only)); at_builtin; refine Kd.R_append (Kd.int .i64) (w0 := w) w.heap.size rfl (.tmp 74) (.tmp 77) 61 3 (.int .i64 0) 8 rfl Try.underlying61 info3 rfl (by decide) (by omega) (.slice Ao87 x3_2.length co87) x3_2 ((rd_T93 l0_3 x36_2).f1) [.int .i64 ((rd_T93 l0_3 x36_2).f1)] (fun k_ => (w.heap.size ≤ k_)) (fun _ => False) rfl rfl ?aP (fun _ hk => hk.elim) ?aF ?aO ?aB ?aS ?aL ?_; (case aP => exact rfl); (case aB => exact bl); (case aF => exact (fun k_ hk => (Nat.le_trans (below_size bl) hk))); (case aO => exact (rpR HO_3.out)); (case aS => exact (below_size bl)); (case aL => have := LMc80.out; omega); intro v348 w89 ho hb hg hat; rw [← Ny347.out] at ho; replace HO_34 := Aside0.mk (Kd.V_afterv (ok := (fun k_ => (P0_3_ k_ ∨ w.heap.size ≤ k_) ∧ k_ ≠ gb329 ∧ k_ ≠ gb337)) (rpV (Kd.V_mono HO_34.out (fun _ hk => ⟨⟨hk.1, ⟨hk.2.2.1, hk.2.2.2⟩⟩, hk.2.1⟩))) hg hat); replace HO_330003 := Aside0.mk (Kd.V_afterv (ok := (fun k_ => (P0_3_ k_ ∨ w.heap.size ≤ k_) ∧ k_ ≠ gb329 ∧ k_ ≠ gb337)) (rpV (Kd.V_mono HO_330003.out (fun _ hk => ⟨⟨hk.1, ⟨hk.2.2.1, hk.2.2.2⟩⟩, hk.2.1⟩))) hg hat); replace BK329 := Aside0.mk (blk_grown (g := gb329) (o := .cells #[.int .i64 a0_0, .int .i64 a0_1, .slice A0_2 l0_2.length c0_2, .slice (some ad336) l0_3.length c0_3, .slice A0_4 l0_4.length c0_4] 26 (0, 0)) bk hg (Kd.R_ne HO_3.out BK329.out (by decide))); replace BK337 := Aside0.mk (blk_grown (g := gb337) (o := .cells #[.string ((rd_T93 l0_3 x36_2).f0), .int .i64 ((rd_T93 l0_3 x36_2).f1)] 93 (0, 0)) bk hg (Kd.R_ne HO_3.out BK337.out (by decide))); replace HB := Aside0.mk (hb); have HO349 := Aside0.mk (ho); clear HO_3; clear ho hb hg hat))
              go_roundg k2
              case measure => have := HJ1.out; have := HK2.out; omega
              case rel => exact ⟨(y347), (wrap64 (x36_2 + 1)), fa, H', ⟨by have := HJ1.out; have := HK2.out; omega⟩, ⟨rpR HO349.out⟩, ⟨rpV (Kd.V_mono HO_34.out (fun _ hk => ⟨hk.1.1, ⟨hk.2, hk.1.2.1⟩⟩))⟩, ⟨rpV (Kd.V_mono HO_330003.out (fun _ hk => ⟨hk.1.1, ⟨hk.2, hk.1.2.1⟩⟩))⟩, ⟨by (with_reducible repeat (first | refine blk_drewN ?_ _ | refine blk_drew ?_ | refine blk_alloc ?_ _)); exact BK329.out⟩, ⟨bl⟩⟩
             ·rw [if_neg c80] at H
              exact absurd H (by simp)
         ·replace c25 := Bool.eq_false_iff.mpr c25
          subst c25
          replace H := iF H
          obtain rfl := Option.some.inj H
          have p336 : 0 ≤ (x36_2 : Int) := of_decide_eq_true am
          have q336 : x36_2 < (l0_3.length : Int) := of_decide_eq_true am
          obtain ⟨ad336, e336, hx336_0, hx336_1⟩ := at_T93 (Kd.V_reads' HO_34.out).2.2 x36_2 p336 q336
          cases e336
          replace p336 := eq_true p336
          replace q336 := eq_true q336
          try go_wp2_with (first | ((with_reducible refine gD 5 rfl ?_); (try (refine gate_guard rfl ?_; dsimp only)); refine boxZ 5 #[.string (⟨#[]⟩ : ByteArray), .int .i64 0] 93 ?_; intro gb337 hg w90 hbox hb; replace HO_3 := Aside0.mk (Kd.R_below (rpR HO_3.out) hb); replace HO_34 := Aside0.mk (Kd.V_below (Kd.V_elderB (rpV HO_34.out) gb337 (Nat.le_of_eq hg.symm)) hb); replace HO_330003 := Aside0.mk (Kd.V_below (Kd.V_elderB (rpV HO_330003.out) gb337 (Nat.le_of_eq hg.symm)) hb); have BK337 := Aside0.mk hbox; have GW337 := gw (w := w) hg; have GE337 := gw (w := w) hg; replace HB := bs (w := w) hb; have NB329_337 := nl BK329 hg; have NB337_329 := nr BK329 hg; replace BK329 := bv BK329 hb; clear hb hbox hg; have hnb91 := NB337_329.out; have hnc91 := NB329_337.out; obtain ⟨Z92_0, Z92_1, Y92_0, Y92_1⟩ := cf2 BK337))
          have n0_ : Aside0 (Kd.R (Kd.int .i64) 3 ((w90.setCell ⟨gb337, 0, none⟩ (.string ((rd_T93 l0_3 x36_2).f0))).setCell ⟨gb337, 1, none⟩ (.int .i64 ((rd_T93 l0_3 x36_2).f1))) w.heap.size (fun k_ => (w.heap.size ≤ k_)) u3 x3_2) := ⟨rpR (Kd.R_mono (Kd.R_far (p := ⟨gb337, 1, none⟩) (Kd.R_far (p := ⟨gb337, 0, none⟩) (Kd.R_types HO_3.out BK337.out (by decide)) (fun _ hk => hk.2) (.string ((rd_T93 l0_3 x36_2).f0))) (fun _ hk => hk.2) (.int .i64 ((rd_T93 l0_3 x36_2).f1))) (fun _ hk => hk.1))⟩
          have n1_ : Aside0 (Kd.V k93 93 ((w90.setCell ⟨gb337, 0, none⟩ (.string ((rd_T93 l0_3 x36_2).f0))).setCell ⟨gb337, 1, none⟩ (.int .i64 ((rd_T93 l0_3 x36_2).f1))) w.heap.size (fun k_ => (P0_3_ k_ ∨ w.heap.size ≤ k_) ∧ some k_ ≠ (u3 : Value).ownBlock ∧ k_ ≠ gb329 ∧ k_ ≠ gb337) (.slice (some ad336) l0_3.length c0_3) l0_3) := ⟨rpV (Kd.V_mono (Kd.V_far (p := ⟨gb337, 1, none⟩) (Kd.V_far (p := ⟨gb337, 0, none⟩) (Kd.V_mono HO_34.out (fun k_ hk => (⟨hk, hk.2⟩ : _ ∧ k_ ≠ gb337))) (fun _ hk => hk.2) (.string ((rd_T93 l0_3 x36_2).f0))) (fun _ hk => hk.2) (.int .i64 ((rd_T93 l0_3 x36_2).f1))) (fun _ hk => ⟨hk.1.1.1, ⟨hk.1.1.2.1, ⟨hk.1.1.2.2, hk.1.2⟩⟩⟩))⟩
          have n2_ : Aside0 (Kd.V k93 93 ((w90.setCell ⟨gb337, 0, none⟩ (.string ((rd_T93 l0_3 x36_2).f0))).setCell ⟨gb337, 1, none⟩ (.int .i64 ((rd_T93 l0_3 x36_2).f1))) w.heap.size (fun k_ => (P0_3_ k_ ∨ w.heap.size ≤ k_) ∧ some k_ ≠ (u3 : Value).ownBlock ∧ k_ ≠ gb329 ∧ k_ ≠ gb337) (.slice (some ad336) l0_3.length c0_3) l0_3) := ⟨rpV (Kd.V_mono (Kd.V_far (p := ⟨gb337, 1, none⟩) (Kd.V_far (p := ⟨gb337, 0, none⟩) (Kd.V_mono HO_330003.out (fun k_ hk => (⟨hk, hk.2⟩ : _ ∧ k_ ≠ gb337))) (fun _ hk => hk.2) (.string ((rd_T93 l0_3 x36_2).f0))) (fun _ hk => hk.2) (.int .i64 ((rd_T93 l0_3 x36_2).f1))) (fun _ hk => ⟨hk.1.1.1, ⟨hk.1.1.2.1, ⟨hk.1.1.2.2, hk.1.2⟩⟩⟩))⟩
          have n3_ : Aside0 (((w90.setCell ⟨gb337, 0, none⟩ (.string ((rd_T93 l0_3 x36_2).f0))).setCell ⟨gb337, 1, none⟩ (.int .i64 ((rd_T93 l0_3 x36_2).f1))).heap[gb329]? = some (.cells #[.int .i64 a0_0, .int .i64 a0_1, .slice A0_2 l0_2.length c0_2, .slice (some ad336) l0_3.length c0_3, .slice A0_4 l0_4.length c0_4] 26 (0, 0))) := ⟨bkk⟩
          have n4_ : Aside0 (((w90.setCell ⟨gb337, 0, none⟩ (.string ((rd_T93 l0_3 x36_2).f0))).setCell ⟨gb337, 1, none⟩ (.int .i64 ((rd_T93 l0_3 x36_2).f1))).heap[gb337]? = some (.cells #[.string ((rd_T93 l0_3 x36_2).f0), .int .i64 ((rd_T93 l0_3 x36_2).f1)] 93 (0, 0))) := ⟨bkk⟩
          have n5_ : Aside0 (Below w.heap.size w ((w90.setCell ⟨gb337, 0, none⟩ (.string ((rd_T93 l0_3 x36_2).f0))).setCell ⟨gb337, 1, none⟩ (.int .i64 ((rd_T93 l0_3 x36_2).f1)))) := ⟨bl⟩
          (try clear HO_3)
          (try clear HO_34)
          (try clear HO_330003)
          (try clear BK329)
          (try clear BK337)
          (try clear HB)
          generalize ((w90.setCell ⟨gb337, 0, none⟩ (.string ((rd_T93 l0_3 x36_2).f0))).setCell ⟨gb337, 1, none⟩ (.int .i64 ((rd_T93 l0_3 x36_2).f1))) = w93 at n0_ n1_ n2_ n3_ n4_ n5_ ⊢
          have HO_3 := n0_
          have HO_34 := n1_
          have HO_330003 := n2_
          have BK329 := n3_
          have BK337 := n4_
          have HB := n5_
          clear n0_ n1_ n2_ n3_ n4_ n5_
          replace HO_3 := Aside0.mk (Kd.R_drew HO_3.out); replace HO_34 := Aside0.mk (Kd.V_drew HO_34.out); replace HO_330003 := Aside0.mk (Kd.V_drew HO_330003.out); replace BK329 := Aside0.mk (blk_drew BK329.out); replace BK337 := Aside0.mk (blk_drew BK337.out); replace HB := Aside0.mk (below_drew1 HB.out)
          refine start_ (n := 33) (S := fun w' => w'.cell? ⟨gb337, 0, none⟩ = some (.string ((rd_T93 l0_3 x36_2).f0)) ∧ w'.cell? ⟨gb337, 1, none⟩ = some (.int .i64 ((rd_T93 l0_3 x36_2).f1))) (ds := []) (bo 33 0) (by kernel_rfl) rfl rfl ⟨cb 0 BK337, cb 1 BK337⟩ (fun hHeld => ?_); refine with_tabW impl_DiskOk.tab7 impl_DiskOk.bits7 (fun HT_ HW_ => ?_)
          generalize w93.drew = w94 at HO_3 HO_34 HO_330003 BK329 BK337 HB hHeld ⊢
          refine pV 0 41 (bo 33 1) ?_
          refine tV 1 42 (bo 33 3) ?_
          refine one_ (i := 2) (N := some 43) (bo 33 7) rfl rfl (one_of HT_.out (by kernel_rfl)) (by decide) (fun K hK => ?_)
          refine goes_ Try.func86 (by kernel_rfl) rfl #[.string ((rd_T93 l0_3 x36_2).f0)] (by rfl) rfl rfl sa ?_
          with_reducible refine (impl_nameOk.calls k2 ((rd_T93 l0_3 x36_2).f0) false _ A24.out).mono ?_
          rintro e w' ⟨rfl, ⟨nd, rfl⟩⟩
          refine ⟨_, rfl, ?_⟩
          refine hK.out _ _ ⟨cb 0 BK337, cb 1 BK337⟩ (fun hHeld => ?_)
          clear hK K
          refine norm_ (a' := ?_) ?_ ?_
          rotate_left
          ·show Act.put _ (some 43) _ = _
           simp only [Act.put, List.setIfInBounds_toArray, List.set_cons_zero, List.set_cons_succ, i64_w, i32_w]
           rfl
          refine pV 3 44 (bo 33 15) ?_
          refine pV 4 45 (bo 33 31) ?_
          refine pU 5 46 (bo 33 63) ?_
          refine pU 6 47 (bo 33 127) ?_
          refine pU 7 48 (bo 33 255) ?_
          refine pU 8 49 (bo 33 511) ?_
          refine pU 9 50 (bo 33 1023) ?_
          refine pU 10 51 (bo 33 2047) ?_
          refine pU 11 52 (bo 33 4095) ?_
          refine pU 12 53 (bo 33 8191) ?_
          refine pU 13 54 (bo 33 16383) ?_
          refine pU 14 55 (bo 33 32767) ?_
          refine pU 15 56 (bo 33 65535) ?_
          refine pU 16 57 (bo 33 131071) ?_
          refine pU 17 58 (bo 33 262143) ?_
          refine pU 18 59 (bo 33 524287) ?_
          refine pV 19 60 (bo 33 1048575) ?_
          refine pV 20 61 (bo 33 2097151) ?_
          refine pU 21 62 (bo 33 4194303) ?_
          refine pU 22 63 (bo 33 8388607) ?_
          refine pU 23 64 (bo 33 16777215) ?_
          refine pU 24 65 (bo 33 33554431) ?_
          refine pU 25 66 (bo 33 67108863) ?_
          refine pV 26 67 (bo 33 134217727) ?_
          refine pV 27 68 (bo 33 268435455) ?_
          refine pU 28 69 (bo 33 536870911) ?_
          refine pU 29 70 (bo 33 1073741823) ?_
          refine pU 30 71 (bo 33 2147483647) ?_
          refine pU 31 72 (bo 33 4294967295) ?_
          refine pV 32 73 (bo 33 8589934591) ?_
          refine done_ (done_of HT_.out (by kernel_rfl)) ?_
          try go_wp2
          go_ret
          exact ⟨fe, bl⟩
        ·rw [if_neg c23] at H
         exact absurd H (by simp)
       ·rw [if_neg c22] at H
        exact absurd H (by simp)
      ·rw [if_neg c21] at H
       have c21b0 : decide (x36_2 < (l0_3.length : Int)) = false := decide_eq_false c21
       clear c21
       have H' := Aside0.mk H
       clear H
       obtain ⟨Z95_0, Z95_1, Z95_2, Z95_3, Z95_4, Y95_0, Y95_1, Y95_2, Y95_3, Y95_4⟩ := cf5 BK329
       go_wp2
       go_loopg [3, 6, 85] k2 (fun kq v3 v6 v85 w' => ∃ (x3_3 : List Int) (x6_3 : List (S93)) (x85_3 : Int), v85 = .int .i64 x85_3 ∧ Aside0 (impl_DiskOk.l1 kq x3_3 x6_3 l0_4 (l0_4.length : Int) x85_3 a0_0 a0_1 l0_2 l0_3 l0_4 = some r) ∧ Aside0 (kq ≤ k2) ∧ Aside0 (Kd.R (Kd.int .i64) 3 w' w.heap.size (fun k_ => (w.heap.size ≤ k_)) v3 x3_3) ∧ Aside0 (Kd.V k93 93 w' w.heap.size (fun k_ => (P0_3_ k_ ∨ w.heap.size ≤ k_) ∧ some k_ ≠ (v3 : Value).ownBlock ∧ k_ ≠ gb329) v6 x6_3) ∧ Aside0 (Kd.V k93 93 w' w.heap.size (fun k_ => (P0_3_ k_ ∨ w.heap.size ≤ k_) ∧ some k_ ≠ (v3 : Value).ownBlock ∧ k_ ≠ gb329) (.slice A0_3 l0_3.length c0_3) l0_3) ∧ Aside0 (w'.heap[gb329]? = some (.cells #[.int .i64 a0_0, .int .i64 a0_1, (.slice A0_2 l0_2.length c0_2), (.slice A0_3 l0_3.length c0_3), (.slice A0_4 l0_4.length c0_4)] 26 (0, 0))) ∧ Aside0 (Below w.heap.size w w'))
       case atStart => exact ⟨(x3_2), (l0_3), (0), fa, H', ⟨Nat.le_refl _⟩, ⟨rpR HO_3.out⟩, ⟨rpV HO_330003.out⟩, ⟨rpV HO_330003.out⟩, ⟨by (with_reducible repeat (first | refine blk_drewN ?_ _ | refine blk_drew ?_ | refine blk_alloc ?_ _)); exact BK329.out⟩, ⟨bl⟩⟩
       case round => as_aux_lemma =>
        clear H'
        try clear c2
        try clear p2
        try clear p3
        try clear q3
        try clear hx3
        try clear p6
        try clear c8
        try clear c9
        try clear c21
        try clear c21b0
        try clear c22
        try clear c23
        try clear c25
        try clear p33
        try clear q33
        try clear hx33
        try clear p64
        try clear c80
        try clear c82
        try clear c86
        try clear c87
        try clear c88
        try clear c91
        try clear Z83_0 Z83_1
        try clear Z88_0 Z88_1
        try clear Z92_0 Z92_1
        try clear Z95_0 Z95_1 Z95_2 Z95_3 Z95_4
        try clear Y83_0 Y83_1
        try clear Y88_0 Y88_1
        try clear Y92_0 Y92_1
        try clear Y95_0 Y95_1 Y95_2 Y95_3 Y95_4
        try clear hx336_0
        try clear hx336_1
        try clear p336
        try clear q336
        obtain ⟨x3_3, x6_3, x85_3, rfl, HA, HK3, HO_3, HO_6, HO_330003, BK329, HB⟩ := hrel
        cases gk with
        | zero => exact absurd HA.out (by simp [impl_DiskOk.l1])
        | succ k3 =>
         have H := HA.out
         clear HA
         simp only [impl_DiskOk.l1] at H
         by_cases c96 : x85_3 < (l0_4.length : Int)
         ·rw [if_pos c96] at H
          have c96b0 : decide (x85_3 < (l0_4.length : Int)) = true := decide_eq_true c96
          clear c96
          by_cases c97 : 0 ≤ x85_3
          ·rw [if_pos c97] at H
           have c97b0 : decide (0 ≤ x85_3) = true := decide_eq_true c97
           clear c97
           by_cases c98 : x85_3 < (l0_4.length : Int)
           ·rw [if_pos c98] at H
            have c98b0 : decide (x85_3 < (l0_4.length : Int)) = true := decide_eq_true c98
            clear c98
            replace H := Option.bind_eq_some_iff.mp H
            obtain ⟨⟨t352, t355⟩, A990, H⟩ := H
            replace H : (if t355 = true then ((impl_nameOk.f k3 ((rd_T95 l0_4 x85_3).f1)).bind fun t356 => (impl_DiskOk.j3 k3 x3_3 t352 l0_4 (l0_4.length : Int) x85_3 (!t356) a0_0 a0_1 l0_2 l0_3 l0_4 ((rd_T95 l0_4 x85_3).f0) ((rd_T95 l0_4 x85_3).f1) ((rd_T95 l0_4 x85_3).f2) ((rd_T95 l0_4 x85_3).f3))) else (impl_DiskOk.j3 k3 x3_3 t352 l0_4 (l0_4.length : Int) x85_3 true a0_0 a0_1 l0_2 l0_3 l0_4 ((rd_T95 l0_4 x85_3).f0) ((rd_T95 l0_4 x85_3).f1) ((rd_T95 l0_4 x85_3).f2) ((rd_T95 l0_4 x85_3).f3))) = some r := H
            have A99 := Aside0.mk A990
            clear A990
            have HC100 := Aside0.mk H
            clear H
            have p350 : 0 ≤ (x85_3 : Int) := of_decide_eq_true am
            have q350 : x85_3 < (l0_4.length : Int) := of_decide_eq_true am
            obtain ⟨ad350, e350, hx350_0, hx350_1, hx350_2, hx350_3⟩ := at_T95 HR0_4.out x85_3 p350 q350
            cases e350
            replace hx350_0 := cz HB hx350_0
            replace hx350_1 := cz HB hx350_1
            replace hx350_2 := cz HB hx350_2
            replace hx350_3 := cz HB hx350_3
            replace p350 := eq_true p350
            replace q350 := eq_true q350
            go_upto_region 16 with (first | ((with_reducible refine gD 8 rfl ?_); (try (refine gate_guard rfl ?_; dsimp only)); refine boxZ 8 #[.int .i64 0, .string (⟨#[]⟩ : ByteArray), .string (⟨#[]⟩ : ByteArray), .int .i64 0] 95 ?_; intro gb351 hg w101 hbox hb; replace HO_3 := Aside0.mk (Kd.R_below (rpR HO_3.out) hb); replace HO_6 := Aside0.mk (Kd.V_below (Kd.V_elderB (rpV HO_6.out) gb351 (Nat.le_of_eq hg.symm)) hb); replace HO_330003 := Aside0.mk (Kd.V_below (Kd.V_elderB (rpV HO_330003.out) gb351 (Nat.le_of_eq hg.symm)) hb); have BK351 := Aside0.mk hbox; have GW351 := gw (w := w) hg; have GE351 := gw (w := w) hg; replace HB := bs (w := w) hb; have NB329_351 := nl BK329 hg; have NB351_329 := nr BK329 hg; replace BK329 := bv BK329 hb; clear hb hbox hg; have hnb102 := NB351_329.out; have hnc102 := NB329_351.out; obtain ⟨Z103_0, Z103_1, Z103_2, Z103_3, Y103_0, Y103_1, Y103_2, Y103_3⟩ := cf4 BK351; obtain ⟨Ao104, co104, rfl⟩ := Kd.V_slice HO_6.out) | ((with_reducible refine gC 89 rfl ?_); refine goesZ (some 92) rfl Try.func89 #[.slice Ao104 x6_3.length co104, .agg #[.int .i64 ((rd_T95 l0_4 x85_3).f0), .string ((rd_T95 l0_4 x85_3).f1), .string ((rd_T95 l0_4 x85_3).f2), .int .i64 ((rd_T95 l0_4 x85_3).f3)]] ?_; (with_reducible refine (impl_applied.calls k3 _ _ x6_3 ((rd_T95 l0_4 x85_3).f0) ((rd_T95 l0_4 x85_3).f1) ((rd_T95 l0_4 x85_3).f2) ((rd_T95 l0_4 x85_3).f3) t352 t355 _ ?side1 ?side2 A99.out).mono ?_); (case side1 => refine (Kd.V_reads' (e := 93) (base := w.heap.size) (ok := fun k_ => (((P0_3_ k_ ∨ w.heap.size ≤ k_) ∧ (some k_ ≠ (u3 : Value).ownBlock ∧ k_ ≠ gb329)) ∧ k_ ≠ gb351)) (n := x6_3.length) (c := co104) ?_).2.2; exact (rpV (Kd.V_mono (Kd.V_far (p := ⟨gb351, 3, none⟩) (Kd.V_far (p := ⟨gb351, 2, none⟩) (Kd.V_far (p := ⟨gb351, 1, none⟩) (Kd.V_far (p := ⟨gb351, 0, none⟩) (Kd.V_mono HO_6.out (fun k_ hk => (⟨hk, hk.2⟩ : _ ∧ k_ ≠ gb351))) (fun _ hk => hk.2) (.int .i64 ((rd_T95 l0_4 x85_3).f0))) (fun _ hk => hk.2) (.string ((rd_T95 l0_4 x85_3).f1))) (fun _ hk => hk.2) (.string ((rd_T95 l0_4 x85_3).f2))) (fun _ hk => hk.2) (.int .i64 ((rd_T95 l0_4 x85_3).f3))) (fun _ h_ => h_.1)))); (case side2 => exact (Kd.V_reads' HO_6.out).2.1); rintro e w105 ⟨v353, rfl, ho0, hb⟩; refine ⟨_, rfl, ?_⟩; replace HO_3 := Aside0.mk (Kd.R_below (rpR (Kd.R_mono (Kd.R_far (p := ⟨gb351, 3, none⟩) (Kd.R_far (p := ⟨gb351, 2, none⟩) (Kd.R_far (p := ⟨gb351, 1, none⟩) (Kd.R_far (p := ⟨gb351, 0, none⟩) (Kd.R_types HO_3.out BK351.out (by decide)) (fun _ hk => hk.2) (.int .i64 ((rd_T95 l0_4 x85_3).f0))) (fun _ hk => hk.2) (.string ((rd_T95 l0_4 x85_3).f1))) (fun _ hk => hk.2) (.string ((rd_T95 l0_4 x85_3).f2))) (fun _ hk => hk.2) (.int .i64 ((rd_T95 l0_4 x85_3).f3))) (fun _ h_ => h_.1))) hb); replace HO_6 := Aside0.mk (Kd.V_elder' (rpV (Kd.V_mono (Kd.V_far (p := ⟨gb351, 3, none⟩) (Kd.V_far (p := ⟨gb351, 2, none⟩) (Kd.V_far (p := ⟨gb351, 1, none⟩) (Kd.V_far (p := ⟨gb351, 0, none⟩) (Kd.V_mono HO_6.out (fun k_ hk => (⟨hk, hk.2⟩ : _ ∧ k_ ≠ gb351))) (fun _ hk => hk.2) (.int .i64 ((rd_T95 l0_4 x85_3).f0))) (fun _ hk => hk.2) (.string ((rd_T95 l0_4 x85_3).f1))) (fun _ hk => hk.2) (.string ((rd_T95 l0_4 x85_3).f2))) (fun _ hk => hk.2) (.int .i64 ((rd_T95 l0_4 x85_3).f3))) (fun _ h_ => h_.1))) (Kd.R_base ho0) hb); replace HO_330003 := Aside0.mk (Kd.V_elder' (rpV (Kd.V_mono (Kd.V_far (p := ⟨gb351, 3, none⟩) (Kd.V_far (p := ⟨gb351, 2, none⟩) (Kd.V_far (p := ⟨gb351, 1, none⟩) (Kd.V_far (p := ⟨gb351, 0, none⟩) (Kd.V_mono HO_330003.out (fun k_ hk => (⟨hk, hk.2⟩ : _ ∧ k_ ≠ gb351))) (fun _ hk => hk.2) (.int .i64 ((rd_T95 l0_4 x85_3).f0))) (fun _ hk => hk.2) (.string ((rd_T95 l0_4 x85_3).f1))) (fun _ hk => hk.2) (.string ((rd_T95 l0_4 x85_3).f2))) (fun _ hk => hk.2) (.int .i64 ((rd_T95 l0_4 x85_3).f3))) (fun _ h_ => h_.1))) (Kd.R_base ho0) hb); have HO354 := Aside0.mk (Kd.R_lower (Kd.R_newM (M := fun k_ => (w.heap.size ≤ k_)) ho0 (below_size bl) (fun k_ h_ => h_)) (below_size bl)); replace BK329 := Aside0.mk (blk_below (g := gb329) (o := .cells #[.int .i64 a0_0, .int .i64 a0_1, .slice A0_2 l0_2.length c0_2, .slice A0_3 l0_3.length c0_3, .slice (some ad350) l0_4.length c0_4] 26 (0, 0)) bkk hb); replace BK351 := Aside0.mk (blk_below (g := gb351) (o := .cells #[.int .i64 ((rd_T95 l0_4 x85_3).f0), .string ((rd_T95 l0_4 x85_3).f1), .string ((rd_T95 l0_4 x85_3).f2), .int .i64 ((rd_T95 l0_4 x85_3).f3)] 95 (0, 0)) bkk hb); replace HB := bs (w := w) hb; (try clear hb ho0)))
            (try simp only [Act.put, List.setIfInBounds_toArray, List.set_cons_zero, List.set_cons_succ])
            go_cut [102] (fun v102 wc => ∃ (kq : Nat) (x102_99 : Bool), v102 = .bool x102_99 ∧ Aside0 (impl_DiskOk.j3 kq x3_3 t352 l0_4 (l0_4.length : Int) x85_3 x102_99 a0_0 a0_1 l0_2 l0_3 l0_4 ((rd_T95 l0_4 x85_3).f0) ((rd_T95 l0_4 x85_3).f1) ((rd_T95 l0_4 x85_3).f2) ((rd_T95 l0_4 x85_3).f3) = some r) ∧ Aside0 (kq ≤ k3) ∧ Aside0 (Kd.R (Kd.int .i64) 3 wc w.heap.size (fun k_ => (w.heap.size ≤ k_)) u3 x3_3) ∧ Aside0 (Kd.R k93 93 wc w.heap.size (fun k_ => (w.heap.size ≤ k_)) v353 t352) ∧ Aside0 (Kd.V k93 93 wc w.heap.size (fun k_ => (P0_3_ k_ ∨ w.heap.size ≤ k_) ∧ some k_ ≠ (u3 : Value).ownBlock ∧ some k_ ≠ (v353 : Value).ownBlock ∧ k_ ≠ gb329 ∧ k_ ≠ gb351) (.slice A0_3 l0_3.length c0_3) l0_3) ∧ Aside0 (wc.heap[gb329]? = some (.cells #[.int .i64 a0_0, .int .i64 a0_1, (.slice A0_2 l0_2.length c0_2), (.slice A0_3 l0_3.length c0_3), (.slice (some ad350) l0_4.length c0_4)] 26 (0, 0))) ∧ Aside0 (wc.heap[gb351]? = some (.cells #[.int .i64 ((rd_T95 l0_4 x85_3).f0), .string ((rd_T95 l0_4 x85_3).f1), .string ((rd_T95 l0_4 x85_3).f2), .int .i64 ((rd_T95 l0_4 x85_3).f3)] 95 (0, 0))) ∧ Aside0 (Below w.heap.size w wc))
            case first => as_aux_lemma =>
             have H := HC100.out
             clear HC100
             by_cases c106 : t355 = true
             ·subst c106
              replace H := iT H
              obtain ⟨t356, A107, H⟩ := bd H
              have H' := Aside0.mk H
              clear H
              have hnb108 := NB351_329.out
              have hnc108 := NB329_351.out
              obtain ⟨Z109_0, Z109_1, Z109_2, Z109_3, Y109_0, Y109_1, Y109_2, Y109_3⟩ := cf4 BK351
              go_wp2_with (first | (go_at_call 86; (with_reducible refine (impl_nameOk.calls k3 ((rd_T95 l0_4 x85_3).f1) t356 _ A107.out).mono ?_); rintro e w' ⟨rfl, ⟨nd, rfl⟩⟩))
              go_meet
              case rel => exact ⟨_, (!t356), fa, H', ⟨by have := HJ1.out; have := HK2.out; have := HK3.out; first | omega | exact Nat.le_refl _⟩, ⟨rpR HO_3.out⟩, ⟨rpR (Kd.R_mono HO354.out (fun _ hk => hk.1))⟩, ⟨rpV (Kd.V_mono HO_330003.out (fun _ hk => ⟨hk.1.1.1, ⟨hk.1.1.2.1, ⟨hk.2, ⟨hk.1.1.2.2, hk.1.2⟩⟩⟩⟩))⟩, ⟨by (with_reducible repeat (first | refine blk_drewN ?_ _ | refine blk_drew ?_ | refine blk_alloc ?_ _)); exact BK329.out⟩, ⟨by (with_reducible repeat (first | refine blk_drewN ?_ _ | refine blk_drew ?_ | refine blk_alloc ?_ _)); exact BK351.out⟩, ⟨bl⟩⟩
             ·replace c106 := Bool.eq_false_iff.mpr c106
              subst c106
              replace H := iF H
              have H' := Aside0.mk H
              clear H
              go_wp2
              go_meet
              case rel => exact ⟨_, (true), fa, H', ⟨by have := HJ1.out; have := HK2.out; have := HK3.out; first | omega | exact Nat.le_refl _⟩, ⟨rpR HO_3.out⟩, ⟨rpR (Kd.R_mono HO354.out (fun _ hk => hk.1))⟩, ⟨rpV (Kd.V_mono HO_330003.out (fun _ hk => ⟨hk.1.1.1, ⟨hk.1.1.2.1, ⟨hk.2, ⟨hk.1.1.2.2, hk.1.2⟩⟩⟩⟩))⟩, ⟨by (with_reducible repeat (first | refine blk_drewN ?_ _ | refine blk_drew ?_ | refine blk_alloc ?_ _)); exact BK329.out⟩, ⟨by (with_reducible repeat (first | refine blk_drewN ?_ _ | refine blk_drew ?_ | refine blk_alloc ?_ _)); exact BK351.out⟩, ⟨bl⟩⟩
            case rest => as_aux_lemma =>
             clear HC100
             try clear c1
             try clear c2
             try clear p2
             try clear p3
             try clear q3
             try clear hx3
             try clear p6
             try clear c8
             try clear c9
             try clear c10
             try clear c21
             try clear c21b0
             try clear c22
             try clear c23
             try clear c25
             try clear p33
             try clear q33
             try clear hx33
             try clear p35
             try clear q35
             try clear hx35
             try clear p64
             try clear c80
             try clear c82
             try clear c86
             try clear c87
             try clear c88
             try clear c89
             try clear c91
             try clear c96
             try clear c96b0
             try clear c97
             try clear c97b0
             try clear c98
             try clear c98b0
             try clear c102
             try clear c106
             try clear c108
             try clear Z103_0 Z103_1 Z103_2 Z103_3
             try clear Z109_0 Z109_1 Z109_2 Z109_3
             try clear Z83_0 Z83_1
             try clear Z88_0 Z88_1
             try clear Z92_0 Z92_1
             try clear Z95_0 Z95_1 Z95_2 Z95_3 Z95_4
             try clear Y103_0 Y103_1 Y103_2 Y103_3
             try clear Y109_0 Y109_1 Y109_2 Y109_3
             try clear Y83_0 Y83_1
             try clear Y88_0 Y88_1
             try clear Y92_0 Y92_1
             try clear Y95_0 Y95_1 Y95_2 Y95_3 Y95_4
             try clear hx336_0
             try clear hx336_1
             try clear hx350_0
             try clear hx350_1
             try clear hx350_2
             try clear hx350_3
             try clear p2
             try clear p3
             try clear p33
             try clear p336
             try clear p350
             try clear p6
             try clear p64
             try clear q3
             try clear q33
             try clear q336
             try clear q350
             obtain ⟨kq, x102_99, rfl, HA, HJ99, HO_3, HO_9, HO_330003, BK329, BK351, HB⟩ := hcut
             cases kq with
             | zero => exact absurd HA.out (by simp [impl_DiskOk.j3])
             | succ kj99 =>
              have H := HA.out
              clear HA
              simp only [impl_DiskOk.j3] at H
              by_cases c110 : x102_99 = true
              ·subst c110
               replace H := iT H
               obtain rfl := Option.some.inj H
               go_wp2
               go_ret
               exact ⟨fe, bl⟩
              ·replace c110 := Bool.eq_false_iff.mpr c110
               subst c110
               replace H := iF H
               by_cases c111 : ((rd_T95 l0_4 x85_3).f0) = 1
               ·rw [if_pos c111] at H
                have c111b0 : (((rd_T95 l0_4 x85_3).f0) == 1) = true := beq_iff_eq.mpr c111
                have c111b1 : (((rd_T95 l0_4 x85_3).f0) != 1) = false := bne_eq_false_iff_eq.mpr c111
                clear c111
                obtain ⟨t357, A112, H⟩ := bd H
                by_cases c113 : t357 < 0
                ·rw [if_pos c113] at H
                 have c113b0 : decide (t357 < 0) = true := decide_eq_true c113
                 clear c113
                 obtain rfl := Option.some.inj H
                 have hnb114 := NB351_329.out
                 have hnc114 := NB329_351.out
                 obtain ⟨Z115_0, Z115_1, Z115_2, Z115_3, Y115_0, Y115_1, Y115_2, Y115_3⟩ := cf4 BK351; obtain ⟨Z116_0, Z116_1, Z116_2, Z116_3, Z116_4, Y116_0, Y116_1, Y116_2, Y116_3, Y116_4⟩ := cf5 BK329
                 go_wp2_with (first | ((with_reducible refine gC 87 rfl ?_); refine goesZ (some 109) rfl Try.func87 #[.agg #[.int .i64 a0_0, .int .i64 a0_1, .slice A0_2 l0_2.length c0_2, .slice A0_3 l0_3.length c0_3, .slice (some ad350) l0_4.length c0_4], .int .i64 ((rd_T95 l0_4 x85_3).f3)] ?_; (with_reducible refine (impl_inodeAt.calls a0_0 a0_1 _ _ l0_2 _ _ l0_3 _ _ l0_4 ((rd_T95 l0_4 x85_3).f3) t357 _ ?side1 ?side2 ?side3 ?side4 ?side5 ?side6 A112.out).mono ?_); (case side1 => exact ca (Kd.C_below HR0_2.out HB.out)); (case side2 => exact HC0_2.out); (case side3 => exact ca ((Kd.V_reads' HO_330003.out).2.2)); (case side4 => exact (Kd.V_reads' HO_330003.out).2.1); (case side5 => exact ca (Kd.C_below HR0_4.out HB.out)); (case side6 => exact HC0_4.out); rintro e w117 ⟨rfl, hb⟩; refine ⟨_, rfl, ?_⟩; replace HO_3 := Aside0.mk (Kd.R_below (rpR HO_3.out) hb); replace HO_9 := Aside0.mk (Kd.R_below (rpR HO_9.out) hb); replace HO_330003 := Aside0.mk (Kd.V_below (rpV HO_330003.out) hb); replace BK329 := bv BK329 hb; replace BK351 := bv BK351 hb; replace HB := bs (w := w) hb; (try clear hb)))
                 go_ret
                 exact ⟨fe, bl⟩
                ·rw [if_neg c113] at H
                 have c113b0 : decide (t357 < 0) = false := decide_eq_false c113
                 clear c113
                 obtain ⟨t358, A118, H⟩ := bd H
                 by_cases c119 : t358 = true
                 ·subst c119
                  replace H := iT H
                  obtain rfl := Option.some.inj H
                  have hnb120 := NB351_329.out
                  have hnc120 := NB329_351.out
                  obtain ⟨Z121_0, Z121_1, Z121_2, Z121_3, Y121_0, Y121_1, Y121_2, Y121_3⟩ := cf4 BK351; obtain ⟨Z122_0, Z122_1, Z122_2, Z122_3, Z122_4, Y122_0, Y122_1, Y122_2, Y122_3, Y122_4⟩ := cf5 BK329
                  go_wp2_with (first | ((with_reducible refine gC 87 rfl ?_); refine goesZ (some 109) rfl Try.func87 #[.agg #[.int .i64 a0_0, .int .i64 a0_1, .slice A0_2 l0_2.length c0_2, .slice A0_3 l0_3.length c0_3, .slice (some ad350) l0_4.length c0_4], .int .i64 ((rd_T95 l0_4 x85_3).f3)] ?_; (with_reducible refine (impl_inodeAt.calls a0_0 a0_1 _ _ l0_2 _ _ l0_3 _ _ l0_4 ((rd_T95 l0_4 x85_3).f3) t357 _ ?side1 ?side2 ?side3 ?side4 ?side5 ?side6 A112.out).mono ?_); (case side1 => exact ca (Kd.C_below HR0_2.out HB.out)); (case side2 => exact HC0_2.out); (case side3 => exact ca ((Kd.V_reads' HO_330003.out).2.2)); (case side4 => exact (Kd.V_reads' HO_330003.out).2.1); (case side5 => exact ca (Kd.C_below HR0_4.out HB.out)); (case side6 => exact HC0_4.out); rintro e w123 ⟨rfl, hb⟩; refine ⟨_, rfl, ?_⟩; replace HO_3 := Aside0.mk (Kd.R_below (rpR HO_3.out) hb); replace HO_9 := Aside0.mk (Kd.R_below (rpR HO_9.out) hb); replace HO_330003 := Aside0.mk (Kd.V_below (rpV HO_330003.out) hb); replace BK329 := bv BK329 hb; replace BK351 := bv BK351 hb; replace HB := bs (w := w) hb; (try clear hb); obtain ⟨Z124_0, Z124_1, Z124_2, Z124_3, Y124_0, Y124_1, Y124_2, Y124_3⟩ := cf4 BK351; obtain ⟨Ao125, co125, rfl⟩ := Kd.R_slice HO_3.out) | (go_at_call 88; (with_reducible refine (slices_Contains_int_int.calls kj99 _ _ x3_3 ((rd_T95 l0_4 x85_3).f3) true _ ?side1 ?side2 A118.out).mono ?_); (case side1 => exact ca ((Kd.R_reads' HO_3.out).2.2)); (case side2 => exact (Kd.R_reads' HO_3.out).2.1); rintro e w' ⟨rfl, ⟨nd, rfl⟩⟩))
                  go_ret
                  exact ⟨fe, bl⟩
                 ·replace c119 := Bool.eq_false_iff.mpr c119
                  subst c119
                  replace H := iF H
                  by_cases c126 : x3_3.length < 17592186044416
                  ·rw [if_pos c126] at H
                   have LMc126 := Aside0.mk c126
                   clear c126
                   obtain ⟨y359, hy359⟩ : ∃ y_ : List Int, y_ = (x3_3 ++ [((rd_T95 l0_4 x85_3).f3)]) := ⟨_, rfl⟩
                   replace H : (impl_DiskOk.l1 kj99 y359 t352 l0_4 (l0_4.length : Int) (wrap64 (x85_3 + 1)) a0_0 a0_1 l0_2 l0_3 l0_4) = some r := by first | (rw [hy359]; with_reducible exact H) | (have H2_ := (Option.bind_some _ _).symm.trans H; rw [hy359]; with_reducible exact H2_) | (have H2_ := (Option.bind_some _ _).symm.trans H; with_reducible exact H2_) | with_reducible exact H | (rw [hy359]; exact H) | exact H
                   have Ny359 := Aside0.mk hy359
                   clear hy359
                   have H' := Aside0.mk H
                   clear H
                   have hnb127 := NB351_329.out
                   have hnc127 := NB329_351.out
                   obtain ⟨Z128_0, Z128_1, Z128_2, Z128_3, Y128_0, Y128_1, Y128_2, Y128_3⟩ := cf4 BK351; obtain ⟨Z129_0, Z129_1, Z129_2, Z129_3, Z129_4, Y129_0, Y129_1, Y129_2, Y129_3, Y129_4⟩ := cf5 BK329
                   go_wp2_with (first | ((with_reducible refine gC 87 rfl ?_); refine goesZ (some 109) rfl Try.func87 #[.agg #[.int .i64 a0_0, .int .i64 a0_1, .slice A0_2 l0_2.length c0_2, .slice A0_3 l0_3.length c0_3, .slice (some ad350) l0_4.length c0_4], .int .i64 ((rd_T95 l0_4 x85_3).f3)] ?_; (with_reducible refine (impl_inodeAt.calls a0_0 a0_1 _ _ l0_2 _ _ l0_3 _ _ l0_4 ((rd_T95 l0_4 x85_3).f3) t357 _ ?side1 ?side2 ?side3 ?side4 ?side5 ?side6 A112.out).mono ?_); (case side1 => exact ca (Kd.C_below HR0_2.out HB.out)); (case side2 => exact HC0_2.out); (case side3 => exact ca ((Kd.V_reads' HO_330003.out).2.2)); (case side4 => exact (Kd.V_reads' HO_330003.out).2.1); (case side5 => exact ca (Kd.C_below HR0_4.out HB.out)); (case side6 => exact HC0_4.out); rintro e w130 ⟨rfl, hb⟩; refine ⟨_, rfl, ?_⟩; replace HO_3 := Aside0.mk (Kd.R_below (rpR HO_3.out) hb); replace HO_9 := Aside0.mk (Kd.R_below (rpR HO_9.out) hb); replace HO_330003 := Aside0.mk (Kd.V_below (rpV HO_330003.out) hb); replace BK329 := bv BK329 hb; replace BK351 := bv BK351 hb; replace HB := bs (w := w) hb; (try clear hb); obtain ⟨Z131_0, Z131_1, Z131_2, Z131_3, Y131_0, Y131_1, Y131_2, Y131_3⟩ := cf4 BK351; obtain ⟨Ao132, co132, rfl⟩ := Kd.R_slice HO_3.out) | (go_at_call 88; (with_reducible refine (slices_Contains_int_int.calls kj99 _ _ x3_3 ((rd_T95 l0_4 x85_3).f3) false _ ?side1 ?side2 A118.out).mono ?_); (case side1 => exact ca ((Kd.R_reads' HO_3.out).2.2)); (case side2 => exact (Kd.R_reads' HO_3.out).2.1); rintro e w' ⟨rfl, ⟨nd, rfl⟩⟩) | ((with_reducible refine gate_builtin (b := .append) (xs := #[.tmp 117, .tmp 120]) rfl ?_); (try (refine gate_guard rfl ?_; dsimp only)); at_builtin; refine Kd.R_append (Kd.int .i64) (w0 := w) w.heap.size rfl (.tmp 117) (.tmp 120) 61 3 (.int .i64 0) 8 rfl Try.underlying61 info3 rfl (by decide) (by omega) (.slice Ao132 x3_3.length co132) x3_3 ((rd_T95 l0_4 x85_3).f3) [.int .i64 ((rd_T95 l0_4 x85_3).f3)] (fun k_ => (w.heap.size ≤ k_)) (fun _ => False) rfl rfl ?aP (fun _ hk => hk.elim) ?aF ?aO ?aB ?aS ?aL ?_; (case aP => exact rfl); (case aB => exact bl); (case aF => exact (fun k_ hk => (Nat.le_trans (below_size bl) hk))); (case aO => exact (rpR HO_3.out)); (case aS => exact (below_size bl)); (case aL => have := LMc126.out; omega); intro v360 w133 ho hb hg hat; rw [← Ny359.out] at ho; replace HO_9 := Aside0.mk (Kd.R_over' (rpR HO_9.out) (Kd.R_typed (rpR HO_3.out)) (by decide) hg); replace HO_330003 := Aside0.mk (Kd.V_afterv (ok := (fun k_ => (P0_3_ k_ ∨ w.heap.size ≤ k_) ∧ some k_ ≠ (v353 : Value).ownBlock ∧ k_ ≠ gb329 ∧ k_ ≠ gb351)) (rpV (Kd.V_mono HO_330003.out (fun _ hk => ⟨⟨hk.1, ⟨hk.2.2.1, ⟨hk.2.2.2.1, hk.2.2.2.2⟩⟩⟩, hk.2.1⟩))) hg hat); replace BK329 := Aside0.mk (blk_grown (g := gb329) (o := .cells #[.int .i64 a0_0, .int .i64 a0_1, .slice A0_2 l0_2.length c0_2, .slice A0_3 l0_3.length c0_3, .slice (some ad350) l0_4.length c0_4] 26 (0, 0)) bk hg (Kd.R_ne HO_3.out BK329.out (by decide))); replace BK351 := Aside0.mk (blk_grown (g := gb351) (o := .cells #[.int .i64 ((rd_T95 l0_4 x85_3).f0), .string ((rd_T95 l0_4 x85_3).f1), .string ((rd_T95 l0_4 x85_3).f2), .int .i64 ((rd_T95 l0_4 x85_3).f3)] 95 (0, 0)) bk hg (Kd.R_ne HO_3.out BK351.out (by decide))); replace HB := Aside0.mk (hb); have HO361 := Aside0.mk (ho); clear HO_3; clear ho hb hg hat))
                   go_roundg kj99
                   case measure => have := HJ1.out; have := HK2.out; have := HK3.out; have := HJ99.out; omega
                   case rel => exact ⟨(y359), (t352), (wrap64 (x85_3 + 1)), fa, H', ⟨by have := HJ1.out; have := HK2.out; have := HK3.out; have := HJ99.out; omega⟩, ⟨rpR HO361.out⟩, ⟨Kd.V_mono (Kd.R_V (rpR (Kd.R_types (Kd.R_apart' HO_9.out (Kd.R_typed HO361.out) (by decide)) BK329.out (by decide)))) (fun k_ hk => ⟨.inr hk.1.1, ⟨hk.1.2, hk.2⟩⟩)⟩, ⟨rpV (Kd.V_mono HO_330003.out (fun _ hk => ⟨hk.1.1, ⟨hk.2, hk.1.2.2.1⟩⟩))⟩, ⟨by (with_reducible repeat (first | refine blk_drewN ?_ _ | refine blk_drew ?_ | refine blk_alloc ?_ _)); exact BK329.out⟩, ⟨bl⟩⟩
                  ·rw [if_neg c126] at H
                   exact absurd H (by simp)
               ·rw [if_neg c111] at H
                have c111b0 : (((rd_T95 l0_4 x85_3).f0) == 1) = false := beq_eq_false_iff_ne.mpr c111
                have c111b1 : (((rd_T95 l0_4 x85_3).f0) != 1) = true := bne_iff_ne.mpr c111
                have H' := Aside0.mk H
                clear H
                have hnb134 := NB351_329.out
                have hnc134 := NB329_351.out
                obtain ⟨Z135_0, Z135_1, Z135_2, Z135_3, Y135_0, Y135_1, Y135_2, Y135_3⟩ := cf4 BK351
                go_wp2
                go_roundg kj99
                case measure => have := HJ1.out; have := HK2.out; have := HK3.out; have := HJ99.out; omega
                case rel => exact ⟨(x3_3), (t352), (wrap64 (x85_3 + 1)), fa, H', ⟨by have := HJ1.out; have := HK2.out; have := HK3.out; have := HJ99.out; omega⟩, ⟨rpR HO_3.out⟩, ⟨Kd.V_mono (Kd.R_V (rpR (Kd.R_types (Kd.R_apart' HO_9.out (Kd.R_typed HO_3.out) (by decide)) BK329.out (by decide)))) (fun k_ hk => ⟨.inr hk.1.1, ⟨hk.1.2, hk.2⟩⟩)⟩, ⟨rpV (Kd.V_mono HO_330003.out (fun _ hk => ⟨hk.1, ⟨hk.2.1, hk.2.2.2.1⟩⟩))⟩, ⟨by (with_reducible repeat (first | refine blk_drewN ?_ _ | refine blk_drew ?_ | refine blk_alloc ?_ _)); exact BK329.out⟩, ⟨bl⟩⟩
           ·rw [if_neg c98] at H
            exact absurd H (by simp)
          ·rw [if_neg c97] at H
           exact absurd H (by simp)
         ·rw [if_neg c96] at H
          have c96b0 : decide (x85_3 < (l0_4.length : Int)) = false := decide_eq_false c96
          clear c96
          obtain rfl := Option.some.inj H
          obtain ⟨Ao136, co136, eo136⟩ := Kd.R_slice HO_3.out
          subst eo136
          obtain ⟨Z137_0, Z137_1, Z137_2, Z137_3, Z137_4, Y137_0, Y137_1, Y137_2, Y137_3, Y137_4⟩ := cf5 BK329
          go_wp2
          go_ret
          exact ⟨fe, bl⟩
end Go.Proofs.Ytjcmcamijaelbaa.PDisk
