/- Functions of the program, each with its contract, written by a program out of the translation. -/
import Derived.Test.YtjcmcamijaelbaaPDiskx0
import Derived.Test.YtjcmcamijaelbaaPDiskx3
import Derived.Test.YtjcmcamijaelbaaPDiskx4
import Derived.Test.YtjcmcamijaelbaaZip
namespace Go.Proofs.Ytjcmcamijaelbaa.PDisk
open Go.RowKit Go.Proofs.YtjcmcamijaelbaaW.PrintWords Go.Proofs.YtjcmcamijaelbaaW.PrintLast Go.Proofs.YtjcmcamijaelbaaW.PrintMore Go.Proofs.Ytjcmcamijaelbaa.Zip
attribute [local go_sem] max2_int min2_int max_two min_two max_three min_three max_four min_four   -- for this text's walks alone
set_option linter.unusedVariables false
set_option linter.unusedSimpArgs false
/-! ### spec_DiskOk: function 26 -/
mutual
def spec_DiskOk.j0 : Nat → Bool → Int → Int → List (S89) → List (S93) → List (S95) → Option (Bool)
 | 0, _, _, _, _, _, _ => none
 | k + 1, x39, x195000, x195001, x195002, x195003, x195004 => if x39 = true then (some false) else ((spec_l4Bytes.f k x195000 x195001 x195002 x195003 x195004).bind fun t197 => (if t197 > x195000 then (some false) else (spec_DiskOk.l0 k 0 x195000 x195001 x195002 x195003 x195004)))
def spec_DiskOk.l0 : Nat → Int → Int → Int → List (S89) → List (S93) → List (S95) → Option (Bool)
 | 0, _, _, _, _, _, _ => none
 | k + 1, x3, x195000, x195001, x195002, x195003, x195004 => if x3 < (x195002.length : Int) then (if 0 ≤ x3 then ((spec_l1In.f ((rd_T89 x195002 x3).f0) 1 (wrap64 (x195001 - 1))).bind fun t200 => (if t200 = true then ((spec_l1In.f ((rd_T89 x195002 x3).f2) 0 (((rd_T89 x195002 x3).f1).size : Int)).bind fun t201 => (if t201 = true then (if x3 > 0 then (if 0 ≤ (wrap64 (x3 - 1)) then (if (wrap64 (x3 - 1)) < (x195002.length : Int) then (if ((rd_T89 x195002 (wrap64 (x3 - 1))).f0) ≥ ((rd_T89 x195002 x3).f0) then (some false) else ((spec_l4Linked.f k x195003 ((rd_T89 x195002 x3).f0)).bind fun t203 => (if t203 = true then (spec_DiskOk.l0 k (wrap64 (x3 + 1)) x195000 x195001 x195002 x195003 x195004) else ((spec_l4Made.f k x195004 ((rd_T89 x195002 x3).f0)).bind fun t204 => (if t204 = true then (spec_DiskOk.l0 k (wrap64 (x3 + 1)) x195000 x195001 x195002 x195003 x195004) else (some false)))))) else (none)) else (none)) else ((spec_l4Linked.f k x195003 ((rd_T89 x195002 x3).f0)).bind fun t205 => (if t205 = true then (spec_DiskOk.l0 k (wrap64 (x3 + 1)) x195000 x195001 x195002 x195003 x195004) else ((spec_l4Made.f k x195004 ((rd_T89 x195002 x3).f0)).bind fun t206 => (if t206 = true then (spec_DiskOk.l0 k (wrap64 (x3 + 1)) x195000 x195001 x195002 x195003 x195004) else (some false)))))) else (some false))) else (some false))) else (none)) else (spec_DiskOk.l1 k 0 x195000 x195001 x195002 x195003 x195004)
def spec_DiskOk.l1 : Nat → Int → Int → Int → List (S89) → List (S93) → List (S95) → Option (Bool)
 | 0, _, _, _, _, _, _ => none
 | k + 1, x5, x195000, x195001, x195002, x195003, x195004 => if x5 < (x195003.length : Int) then (if 0 ≤ x5 then ((spec_l4Name.f k ((rd_T93 x195003 x5).f0)).bind fun t209 => (if t209 = true then (if x5 > 0 then (if 0 ≤ (wrap64 (x5 - 1)) then (if (wrap64 (x5 - 1)) < (x195003.length : Int) then (if ((Op.bytesLess (((rd_T93 x195003 (wrap64 (x5 - 1))).f0).toList) (((rd_T93 x195003 x5).f0).toList)) = true) then ((spec_l4Inode.f k x195000 x195001 x195002 x195003 x195004 ((rd_T93 x195003 x5).f1)).bind fun t211 => (if t211 < 0 then (some false) else (if x5 ≤ (x195003.length : Int) then ((spec_l4Linked.f k (x195003.take (x5 : Int).toNat) ((rd_T93 x195003 x5).f1)).bind fun t216 => (if t216 = true then (some false) else (spec_DiskOk.l1 k (wrap64 (x5 + 1)) x195000 x195001 x195002 x195003 x195004))) else (none)))) else (some false)) else (none)) else (none)) else ((spec_l4Inode.f k x195000 x195001 x195002 x195003 x195004 ((rd_T93 x195003 x5).f1)).bind fun t217 => (if t217 < 0 then (some false) else (if x5 ≤ (x195003.length : Int) then ((spec_l4Linked.f k (x195003.take (x5 : Int).toNat) ((rd_T93 x195003 x5).f1)).bind fun t222 => (if t222 = true then (some false) else (spec_DiskOk.l1 k (wrap64 (x5 + 1)) x195000 x195001 x195002 x195003 x195004))) else (none))))) else (some false))) else (none)) else ((some (([] : List (S93)) : List (S93))).bind fun y223 => (if y223.length + x195003.length < 5864062014805 then (spec_DiskOk.l2 k (y223 ++ x195003) 0 x195000 x195001 x195002 x195003 x195004) else (none)))
def spec_DiskOk.l2 : Nat → List (S93) → Int → Int → Int → List (S89) → List (S93) → List (S95) → Option (Bool)
 | 0, _, _, _, _, _, _, _ => none
 | k + 1, x7, x8, x195000, x195001, x195002, x195003, x195004 => if x8 < (x195004.length : Int) then (if 0 ≤ x8 then (if ((rd_T95 x195004 x8).f0) = 1 then ((spec_l4Inode.f k x195000 x195001 x195002 x195003 x195004 ((rd_T95 x195004 x8).f3)).bind fun t231 => (if t231 < 0 then (spec_DiskOk.j4 k x7 x8 true x195000 x195001 x195002 x195003 x195004 ((rd_T95 x195004 x8).f0) ((rd_T95 x195004 x8).f1) ((rd_T95 x195004 x8).f2) ((rd_T95 x195004 x8).f3)) else ((spec_l4Linked.f k x195003 ((rd_T95 x195004 x8).f3)).bind fun t232 => (if t232 = true then (spec_DiskOk.j4 k x7 x8 true x195000 x195001 x195002 x195003 x195004 ((rd_T95 x195004 x8).f0) ((rd_T95 x195004 x8).f1) ((rd_T95 x195004 x8).f2) ((rd_T95 x195004 x8).f3)) else (if x8 ≤ (x195004.length : Int) then ((spec_l4Made.f k (x195004.take (x8 : Int).toNat) ((rd_T95 x195004 x8).f3)).bind fun t237 => (spec_DiskOk.j4 k x7 x8 t237 x195000 x195001 x195002 x195003 x195004 ((rd_T95 x195004 x8).f0) ((rd_T95 x195004 x8).f1) ((rd_T95 x195004 x8).f2) ((rd_T95 x195004 x8).f3))) else (none)))))) else (spec_DiskOk.j4 k x7 x8 false x195000 x195001 x195002 x195003 x195004 ((rd_T95 x195004 x8).f0) ((rd_T95 x195004 x8).f1) ((rd_T95 x195004 x8).f2) ((rd_T95 x195004 x8).f3))) else (none)) else (some true)
def spec_DiskOk.j4 : Nat → List (S93) → Int → Bool → Int → Int → List (S89) → List (S93) → List (S95) → Int → ByteArray → ByteArray → Int → Option (Bool)
 | 0, _, _, _, _, _, _, _, _, _, _, _, _ => none
 | k + 1, x7, x8, x194, x195000, x195001, x195002, x195003, x195004, x231000, x231001, x231002, x231003 => if x194 = true then (some false) else ((spec_l4Apply.f k x7 x231000 x231001 x231002 x231003).bind fun bt238 => (if bt238.2 = true then (spec_DiskOk.l2 k bt238.1 (wrap64 (x8 + 1)) x195000 x195001 x195002 x195003 x195004) else (some false)))
end
def spec_DiskOk.f (k : Nat) (a0_0 : Int) (a0_1 : Int) (l0_2 : List (S89)) (l0_3 : List (S93)) (l0_4 : List (S95)) : Option (Bool) := (spec_l1In.f a0_0 0 1048576).bind fun t195 => (if t195 = true then ((spec_l1In.f a0_1 1 1000000).bind fun t196 => (if t196 = true then (if (l0_2.length : Int) > 10 then (spec_DiskOk.j0 k true a0_0 a0_1 l0_2 l0_3 l0_4) else (if (l0_4.length : Int) > 20 then (spec_DiskOk.j0 k true a0_0 a0_1 l0_2 l0_3 l0_4) else (spec_DiskOk.j0 k (decide ((l0_3.length : Int) > 10)) a0_0 a0_1 l0_2 l0_3 l0_4))) else (spec_DiskOk.j0 k true a0_0 a0_1 l0_2 l0_3 l0_4))) else (spec_DiskOk.j0 k true a0_0 a0_1 l0_2 l0_3 l0_4))
theorem spec_DiskOk.mono_l : ∀ k, (∀ y0 y1 y2 y3 y4 y5, LeO (spec_DiskOk.j0 k y0 y1 y2 y3 y4 y5) (spec_DiskOk.j0 (k + 1) y0 y1 y2 y3 y4 y5)) ∧ (∀ y0 y1 y2 y3 y4 y5, LeO (spec_DiskOk.l0 k y0 y1 y2 y3 y4 y5) (spec_DiskOk.l0 (k + 1) y0 y1 y2 y3 y4 y5)) ∧ (∀ y0 y1 y2 y3 y4 y5, LeO (spec_DiskOk.l1 k y0 y1 y2 y3 y4 y5) (spec_DiskOk.l1 (k + 1) y0 y1 y2 y3 y4 y5)) ∧ (∀ y0 y1 y2 y3 y4 y5 y6, LeO (spec_DiskOk.l2 k y0 y1 y2 y3 y4 y5 y6) (spec_DiskOk.l2 (k + 1) y0 y1 y2 y3 y4 y5 y6)) ∧ (∀ y0 y1 y2 y3 y4 y5 y6 y7 y8 y9 y10 y11, LeO (spec_DiskOk.j4 k y0 y1 y2 y3 y4 y5 y6 y7 y8 y9 y10 y11) (spec_DiskOk.j4 (k + 1) y0 y1 y2 y3 y4 y5 y6 y7 y8 y9 y10 y11))
 | 0 => ⟨fun _ _ _ _ _ _ r h => by simp [spec_DiskOk.j0] at h, fun _ _ _ _ _ _ r h => by simp [spec_DiskOk.l0] at h, fun _ _ _ _ _ _ r h => by simp [spec_DiskOk.l1] at h, fun _ _ _ _ _ _ _ r h => by simp [spec_DiskOk.l2] at h, fun _ _ _ _ _ _ _ _ _ _ _ _ r h => by simp [spec_DiskOk.j4] at h⟩
 | k + 1 => by
  obtain ⟨ih0, ih1, ih2, ih3, ih4⟩ := spec_DiskOk.mono_l k
  refine ⟨?_, ?_, ?_, ?_, ?_⟩
  ·intro y0 y1 y2 y3 y4 y5
   unfold spec_DiskOk.j0
   repeat' first
   | (with_reducible exact ih0 _ _ _ _ _ _)
   | (with_reducible exact ih1 _ _ _ _ _ _)
   | (with_reducible exact ih2 _ _ _ _ _ _)
   | (with_reducible exact ih3 _ _ _ _ _ _ _)
   | (with_reducible exact ih4 _ _ _ _ _ _ _ _ _ _ _ _)
   | (with_reducible exact spec_l4Apply.mono _ _ _ _ _ _)
   | (with_reducible exact spec_l4Bytes.mono _ _ _ _ _ _)
   | (with_reducible exact spec_l4Inode.mono _ _ _ _ _ _ _)
   | (with_reducible exact spec_l4Linked.mono _ _ _)
   | (with_reducible exact spec_l4Made.mono _ _ _)
   | (with_reducible exact spec_l4Name.mono _ _)
   | (with_reducible exact LeO.refl _)
   | (with_reducible exact LeO.none _)
   | (with_reducible refine LeO.ite ?_ ?_)
   | (with_reducible refine LeO.bind ?_ (fun _ => ?_))
   | exact ih0 _ _ _ _ _ _
   | exact ih1 _ _ _ _ _ _
   | exact ih2 _ _ _ _ _ _
   | exact ih3 _ _ _ _ _ _ _
   | exact ih4 _ _ _ _ _ _ _ _ _ _ _ _
   | exact spec_l4Apply.mono _ _ _ _ _ _
   | exact spec_l4Bytes.mono _ _ _ _ _ _
   | exact spec_l4Inode.mono _ _ _ _ _ _ _
   | exact spec_l4Linked.mono _ _ _
   | exact spec_l4Made.mono _ _ _
   | exact spec_l4Name.mono _ _
   | exact LeO.none _
   | refine LeO.ite ?_ ?_
   | refine LeO.bind ?_ (fun _ => ?_)
  ·intro y0 y1 y2 y3 y4 y5
   unfold spec_DiskOk.l0
   repeat' first
   | (with_reducible exact ih0 _ _ _ _ _ _)
   | (with_reducible exact ih1 _ _ _ _ _ _)
   | (with_reducible exact ih2 _ _ _ _ _ _)
   | (with_reducible exact ih3 _ _ _ _ _ _ _)
   | (with_reducible exact ih4 _ _ _ _ _ _ _ _ _ _ _ _)
   | (with_reducible exact spec_l4Apply.mono _ _ _ _ _ _)
   | (with_reducible exact spec_l4Bytes.mono _ _ _ _ _ _)
   | (with_reducible exact spec_l4Inode.mono _ _ _ _ _ _ _)
   | (with_reducible exact spec_l4Linked.mono _ _ _)
   | (with_reducible exact spec_l4Made.mono _ _ _)
   | (with_reducible exact spec_l4Name.mono _ _)
   | (with_reducible exact LeO.refl _)
   | (with_reducible exact LeO.none _)
   | (with_reducible refine LeO.ite ?_ ?_)
   | (with_reducible refine LeO.bind ?_ (fun _ => ?_))
   | exact ih0 _ _ _ _ _ _
   | exact ih1 _ _ _ _ _ _
   | exact ih2 _ _ _ _ _ _
   | exact ih3 _ _ _ _ _ _ _
   | exact ih4 _ _ _ _ _ _ _ _ _ _ _ _
   | exact spec_l4Apply.mono _ _ _ _ _ _
   | exact spec_l4Bytes.mono _ _ _ _ _ _
   | exact spec_l4Inode.mono _ _ _ _ _ _ _
   | exact spec_l4Linked.mono _ _ _
   | exact spec_l4Made.mono _ _ _
   | exact spec_l4Name.mono _ _
   | exact LeO.none _
   | refine LeO.ite ?_ ?_
   | refine LeO.bind ?_ (fun _ => ?_)
  ·intro y0 y1 y2 y3 y4 y5
   unfold spec_DiskOk.l1
   repeat' first
   | (with_reducible exact ih0 _ _ _ _ _ _)
   | (with_reducible exact ih1 _ _ _ _ _ _)
   | (with_reducible exact ih2 _ _ _ _ _ _)
   | (with_reducible exact ih3 _ _ _ _ _ _ _)
   | (with_reducible exact ih4 _ _ _ _ _ _ _ _ _ _ _ _)
   | (with_reducible exact spec_l4Apply.mono _ _ _ _ _ _)
   | (with_reducible exact spec_l4Bytes.mono _ _ _ _ _ _)
   | (with_reducible exact spec_l4Inode.mono _ _ _ _ _ _ _)
   | (with_reducible exact spec_l4Linked.mono _ _ _)
   | (with_reducible exact spec_l4Made.mono _ _ _)
   | (with_reducible exact spec_l4Name.mono _ _)
   | (with_reducible exact LeO.refl _)
   | (with_reducible exact LeO.none _)
   | (with_reducible refine LeO.ite ?_ ?_)
   | (with_reducible refine LeO.bind ?_ (fun _ => ?_))
   | exact ih0 _ _ _ _ _ _
   | exact ih1 _ _ _ _ _ _
   | exact ih2 _ _ _ _ _ _
   | exact ih3 _ _ _ _ _ _ _
   | exact ih4 _ _ _ _ _ _ _ _ _ _ _ _
   | exact spec_l4Apply.mono _ _ _ _ _ _
   | exact spec_l4Bytes.mono _ _ _ _ _ _
   | exact spec_l4Inode.mono _ _ _ _ _ _ _
   | exact spec_l4Linked.mono _ _ _
   | exact spec_l4Made.mono _ _ _
   | exact spec_l4Name.mono _ _
   | exact LeO.none _
   | refine LeO.ite ?_ ?_
   | refine LeO.bind ?_ (fun _ => ?_)
  ·intro y0 y1 y2 y3 y4 y5 y6
   unfold spec_DiskOk.l2
   repeat' first
   | (with_reducible exact ih0 _ _ _ _ _ _)
   | (with_reducible exact ih1 _ _ _ _ _ _)
   | (with_reducible exact ih2 _ _ _ _ _ _)
   | (with_reducible exact ih3 _ _ _ _ _ _ _)
   | (with_reducible exact ih4 _ _ _ _ _ _ _ _ _ _ _ _)
   | (with_reducible exact spec_l4Apply.mono _ _ _ _ _ _)
   | (with_reducible exact spec_l4Bytes.mono _ _ _ _ _ _)
   | (with_reducible exact spec_l4Inode.mono _ _ _ _ _ _ _)
   | (with_reducible exact spec_l4Linked.mono _ _ _)
   | (with_reducible exact spec_l4Made.mono _ _ _)
   | (with_reducible exact spec_l4Name.mono _ _)
   | (with_reducible exact LeO.refl _)
   | (with_reducible exact LeO.none _)
   | (with_reducible refine LeO.ite ?_ ?_)
   | (with_reducible refine LeO.bind ?_ (fun _ => ?_))
   | exact ih0 _ _ _ _ _ _
   | exact ih1 _ _ _ _ _ _
   | exact ih2 _ _ _ _ _ _
   | exact ih3 _ _ _ _ _ _ _
   | exact ih4 _ _ _ _ _ _ _ _ _ _ _ _
   | exact spec_l4Apply.mono _ _ _ _ _ _
   | exact spec_l4Bytes.mono _ _ _ _ _ _
   | exact spec_l4Inode.mono _ _ _ _ _ _ _
   | exact spec_l4Linked.mono _ _ _
   | exact spec_l4Made.mono _ _ _
   | exact spec_l4Name.mono _ _
   | exact LeO.none _
   | refine LeO.ite ?_ ?_
   | refine LeO.bind ?_ (fun _ => ?_)
  ·intro y0 y1 y2 y3 y4 y5 y6 y7 y8 y9 y10 y11
   unfold spec_DiskOk.j4
   repeat' first
   | (with_reducible exact ih0 _ _ _ _ _ _)
   | (with_reducible exact ih1 _ _ _ _ _ _)
   | (with_reducible exact ih2 _ _ _ _ _ _)
   | (with_reducible exact ih3 _ _ _ _ _ _ _)
   | (with_reducible exact ih4 _ _ _ _ _ _ _ _ _ _ _ _)
   | (with_reducible exact spec_l4Apply.mono _ _ _ _ _ _)
   | (with_reducible exact spec_l4Bytes.mono _ _ _ _ _ _)
   | (with_reducible exact spec_l4Inode.mono _ _ _ _ _ _ _)
   | (with_reducible exact spec_l4Linked.mono _ _ _)
   | (with_reducible exact spec_l4Made.mono _ _ _)
   | (with_reducible exact spec_l4Name.mono _ _)
   | (with_reducible exact LeO.refl _)
   | (with_reducible exact LeO.none _)
   | (with_reducible refine LeO.ite ?_ ?_)
   | (with_reducible refine LeO.bind ?_ (fun _ => ?_))
   | exact ih0 _ _ _ _ _ _
   | exact ih1 _ _ _ _ _ _
   | exact ih2 _ _ _ _ _ _
   | exact ih3 _ _ _ _ _ _ _
   | exact ih4 _ _ _ _ _ _ _ _ _ _ _ _
   | exact spec_l4Apply.mono _ _ _ _ _ _
   | exact spec_l4Bytes.mono _ _ _ _ _ _
   | exact spec_l4Inode.mono _ _ _ _ _ _ _
   | exact spec_l4Linked.mono _ _ _
   | exact spec_l4Made.mono _ _ _
   | exact spec_l4Name.mono _ _
   | exact LeO.none _
   | refine LeO.ite ?_ ?_
   | refine LeO.bind ?_ (fun _ => ?_)
theorem spec_DiskOk.mono : ∀ a0 a1 a2 a3 a4 k, LeO (spec_DiskOk.f k a0 a1 a2 a3 a4) (spec_DiskOk.f (k + 1) a0 a1 a2 a3 a4) := by
 intro a0 a1 a2 a3 a4 k
 obtain ⟨ih0, ih1, ih2, ih3, ih4⟩ := spec_DiskOk.mono_l k
 unfold spec_DiskOk.f
 repeat' first
  | (with_reducible exact ih0 _ _ _ _ _ _)
  | (with_reducible exact ih1 _ _ _ _ _ _)
  | (with_reducible exact ih2 _ _ _ _ _ _)
  | (with_reducible exact ih3 _ _ _ _ _ _ _)
  | (with_reducible exact ih4 _ _ _ _ _ _ _ _ _ _ _ _)
  | (with_reducible exact spec_l4Apply.mono _ _ _ _ _ _)
  | (with_reducible exact spec_l4Bytes.mono _ _ _ _ _ _)
  | (with_reducible exact spec_l4Inode.mono _ _ _ _ _ _ _)
  | (with_reducible exact spec_l4Linked.mono _ _ _)
  | (with_reducible exact spec_l4Made.mono _ _ _)
  | (with_reducible exact spec_l4Name.mono _ _)
  | (with_reducible exact LeO.refl _)
  | (with_reducible exact LeO.none _)
  | (with_reducible refine LeO.ite ?_ ?_)
  | (with_reducible refine LeO.bind ?_ (fun _ => ?_))
  | exact ih0 _ _ _ _ _ _
  | exact ih1 _ _ _ _ _ _
  | exact ih2 _ _ _ _ _ _
  | exact ih3 _ _ _ _ _ _ _
  | exact ih4 _ _ _ _ _ _ _ _ _ _ _ _
  | exact spec_l4Apply.mono _ _ _ _ _ _
  | exact spec_l4Bytes.mono _ _ _ _ _ _
  | exact spec_l4Inode.mono _ _ _ _ _ _ _
  | exact spec_l4Linked.mono _ _ _
  | exact spec_l4Made.mono _ _ _
  | exact spec_l4Name.mono _ _
  | exact LeO.none _
  | refine LeO.ite ?_ ?_
  | refine LeO.bind ?_ (fun _ => ?_)
def spec_DiskOk.T9 : Bool × List (List Nat × List Nat) := (true, [([], []), ([0], [0]), ([], []), ([2], [2]), ([3], [3]), ([1, 4], [1, 4]), ([5], [5]), ([6, 5], [6]), ([7], [7]), ([8, 7], [7, 8]), ([7], [7]), ([10, 7], [7, 10]), ([11, 7], [7, 11]), ([9, 12, 7, 7], [7, 9, 12]), ([13, 7], [7, 13]), ([7, 14], [7, 14]), ([15, 13], [15]), ([16], [16]), ([17, 16], [16, 17]), ([18, 16, 16], [16, 18]), ([19], [19]), ([20, 19], [19, 20]), ([19], [19]), ([22, 19], [19, 22]), ([21, 23, 19], [19, 21, 23]), ([24, 19], [19, 24]), ([25, 19], [19, 25]), ([19], [19]), ([27, 19], [19, 27]), ([26, 28, 19], [19, 26, 28]), ([19, 29, 16], [16, 19, 29]), ([16, 30], [16, 30]), ([31, 19], [31]), ([32], [32]), ([33, 32], [32, 33]), ([32], [32]), ([35, 32], [32, 35]), ([34, 36, 32, 32], [32, 34, 36]), ([37, 32], [32, 37]), ([38, 37, 32], [32, 38]), ([39], [39]), ([40, 39], [39, 40]), ([39], [39]), ([42, 39], [39, 42]), ([41, 43, 39, 39], [39, 41, 43]), ([44, 39], [39, 44]), ([39, 45, 32], [32, 39, 45]), ([32, 46], [32, 46])])
def spec_DiskOk.B9 : List Nat := [0, 1, 0, 4, 12, 31, 63, 127, 255, 511, 255, 1279, 3327, 8191, 16383, 32767, 65535, 131071, 262143, 524287, 1048575, 2097151, 1048575, 5242879, 16777215, 33554431, 67108863, 1048575, 135266303, 536870911, 1073741823, 2147483647, 4294967295, 8589934591, 17179869183, 8589934591, 42949672959, 137438953471, 274877906943, 549755813887, 1099511627775, 2199023255551, 1099511627775, 5497558138879, 17592186044415, 35184372088831, 70368744177663, 140737488355327]
theorem spec_DiskOk.tab9 : rtab .any (opsOf Try.f26 9) = spec_DiskOk.T9 := by kernel_rfl
theorem spec_DiskOk.bits9 : waitsOk spec_DiskOk.T9.2 spec_DiskOk.B9 = true := by kernel_rfl
def spec_DiskOk.T15 : Bool × List (List Nat × List Nat) := (true, [([], []), ([0], [0]), ([1], [1]), ([2], [2]), ([3, 2], [3]), ([4], [4]), ([5, 4], [4, 5]), ([6, 4, 4], [4, 6]), ([7], [7]), ([8, 7], [7, 8]), ([7], [7]), ([10, 7], [7, 10]), ([9, 11, 7], [7, 9, 11]), ([12, 7], [7, 12]), ([13, 7], [7, 13]), ([7], [7]), ([15, 7], [7, 15]), ([14, 16, 7], [7, 14, 16]), ([7, 17, 4], [4, 7, 17]), ([4, 18], [4, 18]), ([19, 7], [19]), ([20], [20]), ([20], [20]), ([22, 20], [20, 22]), ([21, 23, 20, 20], [20, 21, 23]), ([24, 20], [20, 24]), ([20, 25], [20, 25]), ([26, 24], [26]), ([27], [27]), ([28, 27], [27, 28]), ([27], [27]), ([29, 30, 27], [27, 29, 30]), ([27], [27]), ([32, 27], [27, 32]), ([31, 33, 27, 27], [27, 31, 33]), ([27, 34], [27, 34])])
def spec_DiskOk.B15 : List Nat := [0, 1, 3, 7, 15, 31, 63, 127, 255, 511, 255, 1279, 4095, 8191, 16383, 255, 33023, 131071, 262143, 524287, 1048575, 2097151, 2097151, 6291455, 16777215, 33554431, 67108863, 134217727, 268435455, 536870911, 268435455, 2147483647, 268435455, 4563402751, 17179869183, 34359738367]
theorem spec_DiskOk.tab15 : rtab .any (opsOf Try.f26 15) = spec_DiskOk.T15 := by kernel_rfl
theorem spec_DiskOk.bits15 : waitsOk spec_DiskOk.T15.2 spec_DiskOk.B15 = true := by kernel_rfl
def spec_DiskOk.T22 : Bool × List (List Nat × List Nat) := (true, [([], []), ([0], [0]), ([1], [1]), ([2], [2]), ([3], [3]), ([3], [3]), ([5, 3], [3, 5]), ([4, 6, 3, 3], [3, 4, 6]), ([7, 3], [3, 7]), ([8, 7, 3], [3, 8]), ([9], [9]), ([10, 9], [9, 10]), ([9], [9]), ([12, 9], [9, 12]), ([11, 13, 9, 9], [9, 11, 13]), ([9, 14, 3], [3, 9, 14]), ([15, 14, 3], [3, 15]), ([16], [16]), ([17, 16], [16, 17]), ([16], [16]), ([18, 19, 16], [16, 18, 19]), ([16], [16]), ([21, 16], [16, 21]), ([20, 22, 16, 16], [16, 20, 22]), ([16, 23, 3], [3, 16, 23]), ([3, 24], [3, 24])])
def spec_DiskOk.B22 : List Nat := [0, 1, 3, 7, 15, 15, 47, 127, 255, 511, 1023, 2047, 1023, 5119, 16383, 32767, 65535, 131071, 262143, 131071, 1048575, 131071, 2228223, 8388607, 16777215, 33554431]
theorem spec_DiskOk.tab22 : rtab .any (opsOf Try.f26 22) = spec_DiskOk.T22 := by kernel_rfl
theorem spec_DiskOk.bits22 : waitsOk spec_DiskOk.T22.2 spec_DiskOk.B22 = true := by kernel_rfl
set_option maxHeartbeats 8000000 in
set_option maxRecDepth 100000 in
theorem spec_DiskOk.calls (k : Nat) (a0_0 : Int) (a0_1 : Int) (A0_2 : Option Addr) (c0_2 : Nat) (l0_2 : List (S89)) (A0_3 : Option Addr) (c0_3 : Nat) (l0_3 : List (S93)) (A0_4 : Option Addr) (c0_4 : Nat) (l0_4 : List (S95)) (r : Bool) (w : World) (hr0_2 : Kd.C k89 w A0_2 l0_2.length l0_2) (hc0_2 : l0_2.length ≤ c0_2) (hr0_3 : Kd.C k93 w A0_3 l0_3.length l0_3) (hc0_3 : l0_3.length ≤ c0_3) (hr0_4 : Kd.C k95 w A0_4 l0_4.length l0_4) (hc0_4 : l0_4.length ≤ c0_4) (h : spec_DiskOk.f k a0_0 a0_1 l0_2 l0_3 l0_4 = some r) :
 Calls Try.prog 26 #[.agg #[.int .i64 a0_0, .int .i64 a0_1, .slice A0_2 l0_2.length c0_2, .slice A0_3 l0_3.length c0_3, .slice A0_4 l0_4.length c0_4]] w fun e w' => e = .returned (.bool r) ∧ Below w.heap.size w w' := by
 have hu26 := Try.underlying26
 have hu89 := Try.underlying89
 have hu93 := Try.underlying93
 have hu95 := Try.underlying95
 have HR0_2 := Aside0.mk hr0_2
 have HC0_2 := Aside0.mk hc0_2
 clear hr0_2 hc0_2
 have HR0_3 := Aside0.mk hr0_3
 have HC0_3 := Aside0.mk hc0_3
 clear hr0_3 hc0_3
 have HR0_4 := Aside0.mk hr0_4
 have HC0_4 := Aside0.mk hc0_4
 clear hr0_4 hc0_4
 have HB := Aside0.mk (Below.refl w.heap.size w)
 have H : ((spec_l1In.f a0_0 0 1048576).bind fun t195 => (if t195 = true then ((spec_l1In.f a0_1 1 1000000).bind fun t196 => (if t196 = true then (if (l0_2.length : Int) > 10 then (spec_DiskOk.j0 k true a0_0 a0_1 l0_2 l0_3 l0_4) else (if (l0_4.length : Int) > 20 then (spec_DiskOk.j0 k true a0_0 a0_1 l0_2 l0_3 l0_4) else (spec_DiskOk.j0 k (decide ((l0_3.length : Int) > 10)) a0_0 a0_1 l0_2 l0_3 l0_4))) else (spec_DiskOk.j0 k true a0_0 a0_1 l0_2 l0_3 l0_4))) else (spec_DiskOk.j0 k true a0_0 a0_1 l0_2 l0_3 l0_4))) = some r := h
 clear h
 have HC2 := Aside0.mk H
 clear H
 go_enter Try.func26, Try.ntmps26
 go_upto_region 1 with (first | ((with_reducible refine gD 1 rfl ?_); (try (refine gate_guard rfl ?_; dsimp only)); refine boxZ 1 #[.int .i64 a0_0, .int .i64 a0_1, .slice A0_2 l0_2.length c0_2, .slice A0_3 l0_3.length c0_3, .slice A0_4 l0_4.length c0_4] 26 ?_; intro gb194 hg w3 hbox hb; have BK194 := Aside0.mk hbox; have GW194 := gw (w := w) hg; have GE194 := gw (w := w) hg; replace HB := bs (w := w) hb; clear hb hbox hg))
 (try simp only [Act.put, List.setIfInBounds_toArray, List.set_cons_zero, List.set_cons_succ])
 go_cut [39] (fun v39 wc => ∃ (kq : Nat) (x39_1 : Bool), v39 = .bool x39_1 ∧ Aside0 (spec_DiskOk.j0 kq x39_1 a0_0 a0_1 l0_2 l0_3 l0_4 = some r) ∧ Aside0 (kq ≤ k) ∧ Aside0 (wc.heap[gb194]? = some (.cells #[.int .i64 a0_0, .int .i64 a0_1, (.slice A0_2 l0_2.length c0_2), (.slice A0_3 l0_3.length c0_3), (.slice A0_4 l0_4.length c0_4)] 26 (0, 0))) ∧ Aside0 (Below w.heap.size w wc))
 case first => as_aux_lemma =>
  have H := HC2.out
  clear HC2
  obtain ⟨t195, A4, H⟩ := bd H
  by_cases c5 : t195 = true
  ·subst c5
   replace H := iT H
   obtain ⟨t196, A6, H⟩ := bd H
   by_cases c7 : t196 = true
   ·subst c7
    replace H := iT H
    by_cases c8 : (l0_2.length : Int) > 10
    ·rw [if_pos c8] at H
     have c8b0 : decide (10 < (l0_2.length : Int)) = true := decide_eq_true c8
     have c8b1 : decide (10 < l0_2.length) = true := decide_eq_true (by omega)
     clear c8
     (first | rw [c8b0] | (simp only [i64_w, i32_w]; rw [c8b0]) | skip)
     have H' := Aside0.mk H
     clear H
     obtain ⟨Z9_0, Z9_1, Z9_2, Z9_3, Z9_4, Y9_0, Y9_1, Y9_2, Y9_3, Y9_4⟩ := cf5 BK194
     go_wp2_with (first | ((with_reducible refine gC 53 rfl ?_); refine goesZ (some 14) rfl Try.func53 #[.int .i64 a0_0, .int .i64 0, .int .i64 1048576] ?_; (with_reducible refine (spec_l1In.calls a0_0 0 1048576 true _ A4.out).mono ?_); rintro e w' ⟨rfl, ⟨nd, rfl⟩⟩; refine ⟨_, rfl, ?_⟩) | (go_at_call 53; (with_reducible refine (spec_l1In.calls a0_1 1 1000000 true _ A6.out).mono ?_); rintro e w' ⟨rfl, ⟨nd, rfl⟩⟩))
     go_meet
     case rel => exact ⟨_, (true), fa, H', ⟨by first | omega | exact Nat.le_refl _⟩, ⟨by (with_reducible repeat (first | refine blk_drewN ?_ _ | refine blk_drew ?_ | refine blk_alloc ?_ _)); exact BK194.out⟩, ⟨bl⟩⟩
    ·rw [if_neg c8] at H
     have c8b0 : decide (10 < (l0_2.length : Int)) = false := decide_eq_false c8
     have c8b1 : decide (10 < l0_2.length) = false := decide_eq_false (by omega)
     clear c8
     (first | rw [c8b0] | (simp only [i64_w, i32_w]; rw [c8b0]) | skip)
     by_cases c10 : (l0_4.length : Int) > 20
     ·rw [if_pos c10] at H
      have c10b0 : decide (20 < (l0_4.length : Int)) = true := decide_eq_true c10
      have c10b1 : decide (20 < l0_4.length) = true := decide_eq_true (by omega)
      clear c10
      have H' := Aside0.mk H
      clear H
      obtain ⟨Z11_0, Z11_1, Z11_2, Z11_3, Z11_4, Y11_0, Y11_1, Y11_2, Y11_3, Y11_4⟩ := cf5 BK194
      go_wp2_with (first | ((with_reducible refine gC 53 rfl ?_); refine goesZ (some 14) rfl Try.func53 #[.int .i64 a0_0, .int .i64 0, .int .i64 1048576] ?_; (with_reducible refine (spec_l1In.calls a0_0 0 1048576 true _ A4.out).mono ?_); rintro e w' ⟨rfl, ⟨nd, rfl⟩⟩; refine ⟨_, rfl, ?_⟩) | (go_at_call 53; (with_reducible refine (spec_l1In.calls a0_1 1 1000000 true _ A6.out).mono ?_); rintro e w' ⟨rfl, ⟨nd, rfl⟩⟩))
      go_meet
      case rel => exact ⟨_, (true), fa, H', ⟨by first | omega | exact Nat.le_refl _⟩, ⟨by (with_reducible repeat (first | refine blk_drewN ?_ _ | refine blk_drew ?_ | refine blk_alloc ?_ _)); exact BK194.out⟩, ⟨bl⟩⟩
     ·rw [if_neg c10] at H
      have c10b0 : decide (20 < (l0_4.length : Int)) = false := decide_eq_false c10
      have c10b1 : decide (20 < l0_4.length) = false := decide_eq_false (by omega)
      clear c10
      have H' := Aside0.mk H
      clear H
      obtain ⟨Z12_0, Z12_1, Z12_2, Z12_3, Z12_4, Y12_0, Y12_1, Y12_2, Y12_3, Y12_4⟩ := cf5 BK194
      go_wp2_with (first | ((with_reducible refine gC 53 rfl ?_); refine goesZ (some 14) rfl Try.func53 #[.int .i64 a0_0, .int .i64 0, .int .i64 1048576] ?_; (with_reducible refine (spec_l1In.calls a0_0 0 1048576 true _ A4.out).mono ?_); rintro e w' ⟨rfl, ⟨nd, rfl⟩⟩; refine ⟨_, rfl, ?_⟩) | (go_at_call 53; (with_reducible refine (spec_l1In.calls a0_1 1 1000000 true _ A6.out).mono ?_); rintro e w' ⟨rfl, ⟨nd, rfl⟩⟩))
      go_meet
      case rel => exact ⟨_, (decide ((l0_3.length : Int) > 10)), fa, H', ⟨by first | omega | exact Nat.le_refl _⟩, ⟨by (with_reducible repeat (first | refine blk_drewN ?_ _ | refine blk_drew ?_ | refine blk_alloc ?_ _)); exact BK194.out⟩, ⟨bl⟩⟩
   ·replace c7 := Bool.eq_false_iff.mpr c7
    subst c7
    replace H := iF H
    have H' := Aside0.mk H
    clear H
    obtain ⟨Z13_0, Z13_1, Z13_2, Z13_3, Z13_4, Y13_0, Y13_1, Y13_2, Y13_3, Y13_4⟩ := cf5 BK194
    go_wp2_with (first | ((with_reducible refine gC 53 rfl ?_); refine goesZ (some 14) rfl Try.func53 #[.int .i64 a0_0, .int .i64 0, .int .i64 1048576] ?_; (with_reducible refine (spec_l1In.calls a0_0 0 1048576 true _ A4.out).mono ?_); rintro e w' ⟨rfl, ⟨nd, rfl⟩⟩; refine ⟨_, rfl, ?_⟩) | (go_at_call 53; (with_reducible refine (spec_l1In.calls a0_1 1 1000000 false _ A6.out).mono ?_); rintro e w' ⟨rfl, ⟨nd, rfl⟩⟩))
    go_meet
    case rel => exact ⟨_, (true), fa, H', ⟨by first | omega | exact Nat.le_refl _⟩, ⟨by (with_reducible repeat (first | refine blk_drewN ?_ _ | refine blk_drew ?_ | refine blk_alloc ?_ _)); exact BK194.out⟩, ⟨bl⟩⟩
  ·replace c5 := Bool.eq_false_iff.mpr c5
   subst c5
   replace H := iF H
   have H' := Aside0.mk H
   clear H
   obtain ⟨Z14_0, Z14_1, Z14_2, Z14_3, Z14_4, Y14_0, Y14_1, Y14_2, Y14_3, Y14_4⟩ := cf5 BK194
   go_wp2_with (first | ((with_reducible refine gC 53 rfl ?_); refine goesZ (some 14) rfl Try.func53 #[.int .i64 a0_0, .int .i64 0, .int .i64 1048576] ?_; (with_reducible refine (spec_l1In.calls a0_0 0 1048576 false _ A4.out).mono ?_); rintro e w' ⟨rfl, ⟨nd, rfl⟩⟩; refine ⟨_, rfl, ?_⟩))
   go_meet
   case rel => exact ⟨_, (true), fa, H', ⟨by first | omega | exact Nat.le_refl _⟩, ⟨by (with_reducible repeat (first | refine blk_drewN ?_ _ | refine blk_drew ?_ | refine blk_alloc ?_ _)); exact BK194.out⟩, ⟨bl⟩⟩
 case rest => as_aux_lemma =>
  clear HC2
  try clear c1
  try clear c2
  try clear p2
  try clear c5
  try clear c7
  try clear c8
  try clear c8b0
  try clear c8b1
  try clear c10
  try clear c10b0
  try clear c10b1
  try clear Z11_0 Z11_1 Z11_2 Z11_3 Z11_4
  try clear Z12_0 Z12_1 Z12_2 Z12_3 Z12_4
  try clear Z13_0 Z13_1 Z13_2 Z13_3 Z13_4
  try clear Z14_0 Z14_1 Z14_2 Z14_3 Z14_4
  try clear Z9_0 Z9_1 Z9_2 Z9_3 Z9_4
  try clear Y11_0 Y11_1 Y11_2 Y11_3 Y11_4
  try clear Y12_0 Y12_1 Y12_2 Y12_3 Y12_4
  try clear Y13_0 Y13_1 Y13_2 Y13_3 Y13_4
  try clear Y14_0 Y14_1 Y14_2 Y14_3 Y14_4
  try clear Y9_0 Y9_1 Y9_2 Y9_3 Y9_4
  obtain ⟨kq, x39_1, rfl, HA, HJ1, BK194, HB⟩ := hcut
  cases kq with
  | zero => exact absurd HA.out (by simp [spec_DiskOk.j0])
  | succ kj1 =>
   have H := HA.out
   clear HA
   simp only [spec_DiskOk.j0] at H
   by_cases c15 : x39_1 = true
   ·subst c15
    replace H := iT H
    obtain rfl := Option.some.inj H
    go_wp2
    go_ret
    exact ⟨fe, bl⟩
   ·replace c15 := Bool.eq_false_iff.mpr c15
    subst c15
    replace H := iF H
    obtain ⟨t197, A16, H⟩ := bd H
    by_cases c17 : t197 > a0_0
    ·rw [if_pos c17] at H
     have c17b0 : decide (a0_0 < t197) = true := decide_eq_true c17
     clear c17
     obtain rfl := Option.some.inj H
     try go_wp2
     replace BK194 := Aside0.mk (blk_drew BK194.out); replace HB := Aside0.mk (below_drew1 HB.out)
     refine start_ (n := 5) (S := fun w' => w'.cell? ⟨gb194, 0, none⟩ = some (.int .i64 a0_0) ∧ w'.cell? ⟨gb194, 1, none⟩ = some (.int .i64 a0_1) ∧ w'.cell? ⟨gb194, 2, none⟩ = some (.slice A0_2 l0_2.length c0_2) ∧ w'.cell? ⟨gb194, 3, none⟩ = some (.slice A0_3 l0_3.length c0_3) ∧ w'.cell? ⟨gb194, 4, none⟩ = some (.slice A0_4 l0_4.length c0_4)) (ds := []) #[false, false, false, false, false] (by kernel_rfl) rfl rfl ⟨cb 0 BK194, cb 1 BK194, cb 2 BK194, cb 3 BK194, cb 4 BK194⟩ (fun hHeld => ?_)
     generalize wc.drew = w18 at BK194 HB hHeld ⊢
     refine pV 2 42 #[false, false, true, false, false] ?_
     refine tV 0 40 #[true, false, true, false, false] ?_
     refine tV 3 43 #[true, false, true, true, false] ?_
     refine one_ (i := 1) (N := some 41) #[true, true, true, true, false] rfl rfl (by kernel_rfl) (by decide) (fun K hK => ?_)
     refine goes_ Try.func76 (by kernel_rfl) rfl #[.agg #[.int .i64 a0_0, .int .i64 a0_1, .slice A0_2 l0_2.length c0_2, .slice A0_3 l0_3.length c0_3, .slice A0_4 l0_4.length c0_4]] (by rfl) rfl rfl sa ?_
     with_reducible refine (spec_l4Bytes.calls kj1 a0_0 a0_1 _ _ l0_2 _ _ l0_3 _ _ l0_4 t197 _ ?side1 ?side2 ?side3 ?side4 ?side5 ?side6 A16.out).mono ?_
     (case side1 => exact ca (Kd.C_below HR0_2.out HB.out))
     (case side2 => exact HC0_2.out)
     (case side3 => exact ca (Kd.C_below HR0_3.out HB.out))
     (case side4 => exact HC0_3.out)
     (case side5 => exact ca (Kd.C_below HR0_4.out HB.out))
     (case side6 => exact HC0_4.out)
     rintro e w19 ⟨rfl, hb⟩
     refine ⟨_, rfl, ?_⟩
     replace BK194 := bv BK194 hb; replace HB := bs (w := w) hb; (try clear hb hb2 hk hi)
     refine hK.out _ _ ⟨cb 0 BK194, cb 1 BK194, cb 2 BK194, cb 3 BK194, cb 4 BK194⟩ (fun hHeld => ?_)
     clear hK K
     refine norm_ (a' := ?_) ?_ ?_
     rotate_left
     ·show Act.put _ (some 41) _ = _
      simp only [Act.put, List.setIfInBounds_toArray, List.set_cons_zero, List.set_cons_succ, i64_w, i32_w]
      rfl
     refine pV 4 44 #[true, true, true, true, true] ?_
     refine done_ (by kernel_rfl) ?_
     try go_wp2
     go_ret
     exact ⟨fe, bl⟩
    ·rw [if_neg c17] at H
     have c17b0 : decide (a0_0 < t197) = false := decide_eq_false c17
     clear c17
     have H' := Aside0.mk H
     clear H
     try go_wp2
     replace BK194 := Aside0.mk (blk_drew BK194.out); replace HB := Aside0.mk (below_drew1 HB.out)
     refine start_ (n := 5) (S := fun w' => w'.cell? ⟨gb194, 0, none⟩ = some (.int .i64 a0_0) ∧ w'.cell? ⟨gb194, 1, none⟩ = some (.int .i64 a0_1) ∧ w'.cell? ⟨gb194, 2, none⟩ = some (.slice A0_2 l0_2.length c0_2) ∧ w'.cell? ⟨gb194, 3, none⟩ = some (.slice A0_3 l0_3.length c0_3) ∧ w'.cell? ⟨gb194, 4, none⟩ = some (.slice A0_4 l0_4.length c0_4)) (ds := []) #[false, false, false, false, false] (by kernel_rfl) rfl rfl ⟨cb 0 BK194, cb 1 BK194, cb 2 BK194, cb 3 BK194, cb 4 BK194⟩ (fun hHeld => ?_)
     generalize wc.drew = w20 at BK194 HB hHeld ⊢
     refine pV 2 42 #[false, false, true, false, false] ?_
     refine tV 0 40 #[true, false, true, false, false] ?_
     refine tV 3 43 #[true, false, true, true, false] ?_
     refine one_ (i := 1) (N := some 41) #[true, true, true, true, false] rfl rfl (by kernel_rfl) (by decide) (fun K hK => ?_)
     refine goes_ Try.func76 (by kernel_rfl) rfl #[.agg #[.int .i64 a0_0, .int .i64 a0_1, .slice A0_2 l0_2.length c0_2, .slice A0_3 l0_3.length c0_3, .slice A0_4 l0_4.length c0_4]] (by rfl) rfl rfl sa ?_
     with_reducible refine (spec_l4Bytes.calls kj1 a0_0 a0_1 _ _ l0_2 _ _ l0_3 _ _ l0_4 t197 _ ?side1 ?side2 ?side3 ?side4 ?side5 ?side6 A16.out).mono ?_
     (case side1 => exact ca (Kd.C_below HR0_2.out HB.out))
     (case side2 => exact HC0_2.out)
     (case side3 => exact ca (Kd.C_below HR0_3.out HB.out))
     (case side4 => exact HC0_3.out)
     (case side5 => exact ca (Kd.C_below HR0_4.out HB.out))
     (case side6 => exact HC0_4.out)
     rintro e w21 ⟨rfl, hb⟩
     refine ⟨_, rfl, ?_⟩
     replace BK194 := bv BK194 hb; replace HB := bs (w := w) hb; (try clear hb hb2 hk hi)
     refine hK.out _ _ ⟨cb 0 BK194, cb 1 BK194, cb 2 BK194, cb 3 BK194, cb 4 BK194⟩ (fun hHeld => ?_)
     clear hK K
     refine norm_ (a' := ?_) ?_ ?_
     rotate_left
     ·show Act.put _ (some 41) _ = _
      simp only [Act.put, List.setIfInBounds_toArray, List.set_cons_zero, List.set_cons_succ, i64_w, i32_w]
      rfl
     refine pV 4 44 #[true, true, true, true, true] ?_
     refine done_ (by kernel_rfl) ?_
     try go_wp2
     go_loopg [3] kj1 (fun kq v3 w' => ∃ (x3_2 : Int), v3 = .int .i64 x3_2 ∧ Aside0 (spec_DiskOk.l0 kq x3_2 a0_0 a0_1 l0_2 l0_3 l0_4 = some r) ∧ Aside0 (kq ≤ kj1) ∧ Aside0 (w'.heap[gb194]? = some (.cells #[.int .i64 a0_0, .int .i64 a0_1, (.slice A0_2 l0_2.length c0_2), (.slice A0_3 l0_3.length c0_3), (.slice A0_4 l0_4.length c0_4)] 26 (0, 0))) ∧ Aside0 (Below w.heap.size w w'))
     case atStart => exact ⟨(0), fa, H', ⟨Nat.le_refl _⟩, ⟨by (with_reducible repeat (first | refine blk_drewN ?_ _ | refine blk_drew ?_ | refine blk_alloc ?_ _)); exact BK194.out⟩, ⟨bl⟩⟩
     case round => as_aux_lemma =>
      clear H'
      try clear c1
      try clear c2
      try clear p2
      try clear c5
      try clear c7
      try clear c8
      try clear c8b0
      try clear c8b1
      try clear c10
      try clear c10b0
      try clear c10b1
      try clear c15
      try clear c17
      try clear c17b0
      try clear Z11_0 Z11_1 Z11_2 Z11_3 Z11_4
      try clear Z12_0 Z12_1 Z12_2 Z12_3 Z12_4
      try clear Z13_0 Z13_1 Z13_2 Z13_3 Z13_4
      try clear Z14_0 Z14_1 Z14_2 Z14_3 Z14_4
      try clear Z9_0 Z9_1 Z9_2 Z9_3 Z9_4
      try clear Y11_0 Y11_1 Y11_2 Y11_3 Y11_4
      try clear Y12_0 Y12_1 Y12_2 Y12_3 Y12_4
      try clear Y13_0 Y13_1 Y13_2 Y13_3 Y13_4
      try clear Y14_0 Y14_1 Y14_2 Y14_3 Y14_4
      try clear Y9_0 Y9_1 Y9_2 Y9_3 Y9_4
      try clear p2
      obtain ⟨x3_2, rfl, HA, HK2, BK194, HB⟩ := hrel
      cases gk with
      | zero => exact absurd HA.out (by simp [spec_DiskOk.l0])
      | succ k2 =>
       have H := HA.out
       clear HA
       simp only [spec_DiskOk.l0] at H
       by_cases c22 : x3_2 < (l0_2.length : Int)
       ·rw [if_pos c22] at H
        have c22b0 : decide (x3_2 < (l0_2.length : Int)) = true := decide_eq_true c22
        clear c22
        by_cases c23 : 0 ≤ x3_2
        ·rw [if_pos c23] at H
         have c23b0 : decide (0 ≤ x3_2) = true := decide_eq_true c23
         clear c23
         obtain ⟨t200, A24, H⟩ := bd H
         by_cases c25 : t200 = true
         ·subst c25
          replace H := iT H
          obtain ⟨t201, A26, H⟩ := bd H
          by_cases c27 : t201 = true
          ·subst c27
           replace H := iT H
           by_cases c28 : x3_2 > 0
           ·rw [if_pos c28] at H
            have c28b0 : decide (0 < x3_2) = true := decide_eq_true c28
            clear c28
            obtain ⟨ji29, hji29⟩ : ∃ j_ : Int, (wrap64 (x3_2 - 1)) = j_ := ⟨_, rfl⟩
            replace H : (if 0 ≤ (ji29) then (if (ji29) < (l0_2.length : Int) then (if ((rd_T89 l0_2 (ji29)).f0) ≥ ((rd_T89 l0_2 x3_2).f0) then (some false) else ((spec_l4Linked.f k2 l0_3 ((rd_T89 l0_2 x3_2).f0)).bind fun t203 => (if t203 = true then (spec_DiskOk.l0 k2 (wrap64 (x3_2 + 1)) a0_0 a0_1 l0_2 l0_3 l0_4) else ((spec_l4Made.f k2 l0_4 ((rd_T89 l0_2 x3_2).f0)).bind fun t204 => (if t204 = true then (spec_DiskOk.l0 k2 (wrap64 (x3_2 + 1)) a0_0 a0_1 l0_2 l0_3 l0_4) else (some false)))))) else (none)) else (none)) = some r := by first | (rw [hji29] at H; exact H) | (simp only [hji29] at H ⊢; exact H)
            (try rw [hji29] at A24)
            (try rw [hji29] at A26)
            have hji29w : (IntKind.i64.wrap (x3_2 - 1)) = ji29 := (i64_w _).trans hji29
            by_cases c30 : 0 ≤ (ji29)
            ·rw [if_pos c30] at H
             have c30b0 : decide (0 ≤ (ji29)) = true := decide_eq_true c30
             clear c30
             by_cases c31 : (ji29) < (l0_2.length : Int)
             ·rw [if_pos c31] at H
              have c31b0 : decide ((ji29) < (l0_2.length : Int)) = true := decide_eq_true c31
              clear c31
              by_cases c32 : ((rd_T89 l0_2 (ji29)).f0) ≥ ((rd_T89 l0_2 x3_2).f0)
              ·rw [if_pos c32] at H
               have c32b0 : decide (((rd_T89 l0_2 x3_2).f0) ≤ ((rd_T89 l0_2 (ji29)).f0)) = true := decide_eq_true c32
               clear c32
               obtain rfl := Option.some.inj H
               obtain ⟨Z33_0, Z33_1, Z33_2, Z33_3, Z33_4, Y33_0, Y33_1, Y33_2, Y33_3, Y33_4⟩ := cf5 BK194
               have p198 : 0 ≤ (x3_2 : Int) := of_decide_eq_true am
               have q198 : x3_2 < (l0_2.length : Int) := of_decide_eq_true am
               obtain ⟨ad198, e198, hx198_0, hx198_1, hx198_2⟩ := at_T89 HR0_2.out x3_2 p198 q198
               cases e198
               replace hx198_0 := cz HB hx198_0
               replace hx198_1 := cz HB hx198_1
               replace hx198_2 := cz HB hx198_2
               replace p198 := eq_true p198
               replace q198 := eq_true q198
               try go_wp2_with (first | ((with_reducible refine gD 4 rfl ?_); (try (refine gate_guard rfl ?_; dsimp only)); refine boxZ 4 #[.int .i64 0, .string (⟨#[]⟩ : ByteArray), .int .i64 0] 89 ?_; intro gb199 hg w34 hbox hb; have BK199 := Aside0.mk hbox; have GW199 := gw (w := w) hg; have GE199 := gw (w := w) hg; replace HB := bs (w := w) hb; have NB194_199 := nl BK194 hg; have NB199_194 := nr BK194 hg; replace BK194 := bv BK194 hb; clear hb hbox hg; have hnb35 := NB199_194.out; have hnc35 := NB194_199.out; obtain ⟨Z36_0, Z36_1, Z36_2, Y36_0, Y36_1, Y36_2⟩ := cf3 BK199))
               have n0_ : Aside0 ((((w34.setCell ⟨gb199, 0, none⟩ (.int .i64 ((rd_T89 l0_2 x3_2).f0))).setCell ⟨gb199, 1, none⟩ (.string ((rd_T89 l0_2 x3_2).f1))).setCell ⟨gb199, 2, none⟩ (.int .i64 ((rd_T89 l0_2 x3_2).f2))).heap[gb194]? = some (.cells #[.int .i64 a0_0, .int .i64 a0_1, .slice (some ad198) l0_2.length c0_2, .slice A0_3 l0_3.length c0_3, .slice A0_4 l0_4.length c0_4] 26 (0, 0))) := ⟨bkk⟩
               have n1_ : Aside0 ((((w34.setCell ⟨gb199, 0, none⟩ (.int .i64 ((rd_T89 l0_2 x3_2).f0))).setCell ⟨gb199, 1, none⟩ (.string ((rd_T89 l0_2 x3_2).f1))).setCell ⟨gb199, 2, none⟩ (.int .i64 ((rd_T89 l0_2 x3_2).f2))).heap[gb199]? = some (.cells #[.int .i64 ((rd_T89 l0_2 x3_2).f0), .string ((rd_T89 l0_2 x3_2).f1), .int .i64 ((rd_T89 l0_2 x3_2).f2)] 89 (0, 0))) := ⟨bkk⟩
               have n2_ : Aside0 (Below w.heap.size w (((w34.setCell ⟨gb199, 0, none⟩ (.int .i64 ((rd_T89 l0_2 x3_2).f0))).setCell ⟨gb199, 1, none⟩ (.string ((rd_T89 l0_2 x3_2).f1))).setCell ⟨gb199, 2, none⟩ (.int .i64 ((rd_T89 l0_2 x3_2).f2)))) := ⟨bl⟩
               (try clear BK194)
               (try clear BK199)
               (try clear HB)
               generalize (((w34.setCell ⟨gb199, 0, none⟩ (.int .i64 ((rd_T89 l0_2 x3_2).f0))).setCell ⟨gb199, 1, none⟩ (.string ((rd_T89 l0_2 x3_2).f1))).setCell ⟨gb199, 2, none⟩ (.int .i64 ((rd_T89 l0_2 x3_2).f2))) = w37 at n0_ n1_ n2_ ⊢
               have BK194 := n0_
               have BK199 := n1_
               have HB := n2_
               clear n0_ n1_ n2_
               replace BK194 := Aside0.mk (blk_drew BK194.out); replace BK199 := Aside0.mk (blk_drew BK199.out); replace HB := Aside0.mk (below_drew1 HB.out)
               have p202 : 0 ≤ ((ji29) : Int) := of_decide_eq_true am
               have q202 : (ji29) < (l0_2.length : Int) := of_decide_eq_true am
               obtain ⟨ad202, e202, hx202_0, hx202_1, hx202_2⟩ := at_T89 HR0_2.out (ji29) p202 q202
               have hw202_2 := hx202_2
               have hw202_1 := hx202_1
               have hw202_0 := hx202_0
               obtain rfl : ad198 = ad202 := (by injection e202)
               replace hx202_0 := cz HB hx202_0
               replace hx202_1 := cz HB hx202_1
               replace hx202_2 := cz HB hx202_2
               replace p202 := eq_true p202
               replace q202 := eq_true q202
               refine start_ (n := 48) (S := fun w' => w'.cell? ⟨gb199, 0, none⟩ = some (.int .i64 ((rd_T89 l0_2 x3_2).f0)) ∧ w'.cell? ⟨gb199, 1, none⟩ = some (.string ((rd_T89 l0_2 x3_2).f1)) ∧ w'.cell? ⟨gb199, 2, none⟩ = some (.int .i64 ((rd_T89 l0_2 x3_2).f2)) ∧ w'.cell? ⟨gb194, 0, none⟩ = some (.int .i64 a0_0) ∧ w'.cell? ⟨gb194, 1, none⟩ = some (.int .i64 a0_1) ∧ w'.cell? ⟨gb194, 2, none⟩ = some (.slice (some ad198) l0_2.length c0_2) ∧ w'.cell? ⟨gb194, 3, none⟩ = some (.slice A0_3 l0_3.length c0_3) ∧ w'.cell? ⟨gb194, 4, none⟩ = some (.slice A0_4 l0_4.length c0_4) ∧ w'.cell? (ad198.add (((ji29)).toNat * 3)) = some (.int .i64 ((rd_T89 l0_2 (ji29)).f0)) ∧ w'.cell? ⟨(ad198.add (((ji29)).toNat * 3)).block, (ad198.add (((ji29)).toNat * 3)).off + 1, none⟩ = some (.string ((rd_T89 l0_2 (ji29)).f1)) ∧ w'.cell? ⟨(ad198.add (((ji29)).toNat * 3)).block, (ad198.add (((ji29)).toNat * 3)).off + 2, none⟩ = some (.int .i64 ((rd_T89 l0_2 (ji29)).f2))) (ds := []) (bo 48 0) (by kernel_rfl) rfl rfl ⟨cb 0 BK199, cb 1 BK199, cb 2 BK199, cb 0 BK194, cb 1 BK194, cb 2 BK194, cb 3 BK194, cb 4 BK194, ((HB.out.cell (World.block_lt_of_cell? w _ hw202_0)).trans hw202_0), ((HB.out.cell (World.block_lt_of_cell? w _ hw202_1)).trans hw202_1), ((HB.out.cell (World.block_lt_of_cell? w _ hw202_2)).trans hw202_2)⟩ (fun hHeld => ?_); refine with_tabW spec_DiskOk.tab9 spec_DiskOk.bits9 (fun HT_ HW_ => ?_)
               generalize w37.drew = w38 at BK194 BK199 HB hx202_0 hx202_1 hx202_2 hHeld ⊢
               refine pV 0 57 (bo 48 1) ?_
               refine pV 2 59 (bo 48 5) ?_
               refine tV 1 58 (bo 48 7) ?_
               refine tV 3 60 (bo 48 15) ?_
               refine pV 4 61 (bo 48 31) ?_
               refine one_ (i := 5) (N := some 62) (bo 48 63) rfl rfl (one_of HT_.out (by kernel_rfl)) (by decide) (fun K hK => ?_)
               refine goes_ Try.func53 (by kernel_rfl) rfl #[.int .i64 ((rd_T89 l0_2 x3_2).f0), .int .i64 1, .int .i64 (wrap64 (a0_1 - 1))] (by rfl) rfl rfl sa ?_
               with_reducible refine (spec_l1In.calls ((rd_T89 l0_2 x3_2).f0) 1 (wrap64 (a0_1 - 1)) true _ A24.out).mono ?_
               rintro e w' ⟨rfl, ⟨nd, rfl⟩⟩
               refine ⟨_, rfl, ?_⟩
               refine hK.out _ _ ⟨cb 0 BK199, cb 1 BK199, cb 2 BK199, cb 0 BK194, cb 1 BK194, cb 2 BK194, cb 3 BK194, cb 4 BK194, ((HB.out.cell (World.block_lt_of_cell? w _ hw202_0)).trans hw202_0), ((HB.out.cell (World.block_lt_of_cell? w _ hw202_1)).trans hw202_1), ((HB.out.cell (World.block_lt_of_cell? w _ hw202_2)).trans hw202_2)⟩ (fun hHeld => ?_)
               clear hK K
               refine norm_ (a' := ?_) ?_ ?_
               rotate_left
               ·show Act.put _ (some 62) _ = _
                simp only [Act.put, List.setIfInBounds_toArray, List.set_cons_zero, List.set_cons_succ, i64_w, i32_w]
                rfl
               refine pV 6 63 (bo 48 127) ?_
               refine pV 7 64 (bo 48 255) ?_
               refine pV 8 65 (bo 48 511) ?_
               refine pV 10 67 (bo 48 1535) ?_
               refine tV 9 66 (bo 48 2047) ?_
               refine tV 11 68 (bo 48 4095) ?_
               refine pV 12 69 (bo 48 8191) ?_
               refine one_ (i := 13) (N := some 70) (bo 48 16383) rfl rfl (one_of HT_.out (by kernel_rfl)) (by decide) (fun K hK => ?_)
               refine goes_ Try.func53 (by kernel_rfl) rfl #[.int .i64 ((rd_T89 l0_2 x3_2).f2), .int .i64 0, .int .i64 (((rd_T89 l0_2 x3_2).f1).size : Int)] (by rfl) rfl rfl sa ?_
               with_reducible refine (spec_l1In.calls ((rd_T89 l0_2 x3_2).f2) 0 (((rd_T89 l0_2 x3_2).f1).size : Int) true _ A26.out).mono ?_
               rintro e w' ⟨rfl, ⟨nd, rfl⟩⟩
               refine ⟨_, rfl, ?_⟩
               refine hK.out _ _ ⟨cb 0 BK199, cb 1 BK199, cb 2 BK199, cb 0 BK194, cb 1 BK194, cb 2 BK194, cb 3 BK194, cb 4 BK194, ((HB.out.cell (World.block_lt_of_cell? w _ hw202_0)).trans hw202_0), ((HB.out.cell (World.block_lt_of_cell? w _ hw202_1)).trans hw202_1), ((HB.out.cell (World.block_lt_of_cell? w _ hw202_2)).trans hw202_2)⟩ (fun hHeld => ?_)
               clear hK K
               refine norm_ (a' := ?_) ?_ ?_
               rotate_left
               ·show Act.put _ (some 70) _ = _
                simp only [Act.put, List.setIfInBounds_toArray, List.set_cons_zero, List.set_cons_succ, i64_w, i32_w]
                rfl
               refine pV 14 71 (bo 48 32767) ?_
               refine pV 15 72 (bo 48 65535) ?_
               refine pV 16 73 (bo 48 131071) ?_
               refine pV 17 74 (bo 48 262143) ?_
               refine pV 18 75 (bo 48 524287) ?_
               refine pV 19 76 (bo 48 1048575) ?_
               refine pV 20 77 (bo 48 2097151) ?_
               refine pV 22 79 (bo 48 6291455) ?_
               refine pV 23 80 (bo 48 14680063) ?_
               refine pV 27 84 (bo 48 148897791) ?_
               refine tV 21 78 (bo 48 150994943) ?_
               refine pV 24 81 (bo 48 167772159) ?_
               refine pV 25 82 (bo 48 201326591) ?_
               refine tV 26 83 (bo 48 268435455) ?_
               refine tV 28 85 (bo 48 536870911) ?_
               refine pV 29 86 (bo 48 1073741823) ?_
               refine pV 30 87 (bo 48 2147483647) ?_
               refine pV 31 88 (bo 48 4294967295) ?_
               refine pV 32 89 (bo 48 8589934591) ?_
               refine pU 33 90 (bo 48 17179869183) ?_
               refine pU 34 91 (bo 48 34359738367) ?_
               refine pU 35 92 (bo 48 68719476735) ?_
               refine pU 36 93 (bo 48 137438953471) ?_
               refine pU 37 94 (bo 48 274877906943) ?_
               refine pU 38 95 (bo 48 549755813887) ?_
               refine pU 39 96 (bo 48 1099511627775) ?_
               refine pU 40 97 (bo 48 2199023255551) ?_
               refine pU 41 98 (bo 48 4398046511103) ?_
               refine pU 42 99 (bo 48 8796093022207) ?_
               refine pU 43 100 (bo 48 17592186044415) ?_
               refine pU 44 101 (bo 48 35184372088831) ?_
               refine pU 45 102 (bo 48 70368744177663) ?_
               refine pU 46 103 (bo 48 140737488355327) ?_
               refine pV 47 104 (bo 48 281474976710655) ?_
               refine done_ (done_of HT_.out (by kernel_rfl)) ?_
               try go_wp2
               go_ret
               exact ⟨by first | rfl | (simp [errW_none, errW_some] <;> rfl) | (simp only [← hji29]; first | rfl | (simp [errW_none, errW_some] <;> rfl)) | (simp [*, errW_none, errW_some] <;> rfl), bl⟩
              ·rw [if_neg c32] at H
               have c32b0 : decide (((rd_T89 l0_2 x3_2).f0) ≤ ((rd_T89 l0_2 (ji29)).f0)) = false := decide_eq_false c32
               clear c32
               obtain ⟨t203, A39, H⟩ := bd H
               by_cases c40 : t203 = true
               ·subst c40
                replace H := iT H
                have H' := Aside0.mk H
                clear H
                obtain ⟨Z41_0, Z41_1, Z41_2, Z41_3, Z41_4, Y41_0, Y41_1, Y41_2, Y41_3, Y41_4⟩ := cf5 BK194
                have p198 : 0 ≤ (x3_2 : Int) := of_decide_eq_true am
                have q198 : x3_2 < (l0_2.length : Int) := of_decide_eq_true am
                obtain ⟨ad198, e198, hx198_0, hx198_1, hx198_2⟩ := at_T89 HR0_2.out x3_2 p198 q198
                cases e198
                replace hx198_0 := cz HB hx198_0
                replace hx198_1 := cz HB hx198_1
                replace hx198_2 := cz HB hx198_2
                replace p198 := eq_true p198
                replace q198 := eq_true q198
                try go_wp2_with (first | ((with_reducible refine gD 4 rfl ?_); (try (refine gate_guard rfl ?_; dsimp only)); refine boxZ 4 #[.int .i64 0, .string (⟨#[]⟩ : ByteArray), .int .i64 0] 89 ?_; intro gb199 hg w42 hbox hb; have BK199 := Aside0.mk hbox; have GW199 := gw (w := w) hg; have GE199 := gw (w := w) hg; replace HB := bs (w := w) hb; have NB194_199 := nl BK194 hg; have NB199_194 := nr BK194 hg; replace BK194 := bv BK194 hb; clear hb hbox hg; have hnb43 := NB199_194.out; have hnc43 := NB194_199.out; obtain ⟨Z44_0, Z44_1, Z44_2, Y44_0, Y44_1, Y44_2⟩ := cf3 BK199))
                have n0_ : Aside0 ((((w42.setCell ⟨gb199, 0, none⟩ (.int .i64 ((rd_T89 l0_2 x3_2).f0))).setCell ⟨gb199, 1, none⟩ (.string ((rd_T89 l0_2 x3_2).f1))).setCell ⟨gb199, 2, none⟩ (.int .i64 ((rd_T89 l0_2 x3_2).f2))).heap[gb194]? = some (.cells #[.int .i64 a0_0, .int .i64 a0_1, .slice (some ad198) l0_2.length c0_2, .slice A0_3 l0_3.length c0_3, .slice A0_4 l0_4.length c0_4] 26 (0, 0))) := ⟨bkk⟩
                have n1_ : Aside0 ((((w42.setCell ⟨gb199, 0, none⟩ (.int .i64 ((rd_T89 l0_2 x3_2).f0))).setCell ⟨gb199, 1, none⟩ (.string ((rd_T89 l0_2 x3_2).f1))).setCell ⟨gb199, 2, none⟩ (.int .i64 ((rd_T89 l0_2 x3_2).f2))).heap[gb199]? = some (.cells #[.int .i64 ((rd_T89 l0_2 x3_2).f0), .string ((rd_T89 l0_2 x3_2).f1), .int .i64 ((rd_T89 l0_2 x3_2).f2)] 89 (0, 0))) := ⟨bkk⟩
                have n2_ : Aside0 (Below w.heap.size w (((w42.setCell ⟨gb199, 0, none⟩ (.int .i64 ((rd_T89 l0_2 x3_2).f0))).setCell ⟨gb199, 1, none⟩ (.string ((rd_T89 l0_2 x3_2).f1))).setCell ⟨gb199, 2, none⟩ (.int .i64 ((rd_T89 l0_2 x3_2).f2)))) := ⟨bl⟩
                (try clear BK194)
                (try clear BK199)
                (try clear HB)
                generalize (((w42.setCell ⟨gb199, 0, none⟩ (.int .i64 ((rd_T89 l0_2 x3_2).f0))).setCell ⟨gb199, 1, none⟩ (.string ((rd_T89 l0_2 x3_2).f1))).setCell ⟨gb199, 2, none⟩ (.int .i64 ((rd_T89 l0_2 x3_2).f2))) = w45 at n0_ n1_ n2_ ⊢
                have BK194 := n0_
                have BK199 := n1_
                have HB := n2_
                clear n0_ n1_ n2_
                replace BK194 := Aside0.mk (blk_drew BK194.out); replace BK199 := Aside0.mk (blk_drew BK199.out); replace HB := Aside0.mk (below_drew1 HB.out)
                have p202 : 0 ≤ ((ji29) : Int) := of_decide_eq_true am
                have q202 : (ji29) < (l0_2.length : Int) := of_decide_eq_true am
                obtain ⟨ad202, e202, hx202_0, hx202_1, hx202_2⟩ := at_T89 HR0_2.out (ji29) p202 q202
                have hw202_2 := hx202_2
                have hw202_1 := hx202_1
                have hw202_0 := hx202_0
                obtain rfl : ad198 = ad202 := (by injection e202)
                replace hx202_0 := cz HB hx202_0
                replace hx202_1 := cz HB hx202_1
                replace hx202_2 := cz HB hx202_2
                replace p202 := eq_true p202
                replace q202 := eq_true q202
                refine start_ (n := 48) (S := fun w' => w'.cell? ⟨gb199, 0, none⟩ = some (.int .i64 ((rd_T89 l0_2 x3_2).f0)) ∧ w'.cell? ⟨gb199, 1, none⟩ = some (.string ((rd_T89 l0_2 x3_2).f1)) ∧ w'.cell? ⟨gb199, 2, none⟩ = some (.int .i64 ((rd_T89 l0_2 x3_2).f2)) ∧ w'.cell? ⟨gb194, 0, none⟩ = some (.int .i64 a0_0) ∧ w'.cell? ⟨gb194, 1, none⟩ = some (.int .i64 a0_1) ∧ w'.cell? ⟨gb194, 2, none⟩ = some (.slice (some ad198) l0_2.length c0_2) ∧ w'.cell? ⟨gb194, 3, none⟩ = some (.slice A0_3 l0_3.length c0_3) ∧ w'.cell? ⟨gb194, 4, none⟩ = some (.slice A0_4 l0_4.length c0_4) ∧ w'.cell? (ad198.add (((ji29)).toNat * 3)) = some (.int .i64 ((rd_T89 l0_2 (ji29)).f0)) ∧ w'.cell? ⟨(ad198.add (((ji29)).toNat * 3)).block, (ad198.add (((ji29)).toNat * 3)).off + 1, none⟩ = some (.string ((rd_T89 l0_2 (ji29)).f1)) ∧ w'.cell? ⟨(ad198.add (((ji29)).toNat * 3)).block, (ad198.add (((ji29)).toNat * 3)).off + 2, none⟩ = some (.int .i64 ((rd_T89 l0_2 (ji29)).f2))) (ds := []) (bo 48 0) (by kernel_rfl) rfl rfl ⟨cb 0 BK199, cb 1 BK199, cb 2 BK199, cb 0 BK194, cb 1 BK194, cb 2 BK194, cb 3 BK194, cb 4 BK194, ((HB.out.cell (World.block_lt_of_cell? w _ hw202_0)).trans hw202_0), ((HB.out.cell (World.block_lt_of_cell? w _ hw202_1)).trans hw202_1), ((HB.out.cell (World.block_lt_of_cell? w _ hw202_2)).trans hw202_2)⟩ (fun hHeld => ?_); refine with_tabW spec_DiskOk.tab9 spec_DiskOk.bits9 (fun HT_ HW_ => ?_)
                generalize w45.drew = w46 at BK194 BK199 HB hx202_0 hx202_1 hx202_2 hHeld ⊢
                refine pV 0 57 (bo 48 1) ?_
                refine pV 2 59 (bo 48 5) ?_
                refine tV 1 58 (bo 48 7) ?_
                refine tV 3 60 (bo 48 15) ?_
                refine pV 4 61 (bo 48 31) ?_
                refine one_ (i := 5) (N := some 62) (bo 48 63) rfl rfl (one_of HT_.out (by kernel_rfl)) (by decide) (fun K hK => ?_)
                refine goes_ Try.func53 (by kernel_rfl) rfl #[.int .i64 ((rd_T89 l0_2 x3_2).f0), .int .i64 1, .int .i64 (wrap64 (a0_1 - 1))] (by rfl) rfl rfl sa ?_
                with_reducible refine (spec_l1In.calls ((rd_T89 l0_2 x3_2).f0) 1 (wrap64 (a0_1 - 1)) true _ A24.out).mono ?_
                rintro e w' ⟨rfl, ⟨nd, rfl⟩⟩
                refine ⟨_, rfl, ?_⟩
                refine hK.out _ _ ⟨cb 0 BK199, cb 1 BK199, cb 2 BK199, cb 0 BK194, cb 1 BK194, cb 2 BK194, cb 3 BK194, cb 4 BK194, ((HB.out.cell (World.block_lt_of_cell? w _ hw202_0)).trans hw202_0), ((HB.out.cell (World.block_lt_of_cell? w _ hw202_1)).trans hw202_1), ((HB.out.cell (World.block_lt_of_cell? w _ hw202_2)).trans hw202_2)⟩ (fun hHeld => ?_)
                clear hK K
                refine norm_ (a' := ?_) ?_ ?_
                rotate_left
                ·show Act.put _ (some 62) _ = _
                 simp only [Act.put, List.setIfInBounds_toArray, List.set_cons_zero, List.set_cons_succ, i64_w, i32_w]
                 rfl
                refine pV 6 63 (bo 48 127) ?_
                refine pV 7 64 (bo 48 255) ?_
                refine pV 8 65 (bo 48 511) ?_
                refine pV 10 67 (bo 48 1535) ?_
                refine tV 9 66 (bo 48 2047) ?_
                refine tV 11 68 (bo 48 4095) ?_
                refine pV 12 69 (bo 48 8191) ?_
                refine one_ (i := 13) (N := some 70) (bo 48 16383) rfl rfl (one_of HT_.out (by kernel_rfl)) (by decide) (fun K hK => ?_)
                refine goes_ Try.func53 (by kernel_rfl) rfl #[.int .i64 ((rd_T89 l0_2 x3_2).f2), .int .i64 0, .int .i64 (((rd_T89 l0_2 x3_2).f1).size : Int)] (by rfl) rfl rfl sa ?_
                with_reducible refine (spec_l1In.calls ((rd_T89 l0_2 x3_2).f2) 0 (((rd_T89 l0_2 x3_2).f1).size : Int) true _ A26.out).mono ?_
                rintro e w' ⟨rfl, ⟨nd, rfl⟩⟩
                refine ⟨_, rfl, ?_⟩
                refine hK.out _ _ ⟨cb 0 BK199, cb 1 BK199, cb 2 BK199, cb 0 BK194, cb 1 BK194, cb 2 BK194, cb 3 BK194, cb 4 BK194, ((HB.out.cell (World.block_lt_of_cell? w _ hw202_0)).trans hw202_0), ((HB.out.cell (World.block_lt_of_cell? w _ hw202_1)).trans hw202_1), ((HB.out.cell (World.block_lt_of_cell? w _ hw202_2)).trans hw202_2)⟩ (fun hHeld => ?_)
                clear hK K
                refine norm_ (a' := ?_) ?_ ?_
                rotate_left
                ·show Act.put _ (some 70) _ = _
                 simp only [Act.put, List.setIfInBounds_toArray, List.set_cons_zero, List.set_cons_succ, i64_w, i32_w]
                 rfl
                refine pV 14 71 (bo 48 32767) ?_
                refine pV 15 72 (bo 48 65535) ?_
                refine pV 16 73 (bo 48 131071) ?_
                refine pV 17 74 (bo 48 262143) ?_
                refine pV 18 75 (bo 48 524287) ?_
                refine pV 19 76 (bo 48 1048575) ?_
                refine pV 20 77 (bo 48 2097151) ?_
                refine pV 22 79 (bo 48 6291455) ?_
                refine pV 23 80 (bo 48 14680063) ?_
                refine pV 27 84 (bo 48 148897791) ?_
                refine tV 21 78 (bo 48 150994943) ?_
                refine pV 24 81 (bo 48 167772159) ?_
                refine pV 25 82 (bo 48 201326591) ?_
                refine tV 26 83 (bo 48 268435455) ?_
                refine tV 28 85 (bo 48 536870911) ?_
                refine pV 29 86 (bo 48 1073741823) ?_
                refine pV 30 87 (bo 48 2147483647) ?_
                refine pV 31 88 (bo 48 4294967295) ?_
                refine pV 32 89 (bo 48 8589934591) ?_
                refine pV 33 90 (bo 48 17179869183) ?_
                refine pV 35 92 (bo 48 51539607551) ?_
                refine tV 34 91 (bo 48 68719476735) ?_
                refine tV 36 93 (bo 48 137438953471) ?_
                refine one_ (i := 37) (N := some 94) (bo 48 274877906943) rfl rfl (one_of HT_.out (by kernel_rfl)) (by decide) (fun K hK => ?_)
                refine goes_ Try.func77 (by kernel_rfl) rfl #[.slice A0_3 l0_3.length c0_3, .int .i64 ((rd_T89 l0_2 x3_2).f0)] (by rfl) rfl rfl sa ?_
                with_reducible refine (spec_l4Linked.calls k2 _ _ l0_3 ((rd_T89 l0_2 x3_2).f0) true _ ?side1 ?side2 A39.out).mono ?_
                (case side1 => exact ca (Kd.C_below HR0_3.out bl))
                (case side2 => exact HC0_3.out)
                rintro e w' ⟨rfl, ⟨nd, rfl⟩⟩
                refine ⟨_, rfl, ?_⟩
                refine hK.out _ _ ⟨cb 0 BK199, cb 1 BK199, cb 2 BK199, cb 0 BK194, cb 1 BK194, cb 2 BK194, cb 3 BK194, cb 4 BK194, ((HB.out.cell (World.block_lt_of_cell? w _ hw202_0)).trans hw202_0), ((HB.out.cell (World.block_lt_of_cell? w _ hw202_1)).trans hw202_1), ((HB.out.cell (World.block_lt_of_cell? w _ hw202_2)).trans hw202_2)⟩ (fun hHeld => ?_)
                clear hK K
                refine norm_ (a' := ?_) ?_ ?_
                rotate_left
                ·show Act.put _ (some 94) _ = _
                 simp only [Act.put, List.setIfInBounds_toArray, List.set_cons_zero, List.set_cons_succ, i64_w, i32_w]
                 rfl
                refine pV 38 95 (bo 48 549755813887) ?_
                refine pV 39 96 (bo 48 1099511627775) ?_
                refine pU 40 97 (bo 48 2199023255551) ?_
                refine pU 41 98 (bo 48 4398046511103) ?_
                refine pU 42 99 (bo 48 8796093022207) ?_
                refine pU 43 100 (bo 48 17592186044415) ?_
                refine pU 44 101 (bo 48 35184372088831) ?_
                refine pU 45 102 (bo 48 70368744177663) ?_
                refine pV 46 103 (bo 48 140737488355327) ?_
                refine pV 47 104 (bo 48 281474976710655) ?_
                refine done_ (done_of HT_.out (by kernel_rfl)) ?_
                try go_wp2
                go_roundg k2
                case measure => have := HJ1.out; have := HK2.out; omega
                case rel => exact ⟨(wrap64 (x3_2 + 1)), fa, H', ⟨by have := HJ1.out; have := HK2.out; omega⟩, ⟨by (with_reducible repeat (first | refine blk_drewN ?_ _ | refine blk_drew ?_ | refine blk_alloc ?_ _)); exact BK194.out⟩, ⟨bl⟩⟩
               ·replace c40 := Bool.eq_false_iff.mpr c40
                subst c40
                replace H := iF H
                obtain ⟨t204, A47, H⟩ := bd H
                by_cases c48 : t204 = true
                ·subst c48
                 replace H := iT H
                 have H' := Aside0.mk H
                 clear H
                 obtain ⟨Z49_0, Z49_1, Z49_2, Z49_3, Z49_4, Y49_0, Y49_1, Y49_2, Y49_3, Y49_4⟩ := cf5 BK194
                 have p198 : 0 ≤ (x3_2 : Int) := of_decide_eq_true am
                 have q198 : x3_2 < (l0_2.length : Int) := of_decide_eq_true am
                 obtain ⟨ad198, e198, hx198_0, hx198_1, hx198_2⟩ := at_T89 HR0_2.out x3_2 p198 q198
                 cases e198
                 replace hx198_0 := cz HB hx198_0
                 replace hx198_1 := cz HB hx198_1
                 replace hx198_2 := cz HB hx198_2
                 replace p198 := eq_true p198
                 replace q198 := eq_true q198
                 try go_wp2_with (first | ((with_reducible refine gD 4 rfl ?_); (try (refine gate_guard rfl ?_; dsimp only)); refine boxZ 4 #[.int .i64 0, .string (⟨#[]⟩ : ByteArray), .int .i64 0] 89 ?_; intro gb199 hg w50 hbox hb; have BK199 := Aside0.mk hbox; have GW199 := gw (w := w) hg; have GE199 := gw (w := w) hg; replace HB := bs (w := w) hb; have NB194_199 := nl BK194 hg; have NB199_194 := nr BK194 hg; replace BK194 := bv BK194 hb; clear hb hbox hg; have hnb51 := NB199_194.out; have hnc51 := NB194_199.out; obtain ⟨Z52_0, Z52_1, Z52_2, Y52_0, Y52_1, Y52_2⟩ := cf3 BK199))
                 have n0_ : Aside0 ((((w50.setCell ⟨gb199, 0, none⟩ (.int .i64 ((rd_T89 l0_2 x3_2).f0))).setCell ⟨gb199, 1, none⟩ (.string ((rd_T89 l0_2 x3_2).f1))).setCell ⟨gb199, 2, none⟩ (.int .i64 ((rd_T89 l0_2 x3_2).f2))).heap[gb194]? = some (.cells #[.int .i64 a0_0, .int .i64 a0_1, .slice (some ad198) l0_2.length c0_2, .slice A0_3 l0_3.length c0_3, .slice A0_4 l0_4.length c0_4] 26 (0, 0))) := ⟨bkk⟩
                 have n1_ : Aside0 ((((w50.setCell ⟨gb199, 0, none⟩ (.int .i64 ((rd_T89 l0_2 x3_2).f0))).setCell ⟨gb199, 1, none⟩ (.string ((rd_T89 l0_2 x3_2).f1))).setCell ⟨gb199, 2, none⟩ (.int .i64 ((rd_T89 l0_2 x3_2).f2))).heap[gb199]? = some (.cells #[.int .i64 ((rd_T89 l0_2 x3_2).f0), .string ((rd_T89 l0_2 x3_2).f1), .int .i64 ((rd_T89 l0_2 x3_2).f2)] 89 (0, 0))) := ⟨bkk⟩
                 have n2_ : Aside0 (Below w.heap.size w (((w50.setCell ⟨gb199, 0, none⟩ (.int .i64 ((rd_T89 l0_2 x3_2).f0))).setCell ⟨gb199, 1, none⟩ (.string ((rd_T89 l0_2 x3_2).f1))).setCell ⟨gb199, 2, none⟩ (.int .i64 ((rd_T89 l0_2 x3_2).f2)))) := ⟨bl⟩
                 (try clear BK194)
                 (try clear BK199)
                 (try clear HB)
                 generalize (((w50.setCell ⟨gb199, 0, none⟩ (.int .i64 ((rd_T89 l0_2 x3_2).f0))).setCell ⟨gb199, 1, none⟩ (.string ((rd_T89 l0_2 x3_2).f1))).setCell ⟨gb199, 2, none⟩ (.int .i64 ((rd_T89 l0_2 x3_2).f2))) = w53 at n0_ n1_ n2_ ⊢
                 have BK194 := n0_
                 have BK199 := n1_
                 have HB := n2_
                 clear n0_ n1_ n2_
                 replace BK194 := Aside0.mk (blk_drew BK194.out); replace BK199 := Aside0.mk (blk_drew BK199.out); replace HB := Aside0.mk (below_drew1 HB.out)
                 have p202 : 0 ≤ ((ji29) : Int) := of_decide_eq_true am
                 have q202 : (ji29) < (l0_2.length : Int) := of_decide_eq_true am
                 obtain ⟨ad202, e202, hx202_0, hx202_1, hx202_2⟩ := at_T89 HR0_2.out (ji29) p202 q202
                 have hw202_2 := hx202_2
                 have hw202_1 := hx202_1
                 have hw202_0 := hx202_0
                 obtain rfl : ad198 = ad202 := (by injection e202)
                 replace hx202_0 := cz HB hx202_0
                 replace hx202_1 := cz HB hx202_1
                 replace hx202_2 := cz HB hx202_2
                 replace p202 := eq_true p202
                 replace q202 := eq_true q202
                 refine start_ (n := 48) (S := fun w' => w'.cell? ⟨gb199, 0, none⟩ = some (.int .i64 ((rd_T89 l0_2 x3_2).f0)) ∧ w'.cell? ⟨gb199, 1, none⟩ = some (.string ((rd_T89 l0_2 x3_2).f1)) ∧ w'.cell? ⟨gb199, 2, none⟩ = some (.int .i64 ((rd_T89 l0_2 x3_2).f2)) ∧ w'.cell? ⟨gb194, 0, none⟩ = some (.int .i64 a0_0) ∧ w'.cell? ⟨gb194, 1, none⟩ = some (.int .i64 a0_1) ∧ w'.cell? ⟨gb194, 2, none⟩ = some (.slice (some ad198) l0_2.length c0_2) ∧ w'.cell? ⟨gb194, 3, none⟩ = some (.slice A0_3 l0_3.length c0_3) ∧ w'.cell? ⟨gb194, 4, none⟩ = some (.slice A0_4 l0_4.length c0_4) ∧ w'.cell? (ad198.add (((ji29)).toNat * 3)) = some (.int .i64 ((rd_T89 l0_2 (ji29)).f0)) ∧ w'.cell? ⟨(ad198.add (((ji29)).toNat * 3)).block, (ad198.add (((ji29)).toNat * 3)).off + 1, none⟩ = some (.string ((rd_T89 l0_2 (ji29)).f1)) ∧ w'.cell? ⟨(ad198.add (((ji29)).toNat * 3)).block, (ad198.add (((ji29)).toNat * 3)).off + 2, none⟩ = some (.int .i64 ((rd_T89 l0_2 (ji29)).f2))) (ds := []) (bo 48 0) (by kernel_rfl) rfl rfl ⟨cb 0 BK199, cb 1 BK199, cb 2 BK199, cb 0 BK194, cb 1 BK194, cb 2 BK194, cb 3 BK194, cb 4 BK194, ((HB.out.cell (World.block_lt_of_cell? w _ hw202_0)).trans hw202_0), ((HB.out.cell (World.block_lt_of_cell? w _ hw202_1)).trans hw202_1), ((HB.out.cell (World.block_lt_of_cell? w _ hw202_2)).trans hw202_2)⟩ (fun hHeld => ?_); refine with_tabW spec_DiskOk.tab9 spec_DiskOk.bits9 (fun HT_ HW_ => ?_)
                 generalize w53.drew = w54 at BK194 BK199 HB hx202_0 hx202_1 hx202_2 hHeld ⊢
                 refine pV 0 57 (bo 48 1) ?_
                 refine pV 2 59 (bo 48 5) ?_
                 refine tV 1 58 (bo 48 7) ?_
                 refine tV 3 60 (bo 48 15) ?_
                 refine pV 4 61 (bo 48 31) ?_
                 refine one_ (i := 5) (N := some 62) (bo 48 63) rfl rfl (one_of HT_.out (by kernel_rfl)) (by decide) (fun K hK => ?_)
                 refine goes_ Try.func53 (by kernel_rfl) rfl #[.int .i64 ((rd_T89 l0_2 x3_2).f0), .int .i64 1, .int .i64 (wrap64 (a0_1 - 1))] (by rfl) rfl rfl sa ?_
                 with_reducible refine (spec_l1In.calls ((rd_T89 l0_2 x3_2).f0) 1 (wrap64 (a0_1 - 1)) true _ A24.out).mono ?_
                 rintro e w' ⟨rfl, ⟨nd, rfl⟩⟩
                 refine ⟨_, rfl, ?_⟩
                 refine hK.out _ _ ⟨cb 0 BK199, cb 1 BK199, cb 2 BK199, cb 0 BK194, cb 1 BK194, cb 2 BK194, cb 3 BK194, cb 4 BK194, ((HB.out.cell (World.block_lt_of_cell? w _ hw202_0)).trans hw202_0), ((HB.out.cell (World.block_lt_of_cell? w _ hw202_1)).trans hw202_1), ((HB.out.cell (World.block_lt_of_cell? w _ hw202_2)).trans hw202_2)⟩ (fun hHeld => ?_)
                 clear hK K
                 refine norm_ (a' := ?_) ?_ ?_
                 rotate_left
                 ·show Act.put _ (some 62) _ = _
                  simp only [Act.put, List.setIfInBounds_toArray, List.set_cons_zero, List.set_cons_succ, i64_w, i32_w]
                  rfl
                 refine pV 6 63 (bo 48 127) ?_
                 refine pV 7 64 (bo 48 255) ?_
                 refine pV 8 65 (bo 48 511) ?_
                 refine pV 10 67 (bo 48 1535) ?_
                 refine tV 9 66 (bo 48 2047) ?_
                 refine tV 11 68 (bo 48 4095) ?_
                 refine pV 12 69 (bo 48 8191) ?_
                 refine one_ (i := 13) (N := some 70) (bo 48 16383) rfl rfl (one_of HT_.out (by kernel_rfl)) (by decide) (fun K hK => ?_)
                 refine goes_ Try.func53 (by kernel_rfl) rfl #[.int .i64 ((rd_T89 l0_2 x3_2).f2), .int .i64 0, .int .i64 (((rd_T89 l0_2 x3_2).f1).size : Int)] (by rfl) rfl rfl sa ?_
                 with_reducible refine (spec_l1In.calls ((rd_T89 l0_2 x3_2).f2) 0 (((rd_T89 l0_2 x3_2).f1).size : Int) true _ A26.out).mono ?_
                 rintro e w' ⟨rfl, ⟨nd, rfl⟩⟩
                 refine ⟨_, rfl, ?_⟩
                 refine hK.out _ _ ⟨cb 0 BK199, cb 1 BK199, cb 2 BK199, cb 0 BK194, cb 1 BK194, cb 2 BK194, cb 3 BK194, cb 4 BK194, ((HB.out.cell (World.block_lt_of_cell? w _ hw202_0)).trans hw202_0), ((HB.out.cell (World.block_lt_of_cell? w _ hw202_1)).trans hw202_1), ((HB.out.cell (World.block_lt_of_cell? w _ hw202_2)).trans hw202_2)⟩ (fun hHeld => ?_)
                 clear hK K
                 refine norm_ (a' := ?_) ?_ ?_
                 rotate_left
                 ·show Act.put _ (some 70) _ = _
                  simp only [Act.put, List.setIfInBounds_toArray, List.set_cons_zero, List.set_cons_succ, i64_w, i32_w]
                  rfl
                 refine pV 14 71 (bo 48 32767) ?_
                 refine pV 15 72 (bo 48 65535) ?_
                 refine pV 16 73 (bo 48 131071) ?_
                 refine pV 17 74 (bo 48 262143) ?_
                 refine pV 18 75 (bo 48 524287) ?_
                 refine pV 19 76 (bo 48 1048575) ?_
                 refine pV 20 77 (bo 48 2097151) ?_
                 refine pV 22 79 (bo 48 6291455) ?_
                 refine pV 23 80 (bo 48 14680063) ?_
                 refine pV 27 84 (bo 48 148897791) ?_
                 refine tV 21 78 (bo 48 150994943) ?_
                 refine pV 24 81 (bo 48 167772159) ?_
                 refine pV 25 82 (bo 48 201326591) ?_
                 refine tV 26 83 (bo 48 268435455) ?_
                 refine tV 28 85 (bo 48 536870911) ?_
                 refine pV 29 86 (bo 48 1073741823) ?_
                 refine pV 30 87 (bo 48 2147483647) ?_
                 refine pV 31 88 (bo 48 4294967295) ?_
                 refine pV 32 89 (bo 48 8589934591) ?_
                 refine pV 33 90 (bo 48 17179869183) ?_
                 refine pV 35 92 (bo 48 51539607551) ?_
                 refine tV 34 91 (bo 48 68719476735) ?_
                 refine tV 36 93 (bo 48 137438953471) ?_
                 refine one_ (i := 37) (N := some 94) (bo 48 274877906943) rfl rfl (one_of HT_.out (by kernel_rfl)) (by decide) (fun K hK => ?_)
                 refine goes_ Try.func77 (by kernel_rfl) rfl #[.slice A0_3 l0_3.length c0_3, .int .i64 ((rd_T89 l0_2 x3_2).f0)] (by rfl) rfl rfl sa ?_
                 with_reducible refine (spec_l4Linked.calls k2 _ _ l0_3 ((rd_T89 l0_2 x3_2).f0) false _ ?side1 ?side2 A39.out).mono ?_
                 (case side1 => exact ca (Kd.C_below HR0_3.out bl))
                 (case side2 => exact HC0_3.out)
                 rintro e w' ⟨rfl, ⟨nd, rfl⟩⟩
                 refine ⟨_, rfl, ?_⟩
                 refine hK.out _ _ ⟨cb 0 BK199, cb 1 BK199, cb 2 BK199, cb 0 BK194, cb 1 BK194, cb 2 BK194, cb 3 BK194, cb 4 BK194, ((HB.out.cell (World.block_lt_of_cell? w _ hw202_0)).trans hw202_0), ((HB.out.cell (World.block_lt_of_cell? w _ hw202_1)).trans hw202_1), ((HB.out.cell (World.block_lt_of_cell? w _ hw202_2)).trans hw202_2)⟩ (fun hHeld => ?_)
                 clear hK K
                 refine norm_ (a' := ?_) ?_ ?_
                 rotate_left
                 ·show Act.put _ (some 94) _ = _
                  simp only [Act.put, List.setIfInBounds_toArray, List.set_cons_zero, List.set_cons_succ, i64_w, i32_w]
                  rfl
                 refine pV 38 95 (bo 48 549755813887) ?_
                 refine pV 39 96 (bo 48 1099511627775) ?_
                 refine pV 40 97 (bo 48 2199023255551) ?_
                 refine pV 42 99 (bo 48 6597069766655) ?_
                 refine tV 41 98 (bo 48 8796093022207) ?_
                 refine tV 43 100 (bo 48 17592186044415) ?_
                 refine one_ (i := 44) (N := some 101) (bo 48 35184372088831) rfl rfl (one_of HT_.out (by kernel_rfl)) (by decide) (fun K hK => ?_)
                 refine goes_ Try.func78 (by kernel_rfl) rfl #[.slice A0_4 l0_4.length c0_4, .int .i64 ((rd_T89 l0_2 x3_2).f0)] (by rfl) rfl rfl sa ?_
                 with_reducible refine (spec_l4Made.calls k2 _ _ l0_4 ((rd_T89 l0_2 x3_2).f0) true _ ?side1 ?side2 A47.out).mono ?_
                 (case side1 => exact ca (Kd.C_below HR0_4.out bl))
                 (case side2 => exact HC0_4.out)
                 rintro e w' ⟨rfl, ⟨nd, rfl⟩⟩
                 refine ⟨_, rfl, ?_⟩
                 refine hK.out _ _ ⟨cb 0 BK199, cb 1 BK199, cb 2 BK199, cb 0 BK194, cb 1 BK194, cb 2 BK194, cb 3 BK194, cb 4 BK194, ((HB.out.cell (World.block_lt_of_cell? w _ hw202_0)).trans hw202_0), ((HB.out.cell (World.block_lt_of_cell? w _ hw202_1)).trans hw202_1), ((HB.out.cell (World.block_lt_of_cell? w _ hw202_2)).trans hw202_2)⟩ (fun hHeld => ?_)
                 clear hK K
                 refine norm_ (a' := ?_) ?_ ?_
                 rotate_left
                 ·show Act.put _ (some 101) _ = _
                  simp only [Act.put, List.setIfInBounds_toArray, List.set_cons_zero, List.set_cons_succ, i64_w, i32_w]
                  rfl
                 refine pV 45 102 (bo 48 70368744177663) ?_
                 refine pV 46 103 (bo 48 140737488355327) ?_
                 refine pV 47 104 (bo 48 281474976710655) ?_
                 refine done_ (done_of HT_.out (by kernel_rfl)) ?_
                 try go_wp2
                 go_roundg k2
                 case measure => have := HJ1.out; have := HK2.out; omega
                 case rel => exact ⟨(wrap64 (x3_2 + 1)), fa, H', ⟨by have := HJ1.out; have := HK2.out; omega⟩, ⟨by (with_reducible repeat (first | refine blk_drewN ?_ _ | refine blk_drew ?_ | refine blk_alloc ?_ _)); exact BK194.out⟩, ⟨bl⟩⟩
                ·replace c48 := Bool.eq_false_iff.mpr c48
                 subst c48
                 replace H := iF H
                 obtain rfl := Option.some.inj H
                 obtain ⟨Z55_0, Z55_1, Z55_2, Z55_3, Z55_4, Y55_0, Y55_1, Y55_2, Y55_3, Y55_4⟩ := cf5 BK194
                 have p198 : 0 ≤ (x3_2 : Int) := of_decide_eq_true am
                 have q198 : x3_2 < (l0_2.length : Int) := of_decide_eq_true am
                 obtain ⟨ad198, e198, hx198_0, hx198_1, hx198_2⟩ := at_T89 HR0_2.out x3_2 p198 q198
                 cases e198
                 replace hx198_0 := cz HB hx198_0
                 replace hx198_1 := cz HB hx198_1
                 replace hx198_2 := cz HB hx198_2
                 replace p198 := eq_true p198
                 replace q198 := eq_true q198
                 try go_wp2_with (first | ((with_reducible refine gD 4 rfl ?_); (try (refine gate_guard rfl ?_; dsimp only)); refine boxZ 4 #[.int .i64 0, .string (⟨#[]⟩ : ByteArray), .int .i64 0] 89 ?_; intro gb199 hg w56 hbox hb; have BK199 := Aside0.mk hbox; have GW199 := gw (w := w) hg; have GE199 := gw (w := w) hg; replace HB := bs (w := w) hb; have NB194_199 := nl BK194 hg; have NB199_194 := nr BK194 hg; replace BK194 := bv BK194 hb; clear hb hbox hg; have hnb57 := NB199_194.out; have hnc57 := NB194_199.out; obtain ⟨Z58_0, Z58_1, Z58_2, Y58_0, Y58_1, Y58_2⟩ := cf3 BK199))
                 have n0_ : Aside0 ((((w56.setCell ⟨gb199, 0, none⟩ (.int .i64 ((rd_T89 l0_2 x3_2).f0))).setCell ⟨gb199, 1, none⟩ (.string ((rd_T89 l0_2 x3_2).f1))).setCell ⟨gb199, 2, none⟩ (.int .i64 ((rd_T89 l0_2 x3_2).f2))).heap[gb194]? = some (.cells #[.int .i64 a0_0, .int .i64 a0_1, .slice (some ad198) l0_2.length c0_2, .slice A0_3 l0_3.length c0_3, .slice A0_4 l0_4.length c0_4] 26 (0, 0))) := ⟨bkk⟩
                 have n1_ : Aside0 ((((w56.setCell ⟨gb199, 0, none⟩ (.int .i64 ((rd_T89 l0_2 x3_2).f0))).setCell ⟨gb199, 1, none⟩ (.string ((rd_T89 l0_2 x3_2).f1))).setCell ⟨gb199, 2, none⟩ (.int .i64 ((rd_T89 l0_2 x3_2).f2))).heap[gb199]? = some (.cells #[.int .i64 ((rd_T89 l0_2 x3_2).f0), .string ((rd_T89 l0_2 x3_2).f1), .int .i64 ((rd_T89 l0_2 x3_2).f2)] 89 (0, 0))) := ⟨bkk⟩
                 have n2_ : Aside0 (Below w.heap.size w (((w56.setCell ⟨gb199, 0, none⟩ (.int .i64 ((rd_T89 l0_2 x3_2).f0))).setCell ⟨gb199, 1, none⟩ (.string ((rd_T89 l0_2 x3_2).f1))).setCell ⟨gb199, 2, none⟩ (.int .i64 ((rd_T89 l0_2 x3_2).f2)))) := ⟨bl⟩
                 (try clear BK194)
                 (try clear BK199)
                 (try clear HB)
                 generalize (((w56.setCell ⟨gb199, 0, none⟩ (.int .i64 ((rd_T89 l0_2 x3_2).f0))).setCell ⟨gb199, 1, none⟩ (.string ((rd_T89 l0_2 x3_2).f1))).setCell ⟨gb199, 2, none⟩ (.int .i64 ((rd_T89 l0_2 x3_2).f2))) = w59 at n0_ n1_ n2_ ⊢
                 have BK194 := n0_
                 have BK199 := n1_
                 have HB := n2_
                 clear n0_ n1_ n2_
                 replace BK194 := Aside0.mk (blk_drew BK194.out); replace BK199 := Aside0.mk (blk_drew BK199.out); replace HB := Aside0.mk (below_drew1 HB.out)
                 have p202 : 0 ≤ ((ji29) : Int) := of_decide_eq_true am
                 have q202 : (ji29) < (l0_2.length : Int) := of_decide_eq_true am
                 obtain ⟨ad202, e202, hx202_0, hx202_1, hx202_2⟩ := at_T89 HR0_2.out (ji29) p202 q202
                 have hw202_2 := hx202_2
                 have hw202_1 := hx202_1
                 have hw202_0 := hx202_0
                 obtain rfl : ad198 = ad202 := (by injection e202)
                 replace hx202_0 := cz HB hx202_0
                 replace hx202_1 := cz HB hx202_1
                 replace hx202_2 := cz HB hx202_2
                 replace p202 := eq_true p202
                 replace q202 := eq_true q202
                 refine start_ (n := 48) (S := fun w' => w'.cell? ⟨gb199, 0, none⟩ = some (.int .i64 ((rd_T89 l0_2 x3_2).f0)) ∧ w'.cell? ⟨gb199, 1, none⟩ = some (.string ((rd_T89 l0_2 x3_2).f1)) ∧ w'.cell? ⟨gb199, 2, none⟩ = some (.int .i64 ((rd_T89 l0_2 x3_2).f2)) ∧ w'.cell? ⟨gb194, 0, none⟩ = some (.int .i64 a0_0) ∧ w'.cell? ⟨gb194, 1, none⟩ = some (.int .i64 a0_1) ∧ w'.cell? ⟨gb194, 2, none⟩ = some (.slice (some ad198) l0_2.length c0_2) ∧ w'.cell? ⟨gb194, 3, none⟩ = some (.slice A0_3 l0_3.length c0_3) ∧ w'.cell? ⟨gb194, 4, none⟩ = some (.slice A0_4 l0_4.length c0_4) ∧ w'.cell? (ad198.add (((ji29)).toNat * 3)) = some (.int .i64 ((rd_T89 l0_2 (ji29)).f0)) ∧ w'.cell? ⟨(ad198.add (((ji29)).toNat * 3)).block, (ad198.add (((ji29)).toNat * 3)).off + 1, none⟩ = some (.string ((rd_T89 l0_2 (ji29)).f1)) ∧ w'.cell? ⟨(ad198.add (((ji29)).toNat * 3)).block, (ad198.add (((ji29)).toNat * 3)).off + 2, none⟩ = some (.int .i64 ((rd_T89 l0_2 (ji29)).f2))) (ds := []) (bo 48 0) (by kernel_rfl) rfl rfl ⟨cb 0 BK199, cb 1 BK199, cb 2 BK199, cb 0 BK194, cb 1 BK194, cb 2 BK194, cb 3 BK194, cb 4 BK194, ((HB.out.cell (World.block_lt_of_cell? w _ hw202_0)).trans hw202_0), ((HB.out.cell (World.block_lt_of_cell? w _ hw202_1)).trans hw202_1), ((HB.out.cell (World.block_lt_of_cell? w _ hw202_2)).trans hw202_2)⟩ (fun hHeld => ?_); refine with_tabW spec_DiskOk.tab9 spec_DiskOk.bits9 (fun HT_ HW_ => ?_)
                 generalize w59.drew = w60 at BK194 BK199 HB hx202_0 hx202_1 hx202_2 hHeld ⊢
                 refine pV 0 57 (bo 48 1) ?_
                 refine pV 2 59 (bo 48 5) ?_
                 refine tV 1 58 (bo 48 7) ?_
                 refine tV 3 60 (bo 48 15) ?_
                 refine pV 4 61 (bo 48 31) ?_
                 refine one_ (i := 5) (N := some 62) (bo 48 63) rfl rfl (one_of HT_.out (by kernel_rfl)) (by decide) (fun K hK => ?_)
                 refine goes_ Try.func53 (by kernel_rfl) rfl #[.int .i64 ((rd_T89 l0_2 x3_2).f0), .int .i64 1, .int .i64 (wrap64 (a0_1 - 1))] (by rfl) rfl rfl sa ?_
                 with_reducible refine (spec_l1In.calls ((rd_T89 l0_2 x3_2).f0) 1 (wrap64 (a0_1 - 1)) true _ A24.out).mono ?_
                 rintro e w' ⟨rfl, ⟨nd, rfl⟩⟩
                 refine ⟨_, rfl, ?_⟩
                 refine hK.out _ _ ⟨cb 0 BK199, cb 1 BK199, cb 2 BK199, cb 0 BK194, cb 1 BK194, cb 2 BK194, cb 3 BK194, cb 4 BK194, ((HB.out.cell (World.block_lt_of_cell? w _ hw202_0)).trans hw202_0), ((HB.out.cell (World.block_lt_of_cell? w _ hw202_1)).trans hw202_1), ((HB.out.cell (World.block_lt_of_cell? w _ hw202_2)).trans hw202_2)⟩ (fun hHeld => ?_)
                 clear hK K
                 refine norm_ (a' := ?_) ?_ ?_
                 rotate_left
                 ·show Act.put _ (some 62) _ = _
                  simp only [Act.put, List.setIfInBounds_toArray, List.set_cons_zero, List.set_cons_succ, i64_w, i32_w]
                  rfl
                 refine pV 6 63 (bo 48 127) ?_
                 refine pV 7 64 (bo 48 255) ?_
                 refine pV 8 65 (bo 48 511) ?_
                 refine pV 10 67 (bo 48 1535) ?_
                 refine tV 9 66 (bo 48 2047) ?_
                 refine tV 11 68 (bo 48 4095) ?_
                 refine pV 12 69 (bo 48 8191) ?_
                 refine one_ (i := 13) (N := some 70) (bo 48 16383) rfl rfl (one_of HT_.out (by kernel_rfl)) (by decide) (fun K hK => ?_)
                 refine goes_ Try.func53 (by kernel_rfl) rfl #[.int .i64 ((rd_T89 l0_2 x3_2).f2), .int .i64 0, .int .i64 (((rd_T89 l0_2 x3_2).f1).size : Int)] (by rfl) rfl rfl sa ?_
                 with_reducible refine (spec_l1In.calls ((rd_T89 l0_2 x3_2).f2) 0 (((rd_T89 l0_2 x3_2).f1).size : Int) true _ A26.out).mono ?_
                 rintro e w' ⟨rfl, ⟨nd, rfl⟩⟩
                 refine ⟨_, rfl, ?_⟩
                 refine hK.out _ _ ⟨cb 0 BK199, cb 1 BK199, cb 2 BK199, cb 0 BK194, cb 1 BK194, cb 2 BK194, cb 3 BK194, cb 4 BK194, ((HB.out.cell (World.block_lt_of_cell? w _ hw202_0)).trans hw202_0), ((HB.out.cell (World.block_lt_of_cell? w _ hw202_1)).trans hw202_1), ((HB.out.cell (World.block_lt_of_cell? w _ hw202_2)).trans hw202_2)⟩ (fun hHeld => ?_)
                 clear hK K
                 refine norm_ (a' := ?_) ?_ ?_
                 rotate_left
                 ·show Act.put _ (some 70) _ = _
                  simp only [Act.put, List.setIfInBounds_toArray, List.set_cons_zero, List.set_cons_succ, i64_w, i32_w]
                  rfl
                 refine pV 14 71 (bo 48 32767) ?_
                 refine pV 15 72 (bo 48 65535) ?_
                 refine pV 16 73 (bo 48 131071) ?_
                 refine pV 17 74 (bo 48 262143) ?_
                 refine pV 18 75 (bo 48 524287) ?_
                 refine pV 19 76 (bo 48 1048575) ?_
                 refine pV 20 77 (bo 48 2097151) ?_
                 refine pV 22 79 (bo 48 6291455) ?_
                 refine pV 23 80 (bo 48 14680063) ?_
                 refine pV 27 84 (bo 48 148897791) ?_
                 refine tV 21 78 (bo 48 150994943) ?_
                 refine pV 24 81 (bo 48 167772159) ?_
                 refine pV 25 82 (bo 48 201326591) ?_
                 refine tV 26 83 (bo 48 268435455) ?_
                 refine tV 28 85 (bo 48 536870911) ?_
                 refine pV 29 86 (bo 48 1073741823) ?_
                 refine pV 30 87 (bo 48 2147483647) ?_
                 refine pV 31 88 (bo 48 4294967295) ?_
                 refine pV 32 89 (bo 48 8589934591) ?_
                 refine pV 33 90 (bo 48 17179869183) ?_
                 refine pV 35 92 (bo 48 51539607551) ?_
                 refine tV 34 91 (bo 48 68719476735) ?_
                 refine tV 36 93 (bo 48 137438953471) ?_
                 refine one_ (i := 37) (N := some 94) (bo 48 274877906943) rfl rfl (one_of HT_.out (by kernel_rfl)) (by decide) (fun K hK => ?_)
                 refine goes_ Try.func77 (by kernel_rfl) rfl #[.slice A0_3 l0_3.length c0_3, .int .i64 ((rd_T89 l0_2 x3_2).f0)] (by rfl) rfl rfl sa ?_
                 with_reducible refine (spec_l4Linked.calls k2 _ _ l0_3 ((rd_T89 l0_2 x3_2).f0) false _ ?side1 ?side2 A39.out).mono ?_
                 (case side1 => exact ca (Kd.C_below HR0_3.out bl))
                 (case side2 => exact HC0_3.out)
                 rintro e w' ⟨rfl, ⟨nd, rfl⟩⟩
                 refine ⟨_, rfl, ?_⟩
                 refine hK.out _ _ ⟨cb 0 BK199, cb 1 BK199, cb 2 BK199, cb 0 BK194, cb 1 BK194, cb 2 BK194, cb 3 BK194, cb 4 BK194, ((HB.out.cell (World.block_lt_of_cell? w _ hw202_0)).trans hw202_0), ((HB.out.cell (World.block_lt_of_cell? w _ hw202_1)).trans hw202_1), ((HB.out.cell (World.block_lt_of_cell? w _ hw202_2)).trans hw202_2)⟩ (fun hHeld => ?_)
                 clear hK K
                 refine norm_ (a' := ?_) ?_ ?_
                 rotate_left
                 ·show Act.put _ (some 94) _ = _
                  simp only [Act.put, List.setIfInBounds_toArray, List.set_cons_zero, List.set_cons_succ, i64_w, i32_w]
                  rfl
                 refine pV 38 95 (bo 48 549755813887) ?_
                 refine pV 39 96 (bo 48 1099511627775) ?_
                 refine pV 40 97 (bo 48 2199023255551) ?_
                 refine pV 42 99 (bo 48 6597069766655) ?_
                 refine tV 41 98 (bo 48 8796093022207) ?_
                 refine tV 43 100 (bo 48 17592186044415) ?_
                 refine one_ (i := 44) (N := some 101) (bo 48 35184372088831) rfl rfl (one_of HT_.out (by kernel_rfl)) (by decide) (fun K hK => ?_)
                 refine goes_ Try.func78 (by kernel_rfl) rfl #[.slice A0_4 l0_4.length c0_4, .int .i64 ((rd_T89 l0_2 x3_2).f0)] (by rfl) rfl rfl sa ?_
                 with_reducible refine (spec_l4Made.calls k2 _ _ l0_4 ((rd_T89 l0_2 x3_2).f0) false _ ?side1 ?side2 A47.out).mono ?_
                 (case side1 => exact ca (Kd.C_below HR0_4.out bl))
                 (case side2 => exact HC0_4.out)
                 rintro e w' ⟨rfl, ⟨nd, rfl⟩⟩
                 refine ⟨_, rfl, ?_⟩
                 refine hK.out _ _ ⟨cb 0 BK199, cb 1 BK199, cb 2 BK199, cb 0 BK194, cb 1 BK194, cb 2 BK194, cb 3 BK194, cb 4 BK194, ((HB.out.cell (World.block_lt_of_cell? w _ hw202_0)).trans hw202_0), ((HB.out.cell (World.block_lt_of_cell? w _ hw202_1)).trans hw202_1), ((HB.out.cell (World.block_lt_of_cell? w _ hw202_2)).trans hw202_2)⟩ (fun hHeld => ?_)
                 clear hK K
                 refine norm_ (a' := ?_) ?_ ?_
                 rotate_left
                 ·show Act.put _ (some 101) _ = _
                  simp only [Act.put, List.setIfInBounds_toArray, List.set_cons_zero, List.set_cons_succ, i64_w, i32_w]
                  rfl
                 refine pV 45 102 (bo 48 70368744177663) ?_
                 refine pV 46 103 (bo 48 140737488355327) ?_
                 refine pV 47 104 (bo 48 281474976710655) ?_
                 refine done_ (done_of HT_.out (by kernel_rfl)) ?_
                 try go_wp2
                 go_ret
                 exact ⟨by first | rfl | (simp [errW_none, errW_some] <;> rfl) | (simp only [← hji29]; first | rfl | (simp [errW_none, errW_some] <;> rfl)) | (simp [*, errW_none, errW_some] <;> rfl), bl⟩
             ·rw [if_neg c31] at H
              exact absurd H (by simp)
            ·rw [if_neg c30] at H
             exact absurd H (by simp)
           ·rw [if_neg c28] at H
            have c28b0 : decide (0 < x3_2) = false := decide_eq_false c28
            clear c28
            obtain ⟨t205, A61, H⟩ := bd H
            by_cases c62 : t205 = true
            ·subst c62
             replace H := iT H
             have H' := Aside0.mk H
             clear H
             obtain ⟨Z63_0, Z63_1, Z63_2, Z63_3, Z63_4, Y63_0, Y63_1, Y63_2, Y63_3, Y63_4⟩ := cf5 BK194
             have p198 : 0 ≤ (x3_2 : Int) := of_decide_eq_true am
             have q198 : x3_2 < (l0_2.length : Int) := of_decide_eq_true am
             obtain ⟨ad198, e198, hx198_0, hx198_1, hx198_2⟩ := at_T89 HR0_2.out x3_2 p198 q198
             cases e198
             replace hx198_0 := cz HB hx198_0
             replace hx198_1 := cz HB hx198_1
             replace hx198_2 := cz HB hx198_2
             replace p198 := eq_true p198
             replace q198 := eq_true q198
             try go_wp2_with (first | ((with_reducible refine gD 4 rfl ?_); (try (refine gate_guard rfl ?_; dsimp only)); refine boxZ 4 #[.int .i64 0, .string (⟨#[]⟩ : ByteArray), .int .i64 0] 89 ?_; intro gb199 hg w64 hbox hb; have BK199 := Aside0.mk hbox; have GW199 := gw (w := w) hg; have GE199 := gw (w := w) hg; replace HB := bs (w := w) hb; have NB194_199 := nl BK194 hg; have NB199_194 := nr BK194 hg; replace BK194 := bv BK194 hb; clear hb hbox hg; have hnb65 := NB199_194.out; have hnc65 := NB194_199.out; obtain ⟨Z66_0, Z66_1, Z66_2, Y66_0, Y66_1, Y66_2⟩ := cf3 BK199))
             have n0_ : Aside0 ((((w64.setCell ⟨gb199, 0, none⟩ (.int .i64 ((rd_T89 l0_2 x3_2).f0))).setCell ⟨gb199, 1, none⟩ (.string ((rd_T89 l0_2 x3_2).f1))).setCell ⟨gb199, 2, none⟩ (.int .i64 ((rd_T89 l0_2 x3_2).f2))).heap[gb194]? = some (.cells #[.int .i64 a0_0, .int .i64 a0_1, .slice (some ad198) l0_2.length c0_2, .slice A0_3 l0_3.length c0_3, .slice A0_4 l0_4.length c0_4] 26 (0, 0))) := ⟨bkk⟩
             have n1_ : Aside0 ((((w64.setCell ⟨gb199, 0, none⟩ (.int .i64 ((rd_T89 l0_2 x3_2).f0))).setCell ⟨gb199, 1, none⟩ (.string ((rd_T89 l0_2 x3_2).f1))).setCell ⟨gb199, 2, none⟩ (.int .i64 ((rd_T89 l0_2 x3_2).f2))).heap[gb199]? = some (.cells #[.int .i64 ((rd_T89 l0_2 x3_2).f0), .string ((rd_T89 l0_2 x3_2).f1), .int .i64 ((rd_T89 l0_2 x3_2).f2)] 89 (0, 0))) := ⟨bkk⟩
             have n2_ : Aside0 (Below w.heap.size w (((w64.setCell ⟨gb199, 0, none⟩ (.int .i64 ((rd_T89 l0_2 x3_2).f0))).setCell ⟨gb199, 1, none⟩ (.string ((rd_T89 l0_2 x3_2).f1))).setCell ⟨gb199, 2, none⟩ (.int .i64 ((rd_T89 l0_2 x3_2).f2)))) := ⟨bl⟩
             (try clear BK194)
             (try clear BK199)
             (try clear HB)
             generalize (((w64.setCell ⟨gb199, 0, none⟩ (.int .i64 ((rd_T89 l0_2 x3_2).f0))).setCell ⟨gb199, 1, none⟩ (.string ((rd_T89 l0_2 x3_2).f1))).setCell ⟨gb199, 2, none⟩ (.int .i64 ((rd_T89 l0_2 x3_2).f2))) = w67 at n0_ n1_ n2_ ⊢
             have BK194 := n0_
             have BK199 := n1_
             have HB := n2_
             clear n0_ n1_ n2_
             replace BK194 := Aside0.mk (blk_drew BK194.out); replace BK199 := Aside0.mk (blk_drew BK199.out); replace HB := Aside0.mk (below_drew1 HB.out)
             refine start_ (n := 48) (S := fun w' => w'.cell? ⟨gb199, 0, none⟩ = some (.int .i64 ((rd_T89 l0_2 x3_2).f0)) ∧ w'.cell? ⟨gb199, 1, none⟩ = some (.string ((rd_T89 l0_2 x3_2).f1)) ∧ w'.cell? ⟨gb199, 2, none⟩ = some (.int .i64 ((rd_T89 l0_2 x3_2).f2)) ∧ w'.cell? ⟨gb194, 0, none⟩ = some (.int .i64 a0_0) ∧ w'.cell? ⟨gb194, 1, none⟩ = some (.int .i64 a0_1) ∧ w'.cell? ⟨gb194, 2, none⟩ = some (.slice (some ad198) l0_2.length c0_2) ∧ w'.cell? ⟨gb194, 3, none⟩ = some (.slice A0_3 l0_3.length c0_3) ∧ w'.cell? ⟨gb194, 4, none⟩ = some (.slice A0_4 l0_4.length c0_4)) (ds := []) (bo 48 0) (by kernel_rfl) rfl rfl ⟨cb 0 BK199, cb 1 BK199, cb 2 BK199, cb 0 BK194, cb 1 BK194, cb 2 BK194, cb 3 BK194, cb 4 BK194⟩ (fun hHeld => ?_); refine with_tabW spec_DiskOk.tab9 spec_DiskOk.bits9 (fun HT_ HW_ => ?_)
             generalize w67.drew = w68 at BK194 BK199 HB hHeld ⊢
             refine pV 0 57 (bo 48 1) ?_
             refine pV 2 59 (bo 48 5) ?_
             refine tV 1 58 (bo 48 7) ?_
             refine tV 3 60 (bo 48 15) ?_
             refine pV 4 61 (bo 48 31) ?_
             refine one_ (i := 5) (N := some 62) (bo 48 63) rfl rfl (one_of HT_.out (by kernel_rfl)) (by decide) (fun K hK => ?_)
             refine goes_ Try.func53 (by kernel_rfl) rfl #[.int .i64 ((rd_T89 l0_2 x3_2).f0), .int .i64 1, .int .i64 (wrap64 (a0_1 - 1))] (by rfl) rfl rfl sa ?_
             with_reducible refine (spec_l1In.calls ((rd_T89 l0_2 x3_2).f0) 1 (wrap64 (a0_1 - 1)) true _ A24.out).mono ?_
             rintro e w' ⟨rfl, ⟨nd, rfl⟩⟩
             refine ⟨_, rfl, ?_⟩
             refine hK.out _ _ ⟨cb 0 BK199, cb 1 BK199, cb 2 BK199, cb 0 BK194, cb 1 BK194, cb 2 BK194, cb 3 BK194, cb 4 BK194⟩ (fun hHeld => ?_)
             clear hK K
             refine norm_ (a' := ?_) ?_ ?_
             rotate_left
             ·show Act.put _ (some 62) _ = _
              simp only [Act.put, List.setIfInBounds_toArray, List.set_cons_zero, List.set_cons_succ, i64_w, i32_w]
              rfl
             refine pV 6 63 (bo 48 127) ?_
             refine pV 7 64 (bo 48 255) ?_
             refine pV 8 65 (bo 48 511) ?_
             refine pV 10 67 (bo 48 1535) ?_
             refine tV 9 66 (bo 48 2047) ?_
             refine tV 11 68 (bo 48 4095) ?_
             refine pV 12 69 (bo 48 8191) ?_
             refine one_ (i := 13) (N := some 70) (bo 48 16383) rfl rfl (one_of HT_.out (by kernel_rfl)) (by decide) (fun K hK => ?_)
             refine goes_ Try.func53 (by kernel_rfl) rfl #[.int .i64 ((rd_T89 l0_2 x3_2).f2), .int .i64 0, .int .i64 (((rd_T89 l0_2 x3_2).f1).size : Int)] (by rfl) rfl rfl sa ?_
             with_reducible refine (spec_l1In.calls ((rd_T89 l0_2 x3_2).f2) 0 (((rd_T89 l0_2 x3_2).f1).size : Int) true _ A26.out).mono ?_
             rintro e w' ⟨rfl, ⟨nd, rfl⟩⟩
             refine ⟨_, rfl, ?_⟩
             refine hK.out _ _ ⟨cb 0 BK199, cb 1 BK199, cb 2 BK199, cb 0 BK194, cb 1 BK194, cb 2 BK194, cb 3 BK194, cb 4 BK194⟩ (fun hHeld => ?_)
             clear hK K
             refine norm_ (a' := ?_) ?_ ?_
             rotate_left
             ·show Act.put _ (some 70) _ = _
              simp only [Act.put, List.setIfInBounds_toArray, List.set_cons_zero, List.set_cons_succ, i64_w, i32_w]
              rfl
             refine pV 14 71 (bo 48 32767) ?_
             refine pV 15 72 (bo 48 65535) ?_
             refine pV 16 73 (bo 48 131071) ?_
             refine pV 17 74 (bo 48 262143) ?_
             refine pV 18 75 (bo 48 524287) ?_
             refine pV 19 76 (bo 48 1048575) ?_
             refine pU 20 77 (bo 48 2097151) ?_
             refine pU 21 78 (bo 48 4194303) ?_
             refine pU 22 79 (bo 48 8388607) ?_
             refine pU 23 80 (bo 48 16777215) ?_
             refine pU 24 81 (bo 48 33554431) ?_
             refine pU 25 82 (bo 48 67108863) ?_
             refine pU 26 83 (bo 48 134217727) ?_
             refine pU 27 84 (bo 48 268435455) ?_
             refine pU 28 85 (bo 48 536870911) ?_
             refine pU 29 86 (bo 48 1073741823) ?_
             refine pV 30 87 (bo 48 2147483647) ?_
             refine pV 31 88 (bo 48 4294967295) ?_
             refine pV 32 89 (bo 48 8589934591) ?_
             refine pV 33 90 (bo 48 17179869183) ?_
             refine pV 35 92 (bo 48 51539607551) ?_
             refine tV 34 91 (bo 48 68719476735) ?_
             refine tV 36 93 (bo 48 137438953471) ?_
             refine one_ (i := 37) (N := some 94) (bo 48 274877906943) rfl rfl (one_of HT_.out (by kernel_rfl)) (by decide) (fun K hK => ?_)
             refine goes_ Try.func77 (by kernel_rfl) rfl #[.slice A0_3 l0_3.length c0_3, .int .i64 ((rd_T89 l0_2 x3_2).f0)] (by rfl) rfl rfl sa ?_
             with_reducible refine (spec_l4Linked.calls k2 _ _ l0_3 ((rd_T89 l0_2 x3_2).f0) true _ ?side1 ?side2 A61.out).mono ?_
             (case side1 => exact ca (Kd.C_below HR0_3.out bl))
             (case side2 => exact HC0_3.out)
             rintro e w' ⟨rfl, ⟨nd, rfl⟩⟩
             refine ⟨_, rfl, ?_⟩
             refine hK.out _ _ ⟨cb 0 BK199, cb 1 BK199, cb 2 BK199, cb 0 BK194, cb 1 BK194, cb 2 BK194, cb 3 BK194, cb 4 BK194⟩ (fun hHeld => ?_)
             clear hK K
             refine norm_ (a' := ?_) ?_ ?_
             rotate_left
             ·show Act.put _ (some 94) _ = _
              simp only [Act.put, List.setIfInBounds_toArray, List.set_cons_zero, List.set_cons_succ, i64_w, i32_w]
              rfl
             refine pV 38 95 (bo 48 549755813887) ?_
             refine pV 39 96 (bo 48 1099511627775) ?_
             refine pU 40 97 (bo 48 2199023255551) ?_
             refine pU 41 98 (bo 48 4398046511103) ?_
             refine pU 42 99 (bo 48 8796093022207) ?_
             refine pU 43 100 (bo 48 17592186044415) ?_
             refine pU 44 101 (bo 48 35184372088831) ?_
             refine pU 45 102 (bo 48 70368744177663) ?_
             refine pV 46 103 (bo 48 140737488355327) ?_
             refine pV 47 104 (bo 48 281474976710655) ?_
             refine done_ (done_of HT_.out (by kernel_rfl)) ?_
             try go_wp2
             go_roundg k2
             case measure => have := HJ1.out; have := HK2.out; omega
             case rel => exact ⟨(wrap64 (x3_2 + 1)), fa, H', ⟨by have := HJ1.out; have := HK2.out; omega⟩, ⟨by (with_reducible repeat (first | refine blk_drewN ?_ _ | refine blk_drew ?_ | refine blk_alloc ?_ _)); exact BK194.out⟩, ⟨bl⟩⟩
            ·replace c62 := Bool.eq_false_iff.mpr c62
             subst c62
             replace H := iF H
             obtain ⟨t206, A69, H⟩ := bd H
             by_cases c70 : t206 = true
             ·subst c70
              replace H := iT H
              have H' := Aside0.mk H
              clear H
              obtain ⟨Z71_0, Z71_1, Z71_2, Z71_3, Z71_4, Y71_0, Y71_1, Y71_2, Y71_3, Y71_4⟩ := cf5 BK194
              have p198 : 0 ≤ (x3_2 : Int) := of_decide_eq_true am
              have q198 : x3_2 < (l0_2.length : Int) := of_decide_eq_true am
              obtain ⟨ad198, e198, hx198_0, hx198_1, hx198_2⟩ := at_T89 HR0_2.out x3_2 p198 q198
              cases e198
              replace hx198_0 := cz HB hx198_0
              replace hx198_1 := cz HB hx198_1
              replace hx198_2 := cz HB hx198_2
              replace p198 := eq_true p198
              replace q198 := eq_true q198
              try go_wp2_with (first | ((with_reducible refine gD 4 rfl ?_); (try (refine gate_guard rfl ?_; dsimp only)); refine boxZ 4 #[.int .i64 0, .string (⟨#[]⟩ : ByteArray), .int .i64 0] 89 ?_; intro gb199 hg w72 hbox hb; have BK199 := Aside0.mk hbox; have GW199 := gw (w := w) hg; have GE199 := gw (w := w) hg; replace HB := bs (w := w) hb; have NB194_199 := nl BK194 hg; have NB199_194 := nr BK194 hg; replace BK194 := bv BK194 hb; clear hb hbox hg; have hnb73 := NB199_194.out; have hnc73 := NB194_199.out; obtain ⟨Z74_0, Z74_1, Z74_2, Y74_0, Y74_1, Y74_2⟩ := cf3 BK199))
              have n0_ : Aside0 ((((w72.setCell ⟨gb199, 0, none⟩ (.int .i64 ((rd_T89 l0_2 x3_2).f0))).setCell ⟨gb199, 1, none⟩ (.string ((rd_T89 l0_2 x3_2).f1))).setCell ⟨gb199, 2, none⟩ (.int .i64 ((rd_T89 l0_2 x3_2).f2))).heap[gb194]? = some (.cells #[.int .i64 a0_0, .int .i64 a0_1, .slice (some ad198) l0_2.length c0_2, .slice A0_3 l0_3.length c0_3, .slice A0_4 l0_4.length c0_4] 26 (0, 0))) := ⟨bkk⟩
              have n1_ : Aside0 ((((w72.setCell ⟨gb199, 0, none⟩ (.int .i64 ((rd_T89 l0_2 x3_2).f0))).setCell ⟨gb199, 1, none⟩ (.string ((rd_T89 l0_2 x3_2).f1))).setCell ⟨gb199, 2, none⟩ (.int .i64 ((rd_T89 l0_2 x3_2).f2))).heap[gb199]? = some (.cells #[.int .i64 ((rd_T89 l0_2 x3_2).f0), .string ((rd_T89 l0_2 x3_2).f1), .int .i64 ((rd_T89 l0_2 x3_2).f2)] 89 (0, 0))) := ⟨bkk⟩
              have n2_ : Aside0 (Below w.heap.size w (((w72.setCell ⟨gb199, 0, none⟩ (.int .i64 ((rd_T89 l0_2 x3_2).f0))).setCell ⟨gb199, 1, none⟩ (.string ((rd_T89 l0_2 x3_2).f1))).setCell ⟨gb199, 2, none⟩ (.int .i64 ((rd_T89 l0_2 x3_2).f2)))) := ⟨bl⟩
              (try clear BK194)
              (try clear BK199)
              (try clear HB)
              generalize (((w72.setCell ⟨gb199, 0, none⟩ (.int .i64 ((rd_T89 l0_2 x3_2).f0))).setCell ⟨gb199, 1, none⟩ (.string ((rd_T89 l0_2 x3_2).f1))).setCell ⟨gb199, 2, none⟩ (.int .i64 ((rd_T89 l0_2 x3_2).f2))) = w75 at n0_ n1_ n2_ ⊢
              have BK194 := n0_
              have BK199 := n1_
              have HB := n2_
              clear n0_ n1_ n2_
              replace BK194 := Aside0.mk (blk_drew BK194.out); replace BK199 := Aside0.mk (blk_drew BK199.out); replace HB := Aside0.mk (below_drew1 HB.out)
              refine start_ (n := 48) (S := fun w' => w'.cell? ⟨gb199, 0, none⟩ = some (.int .i64 ((rd_T89 l0_2 x3_2).f0)) ∧ w'.cell? ⟨gb199, 1, none⟩ = some (.string ((rd_T89 l0_2 x3_2).f1)) ∧ w'.cell? ⟨gb199, 2, none⟩ = some (.int .i64 ((rd_T89 l0_2 x3_2).f2)) ∧ w'.cell? ⟨gb194, 0, none⟩ = some (.int .i64 a0_0) ∧ w'.cell? ⟨gb194, 1, none⟩ = some (.int .i64 a0_1) ∧ w'.cell? ⟨gb194, 2, none⟩ = some (.slice (some ad198) l0_2.length c0_2) ∧ w'.cell? ⟨gb194, 3, none⟩ = some (.slice A0_3 l0_3.length c0_3) ∧ w'.cell? ⟨gb194, 4, none⟩ = some (.slice A0_4 l0_4.length c0_4)) (ds := []) (bo 48 0) (by kernel_rfl) rfl rfl ⟨cb 0 BK199, cb 1 BK199, cb 2 BK199, cb 0 BK194, cb 1 BK194, cb 2 BK194, cb 3 BK194, cb 4 BK194⟩ (fun hHeld => ?_); refine with_tabW spec_DiskOk.tab9 spec_DiskOk.bits9 (fun HT_ HW_ => ?_)
              generalize w75.drew = w76 at BK194 BK199 HB hHeld ⊢
              refine pV 0 57 (bo 48 1) ?_
              refine pV 2 59 (bo 48 5) ?_
              refine tV 1 58 (bo 48 7) ?_
              refine tV 3 60 (bo 48 15) ?_
              refine pV 4 61 (bo 48 31) ?_
              refine one_ (i := 5) (N := some 62) (bo 48 63) rfl rfl (one_of HT_.out (by kernel_rfl)) (by decide) (fun K hK => ?_)
              refine goes_ Try.func53 (by kernel_rfl) rfl #[.int .i64 ((rd_T89 l0_2 x3_2).f0), .int .i64 1, .int .i64 (wrap64 (a0_1 - 1))] (by rfl) rfl rfl sa ?_
              with_reducible refine (spec_l1In.calls ((rd_T89 l0_2 x3_2).f0) 1 (wrap64 (a0_1 - 1)) true _ A24.out).mono ?_
              rintro e w' ⟨rfl, ⟨nd, rfl⟩⟩
              refine ⟨_, rfl, ?_⟩
              refine hK.out _ _ ⟨cb 0 BK199, cb 1 BK199, cb 2 BK199, cb 0 BK194, cb 1 BK194, cb 2 BK194, cb 3 BK194, cb 4 BK194⟩ (fun hHeld => ?_)
              clear hK K
              refine norm_ (a' := ?_) ?_ ?_
              rotate_left
              ·show Act.put _ (some 62) _ = _
               simp only [Act.put, List.setIfInBounds_toArray, List.set_cons_zero, List.set_cons_succ, i64_w, i32_w]
               rfl
              refine pV 6 63 (bo 48 127) ?_
              refine pV 7 64 (bo 48 255) ?_
              refine pV 8 65 (bo 48 511) ?_
              refine pV 10 67 (bo 48 1535) ?_
              refine tV 9 66 (bo 48 2047) ?_
              refine tV 11 68 (bo 48 4095) ?_
              refine pV 12 69 (bo 48 8191) ?_
              refine one_ (i := 13) (N := some 70) (bo 48 16383) rfl rfl (one_of HT_.out (by kernel_rfl)) (by decide) (fun K hK => ?_)
              refine goes_ Try.func53 (by kernel_rfl) rfl #[.int .i64 ((rd_T89 l0_2 x3_2).f2), .int .i64 0, .int .i64 (((rd_T89 l0_2 x3_2).f1).size : Int)] (by rfl) rfl rfl sa ?_
              with_reducible refine (spec_l1In.calls ((rd_T89 l0_2 x3_2).f2) 0 (((rd_T89 l0_2 x3_2).f1).size : Int) true _ A26.out).mono ?_
              rintro e w' ⟨rfl, ⟨nd, rfl⟩⟩
              refine ⟨_, rfl, ?_⟩
              refine hK.out _ _ ⟨cb 0 BK199, cb 1 BK199, cb 2 BK199, cb 0 BK194, cb 1 BK194, cb 2 BK194, cb 3 BK194, cb 4 BK194⟩ (fun hHeld => ?_)
              clear hK K
              refine norm_ (a' := ?_) ?_ ?_
              rotate_left
              ·show Act.put _ (some 70) _ = _
               simp only [Act.put, List.setIfInBounds_toArray, List.set_cons_zero, List.set_cons_succ, i64_w, i32_w]
               rfl
              refine pV 14 71 (bo 48 32767) ?_
              refine pV 15 72 (bo 48 65535) ?_
              refine pV 16 73 (bo 48 131071) ?_
              refine pV 17 74 (bo 48 262143) ?_
              refine pV 18 75 (bo 48 524287) ?_
              refine pV 19 76 (bo 48 1048575) ?_
              refine pU 20 77 (bo 48 2097151) ?_
              refine pU 21 78 (bo 48 4194303) ?_
              refine pU 22 79 (bo 48 8388607) ?_
              refine pU 23 80 (bo 48 16777215) ?_
              refine pU 24 81 (bo 48 33554431) ?_
              refine pU 25 82 (bo 48 67108863) ?_
              refine pU 26 83 (bo 48 134217727) ?_
              refine pU 27 84 (bo 48 268435455) ?_
              refine pU 28 85 (bo 48 536870911) ?_
              refine pU 29 86 (bo 48 1073741823) ?_
              refine pV 30 87 (bo 48 2147483647) ?_
              refine pV 31 88 (bo 48 4294967295) ?_
              refine pV 32 89 (bo 48 8589934591) ?_
              refine pV 33 90 (bo 48 17179869183) ?_
              refine pV 35 92 (bo 48 51539607551) ?_
              refine tV 34 91 (bo 48 68719476735) ?_
              refine tV 36 93 (bo 48 137438953471) ?_
              refine one_ (i := 37) (N := some 94) (bo 48 274877906943) rfl rfl (one_of HT_.out (by kernel_rfl)) (by decide) (fun K hK => ?_)
              refine goes_ Try.func77 (by kernel_rfl) rfl #[.slice A0_3 l0_3.length c0_3, .int .i64 ((rd_T89 l0_2 x3_2).f0)] (by rfl) rfl rfl sa ?_
              with_reducible refine (spec_l4Linked.calls k2 _ _ l0_3 ((rd_T89 l0_2 x3_2).f0) false _ ?side1 ?side2 A61.out).mono ?_
              (case side1 => exact ca (Kd.C_below HR0_3.out bl))
              (case side2 => exact HC0_3.out)
              rintro e w' ⟨rfl, ⟨nd, rfl⟩⟩
              refine ⟨_, rfl, ?_⟩
              refine hK.out _ _ ⟨cb 0 BK199, cb 1 BK199, cb 2 BK199, cb 0 BK194, cb 1 BK194, cb 2 BK194, cb 3 BK194, cb 4 BK194⟩ (fun hHeld => ?_)
              clear hK K
              refine norm_ (a' := ?_) ?_ ?_
              rotate_left
              ·show Act.put _ (some 94) _ = _
               simp only [Act.put, List.setIfInBounds_toArray, List.set_cons_zero, List.set_cons_succ, i64_w, i32_w]
               rfl
              refine pV 38 95 (bo 48 549755813887) ?_
              refine pV 39 96 (bo 48 1099511627775) ?_
              refine pV 40 97 (bo 48 2199023255551) ?_
              refine pV 42 99 (bo 48 6597069766655) ?_
              refine tV 41 98 (bo 48 8796093022207) ?_
              refine tV 43 100 (bo 48 17592186044415) ?_
              refine one_ (i := 44) (N := some 101) (bo 48 35184372088831) rfl rfl (one_of HT_.out (by kernel_rfl)) (by decide) (fun K hK => ?_)
              refine goes_ Try.func78 (by kernel_rfl) rfl #[.slice A0_4 l0_4.length c0_4, .int .i64 ((rd_T89 l0_2 x3_2).f0)] (by rfl) rfl rfl sa ?_
              with_reducible refine (spec_l4Made.calls k2 _ _ l0_4 ((rd_T89 l0_2 x3_2).f0) true _ ?side1 ?side2 A69.out).mono ?_
              (case side1 => exact ca (Kd.C_below HR0_4.out bl))
              (case side2 => exact HC0_4.out)
              rintro e w' ⟨rfl, ⟨nd, rfl⟩⟩
              refine ⟨_, rfl, ?_⟩
              refine hK.out _ _ ⟨cb 0 BK199, cb 1 BK199, cb 2 BK199, cb 0 BK194, cb 1 BK194, cb 2 BK194, cb 3 BK194, cb 4 BK194⟩ (fun hHeld => ?_)
              clear hK K
              refine norm_ (a' := ?_) ?_ ?_
              rotate_left
              ·show Act.put _ (some 101) _ = _
               simp only [Act.put, List.setIfInBounds_toArray, List.set_cons_zero, List.set_cons_succ, i64_w, i32_w]
               rfl
              refine pV 45 102 (bo 48 70368744177663) ?_
              refine pV 46 103 (bo 48 140737488355327) ?_
              refine pV 47 104 (bo 48 281474976710655) ?_
              refine done_ (done_of HT_.out (by kernel_rfl)) ?_
              try go_wp2
              go_roundg k2
              case measure => have := HJ1.out; have := HK2.out; omega
              case rel => exact ⟨(wrap64 (x3_2 + 1)), fa, H', ⟨by have := HJ1.out; have := HK2.out; omega⟩, ⟨by (with_reducible repeat (first | refine blk_drewN ?_ _ | refine blk_drew ?_ | refine blk_alloc ?_ _)); exact BK194.out⟩, ⟨bl⟩⟩
             ·replace c70 := Bool.eq_false_iff.mpr c70
              subst c70
              replace H := iF H
              obtain rfl := Option.some.inj H
              obtain ⟨Z77_0, Z77_1, Z77_2, Z77_3, Z77_4, Y77_0, Y77_1, Y77_2, Y77_3, Y77_4⟩ := cf5 BK194
              have p198 : 0 ≤ (x3_2 : Int) := of_decide_eq_true am
              have q198 : x3_2 < (l0_2.length : Int) := of_decide_eq_true am
              obtain ⟨ad198, e198, hx198_0, hx198_1, hx198_2⟩ := at_T89 HR0_2.out x3_2 p198 q198
              cases e198
              replace hx198_0 := cz HB hx198_0
              replace hx198_1 := cz HB hx198_1
              replace hx198_2 := cz HB hx198_2
              replace p198 := eq_true p198
              replace q198 := eq_true q198
              try go_wp2_with (first | ((with_reducible refine gD 4 rfl ?_); (try (refine gate_guard rfl ?_; dsimp only)); refine boxZ 4 #[.int .i64 0, .string (⟨#[]⟩ : ByteArray), .int .i64 0] 89 ?_; intro gb199 hg w78 hbox hb; have BK199 := Aside0.mk hbox; have GW199 := gw (w := w) hg; have GE199 := gw (w := w) hg; replace HB := bs (w := w) hb; have NB194_199 := nl BK194 hg; have NB199_194 := nr BK194 hg; replace BK194 := bv BK194 hb; clear hb hbox hg; have hnb79 := NB199_194.out; have hnc79 := NB194_199.out; obtain ⟨Z80_0, Z80_1, Z80_2, Y80_0, Y80_1, Y80_2⟩ := cf3 BK199))
              have n0_ : Aside0 ((((w78.setCell ⟨gb199, 0, none⟩ (.int .i64 ((rd_T89 l0_2 x3_2).f0))).setCell ⟨gb199, 1, none⟩ (.string ((rd_T89 l0_2 x3_2).f1))).setCell ⟨gb199, 2, none⟩ (.int .i64 ((rd_T89 l0_2 x3_2).f2))).heap[gb194]? = some (.cells #[.int .i64 a0_0, .int .i64 a0_1, .slice (some ad198) l0_2.length c0_2, .slice A0_3 l0_3.length c0_3, .slice A0_4 l0_4.length c0_4] 26 (0, 0))) := ⟨bkk⟩
              have n1_ : Aside0 ((((w78.setCell ⟨gb199, 0, none⟩ (.int .i64 ((rd_T89 l0_2 x3_2).f0))).setCell ⟨gb199, 1, none⟩ (.string ((rd_T89 l0_2 x3_2).f1))).setCell ⟨gb199, 2, none⟩ (.int .i64 ((rd_T89 l0_2 x3_2).f2))).heap[gb199]? = some (.cells #[.int .i64 ((rd_T89 l0_2 x3_2).f0), .string ((rd_T89 l0_2 x3_2).f1), .int .i64 ((rd_T89 l0_2 x3_2).f2)] 89 (0, 0))) := ⟨bkk⟩
              have n2_ : Aside0 (Below w.heap.size w (((w78.setCell ⟨gb199, 0, none⟩ (.int .i64 ((rd_T89 l0_2 x3_2).f0))).setCell ⟨gb199, 1, none⟩ (.string ((rd_T89 l0_2 x3_2).f1))).setCell ⟨gb199, 2, none⟩ (.int .i64 ((rd_T89 l0_2 x3_2).f2)))) := ⟨bl⟩
              (try clear BK194)
              (try clear BK199)
              (try clear HB)
              generalize (((w78.setCell ⟨gb199, 0, none⟩ (.int .i64 ((rd_T89 l0_2 x3_2).f0))).setCell ⟨gb199, 1, none⟩ (.string ((rd_T89 l0_2 x3_2).f1))).setCell ⟨gb199, 2, none⟩ (.int .i64 ((rd_T89 l0_2 x3_2).f2))) = w81 at n0_ n1_ n2_ ⊢
              have BK194 := n0_
              have BK199 := n1_
              have HB := n2_
              clear n0_ n1_ n2_
              replace BK194 := Aside0.mk (blk_drew BK194.out); replace BK199 := Aside0.mk (blk_drew BK199.out); replace HB := Aside0.mk (below_drew1 HB.out)
              refine start_ (n := 48) (S := fun w' => w'.cell? ⟨gb199, 0, none⟩ = some (.int .i64 ((rd_T89 l0_2 x3_2).f0)) ∧ w'.cell? ⟨gb199, 1, none⟩ = some (.string ((rd_T89 l0_2 x3_2).f1)) ∧ w'.cell? ⟨gb199, 2, none⟩ = some (.int .i64 ((rd_T89 l0_2 x3_2).f2)) ∧ w'.cell? ⟨gb194, 0, none⟩ = some (.int .i64 a0_0) ∧ w'.cell? ⟨gb194, 1, none⟩ = some (.int .i64 a0_1) ∧ w'.cell? ⟨gb194, 2, none⟩ = some (.slice (some ad198) l0_2.length c0_2) ∧ w'.cell? ⟨gb194, 3, none⟩ = some (.slice A0_3 l0_3.length c0_3) ∧ w'.cell? ⟨gb194, 4, none⟩ = some (.slice A0_4 l0_4.length c0_4)) (ds := []) (bo 48 0) (by kernel_rfl) rfl rfl ⟨cb 0 BK199, cb 1 BK199, cb 2 BK199, cb 0 BK194, cb 1 BK194, cb 2 BK194, cb 3 BK194, cb 4 BK194⟩ (fun hHeld => ?_); refine with_tabW spec_DiskOk.tab9 spec_DiskOk.bits9 (fun HT_ HW_ => ?_)
              generalize w81.drew = w82 at BK194 BK199 HB hHeld ⊢
              refine pV 0 57 (bo 48 1) ?_
              refine pV 2 59 (bo 48 5) ?_
              refine tV 1 58 (bo 48 7) ?_
              refine tV 3 60 (bo 48 15) ?_
              refine pV 4 61 (bo 48 31) ?_
              refine one_ (i := 5) (N := some 62) (bo 48 63) rfl rfl (one_of HT_.out (by kernel_rfl)) (by decide) (fun K hK => ?_)
              refine goes_ Try.func53 (by kernel_rfl) rfl #[.int .i64 ((rd_T89 l0_2 x3_2).f0), .int .i64 1, .int .i64 (wrap64 (a0_1 - 1))] (by rfl) rfl rfl sa ?_
              with_reducible refine (spec_l1In.calls ((rd_T89 l0_2 x3_2).f0) 1 (wrap64 (a0_1 - 1)) true _ A24.out).mono ?_
              rintro e w' ⟨rfl, ⟨nd, rfl⟩⟩
              refine ⟨_, rfl, ?_⟩
              refine hK.out _ _ ⟨cb 0 BK199, cb 1 BK199, cb 2 BK199, cb 0 BK194, cb 1 BK194, cb 2 BK194, cb 3 BK194, cb 4 BK194⟩ (fun hHeld => ?_)
              clear hK K
              refine norm_ (a' := ?_) ?_ ?_
              rotate_left
              ·show Act.put _ (some 62) _ = _
               simp only [Act.put, List.setIfInBounds_toArray, List.set_cons_zero, List.set_cons_succ, i64_w, i32_w]
               rfl
              refine pV 6 63 (bo 48 127) ?_
              refine pV 7 64 (bo 48 255) ?_
              refine pV 8 65 (bo 48 511) ?_
              refine pV 10 67 (bo 48 1535) ?_
              refine tV 9 66 (bo 48 2047) ?_
              refine tV 11 68 (bo 48 4095) ?_
              refine pV 12 69 (bo 48 8191) ?_
              refine one_ (i := 13) (N := some 70) (bo 48 16383) rfl rfl (one_of HT_.out (by kernel_rfl)) (by decide) (fun K hK => ?_)
              refine goes_ Try.func53 (by kernel_rfl) rfl #[.int .i64 ((rd_T89 l0_2 x3_2).f2), .int .i64 0, .int .i64 (((rd_T89 l0_2 x3_2).f1).size : Int)] (by rfl) rfl rfl sa ?_
              with_reducible refine (spec_l1In.calls ((rd_T89 l0_2 x3_2).f2) 0 (((rd_T89 l0_2 x3_2).f1).size : Int) true _ A26.out).mono ?_
              rintro e w' ⟨rfl, ⟨nd, rfl⟩⟩
              refine ⟨_, rfl, ?_⟩
              refine hK.out _ _ ⟨cb 0 BK199, cb 1 BK199, cb 2 BK199, cb 0 BK194, cb 1 BK194, cb 2 BK194, cb 3 BK194, cb 4 BK194⟩ (fun hHeld => ?_)
              clear hK K
              refine norm_ (a' := ?_) ?_ ?_
              rotate_left
              ·show Act.put _ (some 70) _ = _
               simp only [Act.put, List.setIfInBounds_toArray, List.set_cons_zero, List.set_cons_succ, i64_w, i32_w]
               rfl
              refine pV 14 71 (bo 48 32767) ?_
              refine pV 15 72 (bo 48 65535) ?_
              refine pV 16 73 (bo 48 131071) ?_
              refine pV 17 74 (bo 48 262143) ?_
              refine pV 18 75 (bo 48 524287) ?_
              refine pV 19 76 (bo 48 1048575) ?_
              refine pU 20 77 (bo 48 2097151) ?_
              refine pU 21 78 (bo 48 4194303) ?_
              refine pU 22 79 (bo 48 8388607) ?_
              refine pU 23 80 (bo 48 16777215) ?_
              refine pU 24 81 (bo 48 33554431) ?_
              refine pU 25 82 (bo 48 67108863) ?_
              refine pU 26 83 (bo 48 134217727) ?_
              refine pU 27 84 (bo 48 268435455) ?_
              refine pU 28 85 (bo 48 536870911) ?_
              refine pU 29 86 (bo 48 1073741823) ?_
              refine pV 30 87 (bo 48 2147483647) ?_
              refine pV 31 88 (bo 48 4294967295) ?_
              refine pV 32 89 (bo 48 8589934591) ?_
              refine pV 33 90 (bo 48 17179869183) ?_
              refine pV 35 92 (bo 48 51539607551) ?_
              refine tV 34 91 (bo 48 68719476735) ?_
              refine tV 36 93 (bo 48 137438953471) ?_
              refine one_ (i := 37) (N := some 94) (bo 48 274877906943) rfl rfl (one_of HT_.out (by kernel_rfl)) (by decide) (fun K hK => ?_)
              refine goes_ Try.func77 (by kernel_rfl) rfl #[.slice A0_3 l0_3.length c0_3, .int .i64 ((rd_T89 l0_2 x3_2).f0)] (by rfl) rfl rfl sa ?_
              with_reducible refine (spec_l4Linked.calls k2 _ _ l0_3 ((rd_T89 l0_2 x3_2).f0) false _ ?side1 ?side2 A61.out).mono ?_
              (case side1 => exact ca (Kd.C_below HR0_3.out bl))
              (case side2 => exact HC0_3.out)
              rintro e w' ⟨rfl, ⟨nd, rfl⟩⟩
              refine ⟨_, rfl, ?_⟩
              refine hK.out _ _ ⟨cb 0 BK199, cb 1 BK199, cb 2 BK199, cb 0 BK194, cb 1 BK194, cb 2 BK194, cb 3 BK194, cb 4 BK194⟩ (fun hHeld => ?_)
              clear hK K
              refine norm_ (a' := ?_) ?_ ?_
              rotate_left
              ·show Act.put _ (some 94) _ = _
               simp only [Act.put, List.setIfInBounds_toArray, List.set_cons_zero, List.set_cons_succ, i64_w, i32_w]
               rfl
              refine pV 38 95 (bo 48 549755813887) ?_
              refine pV 39 96 (bo 48 1099511627775) ?_
              refine pV 40 97 (bo 48 2199023255551) ?_
              refine pV 42 99 (bo 48 6597069766655) ?_
              refine tV 41 98 (bo 48 8796093022207) ?_
              refine tV 43 100 (bo 48 17592186044415) ?_
              refine one_ (i := 44) (N := some 101) (bo 48 35184372088831) rfl rfl (one_of HT_.out (by kernel_rfl)) (by decide) (fun K hK => ?_)
              refine goes_ Try.func78 (by kernel_rfl) rfl #[.slice A0_4 l0_4.length c0_4, .int .i64 ((rd_T89 l0_2 x3_2).f0)] (by rfl) rfl rfl sa ?_
              with_reducible refine (spec_l4Made.calls k2 _ _ l0_4 ((rd_T89 l0_2 x3_2).f0) false _ ?side1 ?side2 A69.out).mono ?_
              (case side1 => exact ca (Kd.C_below HR0_4.out bl))
              (case side2 => exact HC0_4.out)
              rintro e w' ⟨rfl, ⟨nd, rfl⟩⟩
              refine ⟨_, rfl, ?_⟩
              refine hK.out _ _ ⟨cb 0 BK199, cb 1 BK199, cb 2 BK199, cb 0 BK194, cb 1 BK194, cb 2 BK194, cb 3 BK194, cb 4 BK194⟩ (fun hHeld => ?_)
              clear hK K
              refine norm_ (a' := ?_) ?_ ?_
              rotate_left
              ·show Act.put _ (some 101) _ = _
               simp only [Act.put, List.setIfInBounds_toArray, List.set_cons_zero, List.set_cons_succ, i64_w, i32_w]
               rfl
              refine pV 45 102 (bo 48 70368744177663) ?_
              refine pV 46 103 (bo 48 140737488355327) ?_
              refine pV 47 104 (bo 48 281474976710655) ?_
              refine done_ (done_of HT_.out (by kernel_rfl)) ?_
              try go_wp2
              go_ret
              exact ⟨fe, bl⟩
          ·replace c27 := Bool.eq_false_iff.mpr c27
           subst c27
           replace H := iF H
           obtain rfl := Option.some.inj H
           obtain ⟨Z83_0, Z83_1, Z83_2, Z83_3, Z83_4, Y83_0, Y83_1, Y83_2, Y83_3, Y83_4⟩ := cf5 BK194
           have p198 : 0 ≤ (x3_2 : Int) := of_decide_eq_true am
           have q198 : x3_2 < (l0_2.length : Int) := of_decide_eq_true am
           obtain ⟨ad198, e198, hx198_0, hx198_1, hx198_2⟩ := at_T89 HR0_2.out x3_2 p198 q198
           cases e198
           replace hx198_0 := cz HB hx198_0
           replace hx198_1 := cz HB hx198_1
           replace hx198_2 := cz HB hx198_2
           replace p198 := eq_true p198
           replace q198 := eq_true q198
           try go_wp2_with (first | ((with_reducible refine gD 4 rfl ?_); (try (refine gate_guard rfl ?_; dsimp only)); refine boxZ 4 #[.int .i64 0, .string (⟨#[]⟩ : ByteArray), .int .i64 0] 89 ?_; intro gb199 hg w84 hbox hb; have BK199 := Aside0.mk hbox; have GW199 := gw (w := w) hg; have GE199 := gw (w := w) hg; replace HB := bs (w := w) hb; have NB194_199 := nl BK194 hg; have NB199_194 := nr BK194 hg; replace BK194 := bv BK194 hb; clear hb hbox hg; have hnb85 := NB199_194.out; have hnc85 := NB194_199.out; obtain ⟨Z86_0, Z86_1, Z86_2, Y86_0, Y86_1, Y86_2⟩ := cf3 BK199))
           have n0_ : Aside0 ((((w84.setCell ⟨gb199, 0, none⟩ (.int .i64 ((rd_T89 l0_2 x3_2).f0))).setCell ⟨gb199, 1, none⟩ (.string ((rd_T89 l0_2 x3_2).f1))).setCell ⟨gb199, 2, none⟩ (.int .i64 ((rd_T89 l0_2 x3_2).f2))).heap[gb194]? = some (.cells #[.int .i64 a0_0, .int .i64 a0_1, .slice (some ad198) l0_2.length c0_2, .slice A0_3 l0_3.length c0_3, .slice A0_4 l0_4.length c0_4] 26 (0, 0))) := ⟨bkk⟩
           have n1_ : Aside0 ((((w84.setCell ⟨gb199, 0, none⟩ (.int .i64 ((rd_T89 l0_2 x3_2).f0))).setCell ⟨gb199, 1, none⟩ (.string ((rd_T89 l0_2 x3_2).f1))).setCell ⟨gb199, 2, none⟩ (.int .i64 ((rd_T89 l0_2 x3_2).f2))).heap[gb199]? = some (.cells #[.int .i64 ((rd_T89 l0_2 x3_2).f0), .string ((rd_T89 l0_2 x3_2).f1), .int .i64 ((rd_T89 l0_2 x3_2).f2)] 89 (0, 0))) := ⟨bkk⟩
           have n2_ : Aside0 (Below w.heap.size w (((w84.setCell ⟨gb199, 0, none⟩ (.int .i64 ((rd_T89 l0_2 x3_2).f0))).setCell ⟨gb199, 1, none⟩ (.string ((rd_T89 l0_2 x3_2).f1))).setCell ⟨gb199, 2, none⟩ (.int .i64 ((rd_T89 l0_2 x3_2).f2)))) := ⟨bl⟩
           (try clear BK194)
           (try clear BK199)
           (try clear HB)
           generalize (((w84.setCell ⟨gb199, 0, none⟩ (.int .i64 ((rd_T89 l0_2 x3_2).f0))).setCell ⟨gb199, 1, none⟩ (.string ((rd_T89 l0_2 x3_2).f1))).setCell ⟨gb199, 2, none⟩ (.int .i64 ((rd_T89 l0_2 x3_2).f2))) = w87 at n0_ n1_ n2_ ⊢
           have BK194 := n0_
           have BK199 := n1_
           have HB := n2_
           clear n0_ n1_ n2_
           replace BK194 := Aside0.mk (blk_drew BK194.out); replace BK199 := Aside0.mk (blk_drew BK199.out); replace HB := Aside0.mk (below_drew1 HB.out)
           refine start_ (n := 48) (S := fun w' => w'.cell? ⟨gb199, 0, none⟩ = some (.int .i64 ((rd_T89 l0_2 x3_2).f0)) ∧ w'.cell? ⟨gb199, 1, none⟩ = some (.string ((rd_T89 l0_2 x3_2).f1)) ∧ w'.cell? ⟨gb199, 2, none⟩ = some (.int .i64 ((rd_T89 l0_2 x3_2).f2)) ∧ w'.cell? ⟨gb194, 0, none⟩ = some (.int .i64 a0_0) ∧ w'.cell? ⟨gb194, 1, none⟩ = some (.int .i64 a0_1) ∧ w'.cell? ⟨gb194, 2, none⟩ = some (.slice (some ad198) l0_2.length c0_2) ∧ w'.cell? ⟨gb194, 3, none⟩ = some (.slice A0_3 l0_3.length c0_3) ∧ w'.cell? ⟨gb194, 4, none⟩ = some (.slice A0_4 l0_4.length c0_4)) (ds := []) (bo 48 0) (by kernel_rfl) rfl rfl ⟨cb 0 BK199, cb 1 BK199, cb 2 BK199, cb 0 BK194, cb 1 BK194, cb 2 BK194, cb 3 BK194, cb 4 BK194⟩ (fun hHeld => ?_); refine with_tabW spec_DiskOk.tab9 spec_DiskOk.bits9 (fun HT_ HW_ => ?_)
           generalize w87.drew = w88 at BK194 BK199 HB hHeld ⊢
           refine pV 0 57 (bo 48 1) ?_
           refine pV 2 59 (bo 48 5) ?_
           refine tV 1 58 (bo 48 7) ?_
           refine tV 3 60 (bo 48 15) ?_
           refine pV 4 61 (bo 48 31) ?_
           refine one_ (i := 5) (N := some 62) (bo 48 63) rfl rfl (one_of HT_.out (by kernel_rfl)) (by decide) (fun K hK => ?_)
           refine goes_ Try.func53 (by kernel_rfl) rfl #[.int .i64 ((rd_T89 l0_2 x3_2).f0), .int .i64 1, .int .i64 (wrap64 (a0_1 - 1))] (by rfl) rfl rfl sa ?_
           with_reducible refine (spec_l1In.calls ((rd_T89 l0_2 x3_2).f0) 1 (wrap64 (a0_1 - 1)) true _ A24.out).mono ?_
           rintro e w' ⟨rfl, ⟨nd, rfl⟩⟩
           refine ⟨_, rfl, ?_⟩
           refine hK.out _ _ ⟨cb 0 BK199, cb 1 BK199, cb 2 BK199, cb 0 BK194, cb 1 BK194, cb 2 BK194, cb 3 BK194, cb 4 BK194⟩ (fun hHeld => ?_)
           clear hK K
           refine norm_ (a' := ?_) ?_ ?_
           rotate_left
           ·show Act.put _ (some 62) _ = _
            simp only [Act.put, List.setIfInBounds_toArray, List.set_cons_zero, List.set_cons_succ, i64_w, i32_w]
            rfl
           refine pV 6 63 (bo 48 127) ?_
           refine pV 7 64 (bo 48 255) ?_
           refine pV 8 65 (bo 48 511) ?_
           refine pV 10 67 (bo 48 1535) ?_
           refine tV 9 66 (bo 48 2047) ?_
           refine tV 11 68 (bo 48 4095) ?_
           refine pV 12 69 (bo 48 8191) ?_
           refine one_ (i := 13) (N := some 70) (bo 48 16383) rfl rfl (one_of HT_.out (by kernel_rfl)) (by decide) (fun K hK => ?_)
           refine goes_ Try.func53 (by kernel_rfl) rfl #[.int .i64 ((rd_T89 l0_2 x3_2).f2), .int .i64 0, .int .i64 (((rd_T89 l0_2 x3_2).f1).size : Int)] (by rfl) rfl rfl sa ?_
           with_reducible refine (spec_l1In.calls ((rd_T89 l0_2 x3_2).f2) 0 (((rd_T89 l0_2 x3_2).f1).size : Int) false _ A26.out).mono ?_
           rintro e w' ⟨rfl, ⟨nd, rfl⟩⟩
           refine ⟨_, rfl, ?_⟩
           refine hK.out _ _ ⟨cb 0 BK199, cb 1 BK199, cb 2 BK199, cb 0 BK194, cb 1 BK194, cb 2 BK194, cb 3 BK194, cb 4 BK194⟩ (fun hHeld => ?_)
           clear hK K
           refine norm_ (a' := ?_) ?_ ?_
           rotate_left
           ·show Act.put _ (some 70) _ = _
            simp only [Act.put, List.setIfInBounds_toArray, List.set_cons_zero, List.set_cons_succ, i64_w, i32_w]
            rfl
           refine pV 14 71 (bo 48 32767) ?_
           refine pV 15 72 (bo 48 65535) ?_
           refine pV 16 73 (bo 48 131071) ?_
           refine pU 17 74 (bo 48 262143) ?_
           refine pU 18 75 (bo 48 524287) ?_
           refine pU 19 76 (bo 48 1048575) ?_
           refine pU 20 77 (bo 48 2097151) ?_
           refine pU 21 78 (bo 48 4194303) ?_
           refine pU 22 79 (bo 48 8388607) ?_
           refine pU 23 80 (bo 48 16777215) ?_
           refine pU 24 81 (bo 48 33554431) ?_
           refine pU 25 82 (bo 48 67108863) ?_
           refine pU 26 83 (bo 48 134217727) ?_
           refine pU 27 84 (bo 48 268435455) ?_
           refine pU 28 85 (bo 48 536870911) ?_
           refine pU 29 86 (bo 48 1073741823) ?_
           refine pU 30 87 (bo 48 2147483647) ?_
           refine pV 31 88 (bo 48 4294967295) ?_
           refine pV 32 89 (bo 48 8589934591) ?_
           refine pU 33 90 (bo 48 17179869183) ?_
           refine pU 34 91 (bo 48 34359738367) ?_
           refine pU 35 92 (bo 48 68719476735) ?_
           refine pU 36 93 (bo 48 137438953471) ?_
           refine pU 37 94 (bo 48 274877906943) ?_
           refine pU 38 95 (bo 48 549755813887) ?_
           refine pU 39 96 (bo 48 1099511627775) ?_
           refine pU 40 97 (bo 48 2199023255551) ?_
           refine pU 41 98 (bo 48 4398046511103) ?_
           refine pU 42 99 (bo 48 8796093022207) ?_
           refine pU 43 100 (bo 48 17592186044415) ?_
           refine pU 44 101 (bo 48 35184372088831) ?_
           refine pU 45 102 (bo 48 70368744177663) ?_
           refine pU 46 103 (bo 48 140737488355327) ?_
           refine pV 47 104 (bo 48 281474976710655) ?_
           refine done_ (done_of HT_.out (by kernel_rfl)) ?_
           try go_wp2
           go_ret
           exact ⟨fe, bl⟩
         ·replace c25 := Bool.eq_false_iff.mpr c25
          subst c25
          replace H := iF H
          obtain rfl := Option.some.inj H
          obtain ⟨Z89_0, Z89_1, Z89_2, Z89_3, Z89_4, Y89_0, Y89_1, Y89_2, Y89_3, Y89_4⟩ := cf5 BK194
          have p198 : 0 ≤ (x3_2 : Int) := of_decide_eq_true am
          have q198 : x3_2 < (l0_2.length : Int) := of_decide_eq_true am
          obtain ⟨ad198, e198, hx198_0, hx198_1, hx198_2⟩ := at_T89 HR0_2.out x3_2 p198 q198
          cases e198
          replace hx198_0 := cz HB hx198_0
          replace hx198_1 := cz HB hx198_1
          replace hx198_2 := cz HB hx198_2
          replace p198 := eq_true p198
          replace q198 := eq_true q198
          try go_wp2_with (first | ((with_reducible refine gD 4 rfl ?_); (try (refine gate_guard rfl ?_; dsimp only)); refine boxZ 4 #[.int .i64 0, .string (⟨#[]⟩ : ByteArray), .int .i64 0] 89 ?_; intro gb199 hg w90 hbox hb; have BK199 := Aside0.mk hbox; have GW199 := gw (w := w) hg; have GE199 := gw (w := w) hg; replace HB := bs (w := w) hb; have NB194_199 := nl BK194 hg; have NB199_194 := nr BK194 hg; replace BK194 := bv BK194 hb; clear hb hbox hg; have hnb91 := NB199_194.out; have hnc91 := NB194_199.out; obtain ⟨Z92_0, Z92_1, Z92_2, Y92_0, Y92_1, Y92_2⟩ := cf3 BK199))
          have n0_ : Aside0 ((((w90.setCell ⟨gb199, 0, none⟩ (.int .i64 ((rd_T89 l0_2 x3_2).f0))).setCell ⟨gb199, 1, none⟩ (.string ((rd_T89 l0_2 x3_2).f1))).setCell ⟨gb199, 2, none⟩ (.int .i64 ((rd_T89 l0_2 x3_2).f2))).heap[gb194]? = some (.cells #[.int .i64 a0_0, .int .i64 a0_1, .slice (some ad198) l0_2.length c0_2, .slice A0_3 l0_3.length c0_3, .slice A0_4 l0_4.length c0_4] 26 (0, 0))) := ⟨bkk⟩
          have n1_ : Aside0 ((((w90.setCell ⟨gb199, 0, none⟩ (.int .i64 ((rd_T89 l0_2 x3_2).f0))).setCell ⟨gb199, 1, none⟩ (.string ((rd_T89 l0_2 x3_2).f1))).setCell ⟨gb199, 2, none⟩ (.int .i64 ((rd_T89 l0_2 x3_2).f2))).heap[gb199]? = some (.cells #[.int .i64 ((rd_T89 l0_2 x3_2).f0), .string ((rd_T89 l0_2 x3_2).f1), .int .i64 ((rd_T89 l0_2 x3_2).f2)] 89 (0, 0))) := ⟨bkk⟩
          have n2_ : Aside0 (Below w.heap.size w (((w90.setCell ⟨gb199, 0, none⟩ (.int .i64 ((rd_T89 l0_2 x3_2).f0))).setCell ⟨gb199, 1, none⟩ (.string ((rd_T89 l0_2 x3_2).f1))).setCell ⟨gb199, 2, none⟩ (.int .i64 ((rd_T89 l0_2 x3_2).f2)))) := ⟨bl⟩
          (try clear BK194)
          (try clear BK199)
          (try clear HB)
          generalize (((w90.setCell ⟨gb199, 0, none⟩ (.int .i64 ((rd_T89 l0_2 x3_2).f0))).setCell ⟨gb199, 1, none⟩ (.string ((rd_T89 l0_2 x3_2).f1))).setCell ⟨gb199, 2, none⟩ (.int .i64 ((rd_T89 l0_2 x3_2).f2))) = w93 at n0_ n1_ n2_ ⊢
          have BK194 := n0_
          have BK199 := n1_
          have HB := n2_
          clear n0_ n1_ n2_
          replace BK194 := Aside0.mk (blk_drew BK194.out); replace BK199 := Aside0.mk (blk_drew BK199.out); replace HB := Aside0.mk (below_drew1 HB.out)
          refine start_ (n := 48) (S := fun w' => w'.cell? ⟨gb199, 0, none⟩ = some (.int .i64 ((rd_T89 l0_2 x3_2).f0)) ∧ w'.cell? ⟨gb199, 1, none⟩ = some (.string ((rd_T89 l0_2 x3_2).f1)) ∧ w'.cell? ⟨gb199, 2, none⟩ = some (.int .i64 ((rd_T89 l0_2 x3_2).f2)) ∧ w'.cell? ⟨gb194, 0, none⟩ = some (.int .i64 a0_0) ∧ w'.cell? ⟨gb194, 1, none⟩ = some (.int .i64 a0_1) ∧ w'.cell? ⟨gb194, 2, none⟩ = some (.slice (some ad198) l0_2.length c0_2) ∧ w'.cell? ⟨gb194, 3, none⟩ = some (.slice A0_3 l0_3.length c0_3) ∧ w'.cell? ⟨gb194, 4, none⟩ = some (.slice A0_4 l0_4.length c0_4)) (ds := []) (bo 48 0) (by kernel_rfl) rfl rfl ⟨cb 0 BK199, cb 1 BK199, cb 2 BK199, cb 0 BK194, cb 1 BK194, cb 2 BK194, cb 3 BK194, cb 4 BK194⟩ (fun hHeld => ?_); refine with_tabW spec_DiskOk.tab9 spec_DiskOk.bits9 (fun HT_ HW_ => ?_)
          generalize w93.drew = w94 at BK194 BK199 HB hHeld ⊢
          refine pV 0 57 (bo 48 1) ?_
          refine pV 2 59 (bo 48 5) ?_
          refine tV 1 58 (bo 48 7) ?_
          refine tV 3 60 (bo 48 15) ?_
          refine pV 4 61 (bo 48 31) ?_
          refine one_ (i := 5) (N := some 62) (bo 48 63) rfl rfl (one_of HT_.out (by kernel_rfl)) (by decide) (fun K hK => ?_)
          refine goes_ Try.func53 (by kernel_rfl) rfl #[.int .i64 ((rd_T89 l0_2 x3_2).f0), .int .i64 1, .int .i64 (wrap64 (a0_1 - 1))] (by rfl) rfl rfl sa ?_
          with_reducible refine (spec_l1In.calls ((rd_T89 l0_2 x3_2).f0) 1 (wrap64 (a0_1 - 1)) false _ A24.out).mono ?_
          rintro e w' ⟨rfl, ⟨nd, rfl⟩⟩
          refine ⟨_, rfl, ?_⟩
          refine hK.out _ _ ⟨cb 0 BK199, cb 1 BK199, cb 2 BK199, cb 0 BK194, cb 1 BK194, cb 2 BK194, cb 3 BK194, cb 4 BK194⟩ (fun hHeld => ?_)
          clear hK K
          refine norm_ (a' := ?_) ?_ ?_
          rotate_left
          ·show Act.put _ (some 62) _ = _
           simp only [Act.put, List.setIfInBounds_toArray, List.set_cons_zero, List.set_cons_succ, i64_w, i32_w]
           rfl
          refine pV 6 63 (bo 48 127) ?_
          refine pV 7 64 (bo 48 255) ?_
          refine pU 8 65 (bo 48 511) ?_
          refine pU 9 66 (bo 48 1023) ?_
          refine pU 10 67 (bo 48 2047) ?_
          refine pU 11 68 (bo 48 4095) ?_
          refine pU 12 69 (bo 48 8191) ?_
          refine pU 13 70 (bo 48 16383) ?_
          refine pU 14 71 (bo 48 32767) ?_
          refine pV 15 72 (bo 48 65535) ?_
          refine pV 16 73 (bo 48 131071) ?_
          refine pU 17 74 (bo 48 262143) ?_
          refine pU 18 75 (bo 48 524287) ?_
          refine pU 19 76 (bo 48 1048575) ?_
          refine pU 20 77 (bo 48 2097151) ?_
          refine pU 21 78 (bo 48 4194303) ?_
          refine pU 22 79 (bo 48 8388607) ?_
          refine pU 23 80 (bo 48 16777215) ?_
          refine pU 24 81 (bo 48 33554431) ?_
          refine pU 25 82 (bo 48 67108863) ?_
          refine pU 26 83 (bo 48 134217727) ?_
          refine pU 27 84 (bo 48 268435455) ?_
          refine pU 28 85 (bo 48 536870911) ?_
          refine pU 29 86 (bo 48 1073741823) ?_
          refine pU 30 87 (bo 48 2147483647) ?_
          refine pV 31 88 (bo 48 4294967295) ?_
          refine pV 32 89 (bo 48 8589934591) ?_
          refine pU 33 90 (bo 48 17179869183) ?_
          refine pU 34 91 (bo 48 34359738367) ?_
          refine pU 35 92 (bo 48 68719476735) ?_
          refine pU 36 93 (bo 48 137438953471) ?_
          refine pU 37 94 (bo 48 274877906943) ?_
          refine pU 38 95 (bo 48 549755813887) ?_
          refine pU 39 96 (bo 48 1099511627775) ?_
          refine pU 40 97 (bo 48 2199023255551) ?_
          refine pU 41 98 (bo 48 4398046511103) ?_
          refine pU 42 99 (bo 48 8796093022207) ?_
          refine pU 43 100 (bo 48 17592186044415) ?_
          refine pU 44 101 (bo 48 35184372088831) ?_
          refine pU 45 102 (bo 48 70368744177663) ?_
          refine pU 46 103 (bo 48 140737488355327) ?_
          refine pV 47 104 (bo 48 281474976710655) ?_
          refine done_ (done_of HT_.out (by kernel_rfl)) ?_
          try go_wp2
          go_ret
          exact ⟨fe, bl⟩
        ·rw [if_neg c23] at H
         exact absurd H (by simp)
       ·rw [if_neg c22] at H
        have c22b0 : decide (x3_2 < (l0_2.length : Int)) = false := decide_eq_false c22
        clear c22
        have H' := Aside0.mk H
        clear H
        obtain ⟨Z95_0, Z95_1, Z95_2, Z95_3, Z95_4, Y95_0, Y95_1, Y95_2, Y95_3, Y95_4⟩ := cf5 BK194
        go_wp2
        go_loopg [5] k2 (fun kq v5 w' => ∃ (x5_3 : Int), v5 = .int .i64 x5_3 ∧ Aside0 (spec_DiskOk.l1 kq x5_3 a0_0 a0_1 l0_2 l0_3 l0_4 = some r) ∧ Aside0 (kq ≤ k2) ∧ Aside0 (w'.heap[gb194]? = some (.cells #[.int .i64 a0_0, .int .i64 a0_1, (.slice A0_2 l0_2.length c0_2), (.slice A0_3 l0_3.length c0_3), (.slice A0_4 l0_4.length c0_4)] 26 (0, 0))) ∧ Aside0 (Below w.heap.size w w'))
        case atStart => exact ⟨(0), fa, H', ⟨Nat.le_refl _⟩, ⟨by (with_reducible repeat (first | refine blk_drewN ?_ _ | refine blk_drew ?_ | refine blk_alloc ?_ _)); exact BK194.out⟩, ⟨bl⟩⟩
        case round => as_aux_lemma =>
         clear H'
         try clear p1
         try clear q1
         try clear hx1
         try clear c2
         try clear p2
         try clear c5
         try clear p6
         try clear c9
         try clear p19
         try clear q19
         try clear hx19
         try clear c22
         try clear c22b0
         try clear c23
         try clear c25
         try clear c53
         try clear p64
         try clear c91
         try clear Z89_0 Z89_1 Z89_2 Z89_3 Z89_4
         try clear Z92_0 Z92_1 Z92_2
         try clear Z95_0 Z95_1 Z95_2 Z95_3 Z95_4
         try clear Y89_0 Y89_1 Y89_2 Y89_3 Y89_4
         try clear Y92_0 Y92_1 Y92_2
         try clear Y95_0 Y95_1 Y95_2 Y95_3 Y95_4
         try clear hx198_0
         try clear hx198_1
         try clear hx198_2
         try clear p198
         try clear q198
         obtain ⟨x5_3, rfl, HA, HK3, BK194, HB⟩ := hrel
         cases gk with
         | zero => exact absurd HA.out (by simp [spec_DiskOk.l1])
         | succ k3 =>
          have H := HA.out
          clear HA
          simp only [spec_DiskOk.l1] at H
          by_cases c96 : x5_3 < (l0_3.length : Int)
          ·rw [if_pos c96] at H
           have c96b0 : decide (x5_3 < (l0_3.length : Int)) = true := decide_eq_true c96
           clear c96
           by_cases c97 : 0 ≤ x5_3
           ·rw [if_pos c97] at H
            have c97b0 : decide (0 ≤ x5_3) = true := decide_eq_true c97
            clear c97
            obtain ⟨t209, A98, H⟩ := bd H
            by_cases c99 : t209 = true
            ·subst c99
             replace H := iT H
             by_cases c100 : x5_3 > 0
             ·rw [if_pos c100] at H
              have c100b0 : decide (0 < x5_3) = true := decide_eq_true c100
              clear c100
              obtain ⟨ji101, hji101⟩ : ∃ j_ : Int, (wrap64 (x5_3 - 1)) = j_ := ⟨_, rfl⟩
              replace H : (if 0 ≤ (ji101) then (if (ji101) < (l0_3.length : Int) then (if ((Op.bytesLess (((rd_T93 l0_3 (ji101)).f0).toList) (((rd_T93 l0_3 x5_3).f0).toList)) = true) then ((spec_l4Inode.f k3 a0_0 a0_1 l0_2 l0_3 l0_4 ((rd_T93 l0_3 x5_3).f1)).bind fun t211 => (if t211 < 0 then (some false) else (if x5_3 ≤ (l0_3.length : Int) then ((spec_l4Linked.f k3 (l0_3.take (x5_3 : Int).toNat) ((rd_T93 l0_3 x5_3).f1)).bind fun t216 => (if t216 = true then (some false) else (spec_DiskOk.l1 k3 (wrap64 (x5_3 + 1)) a0_0 a0_1 l0_2 l0_3 l0_4))) else (none)))) else (some false)) else (none)) else (none)) = some r := by first | (rw [hji101] at H; exact H) | (simp only [hji101] at H ⊢; exact H)
              (try rw [hji101] at A98)
              have hji101w : (IntKind.i64.wrap (x5_3 - 1)) = ji101 := (i64_w _).trans hji101
              by_cases c102 : 0 ≤ (ji101)
              ·rw [if_pos c102] at H
               have c102b0 : decide (0 ≤ (ji101)) = true := decide_eq_true c102
               clear c102
               by_cases c103 : (ji101) < (l0_3.length : Int)
               ·rw [if_pos c103] at H
                have c103b0 : decide ((ji101) < (l0_3.length : Int)) = true := decide_eq_true c103
                clear c103
                by_cases c104 : ((Op.bytesLess (((rd_T93 l0_3 (ji101)).f0).toList) (((rd_T93 l0_3 x5_3).f0).toList)) = true)
                ·rw [if_pos c104] at H
                 have c104b0 : (Op.bytesLess (((rd_T93 l0_3 (ji101)).f0).toList) (((rd_T93 l0_3 x5_3).f0).toList)) = true := c104
                 clear c104
                 obtain ⟨t211, A105, H⟩ := bd H
                 by_cases c106 : t211 < 0
                 ·rw [if_pos c106] at H
                  have c106b0 : decide (t211 < 0) = true := decide_eq_true c106
                  clear c106
                  obtain rfl := Option.some.inj H
                  obtain ⟨Z107_0, Z107_1, Z107_2, Z107_3, Z107_4, Y107_0, Y107_1, Y107_2, Y107_3, Y107_4⟩ := cf5 BK194
                  have p207 : 0 ≤ (x5_3 : Int) := of_decide_eq_true am
                  have q207 : x5_3 < (l0_3.length : Int) := of_decide_eq_true am
                  obtain ⟨ad207, e207, hx207_0, hx207_1⟩ := at_T93 HR0_3.out x5_3 p207 q207
                  cases e207
                  replace hx207_0 := cz HB hx207_0
                  replace hx207_1 := cz HB hx207_1
                  replace p207 := eq_true p207
                  replace q207 := eq_true q207
                  try go_wp2_with (first | ((with_reducible refine gD 6 rfl ?_); (try (refine gate_guard rfl ?_; dsimp only)); refine boxZ 6 #[.string (⟨#[]⟩ : ByteArray), .int .i64 0] 93 ?_; intro gb208 hg w108 hbox hb; have BK208 := Aside0.mk hbox; have GW208 := gw (w := w) hg; have GE208 := gw (w := w) hg; replace HB := bs (w := w) hb; have NB194_208 := nl BK194 hg; have NB208_194 := nr BK194 hg; replace BK194 := bv BK194 hb; clear hb hbox hg; have hnb109 := NB208_194.out; have hnc109 := NB194_208.out; obtain ⟨Z110_0, Z110_1, Y110_0, Y110_1⟩ := cf2 BK208))
                  have n0_ : Aside0 (((w108.setCell ⟨gb208, 0, none⟩ (.string ((rd_T93 l0_3 x5_3).f0))).setCell ⟨gb208, 1, none⟩ (.int .i64 ((rd_T93 l0_3 x5_3).f1))).heap[gb194]? = some (.cells #[.int .i64 a0_0, .int .i64 a0_1, .slice A0_2 l0_2.length c0_2, .slice (some ad207) l0_3.length c0_3, .slice A0_4 l0_4.length c0_4] 26 (0, 0))) := ⟨bkk⟩
                  have n1_ : Aside0 (((w108.setCell ⟨gb208, 0, none⟩ (.string ((rd_T93 l0_3 x5_3).f0))).setCell ⟨gb208, 1, none⟩ (.int .i64 ((rd_T93 l0_3 x5_3).f1))).heap[gb208]? = some (.cells #[.string ((rd_T93 l0_3 x5_3).f0), .int .i64 ((rd_T93 l0_3 x5_3).f1)] 93 (0, 0))) := ⟨bkk⟩
                  have n2_ : Aside0 (Below w.heap.size w ((w108.setCell ⟨gb208, 0, none⟩ (.string ((rd_T93 l0_3 x5_3).f0))).setCell ⟨gb208, 1, none⟩ (.int .i64 ((rd_T93 l0_3 x5_3).f1)))) := ⟨bl⟩
                  (try clear BK194)
                  (try clear BK208)
                  (try clear HB)
                  generalize ((w108.setCell ⟨gb208, 0, none⟩ (.string ((rd_T93 l0_3 x5_3).f0))).setCell ⟨gb208, 1, none⟩ (.int .i64 ((rd_T93 l0_3 x5_3).f1))) = w111 at n0_ n1_ n2_ ⊢
                  have BK194 := n0_
                  have BK208 := n1_
                  have HB := n2_
                  clear n0_ n1_ n2_
                  replace BK194 := Aside0.mk (blk_drew BK194.out); replace BK208 := Aside0.mk (blk_drew BK208.out); replace HB := Aside0.mk (below_drew1 HB.out)
                  have p210 : 0 ≤ ((ji101) : Int) := of_decide_eq_true am
                  have q210 : (ji101) < (l0_3.length : Int) := of_decide_eq_true am
                  obtain ⟨ad210, e210, hx210_0, hx210_1⟩ := at_T93 HR0_3.out (ji101) p210 q210
                  have hw210_1 := hx210_1
                  have hw210_0 := hx210_0
                  obtain rfl : ad207 = ad210 := (by injection e210)
                  replace hx210_0 := cz HB hx210_0
                  replace hx210_1 := cz HB hx210_1
                  replace p210 := eq_true p210
                  replace q210 := eq_true q210
                  refine start_ (n := 36) (S := fun w' => w'.cell? ⟨gb208, 0, none⟩ = some (.string ((rd_T93 l0_3 x5_3).f0)) ∧ w'.cell? ⟨gb208, 1, none⟩ = some (.int .i64 ((rd_T93 l0_3 x5_3).f1)) ∧ w'.cell? ⟨gb194, 0, none⟩ = some (.int .i64 a0_0) ∧ w'.cell? ⟨gb194, 1, none⟩ = some (.int .i64 a0_1) ∧ w'.cell? ⟨gb194, 2, none⟩ = some (.slice A0_2 l0_2.length c0_2) ∧ w'.cell? ⟨gb194, 3, none⟩ = some (.slice (some ad207) l0_3.length c0_3) ∧ w'.cell? ⟨gb194, 4, none⟩ = some (.slice A0_4 l0_4.length c0_4) ∧ w'.cell? (ad207.add (((ji101)).toNat * 2)) = some (.string ((rd_T93 l0_3 (ji101)).f0)) ∧ w'.cell? ⟨(ad207.add (((ji101)).toNat * 2)).block, (ad207.add (((ji101)).toNat * 2)).off + 1, none⟩ = some (.int .i64 ((rd_T93 l0_3 (ji101)).f1))) (ds := []) (bo 36 0) (by kernel_rfl) rfl rfl ⟨cb 0 BK208, cb 1 BK208, cb 0 BK194, cb 1 BK194, cb 2 BK194, cb 3 BK194, cb 4 BK194, ((HB.out.cell (World.block_lt_of_cell? w _ hw210_0)).trans hw210_0), ((HB.out.cell (World.block_lt_of_cell? w _ hw210_1)).trans hw210_1)⟩ (fun hHeld => ?_); refine with_tabW spec_DiskOk.tab15 spec_DiskOk.bits15 (fun HT_ HW_ => ?_)
                  generalize w111.drew = w112 at BK194 BK208 HB hx210_0 hx210_1 hHeld ⊢
                  refine pV 0 117 (bo 36 1) ?_
                  refine tV 1 118 (bo 36 3) ?_
                  refine one_ (i := 2) (N := some 119) (bo 36 7) rfl rfl (one_of HT_.out (by kernel_rfl)) (by decide) (fun K hK => ?_)
                  refine goes_ Try.func79 (by kernel_rfl) rfl #[.string ((rd_T93 l0_3 x5_3).f0)] (by rfl) rfl rfl sa ?_
                  with_reducible refine (spec_l4Name.calls k3 ((rd_T93 l0_3 x5_3).f0) true _ A98.out).mono ?_
                  rintro e w' ⟨rfl, ⟨nd, rfl⟩⟩
                  refine ⟨_, rfl, ?_⟩
                  refine hK.out _ _ ⟨cb 0 BK208, cb 1 BK208, cb 0 BK194, cb 1 BK194, cb 2 BK194, cb 3 BK194, cb 4 BK194, ((HB.out.cell (World.block_lt_of_cell? w _ hw210_0)).trans hw210_0), ((HB.out.cell (World.block_lt_of_cell? w _ hw210_1)).trans hw210_1)⟩ (fun hHeld => ?_)
                  clear hK K
                  refine norm_ (a' := ?_) ?_ ?_
                  rotate_left
                  ·show Act.put _ (some 119) _ = _
                   simp only [Act.put, List.setIfInBounds_toArray, List.set_cons_zero, List.set_cons_succ, i64_w, i32_w]
                   rfl
                  refine pV 3 120 (bo 36 15) ?_
                  refine pV 4 121 (bo 36 31) ?_
                  refine pV 5 122 (bo 36 63) ?_
                  refine pV 6 123 (bo 36 127) ?_
                  refine pV 7 124 (bo 36 255) ?_
                  refine pV 8 125 (bo 36 511) ?_
                  refine pV 10 127 (bo 36 1535) ?_
                  refine pV 11 128 (bo 36 3583) ?_
                  refine pV 15 132 (bo 36 36351) ?_
                  refine tV 9 126 (bo 36 36863) ?_
                  refine pV 12 129 (bo 36 40959) ?_
                  refine pV 13 130 (bo 36 49151) ?_
                  refine tV 14 131 (bo 36 65535) ?_
                  refine tV 16 133 (bo 36 131071) ?_
                  refine pV 17 134 (bo 36 262143) ?_
                  refine pV 18 135 (bo 36 524287) ?_
                  refine pV 19 136 (bo 36 1048575) ?_
                  refine pV 20 137 (bo 36 2097151) ?_
                  refine pV 22 139 (bo 36 6291455) ?_
                  refine tV 21 138 (bo 36 8388607) ?_
                  refine tV 23 140 (bo 36 16777215) ?_
                  refine one_ (i := 24) (N := some 141) (bo 36 33554431) rfl rfl (one_of HT_.out (by kernel_rfl)) (by decide) (fun K hK => ?_)
                  refine goes_ Try.func80 (by kernel_rfl) rfl #[.agg #[.int .i64 a0_0, .int .i64 a0_1, .slice A0_2 l0_2.length c0_2, .slice (some ad207) l0_3.length c0_3, .slice A0_4 l0_4.length c0_4], .int .i64 ((rd_T93 l0_3 x5_3).f1)] (by rfl) rfl rfl sa ?_
                  with_reducible refine (spec_l4Inode.calls k3 a0_0 a0_1 _ _ l0_2 _ _ l0_3 _ _ l0_4 ((rd_T93 l0_3 x5_3).f1) t211 _ ?side1 ?side2 ?side3 ?side4 ?side5 ?side6 A105.out).mono ?_
                  (case side1 => exact ca (Kd.C_below HR0_2.out bl))
                  (case side2 => exact HC0_2.out)
                  (case side3 => exact ca (Kd.C_below HR0_3.out bl))
                  (case side4 => exact HC0_3.out)
                  (case side5 => exact ca (Kd.C_below HR0_4.out bl))
                  (case side6 => exact HC0_4.out)
                  rintro e w113 ⟨rfl, hb⟩
                  refine ⟨_, rfl, ?_⟩
                  replace BK194 := bv BK194 hb; replace BK208 := bv BK208 hb; replace HB := bs (w := w) hb; (try clear hb hb2 hk hi)
                  refine hK.out _ _ ⟨cb 0 BK208, cb 1 BK208, cb 0 BK194, cb 1 BK194, cb 2 BK194, cb 3 BK194, cb 4 BK194, ((HB.out.cell (World.block_lt_of_cell? w _ hw210_0)).trans hw210_0), ((HB.out.cell (World.block_lt_of_cell? w _ hw210_1)).trans hw210_1)⟩ (fun hHeld => ?_)
                  clear hK K
                  refine norm_ (a' := ?_) ?_ ?_
                  rotate_left
                  ·show Act.put _ (some 141) _ = _
                   simp only [Act.put, List.setIfInBounds_toArray, List.set_cons_zero, List.set_cons_succ, i64_w, i32_w]
                   rfl
                  refine pV 25 142 (bo 36 67108863) ?_
                  refine pV 26 143 (bo 36 134217727) ?_
                  refine pV 27 144 (bo 36 268435455) ?_
                  refine pU 28 145 (bo 36 536870911) ?_
                  refine pU 29 146 (bo 36 1073741823) ?_
                  refine pU 30 147 (bo 36 2147483647) ?_
                  refine pU 31 148 (bo 36 4294967295) ?_
                  refine pU 32 149 (bo 36 8589934591) ?_
                  refine pU 33 150 (bo 36 17179869183) ?_
                  refine pU 34 151 (bo 36 34359738367) ?_
                  refine pV 35 152 (bo 36 68719476735) ?_
                  refine done_ (done_of HT_.out (by kernel_rfl)) ?_
                  try go_wp2
                  go_ret
                  exact ⟨by first | rfl | (simp [errW_none, errW_some] <;> rfl) | (simp only [← hji101]; first | rfl | (simp [errW_none, errW_some] <;> rfl)) | (simp [*, errW_none, errW_some] <;> rfl), bl⟩
                 ·rw [if_neg c106] at H
                  have c106b0 : decide (t211 < 0) = false := decide_eq_false c106
                  clear c106
                  have c114b0 := eq_true (of_decide_eq_true am : 0 ≤ x5_3)
                  by_cases c115 : x5_3 ≤ (l0_3.length : Int)
                  ·rw [if_pos c115] at H
                   have c115b0 := eq_true c115
                   have c115b1 : decide (x5_3 ≤ (l0_3.length : Int)) = true := decide_eq_true c115
                   clear c115
                   obtain ⟨y212, hy212⟩ : ∃ y_ : List (S93), y_ = (l0_3.take (x5_3 : Int).toNat) := ⟨_, rfl⟩
                   replace H : ((spec_l4Linked.f k3 y212 ((rd_T93 l0_3 x5_3).f1)).bind fun t216 => (if t216 = true then (some false) else (spec_DiskOk.l1 k3 (wrap64 (x5_3 + 1)) a0_0 a0_1 l0_2 l0_3 l0_4))) = some r := by first | (rw [hy212]; with_reducible exact H) | (have H2_ := (Option.bind_some _ _).symm.trans H; rw [hy212]; with_reducible exact H2_) | (have H2_ := (Option.bind_some _ _).symm.trans H; with_reducible exact H2_) | with_reducible exact H | (rw [hy212]; exact H) | exact H
                   have Ny212 := Aside0.mk hy212
                   clear hy212
                   obtain ⟨t216, A116, H⟩ := bd H
                   by_cases c117 : t216 = true
                   ·subst c117
                    replace H := iT H
                    obtain rfl := Option.some.inj H
                    obtain ⟨Z118_0, Z118_1, Z118_2, Z118_3, Z118_4, Y118_0, Y118_1, Y118_2, Y118_3, Y118_4⟩ := cf5 BK194
                    have p207 : 0 ≤ (x5_3 : Int) := of_decide_eq_true am
                    have q207 : x5_3 < (l0_3.length : Int) := of_decide_eq_true am
                    obtain ⟨ad207, e207, hx207_0, hx207_1⟩ := at_T93 HR0_3.out x5_3 p207 q207
                    cases e207
                    replace hx207_0 := cz HB hx207_0
                    replace hx207_1 := cz HB hx207_1
                    replace p207 := eq_true p207
                    replace q207 := eq_true q207
                    try go_wp2_with (first | ((with_reducible refine gD 6 rfl ?_); (try (refine gate_guard rfl ?_; dsimp only)); refine boxZ 6 #[.string (⟨#[]⟩ : ByteArray), .int .i64 0] 93 ?_; intro gb208 hg w119 hbox hb; have BK208 := Aside0.mk hbox; have GW208 := gw (w := w) hg; have GE208 := gw (w := w) hg; replace HB := bs (w := w) hb; have NB194_208 := nl BK194 hg; have NB208_194 := nr BK194 hg; replace BK194 := bv BK194 hb; clear hb hbox hg; have hnb120 := NB208_194.out; have hnc120 := NB194_208.out; obtain ⟨Z121_0, Z121_1, Y121_0, Y121_1⟩ := cf2 BK208))
                    have n0_ : Aside0 (((w119.setCell ⟨gb208, 0, none⟩ (.string ((rd_T93 l0_3 x5_3).f0))).setCell ⟨gb208, 1, none⟩ (.int .i64 ((rd_T93 l0_3 x5_3).f1))).heap[gb194]? = some (.cells #[.int .i64 a0_0, .int .i64 a0_1, .slice A0_2 l0_2.length c0_2, .slice (some ad207) l0_3.length c0_3, .slice A0_4 l0_4.length c0_4] 26 (0, 0))) := ⟨bkk⟩
                    have n1_ : Aside0 (((w119.setCell ⟨gb208, 0, none⟩ (.string ((rd_T93 l0_3 x5_3).f0))).setCell ⟨gb208, 1, none⟩ (.int .i64 ((rd_T93 l0_3 x5_3).f1))).heap[gb208]? = some (.cells #[.string ((rd_T93 l0_3 x5_3).f0), .int .i64 ((rd_T93 l0_3 x5_3).f1)] 93 (0, 0))) := ⟨bkk⟩
                    have n2_ : Aside0 (Below w.heap.size w ((w119.setCell ⟨gb208, 0, none⟩ (.string ((rd_T93 l0_3 x5_3).f0))).setCell ⟨gb208, 1, none⟩ (.int .i64 ((rd_T93 l0_3 x5_3).f1)))) := ⟨bl⟩
                    (try clear BK194)
                    (try clear BK208)
                    (try clear HB)
                    generalize ((w119.setCell ⟨gb208, 0, none⟩ (.string ((rd_T93 l0_3 x5_3).f0))).setCell ⟨gb208, 1, none⟩ (.int .i64 ((rd_T93 l0_3 x5_3).f1))) = w122 at n0_ n1_ n2_ ⊢
                    have BK194 := n0_
                    have BK208 := n1_
                    have HB := n2_
                    clear n0_ n1_ n2_
                    replace BK194 := Aside0.mk (blk_drew BK194.out); replace BK208 := Aside0.mk (blk_drew BK208.out); replace HB := Aside0.mk (below_drew1 HB.out)
                    have p210 : 0 ≤ ((ji101) : Int) := of_decide_eq_true am
                    have q210 : (ji101) < (l0_3.length : Int) := of_decide_eq_true am
                    obtain ⟨ad210, e210, hx210_0, hx210_1⟩ := at_T93 HR0_3.out (ji101) p210 q210
                    have hw210_1 := hx210_1
                    have hw210_0 := hx210_0
                    obtain rfl : ad207 = ad210 := (by injection e210)
                    replace hx210_0 := cz HB hx210_0
                    replace hx210_1 := cz HB hx210_1
                    replace p210 := eq_true p210
                    replace q210 := eq_true q210
                    refine start_ (n := 36) (S := fun w' => w'.cell? ⟨gb208, 0, none⟩ = some (.string ((rd_T93 l0_3 x5_3).f0)) ∧ w'.cell? ⟨gb208, 1, none⟩ = some (.int .i64 ((rd_T93 l0_3 x5_3).f1)) ∧ w'.cell? ⟨gb194, 0, none⟩ = some (.int .i64 a0_0) ∧ w'.cell? ⟨gb194, 1, none⟩ = some (.int .i64 a0_1) ∧ w'.cell? ⟨gb194, 2, none⟩ = some (.slice A0_2 l0_2.length c0_2) ∧ w'.cell? ⟨gb194, 3, none⟩ = some (.slice (some ad207) l0_3.length c0_3) ∧ w'.cell? ⟨gb194, 4, none⟩ = some (.slice A0_4 l0_4.length c0_4) ∧ w'.cell? (ad207.add (((ji101)).toNat * 2)) = some (.string ((rd_T93 l0_3 (ji101)).f0)) ∧ w'.cell? ⟨(ad207.add (((ji101)).toNat * 2)).block, (ad207.add (((ji101)).toNat * 2)).off + 1, none⟩ = some (.int .i64 ((rd_T93 l0_3 (ji101)).f1))) (ds := []) (bo 36 0) (by kernel_rfl) rfl rfl ⟨cb 0 BK208, cb 1 BK208, cb 0 BK194, cb 1 BK194, cb 2 BK194, cb 3 BK194, cb 4 BK194, ((HB.out.cell (World.block_lt_of_cell? w _ hw210_0)).trans hw210_0), ((HB.out.cell (World.block_lt_of_cell? w _ hw210_1)).trans hw210_1)⟩ (fun hHeld => ?_); refine with_tabW spec_DiskOk.tab15 spec_DiskOk.bits15 (fun HT_ HW_ => ?_)
                    generalize w122.drew = w123 at BK194 BK208 HB hx210_0 hx210_1 hHeld ⊢
                    refine pV 0 117 (bo 36 1) ?_
                    refine tV 1 118 (bo 36 3) ?_
                    refine one_ (i := 2) (N := some 119) (bo 36 7) rfl rfl (one_of HT_.out (by kernel_rfl)) (by decide) (fun K hK => ?_)
                    refine goes_ Try.func79 (by kernel_rfl) rfl #[.string ((rd_T93 l0_3 x5_3).f0)] (by rfl) rfl rfl sa ?_
                    with_reducible refine (spec_l4Name.calls k3 ((rd_T93 l0_3 x5_3).f0) true _ A98.out).mono ?_
                    rintro e w' ⟨rfl, ⟨nd, rfl⟩⟩
                    refine ⟨_, rfl, ?_⟩
                    refine hK.out _ _ ⟨cb 0 BK208, cb 1 BK208, cb 0 BK194, cb 1 BK194, cb 2 BK194, cb 3 BK194, cb 4 BK194, ((HB.out.cell (World.block_lt_of_cell? w _ hw210_0)).trans hw210_0), ((HB.out.cell (World.block_lt_of_cell? w _ hw210_1)).trans hw210_1)⟩ (fun hHeld => ?_)
                    clear hK K
                    refine norm_ (a' := ?_) ?_ ?_
                    rotate_left
                    ·show Act.put _ (some 119) _ = _
                     simp only [Act.put, List.setIfInBounds_toArray, List.set_cons_zero, List.set_cons_succ, i64_w, i32_w]
                     rfl
                    refine pV 3 120 (bo 36 15) ?_
                    refine pV 4 121 (bo 36 31) ?_
                    refine pV 5 122 (bo 36 63) ?_
                    refine pV 6 123 (bo 36 127) ?_
                    refine pV 7 124 (bo 36 255) ?_
                    refine pV 8 125 (bo 36 511) ?_
                    refine pV 10 127 (bo 36 1535) ?_
                    refine pV 11 128 (bo 36 3583) ?_
                    refine pV 15 132 (bo 36 36351) ?_
                    refine tV 9 126 (bo 36 36863) ?_
                    refine pV 12 129 (bo 36 40959) ?_
                    refine pV 13 130 (bo 36 49151) ?_
                    refine tV 14 131 (bo 36 65535) ?_
                    refine tV 16 133 (bo 36 131071) ?_
                    refine pV 17 134 (bo 36 262143) ?_
                    refine pV 18 135 (bo 36 524287) ?_
                    refine pV 19 136 (bo 36 1048575) ?_
                    refine pV 20 137 (bo 36 2097151) ?_
                    refine pV 22 139 (bo 36 6291455) ?_
                    refine tV 21 138 (bo 36 8388607) ?_
                    refine tV 23 140 (bo 36 16777215) ?_
                    refine one_ (i := 24) (N := some 141) (bo 36 33554431) rfl rfl (one_of HT_.out (by kernel_rfl)) (by decide) (fun K hK => ?_)
                    refine goes_ Try.func80 (by kernel_rfl) rfl #[.agg #[.int .i64 a0_0, .int .i64 a0_1, .slice A0_2 l0_2.length c0_2, .slice (some ad207) l0_3.length c0_3, .slice A0_4 l0_4.length c0_4], .int .i64 ((rd_T93 l0_3 x5_3).f1)] (by rfl) rfl rfl sa ?_
                    with_reducible refine (spec_l4Inode.calls k3 a0_0 a0_1 _ _ l0_2 _ _ l0_3 _ _ l0_4 ((rd_T93 l0_3 x5_3).f1) t211 _ ?side1 ?side2 ?side3 ?side4 ?side5 ?side6 A105.out).mono ?_
                    (case side1 => exact ca (Kd.C_below HR0_2.out bl))
                    (case side2 => exact HC0_2.out)
                    (case side3 => exact ca (Kd.C_below HR0_3.out bl))
                    (case side4 => exact HC0_3.out)
                    (case side5 => exact ca (Kd.C_below HR0_4.out bl))
                    (case side6 => exact HC0_4.out)
                    rintro e w124 ⟨rfl, hb⟩
                    refine ⟨_, rfl, ?_⟩
                    replace BK194 := bv BK194 hb; replace BK208 := bv BK208 hb; replace HB := bs (w := w) hb; (try clear hb hb2 hk hi)
                    have q125 : (x5_3 : Int) ≤ ((l0_3.length : Int) : Int) := of_decide_eq_true am
                    obtain ⟨i0125, hi0125, _, hsz125, _⟩ := info_parts info93
                    have hroom125 : l0_3.length ≤ c0_3 := HC0_3.out
                    have hC125 : Kd.C k93 _ (some ad207) l0_3.length l0_3 := HR0_3.out
                    have hcut125 := cut_to (P := Try.prog) 23 93 .i64 Try.underlying23 hi0125 (some ad207) l0_3.length c0_3 x5_3 (of_decide_eq_true am) q125 hroom125
                    have hr125 := Kd.C_take (m := (x5_3 : Int).toNat) hC125 (by omega)
                    have hy125 : y212.length = (x5_3 : Int).toNat := (by rw [Ny212.out, List.length_take]; omega)
                    rw [← Ny212.out] at hr125
                    rw [← hy125] at hcut125
                    have HR215 := Aside0.mk hr125
                    have HC215 := Aside0.mk (show y212.length ≤ c0_3 from by omega)
                    clear hr125 hC125 hroom125 hi0125 hsz125
                    have KY125 := Aside0.mk hy125
                    clear hy125
                    replace q125 := eq_true q125
                    refine hK.out _ _ ⟨cb 0 BK208, cb 1 BK208, cb 0 BK194, cb 1 BK194, cb 2 BK194, cb 3 BK194, cb 4 BK194, ((HB.out.cell (World.block_lt_of_cell? w _ hw210_0)).trans hw210_0), ((HB.out.cell (World.block_lt_of_cell? w _ hw210_1)).trans hw210_1)⟩ (fun hHeld => ?_)
                    clear hK K
                    refine norm_ (a' := ?_) ?_ ?_
                    rotate_left
                    ·show Act.put _ (some 141) _ = _
                     simp only [Act.put, List.setIfInBounds_toArray, List.set_cons_zero, List.set_cons_succ, i64_w, i32_w]
                     rfl
                    refine pV 25 142 (bo 36 67108863) ?_
                    refine pV 26 143 (bo 36 134217727) ?_
                    refine pV 27 144 (bo 36 268435455) ?_
                    refine pV 28 145 (bo 36 536870911) ?_
                    refine pV 30 147 (bo 36 1610612735) ?_
                    refine pV 32 149 (bo 36 5905580031) ?_
                    refine tV 29 146 (bo 36 6442450943) ?_
                    refine pV 31 148 (bo 36 8589934591) ?_
                    refine tV 33 150 (bo 36 17179869183) ?_
                    refine one_ (i := 34) (N := some 151) (bo 36 34359738367) rfl rfl (one_of HT_.out (by kernel_rfl)) (by decide) (fun K hK => ?_)
                    refine goes_ Try.func77 (by kernel_rfl) rfl #[.slice (some ad207) y212.length c0_3, .int .i64 ((rd_T93 l0_3 x5_3).f1)] (by rfl) rfl rfl sa ?_
                    with_reducible refine (spec_l4Linked.calls k3 _ _ y212 ((rd_T93 l0_3 x5_3).f1) true _ ?side1 ?side2 A116.out).mono ?_
                    (case side1 => exact ca (Kd.C_below HR215.out HB.out))
                    (case side2 => exact HC215.out)
                    rintro e w' ⟨rfl, ⟨nd, rfl⟩⟩
                    refine ⟨_, rfl, ?_⟩
                    refine hK.out _ _ ⟨cb 0 BK208, cb 1 BK208, cb 0 BK194, cb 1 BK194, cb 2 BK194, cb 3 BK194, cb 4 BK194, ((HB.out.cell (World.block_lt_of_cell? w _ hw210_0)).trans hw210_0), ((HB.out.cell (World.block_lt_of_cell? w _ hw210_1)).trans hw210_1)⟩ (fun hHeld => ?_)
                    clear hK K
                    refine norm_ (a' := ?_) ?_ ?_
                    rotate_left
                    ·show Act.put _ (some 151) _ = _
                     simp only [Act.put, List.setIfInBounds_toArray, List.set_cons_zero, List.set_cons_succ, i64_w, i32_w]
                     rfl
                    refine pV 35 152 (bo 36 68719476735) ?_
                    refine done_ (done_of HT_.out (by kernel_rfl)) ?_
                    try go_wp2
                    go_ret
                    exact ⟨by first | rfl | (simp [errW_none, errW_some] <;> rfl) | (simp only [← hji101]; first | rfl | (simp [errW_none, errW_some] <;> rfl)) | (simp [*, errW_none, errW_some] <;> rfl), bl⟩
                   ·replace c117 := Bool.eq_false_iff.mpr c117
                    subst c117
                    replace H := iF H
                    have H' := Aside0.mk H
                    clear H
                    obtain ⟨Z126_0, Z126_1, Z126_2, Z126_3, Z126_4, Y126_0, Y126_1, Y126_2, Y126_3, Y126_4⟩ := cf5 BK194
                    have p207 : 0 ≤ (x5_3 : Int) := of_decide_eq_true am
                    have q207 : x5_3 < (l0_3.length : Int) := of_decide_eq_true am
                    obtain ⟨ad207, e207, hx207_0, hx207_1⟩ := at_T93 HR0_3.out x5_3 p207 q207
                    cases e207
                    replace hx207_0 := cz HB hx207_0
                    replace hx207_1 := cz HB hx207_1
                    replace p207 := eq_true p207
                    replace q207 := eq_true q207
                    try go_wp2_with (first | ((with_reducible refine gD 6 rfl ?_); (try (refine gate_guard rfl ?_; dsimp only)); refine boxZ 6 #[.string (⟨#[]⟩ : ByteArray), .int .i64 0] 93 ?_; intro gb208 hg w127 hbox hb; have BK208 := Aside0.mk hbox; have GW208 := gw (w := w) hg; have GE208 := gw (w := w) hg; replace HB := bs (w := w) hb; have NB194_208 := nl BK194 hg; have NB208_194 := nr BK194 hg; replace BK194 := bv BK194 hb; clear hb hbox hg; have hnb128 := NB208_194.out; have hnc128 := NB194_208.out; obtain ⟨Z129_0, Z129_1, Y129_0, Y129_1⟩ := cf2 BK208))
                    have n0_ : Aside0 (((w127.setCell ⟨gb208, 0, none⟩ (.string ((rd_T93 l0_3 x5_3).f0))).setCell ⟨gb208, 1, none⟩ (.int .i64 ((rd_T93 l0_3 x5_3).f1))).heap[gb194]? = some (.cells #[.int .i64 a0_0, .int .i64 a0_1, .slice A0_2 l0_2.length c0_2, .slice (some ad207) l0_3.length c0_3, .slice A0_4 l0_4.length c0_4] 26 (0, 0))) := ⟨bkk⟩
                    have n1_ : Aside0 (((w127.setCell ⟨gb208, 0, none⟩ (.string ((rd_T93 l0_3 x5_3).f0))).setCell ⟨gb208, 1, none⟩ (.int .i64 ((rd_T93 l0_3 x5_3).f1))).heap[gb208]? = some (.cells #[.string ((rd_T93 l0_3 x5_3).f0), .int .i64 ((rd_T93 l0_3 x5_3).f1)] 93 (0, 0))) := ⟨bkk⟩
                    have n2_ : Aside0 (Below w.heap.size w ((w127.setCell ⟨gb208, 0, none⟩ (.string ((rd_T93 l0_3 x5_3).f0))).setCell ⟨gb208, 1, none⟩ (.int .i64 ((rd_T93 l0_3 x5_3).f1)))) := ⟨bl⟩
                    (try clear BK194)
                    (try clear BK208)
                    (try clear HB)
                    generalize ((w127.setCell ⟨gb208, 0, none⟩ (.string ((rd_T93 l0_3 x5_3).f0))).setCell ⟨gb208, 1, none⟩ (.int .i64 ((rd_T93 l0_3 x5_3).f1))) = w130 at n0_ n1_ n2_ ⊢
                    have BK194 := n0_
                    have BK208 := n1_
                    have HB := n2_
                    clear n0_ n1_ n2_
                    replace BK194 := Aside0.mk (blk_drew BK194.out); replace BK208 := Aside0.mk (blk_drew BK208.out); replace HB := Aside0.mk (below_drew1 HB.out)
                    have p210 : 0 ≤ ((ji101) : Int) := of_decide_eq_true am
                    have q210 : (ji101) < (l0_3.length : Int) := of_decide_eq_true am
                    obtain ⟨ad210, e210, hx210_0, hx210_1⟩ := at_T93 HR0_3.out (ji101) p210 q210
                    have hw210_1 := hx210_1
                    have hw210_0 := hx210_0
                    obtain rfl : ad207 = ad210 := (by injection e210)
                    replace hx210_0 := cz HB hx210_0
                    replace hx210_1 := cz HB hx210_1
                    replace p210 := eq_true p210
                    replace q210 := eq_true q210
                    refine start_ (n := 36) (S := fun w' => w'.cell? ⟨gb208, 0, none⟩ = some (.string ((rd_T93 l0_3 x5_3).f0)) ∧ w'.cell? ⟨gb208, 1, none⟩ = some (.int .i64 ((rd_T93 l0_3 x5_3).f1)) ∧ w'.cell? ⟨gb194, 0, none⟩ = some (.int .i64 a0_0) ∧ w'.cell? ⟨gb194, 1, none⟩ = some (.int .i64 a0_1) ∧ w'.cell? ⟨gb194, 2, none⟩ = some (.slice A0_2 l0_2.length c0_2) ∧ w'.cell? ⟨gb194, 3, none⟩ = some (.slice (some ad207) l0_3.length c0_3) ∧ w'.cell? ⟨gb194, 4, none⟩ = some (.slice A0_4 l0_4.length c0_4) ∧ w'.cell? (ad207.add (((ji101)).toNat * 2)) = some (.string ((rd_T93 l0_3 (ji101)).f0)) ∧ w'.cell? ⟨(ad207.add (((ji101)).toNat * 2)).block, (ad207.add (((ji101)).toNat * 2)).off + 1, none⟩ = some (.int .i64 ((rd_T93 l0_3 (ji101)).f1))) (ds := []) (bo 36 0) (by kernel_rfl) rfl rfl ⟨cb 0 BK208, cb 1 BK208, cb 0 BK194, cb 1 BK194, cb 2 BK194, cb 3 BK194, cb 4 BK194, ((HB.out.cell (World.block_lt_of_cell? w _ hw210_0)).trans hw210_0), ((HB.out.cell (World.block_lt_of_cell? w _ hw210_1)).trans hw210_1)⟩ (fun hHeld => ?_); refine with_tabW spec_DiskOk.tab15 spec_DiskOk.bits15 (fun HT_ HW_ => ?_)
                    generalize w130.drew = w131 at BK194 BK208 HB hx210_0 hx210_1 hHeld ⊢
                    refine pV 0 117 (bo 36 1) ?_
                    refine tV 1 118 (bo 36 3) ?_
                    refine one_ (i := 2) (N := some 119) (bo 36 7) rfl rfl (one_of HT_.out (by kernel_rfl)) (by decide) (fun K hK => ?_)
                    refine goes_ Try.func79 (by kernel_rfl) rfl #[.string ((rd_T93 l0_3 x5_3).f0)] (by rfl) rfl rfl sa ?_
                    with_reducible refine (spec_l4Name.calls k3 ((rd_T93 l0_3 x5_3).f0) true _ A98.out).mono ?_
                    rintro e w' ⟨rfl, ⟨nd, rfl⟩⟩
                    refine ⟨_, rfl, ?_⟩
                    refine hK.out _ _ ⟨cb 0 BK208, cb 1 BK208, cb 0 BK194, cb 1 BK194, cb 2 BK194, cb 3 BK194, cb 4 BK194, ((HB.out.cell (World.block_lt_of_cell? w _ hw210_0)).trans hw210_0), ((HB.out.cell (World.block_lt_of_cell? w _ hw210_1)).trans hw210_1)⟩ (fun hHeld => ?_)
                    clear hK K
                    refine norm_ (a' := ?_) ?_ ?_
                    rotate_left
                    ·show Act.put _ (some 119) _ = _
                     simp only [Act.put, List.setIfInBounds_toArray, List.set_cons_zero, List.set_cons_succ, i64_w, i32_w]
                     rfl
                    refine pV 3 120 (bo 36 15) ?_
                    refine pV 4 121 (bo 36 31) ?_
                    refine pV 5 122 (bo 36 63) ?_
                    refine pV 6 123 (bo 36 127) ?_
                    refine pV 7 124 (bo 36 255) ?_
                    refine pV 8 125 (bo 36 511) ?_
                    refine pV 10 127 (bo 36 1535) ?_
                    refine pV 11 128 (bo 36 3583) ?_
                    refine pV 15 132 (bo 36 36351) ?_
                    refine tV 9 126 (bo 36 36863) ?_
                    refine pV 12 129 (bo 36 40959) ?_
                    refine pV 13 130 (bo 36 49151) ?_
                    refine tV 14 131 (bo 36 65535) ?_
                    refine tV 16 133 (bo 36 131071) ?_
                    refine pV 17 134 (bo 36 262143) ?_
                    refine pV 18 135 (bo 36 524287) ?_
                    refine pV 19 136 (bo 36 1048575) ?_
                    refine pV 20 137 (bo 36 2097151) ?_
                    refine pV 22 139 (bo 36 6291455) ?_
                    refine tV 21 138 (bo 36 8388607) ?_
                    refine tV 23 140 (bo 36 16777215) ?_
                    refine one_ (i := 24) (N := some 141) (bo 36 33554431) rfl rfl (one_of HT_.out (by kernel_rfl)) (by decide) (fun K hK => ?_)
                    refine goes_ Try.func80 (by kernel_rfl) rfl #[.agg #[.int .i64 a0_0, .int .i64 a0_1, .slice A0_2 l0_2.length c0_2, .slice (some ad207) l0_3.length c0_3, .slice A0_4 l0_4.length c0_4], .int .i64 ((rd_T93 l0_3 x5_3).f1)] (by rfl) rfl rfl sa ?_
                    with_reducible refine (spec_l4Inode.calls k3 a0_0 a0_1 _ _ l0_2 _ _ l0_3 _ _ l0_4 ((rd_T93 l0_3 x5_3).f1) t211 _ ?side1 ?side2 ?side3 ?side4 ?side5 ?side6 A105.out).mono ?_
                    (case side1 => exact ca (Kd.C_below HR0_2.out bl))
                    (case side2 => exact HC0_2.out)
                    (case side3 => exact ca (Kd.C_below HR0_3.out bl))
                    (case side4 => exact HC0_3.out)
                    (case side5 => exact ca (Kd.C_below HR0_4.out bl))
                    (case side6 => exact HC0_4.out)
                    rintro e w132 ⟨rfl, hb⟩
                    refine ⟨_, rfl, ?_⟩
                    replace BK194 := bv BK194 hb; replace BK208 := bv BK208 hb; replace HB := bs (w := w) hb; (try clear hb hb2 hk hi)
                    have q133 : (x5_3 : Int) ≤ ((l0_3.length : Int) : Int) := of_decide_eq_true am
                    obtain ⟨i0133, hi0133, _, hsz133, _⟩ := info_parts info93
                    have hroom133 : l0_3.length ≤ c0_3 := HC0_3.out
                    have hC133 : Kd.C k93 _ (some ad207) l0_3.length l0_3 := HR0_3.out
                    have hcut133 := cut_to (P := Try.prog) 23 93 .i64 Try.underlying23 hi0133 (some ad207) l0_3.length c0_3 x5_3 (of_decide_eq_true am) q133 hroom133
                    have hr133 := Kd.C_take (m := (x5_3 : Int).toNat) hC133 (by omega)
                    have hy133 : y212.length = (x5_3 : Int).toNat := (by rw [Ny212.out, List.length_take]; omega)
                    rw [← Ny212.out] at hr133
                    rw [← hy133] at hcut133
                    have HR215 := Aside0.mk hr133
                    have HC215 := Aside0.mk (show y212.length ≤ c0_3 from by omega)
                    clear hr133 hC133 hroom133 hi0133 hsz133
                    have KY133 := Aside0.mk hy133
                    clear hy133
                    replace q133 := eq_true q133
                    refine hK.out _ _ ⟨cb 0 BK208, cb 1 BK208, cb 0 BK194, cb 1 BK194, cb 2 BK194, cb 3 BK194, cb 4 BK194, ((HB.out.cell (World.block_lt_of_cell? w _ hw210_0)).trans hw210_0), ((HB.out.cell (World.block_lt_of_cell? w _ hw210_1)).trans hw210_1)⟩ (fun hHeld => ?_)
                    clear hK K
                    refine norm_ (a' := ?_) ?_ ?_
                    rotate_left
                    ·show Act.put _ (some 141) _ = _
                     simp only [Act.put, List.setIfInBounds_toArray, List.set_cons_zero, List.set_cons_succ, i64_w, i32_w]
                     rfl
                    refine pV 25 142 (bo 36 67108863) ?_
                    refine pV 26 143 (bo 36 134217727) ?_
                    refine pV 27 144 (bo 36 268435455) ?_
                    refine pV 28 145 (bo 36 536870911) ?_
                    refine pV 30 147 (bo 36 1610612735) ?_
                    refine pV 32 149 (bo 36 5905580031) ?_
                    refine tV 29 146 (bo 36 6442450943) ?_
                    refine pV 31 148 (bo 36 8589934591) ?_
                    refine tV 33 150 (bo 36 17179869183) ?_
                    refine one_ (i := 34) (N := some 151) (bo 36 34359738367) rfl rfl (one_of HT_.out (by kernel_rfl)) (by decide) (fun K hK => ?_)
                    refine goes_ Try.func77 (by kernel_rfl) rfl #[.slice (some ad207) y212.length c0_3, .int .i64 ((rd_T93 l0_3 x5_3).f1)] (by rfl) rfl rfl sa ?_
                    with_reducible refine (spec_l4Linked.calls k3 _ _ y212 ((rd_T93 l0_3 x5_3).f1) false _ ?side1 ?side2 A116.out).mono ?_
                    (case side1 => exact ca (Kd.C_below HR215.out HB.out))
                    (case side2 => exact HC215.out)
                    rintro e w' ⟨rfl, ⟨nd, rfl⟩⟩
                    refine ⟨_, rfl, ?_⟩
                    refine hK.out _ _ ⟨cb 0 BK208, cb 1 BK208, cb 0 BK194, cb 1 BK194, cb 2 BK194, cb 3 BK194, cb 4 BK194, ((HB.out.cell (World.block_lt_of_cell? w _ hw210_0)).trans hw210_0), ((HB.out.cell (World.block_lt_of_cell? w _ hw210_1)).trans hw210_1)⟩ (fun hHeld => ?_)
                    clear hK K
                    refine norm_ (a' := ?_) ?_ ?_
                    rotate_left
                    ·show Act.put _ (some 151) _ = _
                     simp only [Act.put, List.setIfInBounds_toArray, List.set_cons_zero, List.set_cons_succ, i64_w, i32_w]
                     rfl
                    refine pV 35 152 (bo 36 68719476735) ?_
                    refine done_ (done_of HT_.out (by kernel_rfl)) ?_
                    try go_wp2
                    go_roundg k3
                    case measure => have := HJ1.out; have := HK2.out; have := HK3.out; omega
                    case rel => exact ⟨(wrap64 (x5_3 + 1)), fa, H', ⟨by have := HJ1.out; have := HK2.out; have := HK3.out; omega⟩, ⟨by (with_reducible repeat (first | refine blk_drewN ?_ _ | refine blk_drew ?_ | refine blk_alloc ?_ _)); exact BK194.out⟩, ⟨bl⟩⟩
                  ·rw [if_neg c115] at H
                   exact absurd H (by simp)
                ·rw [if_neg c104] at H
                 have c104b0 : (Op.bytesLess (((rd_T93 l0_3 (ji101)).f0).toList) (((rd_T93 l0_3 x5_3).f0).toList)) = false := by simpa using c104
                 clear c104
                 obtain rfl := Option.some.inj H
                 obtain ⟨Z134_0, Z134_1, Z134_2, Z134_3, Z134_4, Y134_0, Y134_1, Y134_2, Y134_3, Y134_4⟩ := cf5 BK194
                 have p207 : 0 ≤ (x5_3 : Int) := of_decide_eq_true am
                 have q207 : x5_3 < (l0_3.length : Int) := of_decide_eq_true am
                 obtain ⟨ad207, e207, hx207_0, hx207_1⟩ := at_T93 HR0_3.out x5_3 p207 q207
                 cases e207
                 replace hx207_0 := cz HB hx207_0
                 replace hx207_1 := cz HB hx207_1
                 replace p207 := eq_true p207
                 replace q207 := eq_true q207
                 try go_wp2_with (first | ((with_reducible refine gD 6 rfl ?_); (try (refine gate_guard rfl ?_; dsimp only)); refine boxZ 6 #[.string (⟨#[]⟩ : ByteArray), .int .i64 0] 93 ?_; intro gb208 hg w135 hbox hb; have BK208 := Aside0.mk hbox; have GW208 := gw (w := w) hg; have GE208 := gw (w := w) hg; replace HB := bs (w := w) hb; have NB194_208 := nl BK194 hg; have NB208_194 := nr BK194 hg; replace BK194 := bv BK194 hb; clear hb hbox hg; have hnb136 := NB208_194.out; have hnc136 := NB194_208.out; obtain ⟨Z137_0, Z137_1, Y137_0, Y137_1⟩ := cf2 BK208))
                 have n0_ : Aside0 (((w135.setCell ⟨gb208, 0, none⟩ (.string ((rd_T93 l0_3 x5_3).f0))).setCell ⟨gb208, 1, none⟩ (.int .i64 ((rd_T93 l0_3 x5_3).f1))).heap[gb194]? = some (.cells #[.int .i64 a0_0, .int .i64 a0_1, .slice A0_2 l0_2.length c0_2, .slice (some ad207) l0_3.length c0_3, .slice A0_4 l0_4.length c0_4] 26 (0, 0))) := ⟨bkk⟩
                 have n1_ : Aside0 (((w135.setCell ⟨gb208, 0, none⟩ (.string ((rd_T93 l0_3 x5_3).f0))).setCell ⟨gb208, 1, none⟩ (.int .i64 ((rd_T93 l0_3 x5_3).f1))).heap[gb208]? = some (.cells #[.string ((rd_T93 l0_3 x5_3).f0), .int .i64 ((rd_T93 l0_3 x5_3).f1)] 93 (0, 0))) := ⟨bkk⟩
                 have n2_ : Aside0 (Below w.heap.size w ((w135.setCell ⟨gb208, 0, none⟩ (.string ((rd_T93 l0_3 x5_3).f0))).setCell ⟨gb208, 1, none⟩ (.int .i64 ((rd_T93 l0_3 x5_3).f1)))) := ⟨bl⟩
                 (try clear BK194)
                 (try clear BK208)
                 (try clear HB)
                 generalize ((w135.setCell ⟨gb208, 0, none⟩ (.string ((rd_T93 l0_3 x5_3).f0))).setCell ⟨gb208, 1, none⟩ (.int .i64 ((rd_T93 l0_3 x5_3).f1))) = w138 at n0_ n1_ n2_ ⊢
                 have BK194 := n0_
                 have BK208 := n1_
                 have HB := n2_
                 clear n0_ n1_ n2_
                 replace BK194 := Aside0.mk (blk_drew BK194.out); replace BK208 := Aside0.mk (blk_drew BK208.out); replace HB := Aside0.mk (below_drew1 HB.out)
                 have p210 : 0 ≤ ((ji101) : Int) := of_decide_eq_true am
                 have q210 : (ji101) < (l0_3.length : Int) := of_decide_eq_true am
                 obtain ⟨ad210, e210, hx210_0, hx210_1⟩ := at_T93 HR0_3.out (ji101) p210 q210
                 have hw210_1 := hx210_1
                 have hw210_0 := hx210_0
                 obtain rfl : ad207 = ad210 := (by injection e210)
                 replace hx210_0 := cz HB hx210_0
                 replace hx210_1 := cz HB hx210_1
                 replace p210 := eq_true p210
                 replace q210 := eq_true q210
                 refine start_ (n := 36) (S := fun w' => w'.cell? ⟨gb208, 0, none⟩ = some (.string ((rd_T93 l0_3 x5_3).f0)) ∧ w'.cell? ⟨gb208, 1, none⟩ = some (.int .i64 ((rd_T93 l0_3 x5_3).f1)) ∧ w'.cell? ⟨gb194, 0, none⟩ = some (.int .i64 a0_0) ∧ w'.cell? ⟨gb194, 1, none⟩ = some (.int .i64 a0_1) ∧ w'.cell? ⟨gb194, 2, none⟩ = some (.slice A0_2 l0_2.length c0_2) ∧ w'.cell? ⟨gb194, 3, none⟩ = some (.slice (some ad207) l0_3.length c0_3) ∧ w'.cell? ⟨gb194, 4, none⟩ = some (.slice A0_4 l0_4.length c0_4) ∧ w'.cell? (ad207.add (((ji101)).toNat * 2)) = some (.string ((rd_T93 l0_3 (ji101)).f0)) ∧ w'.cell? ⟨(ad207.add (((ji101)).toNat * 2)).block, (ad207.add (((ji101)).toNat * 2)).off + 1, none⟩ = some (.int .i64 ((rd_T93 l0_3 (ji101)).f1))) (ds := []) (bo 36 0) (by kernel_rfl) rfl rfl ⟨cb 0 BK208, cb 1 BK208, cb 0 BK194, cb 1 BK194, cb 2 BK194, cb 3 BK194, cb 4 BK194, ((HB.out.cell (World.block_lt_of_cell? w _ hw210_0)).trans hw210_0), ((HB.out.cell (World.block_lt_of_cell? w _ hw210_1)).trans hw210_1)⟩ (fun hHeld => ?_); refine with_tabW spec_DiskOk.tab15 spec_DiskOk.bits15 (fun HT_ HW_ => ?_)
                 generalize w138.drew = w139 at BK194 BK208 HB hx210_0 hx210_1 hHeld ⊢
                 refine pV 0 117 (bo 36 1) ?_
                 refine tV 1 118 (bo 36 3) ?_
                 refine one_ (i := 2) (N := some 119) (bo 36 7) rfl rfl (one_of HT_.out (by kernel_rfl)) (by decide) (fun K hK => ?_)
                 refine goes_ Try.func79 (by kernel_rfl) rfl #[.string ((rd_T93 l0_3 x5_3).f0)] (by rfl) rfl rfl sa ?_
                 with_reducible refine (spec_l4Name.calls k3 ((rd_T93 l0_3 x5_3).f0) true _ A98.out).mono ?_
                 rintro e w' ⟨rfl, ⟨nd, rfl⟩⟩
                 refine ⟨_, rfl, ?_⟩
                 refine hK.out _ _ ⟨cb 0 BK208, cb 1 BK208, cb 0 BK194, cb 1 BK194, cb 2 BK194, cb 3 BK194, cb 4 BK194, ((HB.out.cell (World.block_lt_of_cell? w _ hw210_0)).trans hw210_0), ((HB.out.cell (World.block_lt_of_cell? w _ hw210_1)).trans hw210_1)⟩ (fun hHeld => ?_)
                 clear hK K
                 refine norm_ (a' := ?_) ?_ ?_
                 rotate_left
                 ·show Act.put _ (some 119) _ = _
                  simp only [Act.put, List.setIfInBounds_toArray, List.set_cons_zero, List.set_cons_succ, i64_w, i32_w]
                  rfl
                 refine pV 3 120 (bo 36 15) ?_
                 refine pV 4 121 (bo 36 31) ?_
                 refine pV 5 122 (bo 36 63) ?_
                 refine pV 6 123 (bo 36 127) ?_
                 refine pV 7 124 (bo 36 255) ?_
                 refine pV 8 125 (bo 36 511) ?_
                 refine pV 10 127 (bo 36 1535) ?_
                 refine pV 11 128 (bo 36 3583) ?_
                 refine pV 15 132 (bo 36 36351) ?_
                 refine tV 9 126 (bo 36 36863) ?_
                 refine pV 12 129 (bo 36 40959) ?_
                 refine pV 13 130 (bo 36 49151) ?_
                 refine tV 14 131 (bo 36 65535) ?_
                 refine tV 16 133 (bo 36 131071) ?_
                 refine pV 17 134 (bo 36 262143) ?_
                 refine pV 18 135 (bo 36 524287) ?_
                 refine pV 19 136 (bo 36 1048575) ?_
                 refine pV 20 137 (bo 36 2097151) ?_
                 refine pU 21 138 (bo 36 4194303) ?_
                 refine pU 22 139 (bo 36 8388607) ?_
                 refine pU 23 140 (bo 36 16777215) ?_
                 refine pU 24 141 (bo 36 33554431) ?_
                 refine pU 25 142 (bo 36 67108863) ?_
                 refine pV 26 143 (bo 36 134217727) ?_
                 refine pV 27 144 (bo 36 268435455) ?_
                 refine pU 28 145 (bo 36 536870911) ?_
                 refine pU 29 146 (bo 36 1073741823) ?_
                 refine pU 30 147 (bo 36 2147483647) ?_
                 refine pU 31 148 (bo 36 4294967295) ?_
                 refine pU 32 149 (bo 36 8589934591) ?_
                 refine pU 33 150 (bo 36 17179869183) ?_
                 refine pU 34 151 (bo 36 34359738367) ?_
                 refine pV 35 152 (bo 36 68719476735) ?_
                 refine done_ (done_of HT_.out (by kernel_rfl)) ?_
                 try go_wp2
                 go_ret
                 exact ⟨by first | rfl | (simp [errW_none, errW_some] <;> rfl) | (simp only [← hji101]; first | rfl | (simp [errW_none, errW_some] <;> rfl)) | (simp [*, errW_none, errW_some] <;> rfl), bl⟩
               ·rw [if_neg c103] at H
                exact absurd H (by simp)
              ·rw [if_neg c102] at H
               exact absurd H (by simp)
             ·rw [if_neg c100] at H
              have c100b0 : decide (0 < x5_3) = false := decide_eq_false c100
              clear c100
              obtain ⟨t217, A140, H⟩ := bd H
              by_cases c141 : t217 < 0
              ·rw [if_pos c141] at H
               have c141b0 : decide (t217 < 0) = true := decide_eq_true c141
               clear c141
               obtain rfl := Option.some.inj H
               obtain ⟨Z142_0, Z142_1, Z142_2, Z142_3, Z142_4, Y142_0, Y142_1, Y142_2, Y142_3, Y142_4⟩ := cf5 BK194
               have p207 : 0 ≤ (x5_3 : Int) := of_decide_eq_true am
               have q207 : x5_3 < (l0_3.length : Int) := of_decide_eq_true am
               obtain ⟨ad207, e207, hx207_0, hx207_1⟩ := at_T93 HR0_3.out x5_3 p207 q207
               cases e207
               replace hx207_0 := cz HB hx207_0
               replace hx207_1 := cz HB hx207_1
               replace p207 := eq_true p207
               replace q207 := eq_true q207
               try go_wp2_with (first | ((with_reducible refine gD 6 rfl ?_); (try (refine gate_guard rfl ?_; dsimp only)); refine boxZ 6 #[.string (⟨#[]⟩ : ByteArray), .int .i64 0] 93 ?_; intro gb208 hg w143 hbox hb; have BK208 := Aside0.mk hbox; have GW208 := gw (w := w) hg; have GE208 := gw (w := w) hg; replace HB := bs (w := w) hb; have NB194_208 := nl BK194 hg; have NB208_194 := nr BK194 hg; replace BK194 := bv BK194 hb; clear hb hbox hg; have hnb144 := NB208_194.out; have hnc144 := NB194_208.out; obtain ⟨Z145_0, Z145_1, Y145_0, Y145_1⟩ := cf2 BK208))
               have n0_ : Aside0 (((w143.setCell ⟨gb208, 0, none⟩ (.string ((rd_T93 l0_3 x5_3).f0))).setCell ⟨gb208, 1, none⟩ (.int .i64 ((rd_T93 l0_3 x5_3).f1))).heap[gb194]? = some (.cells #[.int .i64 a0_0, .int .i64 a0_1, .slice A0_2 l0_2.length c0_2, .slice (some ad207) l0_3.length c0_3, .slice A0_4 l0_4.length c0_4] 26 (0, 0))) := ⟨bkk⟩
               have n1_ : Aside0 (((w143.setCell ⟨gb208, 0, none⟩ (.string ((rd_T93 l0_3 x5_3).f0))).setCell ⟨gb208, 1, none⟩ (.int .i64 ((rd_T93 l0_3 x5_3).f1))).heap[gb208]? = some (.cells #[.string ((rd_T93 l0_3 x5_3).f0), .int .i64 ((rd_T93 l0_3 x5_3).f1)] 93 (0, 0))) := ⟨bkk⟩
               have n2_ : Aside0 (Below w.heap.size w ((w143.setCell ⟨gb208, 0, none⟩ (.string ((rd_T93 l0_3 x5_3).f0))).setCell ⟨gb208, 1, none⟩ (.int .i64 ((rd_T93 l0_3 x5_3).f1)))) := ⟨bl⟩
               (try clear BK194)
               (try clear BK208)
               (try clear HB)
               generalize ((w143.setCell ⟨gb208, 0, none⟩ (.string ((rd_T93 l0_3 x5_3).f0))).setCell ⟨gb208, 1, none⟩ (.int .i64 ((rd_T93 l0_3 x5_3).f1))) = w146 at n0_ n1_ n2_ ⊢
               have BK194 := n0_
               have BK208 := n1_
               have HB := n2_
               clear n0_ n1_ n2_
               replace BK194 := Aside0.mk (blk_drew BK194.out); replace BK208 := Aside0.mk (blk_drew BK208.out); replace HB := Aside0.mk (below_drew1 HB.out)
               refine start_ (n := 36) (S := fun w' => w'.cell? ⟨gb208, 0, none⟩ = some (.string ((rd_T93 l0_3 x5_3).f0)) ∧ w'.cell? ⟨gb208, 1, none⟩ = some (.int .i64 ((rd_T93 l0_3 x5_3).f1)) ∧ w'.cell? ⟨gb194, 0, none⟩ = some (.int .i64 a0_0) ∧ w'.cell? ⟨gb194, 1, none⟩ = some (.int .i64 a0_1) ∧ w'.cell? ⟨gb194, 2, none⟩ = some (.slice A0_2 l0_2.length c0_2) ∧ w'.cell? ⟨gb194, 3, none⟩ = some (.slice (some ad207) l0_3.length c0_3) ∧ w'.cell? ⟨gb194, 4, none⟩ = some (.slice A0_4 l0_4.length c0_4)) (ds := []) (bo 36 0) (by kernel_rfl) rfl rfl ⟨cb 0 BK208, cb 1 BK208, cb 0 BK194, cb 1 BK194, cb 2 BK194, cb 3 BK194, cb 4 BK194⟩ (fun hHeld => ?_); refine with_tabW spec_DiskOk.tab15 spec_DiskOk.bits15 (fun HT_ HW_ => ?_)
               generalize w146.drew = w147 at BK194 BK208 HB hHeld ⊢
               refine pV 0 117 (bo 36 1) ?_
               refine tV 1 118 (bo 36 3) ?_
               refine one_ (i := 2) (N := some 119) (bo 36 7) rfl rfl (one_of HT_.out (by kernel_rfl)) (by decide) (fun K hK => ?_)
               refine goes_ Try.func79 (by kernel_rfl) rfl #[.string ((rd_T93 l0_3 x5_3).f0)] (by rfl) rfl rfl sa ?_
               with_reducible refine (spec_l4Name.calls k3 ((rd_T93 l0_3 x5_3).f0) true _ A98.out).mono ?_
               rintro e w' ⟨rfl, ⟨nd, rfl⟩⟩
               refine ⟨_, rfl, ?_⟩
               refine hK.out _ _ ⟨cb 0 BK208, cb 1 BK208, cb 0 BK194, cb 1 BK194, cb 2 BK194, cb 3 BK194, cb 4 BK194⟩ (fun hHeld => ?_)
               clear hK K
               refine norm_ (a' := ?_) ?_ ?_
               rotate_left
               ·show Act.put _ (some 119) _ = _
                simp only [Act.put, List.setIfInBounds_toArray, List.set_cons_zero, List.set_cons_succ, i64_w, i32_w]
                rfl
               refine pV 3 120 (bo 36 15) ?_
               refine pV 4 121 (bo 36 31) ?_
               refine pV 5 122 (bo 36 63) ?_
               refine pV 6 123 (bo 36 127) ?_
               refine pV 7 124 (bo 36 255) ?_
               refine pU 8 125 (bo 36 511) ?_
               refine pU 9 126 (bo 36 1023) ?_
               refine pU 10 127 (bo 36 2047) ?_
               refine pU 11 128 (bo 36 4095) ?_
               refine pU 12 129 (bo 36 8191) ?_
               refine pU 13 130 (bo 36 16383) ?_
               refine pU 14 131 (bo 36 32767) ?_
               refine pU 15 132 (bo 36 65535) ?_
               refine pU 16 133 (bo 36 131071) ?_
               refine pU 17 134 (bo 36 262143) ?_
               refine pV 18 135 (bo 36 524287) ?_
               refine pV 19 136 (bo 36 1048575) ?_
               refine pV 20 137 (bo 36 2097151) ?_
               refine pV 22 139 (bo 36 6291455) ?_
               refine tV 21 138 (bo 36 8388607) ?_
               refine tV 23 140 (bo 36 16777215) ?_
               refine one_ (i := 24) (N := some 141) (bo 36 33554431) rfl rfl (one_of HT_.out (by kernel_rfl)) (by decide) (fun K hK => ?_)
               refine goes_ Try.func80 (by kernel_rfl) rfl #[.agg #[.int .i64 a0_0, .int .i64 a0_1, .slice A0_2 l0_2.length c0_2, .slice (some ad207) l0_3.length c0_3, .slice A0_4 l0_4.length c0_4], .int .i64 ((rd_T93 l0_3 x5_3).f1)] (by rfl) rfl rfl sa ?_
               with_reducible refine (spec_l4Inode.calls k3 a0_0 a0_1 _ _ l0_2 _ _ l0_3 _ _ l0_4 ((rd_T93 l0_3 x5_3).f1) t217 _ ?side1 ?side2 ?side3 ?side4 ?side5 ?side6 A140.out).mono ?_
               (case side1 => exact ca (Kd.C_below HR0_2.out bl))
               (case side2 => exact HC0_2.out)
               (case side3 => exact ca (Kd.C_below HR0_3.out bl))
               (case side4 => exact HC0_3.out)
               (case side5 => exact ca (Kd.C_below HR0_4.out bl))
               (case side6 => exact HC0_4.out)
               rintro e w148 ⟨rfl, hb⟩
               refine ⟨_, rfl, ?_⟩
               replace BK194 := bv BK194 hb; replace BK208 := bv BK208 hb; replace HB := bs (w := w) hb; (try clear hb hb2 hk hi)
               refine hK.out _ _ ⟨cb 0 BK208, cb 1 BK208, cb 0 BK194, cb 1 BK194, cb 2 BK194, cb 3 BK194, cb 4 BK194⟩ (fun hHeld => ?_)
               clear hK K
               refine norm_ (a' := ?_) ?_ ?_
               rotate_left
               ·show Act.put _ (some 141) _ = _
                simp only [Act.put, List.setIfInBounds_toArray, List.set_cons_zero, List.set_cons_succ, i64_w, i32_w]
                rfl
               refine pV 25 142 (bo 36 67108863) ?_
               refine pV 26 143 (bo 36 134217727) ?_
               refine pV 27 144 (bo 36 268435455) ?_
               refine pU 28 145 (bo 36 536870911) ?_
               refine pU 29 146 (bo 36 1073741823) ?_
               refine pU 30 147 (bo 36 2147483647) ?_
               refine pU 31 148 (bo 36 4294967295) ?_
               refine pU 32 149 (bo 36 8589934591) ?_
               refine pU 33 150 (bo 36 17179869183) ?_
               refine pU 34 151 (bo 36 34359738367) ?_
               refine pV 35 152 (bo 36 68719476735) ?_
               refine done_ (done_of HT_.out (by kernel_rfl)) ?_
               try go_wp2
               go_ret
               exact ⟨fe, bl⟩
              ·rw [if_neg c141] at H
               have c141b0 : decide (t217 < 0) = false := decide_eq_false c141
               clear c141
               have c149b0 := eq_true (of_decide_eq_true am : 0 ≤ x5_3)
               by_cases c150 : x5_3 ≤ (l0_3.length : Int)
               ·rw [if_pos c150] at H
                have c150b0 := eq_true c150
                have c150b1 : decide (x5_3 ≤ (l0_3.length : Int)) = true := decide_eq_true c150
                clear c150
                obtain ⟨y218, hy218⟩ : ∃ y_ : List (S93), y_ = (l0_3.take (x5_3 : Int).toNat) := ⟨_, rfl⟩
                replace H : ((spec_l4Linked.f k3 y218 ((rd_T93 l0_3 x5_3).f1)).bind fun t222 => (if t222 = true then (some false) else (spec_DiskOk.l1 k3 (wrap64 (x5_3 + 1)) a0_0 a0_1 l0_2 l0_3 l0_4))) = some r := by first | (rw [hy218]; with_reducible exact H) | (have H2_ := (Option.bind_some _ _).symm.trans H; rw [hy218]; with_reducible exact H2_) | (have H2_ := (Option.bind_some _ _).symm.trans H; with_reducible exact H2_) | with_reducible exact H | (rw [hy218]; exact H) | exact H
                have Ny218 := Aside0.mk hy218
                clear hy218
                obtain ⟨t222, A151, H⟩ := bd H
                by_cases c152 : t222 = true
                ·subst c152
                 replace H := iT H
                 obtain rfl := Option.some.inj H
                 obtain ⟨Z153_0, Z153_1, Z153_2, Z153_3, Z153_4, Y153_0, Y153_1, Y153_2, Y153_3, Y153_4⟩ := cf5 BK194
                 have p207 : 0 ≤ (x5_3 : Int) := of_decide_eq_true am
                 have q207 : x5_3 < (l0_3.length : Int) := of_decide_eq_true am
                 obtain ⟨ad207, e207, hx207_0, hx207_1⟩ := at_T93 HR0_3.out x5_3 p207 q207
                 cases e207
                 replace hx207_0 := cz HB hx207_0
                 replace hx207_1 := cz HB hx207_1
                 replace p207 := eq_true p207
                 replace q207 := eq_true q207
                 try go_wp2_with (first | ((with_reducible refine gD 6 rfl ?_); (try (refine gate_guard rfl ?_; dsimp only)); refine boxZ 6 #[.string (⟨#[]⟩ : ByteArray), .int .i64 0] 93 ?_; intro gb208 hg w154 hbox hb; have BK208 := Aside0.mk hbox; have GW208 := gw (w := w) hg; have GE208 := gw (w := w) hg; replace HB := bs (w := w) hb; have NB194_208 := nl BK194 hg; have NB208_194 := nr BK194 hg; replace BK194 := bv BK194 hb; clear hb hbox hg; have hnb155 := NB208_194.out; have hnc155 := NB194_208.out; obtain ⟨Z156_0, Z156_1, Y156_0, Y156_1⟩ := cf2 BK208))
                 have n0_ : Aside0 (((w154.setCell ⟨gb208, 0, none⟩ (.string ((rd_T93 l0_3 x5_3).f0))).setCell ⟨gb208, 1, none⟩ (.int .i64 ((rd_T93 l0_3 x5_3).f1))).heap[gb194]? = some (.cells #[.int .i64 a0_0, .int .i64 a0_1, .slice A0_2 l0_2.length c0_2, .slice (some ad207) l0_3.length c0_3, .slice A0_4 l0_4.length c0_4] 26 (0, 0))) := ⟨bkk⟩
                 have n1_ : Aside0 (((w154.setCell ⟨gb208, 0, none⟩ (.string ((rd_T93 l0_3 x5_3).f0))).setCell ⟨gb208, 1, none⟩ (.int .i64 ((rd_T93 l0_3 x5_3).f1))).heap[gb208]? = some (.cells #[.string ((rd_T93 l0_3 x5_3).f0), .int .i64 ((rd_T93 l0_3 x5_3).f1)] 93 (0, 0))) := ⟨bkk⟩
                 have n2_ : Aside0 (Below w.heap.size w ((w154.setCell ⟨gb208, 0, none⟩ (.string ((rd_T93 l0_3 x5_3).f0))).setCell ⟨gb208, 1, none⟩ (.int .i64 ((rd_T93 l0_3 x5_3).f1)))) := ⟨bl⟩
                 (try clear BK194)
                 (try clear BK208)
                 (try clear HB)
                 generalize ((w154.setCell ⟨gb208, 0, none⟩ (.string ((rd_T93 l0_3 x5_3).f0))).setCell ⟨gb208, 1, none⟩ (.int .i64 ((rd_T93 l0_3 x5_3).f1))) = w157 at n0_ n1_ n2_ ⊢
                 have BK194 := n0_
                 have BK208 := n1_
                 have HB := n2_
                 clear n0_ n1_ n2_
                 replace BK194 := Aside0.mk (blk_drew BK194.out); replace BK208 := Aside0.mk (blk_drew BK208.out); replace HB := Aside0.mk (below_drew1 HB.out)
                 refine start_ (n := 36) (S := fun w' => w'.cell? ⟨gb208, 0, none⟩ = some (.string ((rd_T93 l0_3 x5_3).f0)) ∧ w'.cell? ⟨gb208, 1, none⟩ = some (.int .i64 ((rd_T93 l0_3 x5_3).f1)) ∧ w'.cell? ⟨gb194, 0, none⟩ = some (.int .i64 a0_0) ∧ w'.cell? ⟨gb194, 1, none⟩ = some (.int .i64 a0_1) ∧ w'.cell? ⟨gb194, 2, none⟩ = some (.slice A0_2 l0_2.length c0_2) ∧ w'.cell? ⟨gb194, 3, none⟩ = some (.slice (some ad207) l0_3.length c0_3) ∧ w'.cell? ⟨gb194, 4, none⟩ = some (.slice A0_4 l0_4.length c0_4)) (ds := []) (bo 36 0) (by kernel_rfl) rfl rfl ⟨cb 0 BK208, cb 1 BK208, cb 0 BK194, cb 1 BK194, cb 2 BK194, cb 3 BK194, cb 4 BK194⟩ (fun hHeld => ?_); refine with_tabW spec_DiskOk.tab15 spec_DiskOk.bits15 (fun HT_ HW_ => ?_)
                 generalize w157.drew = w158 at BK194 BK208 HB hHeld ⊢
                 refine pV 0 117 (bo 36 1) ?_
                 refine tV 1 118 (bo 36 3) ?_
                 refine one_ (i := 2) (N := some 119) (bo 36 7) rfl rfl (one_of HT_.out (by kernel_rfl)) (by decide) (fun K hK => ?_)
                 refine goes_ Try.func79 (by kernel_rfl) rfl #[.string ((rd_T93 l0_3 x5_3).f0)] (by rfl) rfl rfl sa ?_
                 with_reducible refine (spec_l4Name.calls k3 ((rd_T93 l0_3 x5_3).f0) true _ A98.out).mono ?_
                 rintro e w' ⟨rfl, ⟨nd, rfl⟩⟩
                 refine ⟨_, rfl, ?_⟩
                 refine hK.out _ _ ⟨cb 0 BK208, cb 1 BK208, cb 0 BK194, cb 1 BK194, cb 2 BK194, cb 3 BK194, cb 4 BK194⟩ (fun hHeld => ?_)
                 clear hK K
                 refine norm_ (a' := ?_) ?_ ?_
                 rotate_left
                 ·show Act.put _ (some 119) _ = _
                  simp only [Act.put, List.setIfInBounds_toArray, List.set_cons_zero, List.set_cons_succ, i64_w, i32_w]
                  rfl
                 refine pV 3 120 (bo 36 15) ?_
                 refine pV 4 121 (bo 36 31) ?_
                 refine pV 5 122 (bo 36 63) ?_
                 refine pV 6 123 (bo 36 127) ?_
                 refine pV 7 124 (bo 36 255) ?_
                 refine pU 8 125 (bo 36 511) ?_
                 refine pU 9 126 (bo 36 1023) ?_
                 refine pU 10 127 (bo 36 2047) ?_
                 refine pU 11 128 (bo 36 4095) ?_
                 refine pU 12 129 (bo 36 8191) ?_
                 refine pU 13 130 (bo 36 16383) ?_
                 refine pU 14 131 (bo 36 32767) ?_
                 refine pU 15 132 (bo 36 65535) ?_
                 refine pU 16 133 (bo 36 131071) ?_
                 refine pU 17 134 (bo 36 262143) ?_
                 refine pV 18 135 (bo 36 524287) ?_
                 refine pV 19 136 (bo 36 1048575) ?_
                 refine pV 20 137 (bo 36 2097151) ?_
                 refine pV 22 139 (bo 36 6291455) ?_
                 refine tV 21 138 (bo 36 8388607) ?_
                 refine tV 23 140 (bo 36 16777215) ?_
                 refine one_ (i := 24) (N := some 141) (bo 36 33554431) rfl rfl (one_of HT_.out (by kernel_rfl)) (by decide) (fun K hK => ?_)
                 refine goes_ Try.func80 (by kernel_rfl) rfl #[.agg #[.int .i64 a0_0, .int .i64 a0_1, .slice A0_2 l0_2.length c0_2, .slice (some ad207) l0_3.length c0_3, .slice A0_4 l0_4.length c0_4], .int .i64 ((rd_T93 l0_3 x5_3).f1)] (by rfl) rfl rfl sa ?_
                 with_reducible refine (spec_l4Inode.calls k3 a0_0 a0_1 _ _ l0_2 _ _ l0_3 _ _ l0_4 ((rd_T93 l0_3 x5_3).f1) t217 _ ?side1 ?side2 ?side3 ?side4 ?side5 ?side6 A140.out).mono ?_
                 (case side1 => exact ca (Kd.C_below HR0_2.out bl))
                 (case side2 => exact HC0_2.out)
                 (case side3 => exact ca (Kd.C_below HR0_3.out bl))
                 (case side4 => exact HC0_3.out)
                 (case side5 => exact ca (Kd.C_below HR0_4.out bl))
                 (case side6 => exact HC0_4.out)
                 rintro e w159 ⟨rfl, hb⟩
                 refine ⟨_, rfl, ?_⟩
                 replace BK194 := bv BK194 hb; replace BK208 := bv BK208 hb; replace HB := bs (w := w) hb; (try clear hb hb2 hk hi)
                 have q160 : (x5_3 : Int) ≤ ((l0_3.length : Int) : Int) := of_decide_eq_true am
                 obtain ⟨i0160, hi0160, _, hsz160, _⟩ := info_parts info93
                 have hroom160 : l0_3.length ≤ c0_3 := HC0_3.out
                 have hC160 : Kd.C k93 _ (some ad207) l0_3.length l0_3 := HR0_3.out
                 have hcut160 := cut_to (P := Try.prog) 23 93 .i64 Try.underlying23 hi0160 (some ad207) l0_3.length c0_3 x5_3 (of_decide_eq_true am) q160 hroom160
                 have hr160 := Kd.C_take (m := (x5_3 : Int).toNat) hC160 (by omega)
                 have hy160 : y218.length = (x5_3 : Int).toNat := (by rw [Ny218.out, List.length_take]; omega)
                 rw [← Ny218.out] at hr160
                 rw [← hy160] at hcut160
                 have HR221 := Aside0.mk hr160
                 have HC221 := Aside0.mk (show y218.length ≤ c0_3 from by omega)
                 clear hr160 hC160 hroom160 hi0160 hsz160
                 have KY160 := Aside0.mk hy160
                 clear hy160
                 replace q160 := eq_true q160
                 refine hK.out _ _ ⟨cb 0 BK208, cb 1 BK208, cb 0 BK194, cb 1 BK194, cb 2 BK194, cb 3 BK194, cb 4 BK194⟩ (fun hHeld => ?_)
                 clear hK K
                 refine norm_ (a' := ?_) ?_ ?_
                 rotate_left
                 ·show Act.put _ (some 141) _ = _
                  simp only [Act.put, List.setIfInBounds_toArray, List.set_cons_zero, List.set_cons_succ, i64_w, i32_w]
                  rfl
                 refine pV 25 142 (bo 36 67108863) ?_
                 refine pV 26 143 (bo 36 134217727) ?_
                 refine pV 27 144 (bo 36 268435455) ?_
                 refine pV 28 145 (bo 36 536870911) ?_
                 refine pV 30 147 (bo 36 1610612735) ?_
                 refine pV 32 149 (bo 36 5905580031) ?_
                 refine tV 29 146 (bo 36 6442450943) ?_
                 refine pV 31 148 (bo 36 8589934591) ?_
                 refine tV 33 150 (bo 36 17179869183) ?_
                 refine one_ (i := 34) (N := some 151) (bo 36 34359738367) rfl rfl (one_of HT_.out (by kernel_rfl)) (by decide) (fun K hK => ?_)
                 refine goes_ Try.func77 (by kernel_rfl) rfl #[.slice (some ad207) y218.length c0_3, .int .i64 ((rd_T93 l0_3 x5_3).f1)] (by rfl) rfl rfl sa ?_
                 with_reducible refine (spec_l4Linked.calls k3 _ _ y218 ((rd_T93 l0_3 x5_3).f1) true _ ?side1 ?side2 A151.out).mono ?_
                 (case side1 => exact ca (Kd.C_below HR221.out HB.out))
                 (case side2 => exact HC221.out)
                 rintro e w' ⟨rfl, ⟨nd, rfl⟩⟩
                 refine ⟨_, rfl, ?_⟩
                 refine hK.out _ _ ⟨cb 0 BK208, cb 1 BK208, cb 0 BK194, cb 1 BK194, cb 2 BK194, cb 3 BK194, cb 4 BK194⟩ (fun hHeld => ?_)
                 clear hK K
                 refine norm_ (a' := ?_) ?_ ?_
                 rotate_left
                 ·show Act.put _ (some 151) _ = _
                  simp only [Act.put, List.setIfInBounds_toArray, List.set_cons_zero, List.set_cons_succ, i64_w, i32_w]
                  rfl
                 refine pV 35 152 (bo 36 68719476735) ?_
                 refine done_ (done_of HT_.out (by kernel_rfl)) ?_
                 try go_wp2
                 go_ret
                 exact ⟨fe, bl⟩
                ·replace c152 := Bool.eq_false_iff.mpr c152
                 subst c152
                 replace H := iF H
                 have H' := Aside0.mk H
                 clear H
                 obtain ⟨Z161_0, Z161_1, Z161_2, Z161_3, Z161_4, Y161_0, Y161_1, Y161_2, Y161_3, Y161_4⟩ := cf5 BK194
                 have p207 : 0 ≤ (x5_3 : Int) := of_decide_eq_true am
                 have q207 : x5_3 < (l0_3.length : Int) := of_decide_eq_true am
                 obtain ⟨ad207, e207, hx207_0, hx207_1⟩ := at_T93 HR0_3.out x5_3 p207 q207
                 cases e207
                 replace hx207_0 := cz HB hx207_0
                 replace hx207_1 := cz HB hx207_1
                 replace p207 := eq_true p207
                 replace q207 := eq_true q207
                 try go_wp2_with (first | ((with_reducible refine gD 6 rfl ?_); (try (refine gate_guard rfl ?_; dsimp only)); refine boxZ 6 #[.string (⟨#[]⟩ : ByteArray), .int .i64 0] 93 ?_; intro gb208 hg w162 hbox hb; have BK208 := Aside0.mk hbox; have GW208 := gw (w := w) hg; have GE208 := gw (w := w) hg; replace HB := bs (w := w) hb; have NB194_208 := nl BK194 hg; have NB208_194 := nr BK194 hg; replace BK194 := bv BK194 hb; clear hb hbox hg; have hnb163 := NB208_194.out; have hnc163 := NB194_208.out; obtain ⟨Z164_0, Z164_1, Y164_0, Y164_1⟩ := cf2 BK208))
                 have n0_ : Aside0 (((w162.setCell ⟨gb208, 0, none⟩ (.string ((rd_T93 l0_3 x5_3).f0))).setCell ⟨gb208, 1, none⟩ (.int .i64 ((rd_T93 l0_3 x5_3).f1))).heap[gb194]? = some (.cells #[.int .i64 a0_0, .int .i64 a0_1, .slice A0_2 l0_2.length c0_2, .slice (some ad207) l0_3.length c0_3, .slice A0_4 l0_4.length c0_4] 26 (0, 0))) := ⟨bkk⟩
                 have n1_ : Aside0 (((w162.setCell ⟨gb208, 0, none⟩ (.string ((rd_T93 l0_3 x5_3).f0))).setCell ⟨gb208, 1, none⟩ (.int .i64 ((rd_T93 l0_3 x5_3).f1))).heap[gb208]? = some (.cells #[.string ((rd_T93 l0_3 x5_3).f0), .int .i64 ((rd_T93 l0_3 x5_3).f1)] 93 (0, 0))) := ⟨bkk⟩
                 have n2_ : Aside0 (Below w.heap.size w ((w162.setCell ⟨gb208, 0, none⟩ (.string ((rd_T93 l0_3 x5_3).f0))).setCell ⟨gb208, 1, none⟩ (.int .i64 ((rd_T93 l0_3 x5_3).f1)))) := ⟨bl⟩
                 (try clear BK194)
                 (try clear BK208)
                 (try clear HB)
                 generalize ((w162.setCell ⟨gb208, 0, none⟩ (.string ((rd_T93 l0_3 x5_3).f0))).setCell ⟨gb208, 1, none⟩ (.int .i64 ((rd_T93 l0_3 x5_3).f1))) = w165 at n0_ n1_ n2_ ⊢
                 have BK194 := n0_
                 have BK208 := n1_
                 have HB := n2_
                 clear n0_ n1_ n2_
                 replace BK194 := Aside0.mk (blk_drew BK194.out); replace BK208 := Aside0.mk (blk_drew BK208.out); replace HB := Aside0.mk (below_drew1 HB.out)
                 refine start_ (n := 36) (S := fun w' => w'.cell? ⟨gb208, 0, none⟩ = some (.string ((rd_T93 l0_3 x5_3).f0)) ∧ w'.cell? ⟨gb208, 1, none⟩ = some (.int .i64 ((rd_T93 l0_3 x5_3).f1)) ∧ w'.cell? ⟨gb194, 0, none⟩ = some (.int .i64 a0_0) ∧ w'.cell? ⟨gb194, 1, none⟩ = some (.int .i64 a0_1) ∧ w'.cell? ⟨gb194, 2, none⟩ = some (.slice A0_2 l0_2.length c0_2) ∧ w'.cell? ⟨gb194, 3, none⟩ = some (.slice (some ad207) l0_3.length c0_3) ∧ w'.cell? ⟨gb194, 4, none⟩ = some (.slice A0_4 l0_4.length c0_4)) (ds := []) (bo 36 0) (by kernel_rfl) rfl rfl ⟨cb 0 BK208, cb 1 BK208, cb 0 BK194, cb 1 BK194, cb 2 BK194, cb 3 BK194, cb 4 BK194⟩ (fun hHeld => ?_); refine with_tabW spec_DiskOk.tab15 spec_DiskOk.bits15 (fun HT_ HW_ => ?_)
                 generalize w165.drew = w166 at BK194 BK208 HB hHeld ⊢
                 refine pV 0 117 (bo 36 1) ?_
                 refine tV 1 118 (bo 36 3) ?_
                 refine one_ (i := 2) (N := some 119) (bo 36 7) rfl rfl (one_of HT_.out (by kernel_rfl)) (by decide) (fun K hK => ?_)
                 refine goes_ Try.func79 (by kernel_rfl) rfl #[.string ((rd_T93 l0_3 x5_3).f0)] (by rfl) rfl rfl sa ?_
                 with_reducible refine (spec_l4Name.calls k3 ((rd_T93 l0_3 x5_3).f0) true _ A98.out).mono ?_
                 rintro e w' ⟨rfl, ⟨nd, rfl⟩⟩
                 refine ⟨_, rfl, ?_⟩
                 refine hK.out _ _ ⟨cb 0 BK208, cb 1 BK208, cb 0 BK194, cb 1 BK194, cb 2 BK194, cb 3 BK194, cb 4 BK194⟩ (fun hHeld => ?_)
                 clear hK K
                 refine norm_ (a' := ?_) ?_ ?_
                 rotate_left
                 ·show Act.put _ (some 119) _ = _
                  simp only [Act.put, List.setIfInBounds_toArray, List.set_cons_zero, List.set_cons_succ, i64_w, i32_w]
                  rfl
                 refine pV 3 120 (bo 36 15) ?_
                 refine pV 4 121 (bo 36 31) ?_
                 refine pV 5 122 (bo 36 63) ?_
                 refine pV 6 123 (bo 36 127) ?_
                 refine pV 7 124 (bo 36 255) ?_
                 refine pU 8 125 (bo 36 511) ?_
                 refine pU 9 126 (bo 36 1023) ?_
                 refine pU 10 127 (bo 36 2047) ?_
                 refine pU 11 128 (bo 36 4095) ?_
                 refine pU 12 129 (bo 36 8191) ?_
                 refine pU 13 130 (bo 36 16383) ?_
                 refine pU 14 131 (bo 36 32767) ?_
                 refine pU 15 132 (bo 36 65535) ?_
                 refine pU 16 133 (bo 36 131071) ?_
                 refine pU 17 134 (bo 36 262143) ?_
                 refine pV 18 135 (bo 36 524287) ?_
                 refine pV 19 136 (bo 36 1048575) ?_
                 refine pV 20 137 (bo 36 2097151) ?_
                 refine pV 22 139 (bo 36 6291455) ?_
                 refine tV 21 138 (bo 36 8388607) ?_
                 refine tV 23 140 (bo 36 16777215) ?_
                 refine one_ (i := 24) (N := some 141) (bo 36 33554431) rfl rfl (one_of HT_.out (by kernel_rfl)) (by decide) (fun K hK => ?_)
                 refine goes_ Try.func80 (by kernel_rfl) rfl #[.agg #[.int .i64 a0_0, .int .i64 a0_1, .slice A0_2 l0_2.length c0_2, .slice (some ad207) l0_3.length c0_3, .slice A0_4 l0_4.length c0_4], .int .i64 ((rd_T93 l0_3 x5_3).f1)] (by rfl) rfl rfl sa ?_
                 with_reducible refine (spec_l4Inode.calls k3 a0_0 a0_1 _ _ l0_2 _ _ l0_3 _ _ l0_4 ((rd_T93 l0_3 x5_3).f1) t217 _ ?side1 ?side2 ?side3 ?side4 ?side5 ?side6 A140.out).mono ?_
                 (case side1 => exact ca (Kd.C_below HR0_2.out bl))
                 (case side2 => exact HC0_2.out)
                 (case side3 => exact ca (Kd.C_below HR0_3.out bl))
                 (case side4 => exact HC0_3.out)
                 (case side5 => exact ca (Kd.C_below HR0_4.out bl))
                 (case side6 => exact HC0_4.out)
                 rintro e w167 ⟨rfl, hb⟩
                 refine ⟨_, rfl, ?_⟩
                 replace BK194 := bv BK194 hb; replace BK208 := bv BK208 hb; replace HB := bs (w := w) hb; (try clear hb hb2 hk hi)
                 have q168 : (x5_3 : Int) ≤ ((l0_3.length : Int) : Int) := of_decide_eq_true am
                 obtain ⟨i0168, hi0168, _, hsz168, _⟩ := info_parts info93
                 have hroom168 : l0_3.length ≤ c0_3 := HC0_3.out
                 have hC168 : Kd.C k93 _ (some ad207) l0_3.length l0_3 := HR0_3.out
                 have hcut168 := cut_to (P := Try.prog) 23 93 .i64 Try.underlying23 hi0168 (some ad207) l0_3.length c0_3 x5_3 (of_decide_eq_true am) q168 hroom168
                 have hr168 := Kd.C_take (m := (x5_3 : Int).toNat) hC168 (by omega)
                 have hy168 : y218.length = (x5_3 : Int).toNat := (by rw [Ny218.out, List.length_take]; omega)
                 rw [← Ny218.out] at hr168
                 rw [← hy168] at hcut168
                 have HR221 := Aside0.mk hr168
                 have HC221 := Aside0.mk (show y218.length ≤ c0_3 from by omega)
                 clear hr168 hC168 hroom168 hi0168 hsz168
                 have KY168 := Aside0.mk hy168
                 clear hy168
                 replace q168 := eq_true q168
                 refine hK.out _ _ ⟨cb 0 BK208, cb 1 BK208, cb 0 BK194, cb 1 BK194, cb 2 BK194, cb 3 BK194, cb 4 BK194⟩ (fun hHeld => ?_)
                 clear hK K
                 refine norm_ (a' := ?_) ?_ ?_
                 rotate_left
                 ·show Act.put _ (some 141) _ = _
                  simp only [Act.put, List.setIfInBounds_toArray, List.set_cons_zero, List.set_cons_succ, i64_w, i32_w]
                  rfl
                 refine pV 25 142 (bo 36 67108863) ?_
                 refine pV 26 143 (bo 36 134217727) ?_
                 refine pV 27 144 (bo 36 268435455) ?_
                 refine pV 28 145 (bo 36 536870911) ?_
                 refine pV 30 147 (bo 36 1610612735) ?_
                 refine pV 32 149 (bo 36 5905580031) ?_
                 refine tV 29 146 (bo 36 6442450943) ?_
                 refine pV 31 148 (bo 36 8589934591) ?_
                 refine tV 33 150 (bo 36 17179869183) ?_
                 refine one_ (i := 34) (N := some 151) (bo 36 34359738367) rfl rfl (one_of HT_.out (by kernel_rfl)) (by decide) (fun K hK => ?_)
                 refine goes_ Try.func77 (by kernel_rfl) rfl #[.slice (some ad207) y218.length c0_3, .int .i64 ((rd_T93 l0_3 x5_3).f1)] (by rfl) rfl rfl sa ?_
                 with_reducible refine (spec_l4Linked.calls k3 _ _ y218 ((rd_T93 l0_3 x5_3).f1) false _ ?side1 ?side2 A151.out).mono ?_
                 (case side1 => exact ca (Kd.C_below HR221.out HB.out))
                 (case side2 => exact HC221.out)
                 rintro e w' ⟨rfl, ⟨nd, rfl⟩⟩
                 refine ⟨_, rfl, ?_⟩
                 refine hK.out _ _ ⟨cb 0 BK208, cb 1 BK208, cb 0 BK194, cb 1 BK194, cb 2 BK194, cb 3 BK194, cb 4 BK194⟩ (fun hHeld => ?_)
                 clear hK K
                 refine norm_ (a' := ?_) ?_ ?_
                 rotate_left
                 ·show Act.put _ (some 151) _ = _
                  simp only [Act.put, List.setIfInBounds_toArray, List.set_cons_zero, List.set_cons_succ, i64_w, i32_w]
                  rfl
                 refine pV 35 152 (bo 36 68719476735) ?_
                 refine done_ (done_of HT_.out (by kernel_rfl)) ?_
                 try go_wp2
                 go_roundg k3
                 case measure => have := HJ1.out; have := HK2.out; have := HK3.out; omega
                 case rel => exact ⟨(wrap64 (x5_3 + 1)), fa, H', ⟨by have := HJ1.out; have := HK2.out; have := HK3.out; omega⟩, ⟨by (with_reducible repeat (first | refine blk_drewN ?_ _ | refine blk_drew ?_ | refine blk_alloc ?_ _)); exact BK194.out⟩, ⟨bl⟩⟩
               ·rw [if_neg c150] at H
                exact absurd H (by simp)
            ·replace c99 := Bool.eq_false_iff.mpr c99
             subst c99
             replace H := iF H
             obtain rfl := Option.some.inj H
             obtain ⟨Z169_0, Z169_1, Z169_2, Z169_3, Z169_4, Y169_0, Y169_1, Y169_2, Y169_3, Y169_4⟩ := cf5 BK194
             have p207 : 0 ≤ (x5_3 : Int) := of_decide_eq_true am
             have q207 : x5_3 < (l0_3.length : Int) := of_decide_eq_true am
             obtain ⟨ad207, e207, hx207_0, hx207_1⟩ := at_T93 HR0_3.out x5_3 p207 q207
             cases e207
             replace hx207_0 := cz HB hx207_0
             replace hx207_1 := cz HB hx207_1
             replace p207 := eq_true p207
             replace q207 := eq_true q207
             try go_wp2_with (first | ((with_reducible refine gD 6 rfl ?_); (try (refine gate_guard rfl ?_; dsimp only)); refine boxZ 6 #[.string (⟨#[]⟩ : ByteArray), .int .i64 0] 93 ?_; intro gb208 hg w170 hbox hb; have BK208 := Aside0.mk hbox; have GW208 := gw (w := w) hg; have GE208 := gw (w := w) hg; replace HB := bs (w := w) hb; have NB194_208 := nl BK194 hg; have NB208_194 := nr BK194 hg; replace BK194 := bv BK194 hb; clear hb hbox hg; have hnb171 := NB208_194.out; have hnc171 := NB194_208.out; obtain ⟨Z172_0, Z172_1, Y172_0, Y172_1⟩ := cf2 BK208))
             have n0_ : Aside0 (((w170.setCell ⟨gb208, 0, none⟩ (.string ((rd_T93 l0_3 x5_3).f0))).setCell ⟨gb208, 1, none⟩ (.int .i64 ((rd_T93 l0_3 x5_3).f1))).heap[gb194]? = some (.cells #[.int .i64 a0_0, .int .i64 a0_1, .slice A0_2 l0_2.length c0_2, .slice (some ad207) l0_3.length c0_3, .slice A0_4 l0_4.length c0_4] 26 (0, 0))) := ⟨bkk⟩
             have n1_ : Aside0 (((w170.setCell ⟨gb208, 0, none⟩ (.string ((rd_T93 l0_3 x5_3).f0))).setCell ⟨gb208, 1, none⟩ (.int .i64 ((rd_T93 l0_3 x5_3).f1))).heap[gb208]? = some (.cells #[.string ((rd_T93 l0_3 x5_3).f0), .int .i64 ((rd_T93 l0_3 x5_3).f1)] 93 (0, 0))) := ⟨bkk⟩
             have n2_ : Aside0 (Below w.heap.size w ((w170.setCell ⟨gb208, 0, none⟩ (.string ((rd_T93 l0_3 x5_3).f0))).setCell ⟨gb208, 1, none⟩ (.int .i64 ((rd_T93 l0_3 x5_3).f1)))) := ⟨bl⟩
             (try clear BK194)
             (try clear BK208)
             (try clear HB)
             generalize ((w170.setCell ⟨gb208, 0, none⟩ (.string ((rd_T93 l0_3 x5_3).f0))).setCell ⟨gb208, 1, none⟩ (.int .i64 ((rd_T93 l0_3 x5_3).f1))) = w173 at n0_ n1_ n2_ ⊢
             have BK194 := n0_
             have BK208 := n1_
             have HB := n2_
             clear n0_ n1_ n2_
             replace BK194 := Aside0.mk (blk_drew BK194.out); replace BK208 := Aside0.mk (blk_drew BK208.out); replace HB := Aside0.mk (below_drew1 HB.out)
             refine start_ (n := 36) (S := fun w' => w'.cell? ⟨gb208, 0, none⟩ = some (.string ((rd_T93 l0_3 x5_3).f0)) ∧ w'.cell? ⟨gb208, 1, none⟩ = some (.int .i64 ((rd_T93 l0_3 x5_3).f1))) (ds := []) (bo 36 0) (by kernel_rfl) rfl rfl ⟨cb 0 BK208, cb 1 BK208⟩ (fun hHeld => ?_); refine with_tabW spec_DiskOk.tab15 spec_DiskOk.bits15 (fun HT_ HW_ => ?_)
             generalize w173.drew = w174 at BK194 BK208 HB hHeld ⊢
             refine pV 0 117 (bo 36 1) ?_
             refine tV 1 118 (bo 36 3) ?_
             refine one_ (i := 2) (N := some 119) (bo 36 7) rfl rfl (one_of HT_.out (by kernel_rfl)) (by decide) (fun K hK => ?_)
             refine goes_ Try.func79 (by kernel_rfl) rfl #[.string ((rd_T93 l0_3 x5_3).f0)] (by rfl) rfl rfl sa ?_
             with_reducible refine (spec_l4Name.calls k3 ((rd_T93 l0_3 x5_3).f0) false _ A98.out).mono ?_
             rintro e w' ⟨rfl, ⟨nd, rfl⟩⟩
             refine ⟨_, rfl, ?_⟩
             refine hK.out _ _ ⟨cb 0 BK208, cb 1 BK208⟩ (fun hHeld => ?_)
             clear hK K
             refine norm_ (a' := ?_) ?_ ?_
             rotate_left
             ·show Act.put _ (some 119) _ = _
              simp only [Act.put, List.setIfInBounds_toArray, List.set_cons_zero, List.set_cons_succ, i64_w, i32_w]
              rfl
             refine pV 3 120 (bo 36 15) ?_
             refine pV 4 121 (bo 36 31) ?_
             refine pU 5 122 (bo 36 63) ?_
             refine pU 6 123 (bo 36 127) ?_
             refine pU 7 124 (bo 36 255) ?_
             refine pU 8 125 (bo 36 511) ?_
             refine pU 9 126 (bo 36 1023) ?_
             refine pU 10 127 (bo 36 2047) ?_
             refine pU 11 128 (bo 36 4095) ?_
             refine pU 12 129 (bo 36 8191) ?_
             refine pU 13 130 (bo 36 16383) ?_
             refine pU 14 131 (bo 36 32767) ?_
             refine pU 15 132 (bo 36 65535) ?_
             refine pU 16 133 (bo 36 131071) ?_
             refine pU 17 134 (bo 36 262143) ?_
             refine pU 18 135 (bo 36 524287) ?_
             refine pV 19 136 (bo 36 1048575) ?_
             refine pV 20 137 (bo 36 2097151) ?_
             refine pU 21 138 (bo 36 4194303) ?_
             refine pU 22 139 (bo 36 8388607) ?_
             refine pU 23 140 (bo 36 16777215) ?_
             refine pU 24 141 (bo 36 33554431) ?_
             refine pU 25 142 (bo 36 67108863) ?_
             refine pV 26 143 (bo 36 134217727) ?_
             refine pV 27 144 (bo 36 268435455) ?_
             refine pU 28 145 (bo 36 536870911) ?_
             refine pU 29 146 (bo 36 1073741823) ?_
             refine pU 30 147 (bo 36 2147483647) ?_
             refine pU 31 148 (bo 36 4294967295) ?_
             refine pU 32 149 (bo 36 8589934591) ?_
             refine pU 33 150 (bo 36 17179869183) ?_
             refine pU 34 151 (bo 36 34359738367) ?_
             refine pV 35 152 (bo 36 68719476735) ?_
             refine done_ (done_of HT_.out (by kernel_rfl)) ?_
             try go_wp2
             go_ret
             exact ⟨fe, bl⟩
           ·rw [if_neg c97] at H
            exact absurd H (by simp)
          ·rw [if_neg c96] at H
           have c96b0 : decide (x5_3 < (l0_3.length : Int)) = false := decide_eq_false c96
           clear c96
           obtain ⟨y223, hy223⟩ : ∃ y_ : List (S93), y_ = (([] : List (S93))) := ⟨_, rfl⟩
           replace H : (if y223.length + l0_3.length < 5864062014805 then (spec_DiskOk.l2 k3 (y223 ++ l0_3) 0 a0_0 a0_1 l0_2 l0_3 l0_4) else (none)) = some r := by first | (rw [hy223]; with_reducible exact H) | (have H2_ := (Option.bind_some _ _).symm.trans H; rw [hy223]; with_reducible exact H2_) | (have H2_ := (Option.bind_some _ _).symm.trans H; with_reducible exact H2_) | with_reducible exact H | (rw [hy223]; exact H) | exact H
           have Ny223 := Aside0.mk hy223
           clear hy223
           by_cases c175 : y223.length + l0_3.length < 5864062014805
           ·rw [if_pos c175] at H
            have LMc175 := Aside0.mk c175
            clear c175
            obtain ⟨y226, hy226⟩ : ∃ y_ : List (S93), y_ = (y223 ++ l0_3) := ⟨_, rfl⟩
            replace H : (spec_DiskOk.l2 k3 y226 0 a0_0 a0_1 l0_2 l0_3 l0_4) = some r := by first | (rw [hy226]; with_reducible exact H) | (have H2_ := (Option.bind_some _ _).symm.trans H; rw [hy226]; with_reducible exact H2_) | (have H2_ := (Option.bind_some _ _).symm.trans H; with_reducible exact H2_) | with_reducible exact H | (rw [hy226]; exact H) | exact H
            have Ny226 := Aside0.mk hy226
            clear hy226
            have H' := Aside0.mk H
            clear H
            obtain ⟨Z176_0, Z176_1, Z176_2, Z176_3, Z176_4, Y176_0, Y176_1, Y176_2, Y176_3, Y176_4⟩ := cf5 BK194
            go_wp2_with (first | ((with_reducible refine gD 153 rfl ?_); (try (refine gate_guard rfl ?_; dsimp only)); refine Kd.R_lit k93 _ 93 ?hg (N := 153) ?hd (xs := ([] : List (S93))) (inner := []) (ok := fun _ => True) (okp := fun _ => True) ?hr ?hp (fun _ hk => hk) trivial (Below.refl _ _) (Nat.le_refl _) (by simp) ?_; (case hd => rfl); (case hg => rfl); (case hr => first | (go_simp; done) | (go_simp; rfl)); (case hp => exact (Reps.none _ _)); intro v224 w177 ho178 hb hg_ hnew_; clear hg_ hnew_; (first | rw [← Ny223.out] at ho178 | (simp only [Int.reduceToNat] at ho178; rw [← Ny223.out] at ho178)); have HO225 := Aside0.mk (Kd.R_lower ho178 (below_size bl)); replace BK194 := bv BK194 hb; replace HB := bs (w := w) hb; clear hb ho178; obtain ⟨Z179_0, Z179_1, Z179_2, Z179_3, Z179_4, Y179_0, Y179_1, Y179_2, Y179_3, Y179_4⟩ := cf5 BK194) | ((with_reducible refine gate_builtin (b := .append) (xs := #[.tmp 153, .tmp 155]) rfl ?_); (try (refine gate_guard rfl ?_; dsimp only)); at_builtin; refine Kd.R_append_rows k93 (w0 := w) w.heap.size rfl (.tmp 153) (.tmp 155) 23 93 (.agg #[(.string ⟨#[]⟩), (.int .i64 0)]) 24 rfl Try.underlying23 info93 rfl (by decide) (by omega) v224 y223 l0_3 _ _ _ (fun _ => True) (fun _ => False) rfl rfl ?aO ?aR (fun _ _ h => h) (fun _ h => h.elim) ?aF ?aB ?aS ?aL ?_; (case aR => exact ca (Kd.C_below HR0_3.out HB.out)); (case aB => exact bl); (case aF => exact (fun _ _ => trivial)); (case aO => exact (rpR HO225.out)); (case aS => exact (below_size bl)); (case aL => have := LMc175.out; omega); intro v227 w180 ho hb hg hat; rw [← Ny226.out] at ho; replace BK194 := Aside0.mk (blk_grown (g := gb194) (o := .cells #[.int .i64 a0_0, .int .i64 a0_1, .slice A0_2 l0_2.length c0_2, .slice A0_3 l0_3.length c0_3, .slice A0_4 l0_4.length c0_4] 26 (0, 0)) bk hg (Kd.R_ne HO225.out BK194.out (by decide))); replace HB := Aside0.mk (hb); have HO228 := Aside0.mk (ho); clear HO225; clear ho hb hg hat))
            go_loopg [7, 8] k3 (fun kq v7 v8 w' => ∃ (x7_4 : List (S93)) (x8_4 : Int), v8 = .int .i64 x8_4 ∧ Aside0 (spec_DiskOk.l2 kq x7_4 x8_4 a0_0 a0_1 l0_2 l0_3 l0_4 = some r) ∧ Aside0 (kq ≤ k3) ∧ Aside0 (Kd.R k93 93 w' w.heap.size (fun _ => True) v7 x7_4) ∧ Aside0 (w'.heap[gb194]? = some (.cells #[.int .i64 a0_0, .int .i64 a0_1, (.slice A0_2 l0_2.length c0_2), (.slice A0_3 l0_3.length c0_3), (.slice A0_4 l0_4.length c0_4)] 26 (0, 0))) ∧ Aside0 (Below w.heap.size w w'))
            case atStart => exact ⟨(y226), (0), fa, H', ⟨Nat.le_refl _⟩, ⟨rpR HO228.out⟩, ⟨by (with_reducible repeat (first | refine blk_drewN ?_ _ | refine blk_drew ?_ | refine blk_alloc ?_ _)); exact BK194.out⟩, ⟨bl⟩⟩
            case round => as_aux_lemma =>
             clear H'
             try clear c1
             try clear q1
             try clear p2
             try clear q2
             try clear hx2
             try clear p6
             try clear c7
             try clear c8
             try clear c9
             try clear c15
             try clear q16
             try clear c17
             try clear p20
             try clear q20
             try clear hx20
             try clear p64
             try clear c77
             try clear c79
             try clear c80
             try clear c96
             try clear c96b0
             try clear c97
             try clear c99
             try clear c150
             try clear q168
             try clear c171
             try clear c175
             try clear Z169_0 Z169_1 Z169_2 Z169_3 Z169_4
             try clear Z172_0 Z172_1
             try clear Z176_0 Z176_1 Z176_2 Z176_3 Z176_4
             try clear Z179_0 Z179_1 Z179_2 Z179_3 Z179_4
             try clear Y169_0 Y169_1 Y169_2 Y169_3 Y169_4
             try clear Y172_0 Y172_1
             try clear Y176_0 Y176_1 Y176_2 Y176_3 Y176_4
             try clear Y179_0 Y179_1 Y179_2 Y179_3 Y179_4
             try clear hx207_0
             try clear hx207_1
             try clear p207
             try clear q168
             try clear q207
             obtain ⟨x7_4, x8_4, rfl, HA, HK4, HO_7, BK194, HB⟩ := hrel
             cases gk with
             | zero => exact absurd HA.out (by simp [spec_DiskOk.l2])
             | succ k4 =>
              have H := HA.out
              clear HA
              simp only [spec_DiskOk.l2] at H
              by_cases c181 : x8_4 < (l0_4.length : Int)
              ·rw [if_pos c181] at H
               have c181b0 : decide (x8_4 < (l0_4.length : Int)) = true := decide_eq_true c181
               clear c181
               by_cases c182 : 0 ≤ x8_4
               ·rw [if_pos c182] at H
                have c182b0 : decide (0 ≤ x8_4) = true := decide_eq_true c182
                clear c182
                have HC183 := Aside0.mk H
                clear H
                obtain ⟨Z184_0, Z184_1, Z184_2, Z184_3, Z184_4, Y184_0, Y184_1, Y184_2, Y184_3, Y184_4⟩ := cf5 BK194
                have p229 : 0 ≤ (x8_4 : Int) := of_decide_eq_true am
                have q229 : x8_4 < (l0_4.length : Int) := of_decide_eq_true am
                obtain ⟨ad229, e229, hx229_0, hx229_1, hx229_2, hx229_3⟩ := at_T95 HR0_4.out x8_4 p229 q229
                cases e229
                replace hx229_0 := cz HB hx229_0
                replace hx229_1 := cz HB hx229_1
                replace hx229_2 := cz HB hx229_2
                replace hx229_3 := cz HB hx229_3
                replace p229 := eq_true p229
                replace q229 := eq_true q229
                go_upto_region 22 with (first | ((with_reducible refine gD 9 rfl ?_); (try (refine gate_guard rfl ?_; dsimp only)); refine boxZ 9 #[.int .i64 0, .string (⟨#[]⟩ : ByteArray), .string (⟨#[]⟩ : ByteArray), .int .i64 0] 95 ?_; intro gb230 hg w185 hbox hb; replace HO_7 := Aside0.mk (Kd.R_below (rpR HO_7.out) hb); have BK230 := Aside0.mk hbox; have GW230 := gw (w := w) hg; have GE230 := gw (w := w) hg; replace HB := bs (w := w) hb; have NB194_230 := nl BK194 hg; have NB230_194 := nr BK194 hg; replace BK194 := bv BK194 hb; clear hb hbox hg; have hnb186 := NB230_194.out; have hnc186 := NB194_230.out; obtain ⟨Z187_0, Z187_1, Z187_2, Z187_3, Y187_0, Y187_1, Y187_2, Y187_3⟩ := cf4 BK230))
                (try simp only [Act.put, List.setIfInBounds_toArray, List.set_cons_zero, List.set_cons_succ])
                go_cut [194] (fun v194 wc => ∃ (kq : Nat) (x194_182 : Bool), v194 = .bool x194_182 ∧ Aside0 (spec_DiskOk.j4 kq x7_4 x8_4 x194_182 a0_0 a0_1 l0_2 l0_3 l0_4 ((rd_T95 l0_4 x8_4).f0) ((rd_T95 l0_4 x8_4).f1) ((rd_T95 l0_4 x8_4).f2) ((rd_T95 l0_4 x8_4).f3) = some r) ∧ Aside0 (kq ≤ k4) ∧ Aside0 (Kd.R k93 93 wc w.heap.size (fun _ => True) u7 x7_4) ∧ Aside0 (wc.heap[gb194]? = some (.cells #[.int .i64 a0_0, .int .i64 a0_1, (.slice A0_2 l0_2.length c0_2), (.slice A0_3 l0_3.length c0_3), (.slice (some ad229) l0_4.length c0_4)] 26 (0, 0))) ∧ Aside0 (wc.heap[gb230]? = some (.cells #[.int .i64 ((rd_T95 l0_4 x8_4).f0), .string ((rd_T95 l0_4 x8_4).f1), .string ((rd_T95 l0_4 x8_4).f2), .int .i64 ((rd_T95 l0_4 x8_4).f3)] 95 (0, 0))) ∧ Aside0 (Below w.heap.size w wc))
                case first => as_aux_lemma =>
                 have H := HC183.out
                 clear HC183
                 by_cases c188 : ((rd_T95 l0_4 x8_4).f0) = 1
                 ·rw [if_pos c188] at H
                  have c188b0 : (((rd_T95 l0_4 x8_4).f0) == 1) = true := beq_iff_eq.mpr c188
                  have c188b1 : (((rd_T95 l0_4 x8_4).f0) != 1) = false := bne_eq_false_iff_eq.mpr c188
                  clear c188
                  (first | rw [c188b0] | (simp only [i64_w, i32_w]; rw [c188b0]) | skip)
                  obtain ⟨t231, A189, H⟩ := bd H
                  by_cases c190 : t231 < 0
                  ·rw [if_pos c190] at H
                   have c190b0 : decide (t231 < 0) = true := decide_eq_true c190
                   clear c190
                   have H' := Aside0.mk H
                   clear H
                   try go_wp2
                   have n0_ : Aside0 (Kd.R k93 93 ((((w185.setCell ⟨gb230, 0, none⟩ (.int .i64 ((rd_T95 l0_4 x8_4).f0))).setCell ⟨gb230, 1, none⟩ (.string ((rd_T95 l0_4 x8_4).f1))).setCell ⟨gb230, 2, none⟩ (.string ((rd_T95 l0_4 x8_4).f2))).setCell ⟨gb230, 3, none⟩ (.int .i64 ((rd_T95 l0_4 x8_4).f3))) w.heap.size (fun _ => True) u7 x7_4) := ⟨rpR (Kd.R_mono (Kd.R_far (p := ⟨gb230, 3, none⟩) (Kd.R_far (p := ⟨gb230, 2, none⟩) (Kd.R_far (p := ⟨gb230, 1, none⟩) (Kd.R_far (p := ⟨gb230, 0, none⟩) (Kd.R_types HO_7.out BK230.out (by decide)) (fun _ hk => hk.2) (.int .i64 ((rd_T95 l0_4 x8_4).f0))) (fun _ hk => hk.2) (.string ((rd_T95 l0_4 x8_4).f1))) (fun _ hk => hk.2) (.string ((rd_T95 l0_4 x8_4).f2))) (fun _ hk => hk.2) (.int .i64 ((rd_T95 l0_4 x8_4).f3))) (fun _ hk => trivial))⟩
                   have n1_ : Aside0 (((((w185.setCell ⟨gb230, 0, none⟩ (.int .i64 ((rd_T95 l0_4 x8_4).f0))).setCell ⟨gb230, 1, none⟩ (.string ((rd_T95 l0_4 x8_4).f1))).setCell ⟨gb230, 2, none⟩ (.string ((rd_T95 l0_4 x8_4).f2))).setCell ⟨gb230, 3, none⟩ (.int .i64 ((rd_T95 l0_4 x8_4).f3))).heap[gb194]? = some (.cells #[.int .i64 a0_0, .int .i64 a0_1, .slice A0_2 l0_2.length c0_2, .slice A0_3 l0_3.length c0_3, .slice (some ad229) l0_4.length c0_4] 26 (0, 0))) := ⟨bkk⟩
                   have n2_ : Aside0 (((((w185.setCell ⟨gb230, 0, none⟩ (.int .i64 ((rd_T95 l0_4 x8_4).f0))).setCell ⟨gb230, 1, none⟩ (.string ((rd_T95 l0_4 x8_4).f1))).setCell ⟨gb230, 2, none⟩ (.string ((rd_T95 l0_4 x8_4).f2))).setCell ⟨gb230, 3, none⟩ (.int .i64 ((rd_T95 l0_4 x8_4).f3))).heap[gb230]? = some (.cells #[.int .i64 ((rd_T95 l0_4 x8_4).f0), .string ((rd_T95 l0_4 x8_4).f1), .string ((rd_T95 l0_4 x8_4).f2), .int .i64 ((rd_T95 l0_4 x8_4).f3)] 95 (0, 0))) := ⟨bkk⟩
                   have n3_ : Aside0 (Below w.heap.size w ((((w185.setCell ⟨gb230, 0, none⟩ (.int .i64 ((rd_T95 l0_4 x8_4).f0))).setCell ⟨gb230, 1, none⟩ (.string ((rd_T95 l0_4 x8_4).f1))).setCell ⟨gb230, 2, none⟩ (.string ((rd_T95 l0_4 x8_4).f2))).setCell ⟨gb230, 3, none⟩ (.int .i64 ((rd_T95 l0_4 x8_4).f3)))) := ⟨bl⟩
                   (try clear HO_7)
                   (try clear BK194)
                   (try clear BK230)
                   (try clear HB)
                   generalize ((((w185.setCell ⟨gb230, 0, none⟩ (.int .i64 ((rd_T95 l0_4 x8_4).f0))).setCell ⟨gb230, 1, none⟩ (.string ((rd_T95 l0_4 x8_4).f1))).setCell ⟨gb230, 2, none⟩ (.string ((rd_T95 l0_4 x8_4).f2))).setCell ⟨gb230, 3, none⟩ (.int .i64 ((rd_T95 l0_4 x8_4).f3))) = w191 at n0_ n1_ n2_ n3_ ⊢
                   have HO_7 := n0_
                   have BK194 := n1_
                   have BK230 := n2_
                   have HB := n3_
                   clear n0_ n1_ n2_ n3_
                   replace HO_7 := Aside0.mk (Kd.R_drew HO_7.out); replace BK194 := Aside0.mk (blk_drew BK194.out); replace BK230 := Aside0.mk (blk_drew BK230.out); replace HB := Aside0.mk (below_drew1 HB.out)
                   refine start_ (n := 26) (S := fun w' => w'.cell? ⟨gb230, 0, none⟩ = some (.int .i64 ((rd_T95 l0_4 x8_4).f0)) ∧ w'.cell? ⟨gb230, 1, none⟩ = some (.string ((rd_T95 l0_4 x8_4).f1)) ∧ w'.cell? ⟨gb230, 2, none⟩ = some (.string ((rd_T95 l0_4 x8_4).f2)) ∧ w'.cell? ⟨gb230, 3, none⟩ = some (.int .i64 ((rd_T95 l0_4 x8_4).f3)) ∧ w'.cell? ⟨gb194, 0, none⟩ = some (.int .i64 a0_0) ∧ w'.cell? ⟨gb194, 1, none⟩ = some (.int .i64 a0_1) ∧ w'.cell? ⟨gb194, 2, none⟩ = some (.slice A0_2 l0_2.length c0_2) ∧ w'.cell? ⟨gb194, 3, none⟩ = some (.slice A0_3 l0_3.length c0_3) ∧ w'.cell? ⟨gb194, 4, none⟩ = some (.slice (some ad229) l0_4.length c0_4)) (ds := []) (bo 26 0) (by kernel_rfl) rfl rfl ⟨cb 0 BK230, cb 1 BK230, cb 2 BK230, cb 3 BK230, cb 0 BK194, cb 1 BK194, cb 2 BK194, cb 3 BK194, cb 4 BK194⟩ (fun hHeld => ?_); refine with_tabW spec_DiskOk.tab22 spec_DiskOk.bits22 (fun HT_ HW_ => ?_)
                   generalize w191.drew = w192 at HO_7 BK194 BK230 HB hHeld ⊢
                   refine pV 0 169 (bo 26 1) ?_
                   refine tV 1 170 (bo 26 3) ?_
                   refine pV 2 171 (bo 26 7) ?_
                   refine pV 3 172 (bo 26 15) ?_
                   refine pV 5 174 (bo 26 47) ?_
                   refine tV 4 173 (bo 26 63) ?_
                   refine tV 6 175 (bo 26 127) ?_
                   refine one_ (i := 7) (N := some 176) (bo 26 255) rfl rfl (one_of HT_.out (by kernel_rfl)) (by decide) (fun K hK => ?_)
                   refine goes_ Try.func80 (by kernel_rfl) rfl #[.agg #[.int .i64 a0_0, .int .i64 a0_1, .slice A0_2 l0_2.length c0_2, .slice A0_3 l0_3.length c0_3, .slice (some ad229) l0_4.length c0_4], .int .i64 ((rd_T95 l0_4 x8_4).f3)] (by rfl) rfl rfl sa ?_
                   with_reducible refine (spec_l4Inode.calls k4 a0_0 a0_1 _ _ l0_2 _ _ l0_3 _ _ l0_4 ((rd_T95 l0_4 x8_4).f3) t231 _ ?side1 ?side2 ?side3 ?side4 ?side5 ?side6 A189.out).mono ?_
                   (case side1 => exact ca (Kd.C_below HR0_2.out HB.out))
                   (case side2 => exact HC0_2.out)
                   (case side3 => exact ca (Kd.C_below HR0_3.out HB.out))
                   (case side4 => exact HC0_3.out)
                   (case side5 => exact ca (Kd.C_below HR0_4.out HB.out))
                   (case side6 => exact HC0_4.out)
                   rintro e w193 ⟨rfl, hb⟩
                   refine ⟨_, rfl, ?_⟩
                   replace HO_7 := Aside0.mk (Kd.R_below (rpR HO_7.out) hb); replace BK194 := bv BK194 hb; replace BK230 := bv BK230 hb; replace HB := bs (w := w) hb; (try clear hb hb2 hk hi)
                   refine hK.out _ _ ⟨cb 0 BK230, cb 1 BK230, cb 2 BK230, cb 3 BK230, cb 0 BK194, cb 1 BK194, cb 2 BK194, cb 3 BK194, cb 4 BK194⟩ (fun hHeld => ?_)
                   clear hK K
                   refine norm_ (a' := ?_) ?_ ?_
                   rotate_left
                   ·show Act.put _ (some 176) _ = _
                    simp only [Act.put, List.setIfInBounds_toArray, List.set_cons_zero, List.set_cons_succ, i64_w, i32_w]
                    rfl
                   refine pV 8 177 (bo 26 511) ?_
                   refine pV 9 178 (bo 26 1023) ?_
                   refine pU 10 179 (bo 26 2047) ?_
                   refine pU 11 180 (bo 26 4095) ?_
                   refine pU 12 181 (bo 26 8191) ?_
                   refine pU 13 182 (bo 26 16383) ?_
                   refine pU 14 183 (bo 26 32767) ?_
                   refine pV 15 184 (bo 26 65535) ?_
                   refine pV 16 185 (bo 26 131071) ?_
                   refine pU 17 186 (bo 26 262143) ?_
                   refine pU 18 187 (bo 26 524287) ?_
                   refine pU 19 188 (bo 26 1048575) ?_
                   refine pU 20 189 (bo 26 2097151) ?_
                   refine pU 21 190 (bo 26 4194303) ?_
                   refine pU 22 191 (bo 26 8388607) ?_
                   refine pU 23 192 (bo 26 16777215) ?_
                   refine pV 24 193 (bo 26 33554431) ?_
                   refine pV 25 194 (bo 26 67108863) ?_
                   refine done_ (done_of HT_.out (by kernel_rfl)) ?_
                   try go_wp2
                   go_meet
                   case rel => exact ⟨_, (true), fa, H', ⟨by have := HJ1.out; have := HK2.out; have := HK3.out; have := HK4.out; first | omega | exact Nat.le_refl _⟩, ⟨rpR HO_7.out⟩, ⟨by (with_reducible repeat (first | refine blk_drewN ?_ _ | refine blk_drew ?_ | refine blk_alloc ?_ _)); exact BK194.out⟩, ⟨by (with_reducible repeat (first | refine blk_drewN ?_ _ | refine blk_drew ?_ | refine blk_alloc ?_ _)); exact BK230.out⟩, ⟨bl⟩⟩
                  ·rw [if_neg c190] at H
                   have c190b0 : decide (t231 < 0) = false := decide_eq_false c190
                   clear c190
                   obtain ⟨t232, A194, H⟩ := bd H
                   by_cases c195 : t232 = true
                   ·subst c195
                    replace H := iT H
                    have H' := Aside0.mk H
                    clear H
                    try go_wp2
                    have n0_ : Aside0 (Kd.R k93 93 ((((w185.setCell ⟨gb230, 0, none⟩ (.int .i64 ((rd_T95 l0_4 x8_4).f0))).setCell ⟨gb230, 1, none⟩ (.string ((rd_T95 l0_4 x8_4).f1))).setCell ⟨gb230, 2, none⟩ (.string ((rd_T95 l0_4 x8_4).f2))).setCell ⟨gb230, 3, none⟩ (.int .i64 ((rd_T95 l0_4 x8_4).f3))) w.heap.size (fun _ => True) u7 x7_4) := ⟨rpR (Kd.R_mono (Kd.R_far (p := ⟨gb230, 3, none⟩) (Kd.R_far (p := ⟨gb230, 2, none⟩) (Kd.R_far (p := ⟨gb230, 1, none⟩) (Kd.R_far (p := ⟨gb230, 0, none⟩) (Kd.R_types HO_7.out BK230.out (by decide)) (fun _ hk => hk.2) (.int .i64 ((rd_T95 l0_4 x8_4).f0))) (fun _ hk => hk.2) (.string ((rd_T95 l0_4 x8_4).f1))) (fun _ hk => hk.2) (.string ((rd_T95 l0_4 x8_4).f2))) (fun _ hk => hk.2) (.int .i64 ((rd_T95 l0_4 x8_4).f3))) (fun _ hk => trivial))⟩
                    have n1_ : Aside0 (((((w185.setCell ⟨gb230, 0, none⟩ (.int .i64 ((rd_T95 l0_4 x8_4).f0))).setCell ⟨gb230, 1, none⟩ (.string ((rd_T95 l0_4 x8_4).f1))).setCell ⟨gb230, 2, none⟩ (.string ((rd_T95 l0_4 x8_4).f2))).setCell ⟨gb230, 3, none⟩ (.int .i64 ((rd_T95 l0_4 x8_4).f3))).heap[gb194]? = some (.cells #[.int .i64 a0_0, .int .i64 a0_1, .slice A0_2 l0_2.length c0_2, .slice A0_3 l0_3.length c0_3, .slice (some ad229) l0_4.length c0_4] 26 (0, 0))) := ⟨bkk⟩
                    have n2_ : Aside0 (((((w185.setCell ⟨gb230, 0, none⟩ (.int .i64 ((rd_T95 l0_4 x8_4).f0))).setCell ⟨gb230, 1, none⟩ (.string ((rd_T95 l0_4 x8_4).f1))).setCell ⟨gb230, 2, none⟩ (.string ((rd_T95 l0_4 x8_4).f2))).setCell ⟨gb230, 3, none⟩ (.int .i64 ((rd_T95 l0_4 x8_4).f3))).heap[gb230]? = some (.cells #[.int .i64 ((rd_T95 l0_4 x8_4).f0), .string ((rd_T95 l0_4 x8_4).f1), .string ((rd_T95 l0_4 x8_4).f2), .int .i64 ((rd_T95 l0_4 x8_4).f3)] 95 (0, 0))) := ⟨bkk⟩
                    have n3_ : Aside0 (Below w.heap.size w ((((w185.setCell ⟨gb230, 0, none⟩ (.int .i64 ((rd_T95 l0_4 x8_4).f0))).setCell ⟨gb230, 1, none⟩ (.string ((rd_T95 l0_4 x8_4).f1))).setCell ⟨gb230, 2, none⟩ (.string ((rd_T95 l0_4 x8_4).f2))).setCell ⟨gb230, 3, none⟩ (.int .i64 ((rd_T95 l0_4 x8_4).f3)))) := ⟨bl⟩
                    (try clear HO_7)
                    (try clear BK194)
                    (try clear BK230)
                    (try clear HB)
                    generalize ((((w185.setCell ⟨gb230, 0, none⟩ (.int .i64 ((rd_T95 l0_4 x8_4).f0))).setCell ⟨gb230, 1, none⟩ (.string ((rd_T95 l0_4 x8_4).f1))).setCell ⟨gb230, 2, none⟩ (.string ((rd_T95 l0_4 x8_4).f2))).setCell ⟨gb230, 3, none⟩ (.int .i64 ((rd_T95 l0_4 x8_4).f3))) = w196 at n0_ n1_ n2_ n3_ ⊢
                    have HO_7 := n0_
                    have BK194 := n1_
                    have BK230 := n2_
                    have HB := n3_
                    clear n0_ n1_ n2_ n3_
                    replace HO_7 := Aside0.mk (Kd.R_drew HO_7.out); replace BK194 := Aside0.mk (blk_drew BK194.out); replace BK230 := Aside0.mk (blk_drew BK230.out); replace HB := Aside0.mk (below_drew1 HB.out)
                    refine start_ (n := 26) (S := fun w' => w'.cell? ⟨gb230, 0, none⟩ = some (.int .i64 ((rd_T95 l0_4 x8_4).f0)) ∧ w'.cell? ⟨gb230, 1, none⟩ = some (.string ((rd_T95 l0_4 x8_4).f1)) ∧ w'.cell? ⟨gb230, 2, none⟩ = some (.string ((rd_T95 l0_4 x8_4).f2)) ∧ w'.cell? ⟨gb230, 3, none⟩ = some (.int .i64 ((rd_T95 l0_4 x8_4).f3)) ∧ w'.cell? ⟨gb194, 0, none⟩ = some (.int .i64 a0_0) ∧ w'.cell? ⟨gb194, 1, none⟩ = some (.int .i64 a0_1) ∧ w'.cell? ⟨gb194, 2, none⟩ = some (.slice A0_2 l0_2.length c0_2) ∧ w'.cell? ⟨gb194, 3, none⟩ = some (.slice A0_3 l0_3.length c0_3) ∧ w'.cell? ⟨gb194, 4, none⟩ = some (.slice (some ad229) l0_4.length c0_4)) (ds := []) (bo 26 0) (by kernel_rfl) rfl rfl ⟨cb 0 BK230, cb 1 BK230, cb 2 BK230, cb 3 BK230, cb 0 BK194, cb 1 BK194, cb 2 BK194, cb 3 BK194, cb 4 BK194⟩ (fun hHeld => ?_); refine with_tabW spec_DiskOk.tab22 spec_DiskOk.bits22 (fun HT_ HW_ => ?_)
                    generalize w196.drew = w197 at HO_7 BK194 BK230 HB hHeld ⊢
                    refine pV 0 169 (bo 26 1) ?_
                    refine tV 1 170 (bo 26 3) ?_
                    refine pV 2 171 (bo 26 7) ?_
                    refine pV 3 172 (bo 26 15) ?_
                    refine pV 5 174 (bo 26 47) ?_
                    refine tV 4 173 (bo 26 63) ?_
                    refine tV 6 175 (bo 26 127) ?_
                    refine one_ (i := 7) (N := some 176) (bo 26 255) rfl rfl (one_of HT_.out (by kernel_rfl)) (by decide) (fun K hK => ?_)
                    refine goes_ Try.func80 (by kernel_rfl) rfl #[.agg #[.int .i64 a0_0, .int .i64 a0_1, .slice A0_2 l0_2.length c0_2, .slice A0_3 l0_3.length c0_3, .slice (some ad229) l0_4.length c0_4], .int .i64 ((rd_T95 l0_4 x8_4).f3)] (by rfl) rfl rfl sa ?_
                    with_reducible refine (spec_l4Inode.calls k4 a0_0 a0_1 _ _ l0_2 _ _ l0_3 _ _ l0_4 ((rd_T95 l0_4 x8_4).f3) t231 _ ?side1 ?side2 ?side3 ?side4 ?side5 ?side6 A189.out).mono ?_
                    (case side1 => exact ca (Kd.C_below HR0_2.out HB.out))
                    (case side2 => exact HC0_2.out)
                    (case side3 => exact ca (Kd.C_below HR0_3.out HB.out))
                    (case side4 => exact HC0_3.out)
                    (case side5 => exact ca (Kd.C_below HR0_4.out HB.out))
                    (case side6 => exact HC0_4.out)
                    rintro e w198 ⟨rfl, hb⟩
                    refine ⟨_, rfl, ?_⟩
                    replace HO_7 := Aside0.mk (Kd.R_below (rpR HO_7.out) hb); replace BK194 := bv BK194 hb; replace BK230 := bv BK230 hb; replace HB := bs (w := w) hb; (try clear hb hb2 hk hi)
                    refine hK.out _ _ ⟨cb 0 BK230, cb 1 BK230, cb 2 BK230, cb 3 BK230, cb 0 BK194, cb 1 BK194, cb 2 BK194, cb 3 BK194, cb 4 BK194⟩ (fun hHeld => ?_)
                    clear hK K
                    refine norm_ (a' := ?_) ?_ ?_
                    rotate_left
                    ·show Act.put _ (some 176) _ = _
                     simp only [Act.put, List.setIfInBounds_toArray, List.set_cons_zero, List.set_cons_succ, i64_w, i32_w]
                     rfl
                    refine pV 8 177 (bo 26 511) ?_
                    refine pV 9 178 (bo 26 1023) ?_
                    refine pV 10 179 (bo 26 2047) ?_
                    refine pV 12 181 (bo 26 6143) ?_
                    refine tV 11 180 (bo 26 8191) ?_
                    refine tV 13 182 (bo 26 16383) ?_
                    refine one_ (i := 14) (N := some 183) (bo 26 32767) rfl rfl (one_of HT_.out (by kernel_rfl)) (by decide) (fun K hK => ?_)
                    refine goes_ Try.func77 (by kernel_rfl) rfl #[.slice A0_3 l0_3.length c0_3, .int .i64 ((rd_T95 l0_4 x8_4).f3)] (by rfl) rfl rfl sa ?_
                    with_reducible refine (spec_l4Linked.calls k4 _ _ l0_3 ((rd_T95 l0_4 x8_4).f3) true _ ?side1 ?side2 A194.out).mono ?_
                    (case side1 => exact ca (Kd.C_below HR0_3.out HB.out))
                    (case side2 => exact HC0_3.out)
                    rintro e w' ⟨rfl, ⟨nd, rfl⟩⟩
                    refine ⟨_, rfl, ?_⟩
                    refine hK.out _ _ ⟨cb 0 BK230, cb 1 BK230, cb 2 BK230, cb 3 BK230, cb 0 BK194, cb 1 BK194, cb 2 BK194, cb 3 BK194, cb 4 BK194⟩ (fun hHeld => ?_)
                    clear hK K
                    refine norm_ (a' := ?_) ?_ ?_
                    rotate_left
                    ·show Act.put _ (some 183) _ = _
                     simp only [Act.put, List.setIfInBounds_toArray, List.set_cons_zero, List.set_cons_succ, i64_w, i32_w]
                     rfl
                    refine pV 15 184 (bo 26 65535) ?_
                    refine pV 16 185 (bo 26 131071) ?_
                    refine pU 17 186 (bo 26 262143) ?_
                    refine pU 18 187 (bo 26 524287) ?_
                    refine pU 19 188 (bo 26 1048575) ?_
                    refine pU 20 189 (bo 26 2097151) ?_
                    refine pU 21 190 (bo 26 4194303) ?_
                    refine pU 22 191 (bo 26 8388607) ?_
                    refine pU 23 192 (bo 26 16777215) ?_
                    refine pV 24 193 (bo 26 33554431) ?_
                    refine pV 25 194 (bo 26 67108863) ?_
                    refine done_ (done_of HT_.out (by kernel_rfl)) ?_
                    try go_wp2
                    go_meet
                    case rel => exact ⟨_, (true), fa, H', ⟨by have := HJ1.out; have := HK2.out; have := HK3.out; have := HK4.out; first | omega | exact Nat.le_refl _⟩, ⟨rpR HO_7.out⟩, ⟨by (with_reducible repeat (first | refine blk_drewN ?_ _ | refine blk_drew ?_ | refine blk_alloc ?_ _)); exact BK194.out⟩, ⟨by (with_reducible repeat (first | refine blk_drewN ?_ _ | refine blk_drew ?_ | refine blk_alloc ?_ _)); exact BK230.out⟩, ⟨bl⟩⟩
                   ·replace c195 := Bool.eq_false_iff.mpr c195
                    subst c195
                    replace H := iF H
                    have c199b0 := eq_true (of_decide_eq_true am : 0 ≤ x8_4)
                    by_cases c200 : x8_4 ≤ (l0_4.length : Int)
                    ·rw [if_pos c200] at H
                     have c200b0 := eq_true c200
                     have c200b1 : decide (x8_4 ≤ (l0_4.length : Int)) = true := decide_eq_true c200
                     clear c200
                     obtain ⟨y233, hy233⟩ : ∃ y_ : List (S95), y_ = (l0_4.take (x8_4 : Int).toNat) := ⟨_, rfl⟩
                     replace H : ((spec_l4Made.f k4 y233 ((rd_T95 l0_4 x8_4).f3)).bind fun t237 => (spec_DiskOk.j4 k4 x7_4 x8_4 t237 a0_0 a0_1 l0_2 l0_3 l0_4 ((rd_T95 l0_4 x8_4).f0) ((rd_T95 l0_4 x8_4).f1) ((rd_T95 l0_4 x8_4).f2) ((rd_T95 l0_4 x8_4).f3))) = some r := by first | (rw [hy233]; with_reducible exact H) | (have H2_ := (Option.bind_some _ _).symm.trans H; rw [hy233]; with_reducible exact H2_) | (have H2_ := (Option.bind_some _ _).symm.trans H; with_reducible exact H2_) | with_reducible exact H | (rw [hy233]; exact H) | exact H
                     have Ny233 := Aside0.mk hy233
                     clear hy233
                     obtain ⟨t237, A201, H⟩ := bd H
                     have H' := Aside0.mk H
                     clear H
                     try go_wp2
                     have n0_ : Aside0 (Kd.R k93 93 ((((w185.setCell ⟨gb230, 0, none⟩ (.int .i64 ((rd_T95 l0_4 x8_4).f0))).setCell ⟨gb230, 1, none⟩ (.string ((rd_T95 l0_4 x8_4).f1))).setCell ⟨gb230, 2, none⟩ (.string ((rd_T95 l0_4 x8_4).f2))).setCell ⟨gb230, 3, none⟩ (.int .i64 ((rd_T95 l0_4 x8_4).f3))) w.heap.size (fun _ => True) u7 x7_4) := ⟨rpR (Kd.R_mono (Kd.R_far (p := ⟨gb230, 3, none⟩) (Kd.R_far (p := ⟨gb230, 2, none⟩) (Kd.R_far (p := ⟨gb230, 1, none⟩) (Kd.R_far (p := ⟨gb230, 0, none⟩) (Kd.R_types HO_7.out BK230.out (by decide)) (fun _ hk => hk.2) (.int .i64 ((rd_T95 l0_4 x8_4).f0))) (fun _ hk => hk.2) (.string ((rd_T95 l0_4 x8_4).f1))) (fun _ hk => hk.2) (.string ((rd_T95 l0_4 x8_4).f2))) (fun _ hk => hk.2) (.int .i64 ((rd_T95 l0_4 x8_4).f3))) (fun _ hk => trivial))⟩
                     have n1_ : Aside0 (((((w185.setCell ⟨gb230, 0, none⟩ (.int .i64 ((rd_T95 l0_4 x8_4).f0))).setCell ⟨gb230, 1, none⟩ (.string ((rd_T95 l0_4 x8_4).f1))).setCell ⟨gb230, 2, none⟩ (.string ((rd_T95 l0_4 x8_4).f2))).setCell ⟨gb230, 3, none⟩ (.int .i64 ((rd_T95 l0_4 x8_4).f3))).heap[gb194]? = some (.cells #[.int .i64 a0_0, .int .i64 a0_1, .slice A0_2 l0_2.length c0_2, .slice A0_3 l0_3.length c0_3, .slice (some ad229) l0_4.length c0_4] 26 (0, 0))) := ⟨bkk⟩
                     have n2_ : Aside0 (((((w185.setCell ⟨gb230, 0, none⟩ (.int .i64 ((rd_T95 l0_4 x8_4).f0))).setCell ⟨gb230, 1, none⟩ (.string ((rd_T95 l0_4 x8_4).f1))).setCell ⟨gb230, 2, none⟩ (.string ((rd_T95 l0_4 x8_4).f2))).setCell ⟨gb230, 3, none⟩ (.int .i64 ((rd_T95 l0_4 x8_4).f3))).heap[gb230]? = some (.cells #[.int .i64 ((rd_T95 l0_4 x8_4).f0), .string ((rd_T95 l0_4 x8_4).f1), .string ((rd_T95 l0_4 x8_4).f2), .int .i64 ((rd_T95 l0_4 x8_4).f3)] 95 (0, 0))) := ⟨bkk⟩
                     have n3_ : Aside0 (Below w.heap.size w ((((w185.setCell ⟨gb230, 0, none⟩ (.int .i64 ((rd_T95 l0_4 x8_4).f0))).setCell ⟨gb230, 1, none⟩ (.string ((rd_T95 l0_4 x8_4).f1))).setCell ⟨gb230, 2, none⟩ (.string ((rd_T95 l0_4 x8_4).f2))).setCell ⟨gb230, 3, none⟩ (.int .i64 ((rd_T95 l0_4 x8_4).f3)))) := ⟨bl⟩
                     (try clear HO_7)
                     (try clear BK194)
                     (try clear BK230)
                     (try clear HB)
                     generalize ((((w185.setCell ⟨gb230, 0, none⟩ (.int .i64 ((rd_T95 l0_4 x8_4).f0))).setCell ⟨gb230, 1, none⟩ (.string ((rd_T95 l0_4 x8_4).f1))).setCell ⟨gb230, 2, none⟩ (.string ((rd_T95 l0_4 x8_4).f2))).setCell ⟨gb230, 3, none⟩ (.int .i64 ((rd_T95 l0_4 x8_4).f3))) = w202 at n0_ n1_ n2_ n3_ ⊢
                     have HO_7 := n0_
                     have BK194 := n1_
                     have BK230 := n2_
                     have HB := n3_
                     clear n0_ n1_ n2_ n3_
                     replace HO_7 := Aside0.mk (Kd.R_drew HO_7.out); replace BK194 := Aside0.mk (blk_drew BK194.out); replace BK230 := Aside0.mk (blk_drew BK230.out); replace HB := Aside0.mk (below_drew1 HB.out)
                     refine start_ (n := 26) (S := fun w' => w'.cell? ⟨gb230, 0, none⟩ = some (.int .i64 ((rd_T95 l0_4 x8_4).f0)) ∧ w'.cell? ⟨gb230, 1, none⟩ = some (.string ((rd_T95 l0_4 x8_4).f1)) ∧ w'.cell? ⟨gb230, 2, none⟩ = some (.string ((rd_T95 l0_4 x8_4).f2)) ∧ w'.cell? ⟨gb230, 3, none⟩ = some (.int .i64 ((rd_T95 l0_4 x8_4).f3)) ∧ w'.cell? ⟨gb194, 0, none⟩ = some (.int .i64 a0_0) ∧ w'.cell? ⟨gb194, 1, none⟩ = some (.int .i64 a0_1) ∧ w'.cell? ⟨gb194, 2, none⟩ = some (.slice A0_2 l0_2.length c0_2) ∧ w'.cell? ⟨gb194, 3, none⟩ = some (.slice A0_3 l0_3.length c0_3) ∧ w'.cell? ⟨gb194, 4, none⟩ = some (.slice (some ad229) l0_4.length c0_4)) (ds := []) (bo 26 0) (by kernel_rfl) rfl rfl ⟨cb 0 BK230, cb 1 BK230, cb 2 BK230, cb 3 BK230, cb 0 BK194, cb 1 BK194, cb 2 BK194, cb 3 BK194, cb 4 BK194⟩ (fun hHeld => ?_); refine with_tabW spec_DiskOk.tab22 spec_DiskOk.bits22 (fun HT_ HW_ => ?_)
                     generalize w202.drew = w203 at HO_7 BK194 BK230 HB hHeld ⊢
                     refine pV 0 169 (bo 26 1) ?_
                     refine tV 1 170 (bo 26 3) ?_
                     refine pV 2 171 (bo 26 7) ?_
                     refine pV 3 172 (bo 26 15) ?_
                     refine pV 5 174 (bo 26 47) ?_
                     refine tV 4 173 (bo 26 63) ?_
                     refine tV 6 175 (bo 26 127) ?_
                     refine one_ (i := 7) (N := some 176) (bo 26 255) rfl rfl (one_of HT_.out (by kernel_rfl)) (by decide) (fun K hK => ?_)
                     refine goes_ Try.func80 (by kernel_rfl) rfl #[.agg #[.int .i64 a0_0, .int .i64 a0_1, .slice A0_2 l0_2.length c0_2, .slice A0_3 l0_3.length c0_3, .slice (some ad229) l0_4.length c0_4], .int .i64 ((rd_T95 l0_4 x8_4).f3)] (by rfl) rfl rfl sa ?_
                     with_reducible refine (spec_l4Inode.calls k4 a0_0 a0_1 _ _ l0_2 _ _ l0_3 _ _ l0_4 ((rd_T95 l0_4 x8_4).f3) t231 _ ?side1 ?side2 ?side3 ?side4 ?side5 ?side6 A189.out).mono ?_
                     (case side1 => exact ca (Kd.C_below HR0_2.out HB.out))
                     (case side2 => exact HC0_2.out)
                     (case side3 => exact ca (Kd.C_below HR0_3.out HB.out))
                     (case side4 => exact HC0_3.out)
                     (case side5 => exact ca (Kd.C_below HR0_4.out HB.out))
                     (case side6 => exact HC0_4.out)
                     rintro e w204 ⟨rfl, hb⟩
                     refine ⟨_, rfl, ?_⟩
                     replace HO_7 := Aside0.mk (Kd.R_below (rpR HO_7.out) hb); replace BK194 := bv BK194 hb; replace BK230 := bv BK230 hb; replace HB := bs (w := w) hb; (try clear hb hb2 hk hi)
                     refine hK.out _ _ ⟨cb 0 BK230, cb 1 BK230, cb 2 BK230, cb 3 BK230, cb 0 BK194, cb 1 BK194, cb 2 BK194, cb 3 BK194, cb 4 BK194⟩ (fun hHeld => ?_)
                     clear hK K
                     refine norm_ (a' := ?_) ?_ ?_
                     rotate_left
                     ·show Act.put _ (some 176) _ = _
                      simp only [Act.put, List.setIfInBounds_toArray, List.set_cons_zero, List.set_cons_succ, i64_w, i32_w]
                      rfl
                     refine pV 8 177 (bo 26 511) ?_
                     refine pV 9 178 (bo 26 1023) ?_
                     refine pV 10 179 (bo 26 2047) ?_
                     refine pV 12 181 (bo 26 6143) ?_
                     refine tV 11 180 (bo 26 8191) ?_
                     refine tV 13 182 (bo 26 16383) ?_
                     refine one_ (i := 14) (N := some 183) (bo 26 32767) rfl rfl (one_of HT_.out (by kernel_rfl)) (by decide) (fun K hK => ?_)
                     refine goes_ Try.func77 (by kernel_rfl) rfl #[.slice A0_3 l0_3.length c0_3, .int .i64 ((rd_T95 l0_4 x8_4).f3)] (by rfl) rfl rfl sa ?_
                     with_reducible refine (spec_l4Linked.calls k4 _ _ l0_3 ((rd_T95 l0_4 x8_4).f3) false _ ?side1 ?side2 A194.out).mono ?_
                     (case side1 => exact ca (Kd.C_below HR0_3.out HB.out))
                     (case side2 => exact HC0_3.out)
                     rintro e w' ⟨rfl, ⟨nd, rfl⟩⟩
                     refine ⟨_, rfl, ?_⟩
                     have q205 : (x8_4 : Int) ≤ ((l0_4.length : Int) : Int) := of_decide_eq_true am
                     obtain ⟨i0205, hi0205, _, hsz205, _⟩ := info_parts info95
                     have hroom205 : l0_4.length ≤ c0_4 := HC0_4.out
                     have hC205 : Kd.C k95 _ (some ad229) l0_4.length l0_4 := HR0_4.out
                     have hcut205 := cut_to (P := Try.prog) 24 95 .i64 Try.underlying24 hi0205 (some ad229) l0_4.length c0_4 x8_4 (of_decide_eq_true am) q205 hroom205
                     have hr205 := Kd.C_take (m := (x8_4 : Int).toNat) hC205 (by omega)
                     have hy205 : y233.length = (x8_4 : Int).toNat := (by rw [Ny233.out, List.length_take]; omega)
                     rw [← Ny233.out] at hr205
                     rw [← hy205] at hcut205
                     have HR236 := Aside0.mk hr205
                     have HC236 := Aside0.mk (show y233.length ≤ c0_4 from by omega)
                     clear hr205 hC205 hroom205 hi0205 hsz205
                     have KY205 := Aside0.mk hy205
                     clear hy205
                     replace q205 := eq_true q205
                     refine hK.out _ _ ⟨cb 0 BK230, cb 1 BK230, cb 2 BK230, cb 3 BK230, cb 0 BK194, cb 1 BK194, cb 2 BK194, cb 3 BK194, cb 4 BK194⟩ (fun hHeld => ?_)
                     clear hK K
                     refine norm_ (a' := ?_) ?_ ?_
                     rotate_left
                     ·show Act.put _ (some 183) _ = _
                      simp only [Act.put, List.setIfInBounds_toArray, List.set_cons_zero, List.set_cons_succ, i64_w, i32_w]
                      rfl
                     refine pV 15 184 (bo 26 65535) ?_
                     refine pV 16 185 (bo 26 131071) ?_
                     refine pV 17 186 (bo 26 262143) ?_
                     refine pV 19 188 (bo 26 786431) ?_
                     refine pV 21 190 (bo 26 2883583) ?_
                     refine tV 18 187 (bo 26 3145727) ?_
                     refine pV 20 189 (bo 26 4194303) ?_
                     refine tV 22 191 (bo 26 8388607) ?_
                     refine one_ (i := 23) (N := some 192) (bo 26 16777215) rfl rfl (one_of HT_.out (by kernel_rfl)) (by decide) (fun K hK => ?_)
                     refine goes_ Try.func78 (by kernel_rfl) rfl #[.slice (some ad229) y233.length c0_4, .int .i64 ((rd_T95 l0_4 x8_4).f3)] (by rfl) rfl rfl sa ?_
                     with_reducible refine (spec_l4Made.calls k4 _ _ y233 ((rd_T95 l0_4 x8_4).f3) t237 _ ?side1 ?side2 A201.out).mono ?_
                     (case side1 => exact ca (Kd.C_below HR236.out bl))
                     (case side2 => exact HC236.out)
                     rintro e w' ⟨rfl, ⟨nd, rfl⟩⟩
                     refine ⟨_, rfl, ?_⟩
                     refine hK.out _ _ ⟨cb 0 BK230, cb 1 BK230, cb 2 BK230, cb 3 BK230, cb 0 BK194, cb 1 BK194, cb 2 BK194, cb 3 BK194, cb 4 BK194⟩ (fun hHeld => ?_)
                     clear hK K
                     refine norm_ (a' := ?_) ?_ ?_
                     rotate_left
                     ·show Act.put _ (some 192) _ = _
                      simp only [Act.put, List.setIfInBounds_toArray, List.set_cons_zero, List.set_cons_succ, i64_w, i32_w]
                      rfl
                     refine pV 24 193 (bo 26 33554431) ?_
                     refine pV 25 194 (bo 26 67108863) ?_
                     refine done_ (done_of HT_.out (by kernel_rfl)) ?_
                     try go_wp2
                     go_meet
                     case rel => exact ⟨_, (t237), fa, H', ⟨by have := HJ1.out; have := HK2.out; have := HK3.out; have := HK4.out; first | omega | exact Nat.le_refl _⟩, ⟨rpR HO_7.out⟩, ⟨by (with_reducible repeat (first | refine blk_drewN ?_ _ | refine blk_drew ?_ | refine blk_alloc ?_ _)); exact BK194.out⟩, ⟨by (with_reducible repeat (first | refine blk_drewN ?_ _ | refine blk_drew ?_ | refine blk_alloc ?_ _)); exact BK230.out⟩, ⟨bl⟩⟩
                    ·rw [if_neg c200] at H
                     exact absurd H (by simp)
                 ·rw [if_neg c188] at H
                  have c188b0 : (((rd_T95 l0_4 x8_4).f0) == 1) = false := beq_eq_false_iff_ne.mpr c188
                  have c188b1 : (((rd_T95 l0_4 x8_4).f0) != 1) = true := bne_iff_ne.mpr c188
                  (first | rw [c188b0] | (simp only [i64_w, i32_w]; rw [c188b0]) | skip)
                  have H' := Aside0.mk H
                  clear H
                  try go_wp2
                  have n0_ : Aside0 (Kd.R k93 93 ((((w185.setCell ⟨gb230, 0, none⟩ (.int .i64 ((rd_T95 l0_4 x8_4).f0))).setCell ⟨gb230, 1, none⟩ (.string ((rd_T95 l0_4 x8_4).f1))).setCell ⟨gb230, 2, none⟩ (.string ((rd_T95 l0_4 x8_4).f2))).setCell ⟨gb230, 3, none⟩ (.int .i64 ((rd_T95 l0_4 x8_4).f3))) w.heap.size (fun _ => True) u7 x7_4) := ⟨rpR (Kd.R_mono (Kd.R_far (p := ⟨gb230, 3, none⟩) (Kd.R_far (p := ⟨gb230, 2, none⟩) (Kd.R_far (p := ⟨gb230, 1, none⟩) (Kd.R_far (p := ⟨gb230, 0, none⟩) (Kd.R_types HO_7.out BK230.out (by decide)) (fun _ hk => hk.2) (.int .i64 ((rd_T95 l0_4 x8_4).f0))) (fun _ hk => hk.2) (.string ((rd_T95 l0_4 x8_4).f1))) (fun _ hk => hk.2) (.string ((rd_T95 l0_4 x8_4).f2))) (fun _ hk => hk.2) (.int .i64 ((rd_T95 l0_4 x8_4).f3))) (fun _ hk => trivial))⟩
                  have n1_ : Aside0 (((((w185.setCell ⟨gb230, 0, none⟩ (.int .i64 ((rd_T95 l0_4 x8_4).f0))).setCell ⟨gb230, 1, none⟩ (.string ((rd_T95 l0_4 x8_4).f1))).setCell ⟨gb230, 2, none⟩ (.string ((rd_T95 l0_4 x8_4).f2))).setCell ⟨gb230, 3, none⟩ (.int .i64 ((rd_T95 l0_4 x8_4).f3))).heap[gb194]? = some (.cells #[.int .i64 a0_0, .int .i64 a0_1, .slice A0_2 l0_2.length c0_2, .slice A0_3 l0_3.length c0_3, .slice (some ad229) l0_4.length c0_4] 26 (0, 0))) := ⟨bkk⟩
                  have n2_ : Aside0 (((((w185.setCell ⟨gb230, 0, none⟩ (.int .i64 ((rd_T95 l0_4 x8_4).f0))).setCell ⟨gb230, 1, none⟩ (.string ((rd_T95 l0_4 x8_4).f1))).setCell ⟨gb230, 2, none⟩ (.string ((rd_T95 l0_4 x8_4).f2))).setCell ⟨gb230, 3, none⟩ (.int .i64 ((rd_T95 l0_4 x8_4).f3))).heap[gb230]? = some (.cells #[.int .i64 ((rd_T95 l0_4 x8_4).f0), .string ((rd_T95 l0_4 x8_4).f1), .string ((rd_T95 l0_4 x8_4).f2), .int .i64 ((rd_T95 l0_4 x8_4).f3)] 95 (0, 0))) := ⟨bkk⟩
                  have n3_ : Aside0 (Below w.heap.size w ((((w185.setCell ⟨gb230, 0, none⟩ (.int .i64 ((rd_T95 l0_4 x8_4).f0))).setCell ⟨gb230, 1, none⟩ (.string ((rd_T95 l0_4 x8_4).f1))).setCell ⟨gb230, 2, none⟩ (.string ((rd_T95 l0_4 x8_4).f2))).setCell ⟨gb230, 3, none⟩ (.int .i64 ((rd_T95 l0_4 x8_4).f3)))) := ⟨bl⟩
                  (try clear HO_7)
                  (try clear BK194)
                  (try clear BK230)
                  (try clear HB)
                  generalize ((((w185.setCell ⟨gb230, 0, none⟩ (.int .i64 ((rd_T95 l0_4 x8_4).f0))).setCell ⟨gb230, 1, none⟩ (.string ((rd_T95 l0_4 x8_4).f1))).setCell ⟨gb230, 2, none⟩ (.string ((rd_T95 l0_4 x8_4).f2))).setCell ⟨gb230, 3, none⟩ (.int .i64 ((rd_T95 l0_4 x8_4).f3))) = w206 at n0_ n1_ n2_ n3_ ⊢
                  have HO_7 := n0_
                  have BK194 := n1_
                  have BK230 := n2_
                  have HB := n3_
                  clear n0_ n1_ n2_ n3_
                  replace HO_7 := Aside0.mk (Kd.R_drew HO_7.out); replace BK194 := Aside0.mk (blk_drew BK194.out); replace BK230 := Aside0.mk (blk_drew BK230.out); replace HB := Aside0.mk (below_drew1 HB.out)
                  refine start_ (n := 26) (S := fun w' => w'.cell? ⟨gb230, 0, none⟩ = some (.int .i64 ((rd_T95 l0_4 x8_4).f0)) ∧ w'.cell? ⟨gb230, 1, none⟩ = some (.string ((rd_T95 l0_4 x8_4).f1)) ∧ w'.cell? ⟨gb230, 2, none⟩ = some (.string ((rd_T95 l0_4 x8_4).f2)) ∧ w'.cell? ⟨gb230, 3, none⟩ = some (.int .i64 ((rd_T95 l0_4 x8_4).f3))) (ds := []) (bo 26 0) (by kernel_rfl) rfl rfl ⟨cb 0 BK230, cb 1 BK230, cb 2 BK230, cb 3 BK230⟩ (fun hHeld => ?_); refine with_tabW spec_DiskOk.tab22 spec_DiskOk.bits22 (fun HT_ HW_ => ?_)
                  generalize w206.drew = w207 at HO_7 BK194 BK230 HB hHeld ⊢
                  refine pV 0 169 (bo 26 1) ?_
                  refine tV 1 170 (bo 26 3) ?_
                  refine pV 2 171 (bo 26 7) ?_
                  refine pV 3 172 (bo 26 15) ?_
                  refine pU 4 173 (bo 26 31) ?_
                  refine pU 5 174 (bo 26 63) ?_
                  refine pU 6 175 (bo 26 127) ?_
                  refine pU 7 176 (bo 26 255) ?_
                  refine pU 8 177 (bo 26 511) ?_
                  refine pU 9 178 (bo 26 1023) ?_
                  refine pU 10 179 (bo 26 2047) ?_
                  refine pU 11 180 (bo 26 4095) ?_
                  refine pU 12 181 (bo 26 8191) ?_
                  refine pU 13 182 (bo 26 16383) ?_
                  refine pU 14 183 (bo 26 32767) ?_
                  refine pU 15 184 (bo 26 65535) ?_
                  refine pU 16 185 (bo 26 131071) ?_
                  refine pU 17 186 (bo 26 262143) ?_
                  refine pU 18 187 (bo 26 524287) ?_
                  refine pU 19 188 (bo 26 1048575) ?_
                  refine pU 20 189 (bo 26 2097151) ?_
                  refine pU 21 190 (bo 26 4194303) ?_
                  refine pU 22 191 (bo 26 8388607) ?_
                  refine pU 23 192 (bo 26 16777215) ?_
                  refine pU 24 193 (bo 26 33554431) ?_
                  refine pV 25 194 (bo 26 67108863) ?_
                  refine done_ (done_of HT_.out (by kernel_rfl)) ?_
                  try go_wp2
                  go_meet
                  case rel => exact ⟨_, (false), fa, H', ⟨by have := HJ1.out; have := HK2.out; have := HK3.out; have := HK4.out; first | omega | exact Nat.le_refl _⟩, ⟨rpR HO_7.out⟩, ⟨by (with_reducible repeat (first | refine blk_drewN ?_ _ | refine blk_drew ?_ | refine blk_alloc ?_ _)); exact BK194.out⟩, ⟨by (with_reducible repeat (first | refine blk_drewN ?_ _ | refine blk_drew ?_ | refine blk_alloc ?_ _)); exact BK230.out⟩, ⟨bl⟩⟩
                case rest => as_aux_lemma =>
                 clear HC183
                 try clear c1
                 try clear c2
                 try clear p2
                 try clear q2
                 try clear c7
                 try clear c8
                 try clear c18
                 try clear c19
                 try clear c20
                 try clear q20
                 try clear c77
                 try clear c78
                 try clear c80
                 try clear c188
                 try clear c188b0
                 try clear c188b1
                 try clear c195
                 try clear c199
                 try clear c199b0
                 try clear c200
                 try clear c200b0
                 try clear c200b1
                 try clear q205
                 try clear q205
                 obtain ⟨kq, x194_182, rfl, HA, HJ182, HO_7, BK194, BK230, HB⟩ := hcut
                 cases kq with
                 | zero => exact absurd HA.out (by simp [spec_DiskOk.j4])
                 | succ kj182 =>
                  have H := HA.out
                  clear HA
                  simp only [spec_DiskOk.j4] at H
                  by_cases c208 : x194_182 = true
                  ·subst c208
                   replace H := iT H
                   obtain rfl := Option.some.inj H
                   go_wp2
                   go_ret
                   exact ⟨fe, bl⟩
                  ·replace c208 := Bool.eq_false_iff.mpr c208
                   subst c208
                   replace H := iF H
                   replace H := Option.bind_eq_some_iff.mp H
                   obtain ⟨⟨t238, t241⟩, A2090, H⟩ := H
                   replace H : (if t241 = true then (spec_DiskOk.l2 kj182 t238 (wrap64 (x8_4 + 1)) a0_0 a0_1 l0_2 l0_3 l0_4) else (some false)) = some r := H
                   have A209 := Aside0.mk A2090
                   clear A2090
                   by_cases c210 : t241 = true
                   ·subst c210
                    replace H := iT H
                    have H' := Aside0.mk H
                    clear H
                    have hnb211 := NB230_194.out
                    have hnc211 := NB194_230.out
                    obtain ⟨Z212_0, Z212_1, Z212_2, Z212_3, Y212_0, Y212_1, Y212_2, Y212_3⟩ := cf4 BK230
                    obtain ⟨Ao213, co213, eo213⟩ := Kd.R_slice HO_7.out
                    subst eo213
                    go_wp2_with (first | ((with_reducible refine gC 81 rfl ?_); refine goesZ (some 198) rfl Try.func81 #[.slice Ao213 x7_4.length co213, .agg #[.int .i64 ((rd_T95 l0_4 x8_4).f0), .string ((rd_T95 l0_4 x8_4).f1), .string ((rd_T95 l0_4 x8_4).f2), .int .i64 ((rd_T95 l0_4 x8_4).f3)]] ?_; (with_reducible refine (spec_l4Apply.calls kj182 (fun k_ => some k_ = (.slice Ao213 x7_4.length co213 : Value).ownBlock) (.slice Ao213 x7_4.length co213) x7_4 ((rd_T95 l0_4 x8_4).f0) ((rd_T95 l0_4 x8_4).f1) ((rd_T95 l0_4 x8_4).f2) ((rd_T95 l0_4 x8_4).f3) t238 true w _ ?side1 ?side2 A209.out).mono ?_); (case side1 => repeat (first | (with_reducible first | exact HB.out | apply below_alloc | apply pw_below_drewN | apply below_drew1 | refine below_set ?_ GE194.out | refine below_set ?_ GE230.out) | exact HB.out)); (case side2 => exact Kd.R_tight rfl HO_7.out); rintro e w214 ⟨v239, rfl, ho0, hb, hkp⟩; refine ⟨_, rfl, ?_⟩; replace BK194 := Aside0.mk (blk_kept bk hkp (fun hs_ => (fun e_ => (Kd.R_ne HO_7.out BK194.out (by decide)) e_) hs_)); replace BK230 := Aside0.mk (blk_kept bk hkp (fun hs_ => (fun e_ => (Kd.R_ne HO_7.out BK230.out (by decide)) e_) hs_)); have HO240 := Aside0.mk (Kd.R_mono (ok' := fun k_ => True) ho0 (fun k_ hk_ => trivial)); replace HB := Aside0.mk (hb); clear HO_7; (try clear hb hkp ho0)))
                    go_roundg kj182
                    case measure => have := HJ1.out; have := HK2.out; have := HK3.out; have := HK4.out; have := HJ182.out; omega
                    case rel => exact ⟨(t238), (wrap64 (x8_4 + 1)), fa, H', ⟨by have := HJ1.out; have := HK2.out; have := HK3.out; have := HK4.out; have := HJ182.out; omega⟩, ⟨rpR HO240.out⟩, ⟨by (with_reducible repeat (first | refine blk_drewN ?_ _ | refine blk_drew ?_ | refine blk_alloc ?_ _)); exact BK194.out⟩, ⟨bl⟩⟩
                   ·replace c210 := Bool.eq_false_iff.mpr c210
                    subst c210
                    replace H := iF H
                    obtain rfl := Option.some.inj H
                    have hnb215 := NB230_194.out
                    have hnc215 := NB194_230.out
                    obtain ⟨Z216_0, Z216_1, Z216_2, Z216_3, Y216_0, Y216_1, Y216_2, Y216_3⟩ := cf4 BK230
                    obtain ⟨Ao217, co217, eo217⟩ := Kd.R_slice HO_7.out
                    subst eo217
                    go_wp2_with (first | ((with_reducible refine gC 81 rfl ?_); refine goesZ (some 198) rfl Try.func81 #[.slice Ao217 x7_4.length co217, .agg #[.int .i64 ((rd_T95 l0_4 x8_4).f0), .string ((rd_T95 l0_4 x8_4).f1), .string ((rd_T95 l0_4 x8_4).f2), .int .i64 ((rd_T95 l0_4 x8_4).f3)]] ?_; (with_reducible refine (spec_l4Apply.calls kj182 (fun k_ => some k_ = (.slice Ao217 x7_4.length co217 : Value).ownBlock) (.slice Ao217 x7_4.length co217) x7_4 ((rd_T95 l0_4 x8_4).f0) ((rd_T95 l0_4 x8_4).f1) ((rd_T95 l0_4 x8_4).f2) ((rd_T95 l0_4 x8_4).f3) t238 false w _ ?side1 ?side2 A209.out).mono ?_); (case side1 => repeat (first | (with_reducible first | exact HB.out | apply below_alloc | apply pw_below_drewN | apply below_drew1 | refine below_set ?_ GE194.out | refine below_set ?_ GE230.out) | exact HB.out)); (case side2 => exact Kd.R_tight rfl HO_7.out); rintro e w218 ⟨v239, rfl, ho0, hb, hkp⟩; refine ⟨_, rfl, ?_⟩; replace BK194 := Aside0.mk (blk_kept bk hkp (fun hs_ => (fun e_ => (Kd.R_ne HO_7.out BK194.out (by decide)) e_) hs_)); replace BK230 := Aside0.mk (blk_kept bk hkp (fun hs_ => (fun e_ => (Kd.R_ne HO_7.out BK230.out (by decide)) e_) hs_)); have HO240 := Aside0.mk (Kd.R_mono (ok' := fun k_ => True) ho0 (fun k_ hk_ => trivial)); replace HB := Aside0.mk (hb); clear HO_7; (try clear hb hkp ho0)))
                    go_ret
                    exact ⟨fe, bl⟩
               ·rw [if_neg c182] at H
                exact absurd H (by simp)
              ·rw [if_neg c181] at H
               have c181b0 : decide (x8_4 < (l0_4.length : Int)) = false := decide_eq_false c181
               clear c181
               obtain rfl := Option.some.inj H
               obtain ⟨Z219_0, Z219_1, Z219_2, Z219_3, Z219_4, Y219_0, Y219_1, Y219_2, Y219_3, Y219_4⟩ := cf5 BK194
               go_wp2
               go_ret
               exact ⟨fe, bl⟩
           ·rw [if_neg c175] at H
            exact absurd H (by simp)
end Go.Proofs.Ytjcmcamijaelbaa.PDisk
