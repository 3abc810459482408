/- Functions of the program, each with its contract, written by a program out of the translation. -/
import Derived.Test.YtjcmcamijaelbaaPDiskx0
import Derived.Test.YtjcmcamijaelbaaPDiskx7
import Derived.Test.YtjcmcamijaelbaaZap
namespace Go.Proofs.Ytjcmcamijaelbaa.PDisk
open Go.RowKit Go.Proofs.YtjcmcamijaelbaaW.PrintWords Go.Proofs.YtjcmcamijaelbaaW.PrintLast Go.Proofs.YtjcmcamijaelbaaW.PrintMore Go.Proofs.Ytjcmcamijaelbaa.Zip
attribute [local go_sem] max2_int min2_int max_two min_two max_three min_three max_four min_four   -- for this text's walks alone
set_option linter.unusedVariables false
set_option linter.unusedSimpArgs false
/-! ### impl_Inode_139: function 139 -/
def impl_Inode_139.f (l0 : List (S89)) : Option ((List (S89))) := if l0.length < 4398046511104 then some l0 else none
set_option maxHeartbeats 8000000 in
set_option maxRecDepth 100000 in
theorem impl_Inode_139.calls (A0 : Option Addr) (c0 : Nat) (l0 : List (S89)) (r : List (S89)) (w : World) (hr0 : Kd.C k89 w A0 l0.length l0) (hc0 : l0.length ≤ c0) (h : impl_Inode_139.f l0 = some r) :
 Calls Try.prog 139 #[.slice A0 l0.length c0] w fun e w' => ∃ v0_ : Value, e = .returned (v0_) ∧ Kd.R k89 89 w' w.heap.size (fun _ => True) v0_ r ∧ Below w.heap.size w w' := by
 have c1 : l0.length < 4398046511104 := by
  by_cases c : l0.length < 4398046511104
  ·exact c
  ·simp [impl_Inode_139.f, c] at h
 obtain rfl : l0 = r := by simpa [impl_Inode_139.f, c1] using h
 have LMc := aK c1; clear c1 h; have HB := aK (Below.refl w.heap.size w); cases A0 with
 | none =>
  have hl : l0 = [] := by
   rcases Nat.eq_zero_or_pos l0.length with g | g
   ·exact List.length_eq_zero_iff.1 g
   ·obtain ⟨ad, e, _⟩ := hr0.2.2 g; cases e
  subst hl; clear hr0 hc0; have hq := fun (w : World) (n c : Nat) => Lib.run_eql_slice_nil (P := Try.prog) w 22 89 none n c 0 0 Try.underlying22
  simp only [Option.isNone_none] at hq
  go_enter Try.func139, Try.ntmps139
  go_wp2
  go_ret
  exact ⟨_, rfl, Kd.R_nil _ _ _ _ _, bl⟩
 | some ad =>
  have HR0 := aK hr0; clear hr0 hc0; have hq := fun (w : World) (n c : Nat) => Lib.run_eql_slice_nil (P := Try.prog) w 22 89 (some ad) n c 0 0 Try.underlying22
  simp only [Option.isNone_some] at hq
  go_enter Try.func139, Try.ntmps139
  go_wp2_with (first | ((with_reducible refine gD 5 rfl ?_); refine Kd.R_lit k89 _ 89 ?hg (N := 5) ?hd (xs := ([] : List (S89))) (inner := []) (ok := fun _ => True) (okp := fun _ => True) ?hr ?hp (fun _ hk => hk) trivial (Below.refl _ _) (Nat.le_refl _) (by simp) ?_; (case hd => rfl); (case hg => rfl); (case hr => first | (go_simp; done) | (go_simp; rfl)); (case hp => exact (Reps.none _ _)); intro v1 w1 ho hb hg_ hnew_; clear hg_ hnew_; have HO := rl HB ho; replace HB := bS HB hb; clear hb ho) | ((with_reducible refine gate_builtin (b := .append) (xs := #[.tmp 5, .tmp 6]) rfl ?_); at_builtin; refine Kd.R_append_rows k89 (w0 := w) w.heap.size rfl (.tmp 5) (.tmp 6) 22 89 (.agg #[(.int .i64 0), (.string ⟨#[]⟩), (.int .i64 0)]) 32 rfl Try.underlying22 info89 rfl (by decide) (by omega) v1 [] l0 _ _ _ (fun _ => True) (fun _ => False) rfl rfl ?aO ?aR (fun _ _ h => h) (fun _ h => h.elim) ?aF ?aB ?aS ?aL ?_; (case aR => exact (Kd.C_below HR0.o bl)); (case aB => exact bl); (case aF => exact (fun _ _ => trivial)); (case aO => exact HO.o); (case aS => exact (below_size bl)); (case aL => have := LMc.o; simp; omega); intro v2 w2 ho hb hg hat; clear HO HB hg hat; have HO := aK ho; have HB := aK hb; clear ho hb; obtain ⟨Ao, co, eo⟩ := rs HO; subst eo))
  go_ret
  exact ⟨_, rfl, HO.o, bl⟩
/-! ### impl_Move: function 140 -/
def impl_Move.f (l0 : List (S95)) : Option ((List (S95))) := if l0.length < 2932031007402 then some l0 else none
set_option maxHeartbeats 8000000 in
set_option maxRecDepth 100000 in
theorem impl_Move.calls (A0 : Option Addr) (c0 : Nat) (l0 : List (S95)) (r : List (S95)) (w : World) (hr0 : Kd.C k95 w A0 l0.length l0) (hc0 : l0.length ≤ c0) (h : impl_Move.f l0 = some r) :
 Calls Try.prog 140 #[.slice A0 l0.length c0] w fun e w' => ∃ v0_ : Value, e = .returned (v0_) ∧ Kd.R k95 95 w' w.heap.size (fun _ => True) v0_ r ∧ Below w.heap.size w w' := by
 have c1 : l0.length < 2932031007402 := by
  by_cases c : l0.length < 2932031007402
  ·exact c
  ·simp [impl_Move.f, c] at h
 obtain rfl : l0 = r := by simpa [impl_Move.f, c1] using h
 have LMc := aK c1; clear c1 h; have HB := aK (Below.refl w.heap.size w); cases A0 with
 | none =>
  have hl : l0 = [] := by
   rcases Nat.eq_zero_or_pos l0.length with g | g
   ·exact List.length_eq_zero_iff.1 g
   ·obtain ⟨ad, e, _⟩ := hr0.2.2 g; cases e
  subst hl; clear hr0 hc0; have hq := fun (w : World) (n c : Nat) => Lib.run_eql_slice_nil (P := Try.prog) w 24 95 none n c 0 0 Try.underlying24
  simp only [Option.isNone_none] at hq
  go_enter Try.func140, Try.ntmps140
  go_wp2
  go_ret
  exact ⟨_, rfl, Kd.R_nil _ _ _ _ _, bl⟩
 | some ad =>
  have HR0 := aK hr0; clear hr0 hc0; have hq := fun (w : World) (n c : Nat) => Lib.run_eql_slice_nil (P := Try.prog) w 24 95 (some ad) n c 0 0 Try.underlying24
  simp only [Option.isNone_some] at hq
  go_enter Try.func140, Try.ntmps140
  go_wp2_with (first | ((with_reducible refine gD 5 rfl ?_); refine Kd.R_lit k95 _ 95 ?hg (N := 5) ?hd (xs := ([] : List (S95))) (inner := []) (ok := fun _ => True) (okp := fun _ => True) ?hr ?hp (fun _ hk => hk) trivial (Below.refl _ _) (Nat.le_refl _) (by simp) ?_; (case hd => rfl); (case hg => rfl); (case hr => first | (go_simp; done) | (go_simp; rfl)); (case hp => exact (Reps.none _ _)); intro v1 w1 ho hb hg_ hnew_; clear hg_ hnew_; have HO := rl HB ho; replace HB := bS HB hb; clear hb ho) | ((with_reducible refine gate_builtin (b := .append) (xs := #[.tmp 5, .tmp 6]) rfl ?_); at_builtin; refine Kd.R_append_rows k95 (w0 := w) w.heap.size rfl (.tmp 5) (.tmp 6) 24 95 (.agg #[(.int .i64 0), (.string ⟨#[]⟩), (.string ⟨#[]⟩), (.int .i64 0)]) 48 rfl Try.underlying24 info95 rfl (by decide) (by omega) v1 [] l0 _ _ _ (fun _ => True) (fun _ => False) rfl rfl ?aO ?aR (fun _ _ h => h) (fun _ h => h.elim) ?aF ?aB ?aS ?aL ?_; (case aR => exact (Kd.C_below HR0.o bl)); (case aB => exact bl); (case aF => exact (fun _ _ => trivial)); (case aO => exact HO.o); (case aS => exact (below_size bl)); (case aL => have := LMc.o; simp; omega); intro v2 w2 ho hb hg hat; clear HO HB hg hat; have HO := aK ho; have HB := aK hb; clear ho hb; obtain ⟨Ao, co, eo⟩ := rs HO; subst eo))
  go_ret
  exact ⟨_, rfl, HO.o, bl⟩
/-! ### impl_copyDisk: function 96 -/
def impl_copyDisk.f (a0_0 : Int) (a0_1 : Int) (l0_2 : List (S89)) (l0_3 : List (S93)) (l0_4 : List (S95)) : Option (Int × Int × (List (S89)) × (List (S93)) × (List (S95))) := (impl_Inode_139.f l0_2).bind fun t515 => ((impl_Link_138.f l0_3).bind fun t518 => ((impl_Move.f l0_4).bind fun t521 => (some (a0_0, a0_1, t515, t518, t521))))
set_option maxHeartbeats 8000000 in
set_option maxRecDepth 100000 in
theorem impl_copyDisk.calls (a0_0 : Int) (a0_1 : Int) (A0_2 : Option Addr) (c0_2 : Nat) (l0_2 : List (S89)) (A0_3 : Option Addr) (c0_3 : Nat) (l0_3 : List (S93)) (A0_4 : Option Addr) (c0_4 : Nat) (l0_4 : List (S95)) (r1 : Int) (r2 : Int) (r3 : List (S89)) (r4 : List (S93)) (r5 : List (S95)) (w : World) (hr0_2 : Kd.C k89 w A0_2 l0_2.length l0_2) (hc0_2 : l0_2.length ≤ c0_2) (hr0_3 : Kd.C k93 w A0_3 l0_3.length l0_3) (hc0_3 : l0_3.length ≤ c0_3) (hr0_4 : Kd.C k95 w A0_4 l0_4.length l0_4) (hc0_4 : l0_4.length ≤ c0_4) (h : impl_copyDisk.f a0_0 a0_1 l0_2 l0_3 l0_4 = some (r1, r2, r3, r4, r5)) :
 Calls Try.prog 96 #[.agg #[.int .i64 a0_0, .int .i64 a0_1, .slice A0_2 l0_2.length c0_2, .slice A0_3 l0_3.length c0_3, .slice A0_4 l0_4.length c0_4]] w fun e w' => ∃ v2_ v3_ v4_ : Value, e = .returned (.agg #[.int .i64 r1, .int .i64 r2, v2_, v3_, v4_]) ∧ Kd.R k89 89 w' w.heap.size (fun _ => True) v2_ r3 ∧ Kd.R k93 93 w' w.heap.size (fun _ => True) v3_ r4 ∧ Kd.R k95 95 w' w.heap.size (fun _ => True) v4_ r5 ∧ Below w.heap.size w w' := by
 have hu26 := Try.underlying26; have HR0_2 := aK hr0_2; have HC0_2 := aK hc0_2; clear hr0_2 hc0_2; have HR0_3 := aK hr0_3; have HC0_3 := aK hc0_3; clear hr0_3 hc0_3; have HR0_4 := aK hr0_4; have HC0_4 := aK hc0_4; clear hr0_4 hc0_4; have HB := aK (Below.refl w.heap.size w); have H : ((impl_Inode_139.f l0_2).bind fun t515 => ((impl_Link_138.f l0_3).bind fun t518 => ((impl_Move.f l0_4).bind fun t521 => (some (a0_0, a0_1, t515, t518, t521))))) = some (r1, r2, r3, r4, r5) := h; clear h; obtain ⟨t515, A2, H⟩ := bd H; obtain ⟨t518, A3, H⟩ := bd H; obtain ⟨t521, A4, H⟩ := bd H; simp only [Option.some.injEq, Prod.mk.injEq] at H; obtain ⟨rfl, rfl, rfl, rfl, rfl⟩ := H
 go_enter Try.func96, Try.ntmps96
 go_wp2_with (first | ((with_reducible refine gD 1 rfl ?_); refine boxZ 1 #[.int .i64 a0_0, .int .i64 a0_1, .slice A0_2 l0_2.length c0_2, .slice A0_3 l0_3.length c0_3, .slice A0_4 l0_4.length c0_4] 26 ?_; intro gb513 hg w5 hbox hb; have BK513 := aK hbox; have GW513 := gW HB hg; replace HB := bS HB hb; clear hb hbox hg) | ((with_reducible refine gD 2 rfl ?_); refine boxZ 2 #[.int .i64 0, .int .i64 0, .slice none 0 0, .slice none 0 0, .slice none 0 0] 26 ?_; intro gb514 hg w6 hbox hb; have BK514 := aK hbox; have GW514 := gW HB hg; replace HB := bS HB hb; have NB513_514 := nl BK513 hg; have NB514_513 := nr BK513 hg; replace BK513 := bv BK513 hb; clear hb hbox hg; have hnb7 := NB513_514.o; have hnc7 := NB514_513.o; obtain ⟨_, _, _, _, _, _, _, _, _, _⟩ := cf5 BK513) | ((with_reducible refine gC 139 rfl ?_); refine goesZ (some 5) rfl Try.func139 #[.slice A0_2 l0_2.length c0_2] ?_; (with_reducible refine (impl_Inode_139.calls _ _ l0_2 t515 _ ?_ ?_ A2.o).mono ?_); exact cB HR0_2 HB; exact HC0_2.o; rintro e w9 ⟨v516, rfl, ho0, hb⟩; refine ⟨_, rfl, ?_⟩; have HO517 := rl HB ho0; replace BK513 := bv BK513 hb; replace BK514 := bv BK514 hb; replace HB := bS HB hb; (try clear hb ho0); obtain ⟨Ao10, co10, rfl⟩ := rs HO517; obtain ⟨_, _, _, _, _, _, _, _, _, _⟩ := cf5 BK513) | ((with_reducible refine gC 138 rfl ?_); refine goesZ (some 9) rfl Try.func138 #[.slice A0_3 l0_3.length c0_3] ?_; (with_reducible refine (impl_Link_138.calls _ _ l0_3 t518 _ ?_ ?_ A3.o).mono ?_); exact Kd.C_below HR0_3.o bl; exact HC0_3.o; rintro e w12 ⟨v519, rfl, ho0, hb⟩; refine ⟨_, rfl, ?_⟩; replace HO517 := rB (f1 HO517 BK513) hb; have HO520 := rl HB ho0; replace BK513 := aK (blk_below (g := gb513) (o := .cells #[.int .i64 a0_0, .int .i64 a0_1, .slice Ao10 t515.length co10, .slice A0_3 l0_3.length c0_3, .slice A0_4 l0_4.length c0_4] 26 (0, 0)) bkk hb); replace BK514 := aK (blk_below (g := gb514) (o := .cells #[.int .i64 0, .int .i64 0, .slice none 0 0, .slice none 0 0, .slice none 0 0] 26 (0, 0)) bkk hb); replace HB := bS HB hb; (try clear hb ho0); obtain ⟨Ao13, co13, rfl⟩ := rs HO520; obtain ⟨_, _, _, _, _, _, _, _, _, _⟩ := cf5 BK513) | ((with_reducible refine gC 140 rfl ?_); refine goesZ (some 13) rfl Try.func140 #[.slice A0_4 l0_4.length c0_4] ?_; (with_reducible refine (impl_Move.calls _ _ l0_4 t521 _ ?_ ?_ A4.o).mono ?_); exact Kd.C_below HR0_4.o bl; exact HC0_4.o; rintro e w15 ⟨v522, rfl, ho0, hb⟩; refine ⟨_, rfl, ?_⟩; replace HO517 := rB (f1 HO517 BK513) hb; replace HO520 := rB (f1 HO520 BK513) hb; have HO523 := rl HB ho0; replace BK513 := aK (blk_below (g := gb513) (o := .cells #[.int .i64 a0_0, .int .i64 a0_1, .slice Ao10 t515.length co10, .slice Ao13 t518.length co13, .slice A0_4 l0_4.length c0_4] 26 (0, 0)) bkk hb); replace BK514 := aK (blk_below (g := gb514) (o := .cells #[.int .i64 0, .int .i64 0, .slice none 0 0, .slice none 0 0, .slice none 0 0] 26 (0, 0)) bkk hb); replace HB := bS HB hb; (try clear hb ho0); obtain ⟨Ao16, co16, rfl⟩ := rs HO523; obtain ⟨_, _, _, _, _, _, _, _, _, _⟩ := cf5 BK513; obtain ⟨_, _, _, _, _, _, _, _, _, _⟩ := cf5 BK514))
 refine bodyPost_ret (results_cell_row rfl _ _ gb514 26 #[.int .i64 a0_0, .int .i64 a0_1, .slice Ao10 t515.length co10, .slice Ao13 t518.length co13, .slice Ao16 t521.length co16] (0, 0) _ rfl bkk Try.underlying26 rfl (by kernel_rfl)) rfl ?_; exact ⟨_, _, _, fe, rpR (rM (mB (qb (qb (qb (qb (qb (qa (eB HO517 BK513 BK514)))))))) (fun _ hk => trivial)), rpR (rM (mB (qb (qb (qb (qb (qb (qa (eB HO520 BK513 BK514)))))))) (fun _ hk => trivial)), rpR (rM (mB (qb (qb (qb (qb (qb (qa (eB HO523 BK513 BK514)))))))) (fun _ hk => trivial)), bl⟩
end Go.Proofs.Ytjcmcamijaelbaa.PDisk
