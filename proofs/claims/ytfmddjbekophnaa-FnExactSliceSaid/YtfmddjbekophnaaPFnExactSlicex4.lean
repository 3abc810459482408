-- PRINTED by print.py (a twelfth state) out of the translation. Not trusted: Lean checks it.
import Derived.Test.YtfmddjbekophnaaPFnExactSlicex0
import Derived.Test.YtfmddjbekophnaaPFnExactSlicex1
import Derived.Test.YtfmddjbekophnaaPFnExactSlicex3
import Derived.Test.YtfmddjbekophnaaZip
namespace Go.Proofs.Ytfmddjbekophnaa.PFnExactSlice
open Go.RowKit Go.Proofs.YtfmddjbekophnaaW.PrintWords Go.Proofs.YtfmddjbekophnaaW.PrintLast Go.Proofs.YtfmddjbekophnaaW.PrintMore Go.Proofs.Ytfmddjbekophnaa.Zip
attribute [local go_sem] max2_int min2_int max_two min_two max_three min_three max_four min_four   -- for this text's walks alone
set_option linter.unusedVariables false
set_option linter.unusedSimpArgs false

/-! ### laws_FnExactSlice: function 6 -/
def laws_FnExactSlice.j0 : Nat → List (S94) → Int → Int → List (S92) → List (S92) → Bool → Option (Bool)
 | 0, _, _, _, _, _, _ => none
 | k + 1, x0, x1, x2, x8, x10, x50 => if x50 = true then (some false) else ((laws_markPointS.f k x10 1).bind fun bt172 => ((laws_heldPointS.f k bt172.2 1).bind fun t174 => (if t174 < 0 then (some false) else (if t174 = bt172.1 then ((laws_toPointS.f k x0).bind fun t175 => ((impl_Slice.f k t175 x1 x2).bind fun t178 => ((laws_eqPointS.f k t178 x8).bind fun t181 => (if t181 = true then ((laws_heldPointS.f k bt172.2 1).bind fun t182 => (if t182 < 0 then (some false) else (if t182 = bt172.1 then (some true) else (some false)))) else (some false))))) else (some false)))))
def laws_FnExactSlice.f (k : Nat) (l0 : List (S94)) (a1 : Int) (a2 : Int) : Option (Bool) := (laws_szPointS.f l0 1048576).bind fun t151 => (if t151 < 0 then (some true) else ((laws_toPointS.f k l0).bind fun t152 => ((spec_Slice.f k t152 a1 a2).bind fun t155 => ((laws_toPointS.f k l0).bind fun t158 => ((impl_Slice.f k t158 a1 a2).bind fun t161 => ((laws_eqPointS.f k t161 t155).bind fun t164 => (if t164 = true then ((laws_toPointS.f k l0).bind fun t165 => ((laws_eqPointS.f k t158 t165).bind fun t168 => (if t168 = true then ((laws_markPointS.f k t158 1).bind fun bt169 => (if bt169.1 < 0 then (laws_FnExactSlice.j0 k l0 a1 a2 t155 t161 true) else ((laws_eqPointS.f k t161 t155).bind fun t171 => (laws_FnExactSlice.j0 k l0 a1 a2 t155 t161 (!t171))))) else (some false)))) else (some false))))))))
theorem laws_FnExactSlice.mono_l : ∀ k, (∀ y0 y1 y2 y3 y4 y5, LeO (laws_FnExactSlice.j0 k y0 y1 y2 y3 y4 y5) (laws_FnExactSlice.j0 (k + 1) y0 y1 y2 y3 y4 y5))
 | 0 => fun _ _ _ _ _ _ r h => by simp [laws_FnExactSlice.j0] at h
 | k + 1 => by
  have ih0 := laws_FnExactSlice.mono_l k
  ·intro y0 y1 y2 y3 y4 y5
   unfold laws_FnExactSlice.j0
   repeat' first
   | (with_reducible exact ih0 _ _ _ _ _ _)
   | (with_reducible exact impl_Slice.mono _ _ _ _)
   | (with_reducible exact laws_eqPointS.mono _ _ _)
   | (with_reducible exact laws_heldPointS.mono _ _ _)
   | (with_reducible exact laws_markPointS.mono _ _ _)
   | (with_reducible exact laws_toPointS.mono _ _)
   | (with_reducible exact spec_Slice.mono _ _ _ _)
   | (with_reducible exact LeO.refl _)
   | (with_reducible exact LeO.none _)
   | (with_reducible refine LeO.ite ?_ ?_)
   | (with_reducible refine LeO.bind ?_ (fun _ => ?_))
   | exact ih0 _ _ _ _ _ _
   | exact impl_Slice.mono _ _ _ _
   | exact laws_eqPointS.mono _ _ _
   | exact laws_heldPointS.mono _ _ _
   | exact laws_markPointS.mono _ _ _
   | exact laws_toPointS.mono _ _
   | exact spec_Slice.mono _ _ _ _
   | exact LeO.none _
   | refine LeO.ite ?_ ?_
   | refine LeO.bind ?_ (fun _ => ?_)
theorem laws_FnExactSlice.mono : ∀ a0 a1 a2 k, LeO (laws_FnExactSlice.f k a0 a1 a2) (laws_FnExactSlice.f (k + 1) a0 a1 a2) := by
 intro a0 a1 a2 k
 have ih0 := laws_FnExactSlice.mono_l k
 unfold laws_FnExactSlice.f
 repeat' first
  | (with_reducible exact ih0 _ _ _ _ _ _)
  | (with_reducible exact impl_Slice.mono _ _ _ _)
  | (with_reducible exact laws_eqPointS.mono _ _ _)
  | (with_reducible exact laws_heldPointS.mono _ _ _)
  | (with_reducible exact laws_markPointS.mono _ _ _)
  | (with_reducible exact laws_toPointS.mono _ _)
  | (with_reducible exact spec_Slice.mono _ _ _ _)
  | (with_reducible exact LeO.refl _)
  | (with_reducible exact LeO.none _)
  | (with_reducible refine LeO.ite ?_ ?_)
  | (with_reducible refine LeO.bind ?_ (fun _ => ?_))
  | exact ih0 _ _ _ _ _ _
  | exact impl_Slice.mono _ _ _ _
  | exact laws_eqPointS.mono _ _ _
  | exact laws_heldPointS.mono _ _ _
  | exact laws_markPointS.mono _ _ _
  | exact laws_toPointS.mono _ _
  | exact spec_Slice.mono _ _ _ _
  | exact LeO.none _
  | refine LeO.ite ?_ ?_
  | refine LeO.bind ?_ (fun _ => ?_)
set_option maxHeartbeats 8000000 in
set_option maxRecDepth 100000 in
theorem laws_FnExactSlice.calls (k : Nat) (A0 : Option Addr) (c0 : Nat) (l0 : List (S94)) (a1 : Int) (a2 : Int) (r : Bool) (w : World) (hr0 : Kd.C k94 w A0 l0.length l0) (hc0 : l0.length ≤ c0) (h : laws_FnExactSlice.f k l0 a1 a2 = some r) (hr_ : r = true) :
 Calls Try.prog 6 #[.slice A0 l0.length c0, .int .i64 a1, .int .i64 a2] w fun e w' => e = .returned (.bool r) ∧ Below w.heap.size w w' := by
 have HR0 := Aside0.mk hr0
 have HC0 := Aside0.mk hc0
 clear hr0 hc0
 have HB := Aside0.mk (Below.refl w.heap.size w)
 have H : ((laws_szPointS.f l0 1048576).bind fun t151 => (if t151 < 0 then (some true) else ((laws_toPointS.f k l0).bind fun t152 => ((spec_Slice.f k t152 a1 a2).bind fun t155 => ((laws_toPointS.f k l0).bind fun t158 => ((impl_Slice.f k t158 a1 a2).bind fun t161 => ((laws_eqPointS.f k t161 t155).bind fun t164 => (if t164 = true then ((laws_toPointS.f k l0).bind fun t165 => ((laws_eqPointS.f k t158 t165).bind fun t168 => (if t168 = true then ((laws_markPointS.f k t158 1).bind fun bt169 => (if bt169.1 < 0 then (laws_FnExactSlice.j0 k l0 a1 a2 t155 t161 true) else ((laws_eqPointS.f k t161 t155).bind fun t171 => (laws_FnExactSlice.j0 k l0 a1 a2 t155 t161 (!t171))))) else (some false)))) else (some false))))))))) = some r := h
 clear h
 obtain ⟨t151, A4, H⟩ := bd H
 by_cases c5 : t151 < 0
 ·rw [if_pos c5] at H
  have c5b0 : decide (t151 < 0) = true := decide_eq_true c5
  clear c5
  obtain rfl := Option.some.inj H
  go_enter Try.func6, Try.ntmps6
  go_wp2_with (first | ((with_reducible refine gC 15 rfl ?_); refine goesZ (some 17) rfl Try.func15 #[.slice A0 l0.length c0, .int .i64 1048576] ?_; (with_reducible refine (laws_szPointS.calls _ _ l0 1048576 t151 _ ?side1 ?side2 A4.out).mono ?_); (case side1 => exact ca HR0.out); (case side2 => exact HC0.out); rintro e w' ⟨rfl, ⟨nd, rfl⟩⟩; refine ⟨_, rfl, ?_⟩))
  go_ret
  exact ⟨fe, bl⟩
 ·rw [if_neg c5] at H
  have c5b0 : decide (t151 < 0) = false := decide_eq_false c5
  clear c5
  obtain ⟨t152, A6, H⟩ := bd H
  obtain ⟨t155, A7, H⟩ := bd H
  obtain ⟨t158, A8, H⟩ := bd H
  obtain ⟨t161, A9, H⟩ := bd H
  obtain ⟨t164, A10, H⟩ := bd H
  by_cases c11 : t164 = true
  ·subst c11
   replace H := iT H
   obtain ⟨t165, A12, H⟩ := bd H
   obtain ⟨t168, A13, H⟩ := bd H
   by_cases c14 : t168 = true
   ·subst c14
    replace H := iT H
    replace H := Option.bind_eq_some_iff.mp H
    obtain ⟨⟨t169, t170⟩, A150, H⟩ := H
    replace H : (if t169 < 0 then (laws_FnExactSlice.j0 k l0 a1 a2 t155 t161 true) else ((laws_eqPointS.f k t161 t155).bind fun t171 => (laws_FnExactSlice.j0 k l0 a1 a2 t155 t161 (!t171)))) = some r := H
    have A15 := Aside0.mk A150
    clear A150
    have HC16 := Aside0.mk H
    clear H
    go_enter Try.func6, Try.ntmps6
    go_upto_region 14 with (first | ((with_reducible refine gC 15 rfl ?_); refine goesZ (some 17) rfl Try.func15 #[.slice A0 l0.length c0, .int .i64 1048576] ?_; (with_reducible refine (laws_szPointS.calls _ _ l0 1048576 t151 _ ?side1 ?side2 A4.out).mono ?_); (case side1 => exact ca HR0.out); (case side2 => exact HC0.out); rintro e w' ⟨rfl, ⟨nd, rfl⟩⟩; refine ⟨_, rfl, ?_⟩) | ((with_reducible refine gC 17 rfl ?_); refine goesZ (some 21) rfl Try.func17 #[.slice A0 l0.length c0] ?_; (with_reducible refine (laws_toPointS.calls k _ _ l0 t152 _ ?side1 ?side2 A6.out).mono ?_); (case side1 => exact ca HR0.out); (case side2 => exact HC0.out); rintro e w17 ⟨v153, rfl, ho0, hb⟩; refine ⟨_, rfl, ?_⟩; have HO154 := Aside0.mk (Kd.R_lower ho0 (below_size bl)); replace HB := bs (w := w) hb; (try clear hb ho0); obtain ⟨Ao18, co18, rfl⟩ := Kd.R_slice HO154.out) | ((with_reducible refine gC 26 rfl ?_); refine goesZ (some 24) rfl Try.func26 #[.slice Ao18 t152.length co18, .int .i64 a1, .int .i64 a2] ?_; (with_reducible refine (spec_Slice.calls k _ _ t152 a1 a2 t155 _ ?side1 ?side2 A7.out).mono ?_); (case side1 => exact ca ((Kd.R_reads' HO154.out).2.2)); (case side2 => exact (Kd.R_reads' HO154.out).2.1); rintro e w19 ⟨v156, rfl, ho0, hb⟩; refine ⟨_, rfl, ?_⟩; have HO157 := Aside0.mk (Kd.R_lower (Kd.R_new' ho0 (Kd.R_lt (rpR HO154.out))) (below_size bl)); replace HO154 := Aside0.mk (Kd.R_elder' (rpR HO154.out) (Kd.R_base ho0) hb); replace HB := bs (w := w) hb; (try clear hb ho0)) | ((with_reducible refine gC 17 rfl ?_); refine goesZ (some 26) rfl Try.func17 #[.slice A0 l0.length c0] ?_; (with_reducible refine (laws_toPointS.calls k _ _ l0 t158 _ ?side1 ?side2 A8.out).mono ?_); (case side1 => exact ca (Kd.C_below HR0.out HB.out)); (case side2 => exact HC0.out); rintro e w20 ⟨v159, rfl, ho0, hb⟩; refine ⟨_, rfl, ?_⟩; have HO160 := Aside0.mk (Kd.R_lower (Kd.R_new' (Kd.R_new' ho0 (Kd.R_lt (rpR HO154.out))) (Kd.R_lt (rpR HO157.out))) (below_size bl)); replace HO154 := Aside0.mk (Kd.R_elder' (rpR HO154.out) (Kd.R_base ho0) hb); replace HO157 := Aside0.mk (Kd.R_elder' (rpR HO157.out) (Kd.R_base ho0) hb); replace HB := bs (w := w) hb; (try clear hb ho0); obtain ⟨Ao21, co21, rfl⟩ := Kd.R_slice HO160.out) | ((with_reducible refine gC 27 rfl ?_); refine goesZ (some 30) rfl Try.func27 #[.slice Ao21 t158.length co21, .int .i64 a1, .int .i64 a2] ?_; (with_reducible refine (impl_Slice.calls k _ _ t158 a1 a2 t161 _ ?side1 ?side2 A9.out).mono ?_); (case side1 => exact ca ((Kd.R_reads' HO160.out).2.2)); (case side2 => exact (Kd.R_reads' HO160.out).2.1); rintro e w22 ⟨v162, rfl, ho0, hb⟩; refine ⟨_, rfl, ?_⟩; have HO163 := Aside0.mk (Kd.R_lower (Kd.R_new' (Kd.R_new' (Kd.R_new' ho0 (Kd.R_lt (rpR HO154.out))) (Kd.R_lt (rpR HO157.out))) (Kd.R_lt (rpR HO160.out))) (below_size bl)); replace HO154 := Aside0.mk (Kd.R_elder' (rpR HO154.out) (Kd.R_base ho0) hb); replace HO157 := Aside0.mk (Kd.R_elder' (rpR HO157.out) (Kd.R_base ho0) hb); replace HO160 := Aside0.mk (Kd.R_elder' (rpR HO160.out) (Kd.R_base ho0) hb); replace HB := bs (w := w) hb; (try clear hb ho0); obtain ⟨Ao23, co23, rfl⟩ := Kd.R_slice HO163.out; obtain ⟨Ao24, co24, rfl⟩ := Kd.R_slice HO157.out) | ((with_reducible refine gC 19 rfl ?_); refine goesZ (some 33) rfl Try.func19 #[.slice Ao23 t161.length co23, .slice Ao24 t155.length co24] ?_; (with_reducible refine (laws_eqPointS.calls k _ _ t161 _ _ t155 true _ ?side1 ?side2 ?side3 ?side4 A10.out).mono ?_); (case side1 => exact ca ((Kd.R_reads' HO163.out).2.2)); (case side2 => exact (Kd.R_reads' HO163.out).2.1); (case side3 => exact ca ((Kd.R_reads' HO157.out).2.2)); (case side4 => exact (Kd.R_reads' HO157.out).2.1); rintro e w25 ⟨rfl, hb⟩; refine ⟨_, rfl, ?_⟩; replace HO154 := Aside0.mk (Kd.R_below (rpR HO154.out) hb); replace HO157 := Aside0.mk (Kd.R_below (rpR HO157.out) hb); replace HO160 := Aside0.mk (Kd.R_below (rpR HO160.out) hb); replace HO163 := Aside0.mk (Kd.R_below (rpR HO163.out) hb); replace HB := bs (w := w) hb; (try clear hb)) | ((with_reducible refine gC 17 rfl ?_); refine goesZ (some 37) rfl Try.func17 #[.slice A0 l0.length c0] ?_; (with_reducible refine (laws_toPointS.calls k _ _ l0 t165 _ ?side1 ?side2 A12.out).mono ?_); (case side1 => exact ca (Kd.C_below HR0.out HB.out)); (case side2 => exact HC0.out); rintro e w26 ⟨v166, rfl, ho0, hb⟩; refine ⟨_, rfl, ?_⟩; have HO167 := Aside0.mk (Kd.R_lower (Kd.R_new' (Kd.R_new' (Kd.R_new' (Kd.R_new' ho0 (Kd.R_lt (rpR HO154.out))) (Kd.R_lt (rpR HO157.out))) (Kd.R_lt (rpR HO160.out))) (Kd.R_lt (rpR HO163.out))) (below_size bl)); replace HO154 := Aside0.mk (Kd.R_elder' (rpR HO154.out) (Kd.R_base ho0) hb); replace HO157 := Aside0.mk (Kd.R_elder' (rpR HO157.out) (Kd.R_base ho0) hb); replace HO160 := Aside0.mk (Kd.R_elder' (rpR HO160.out) (Kd.R_base ho0) hb); replace HO163 := Aside0.mk (Kd.R_elder' (rpR HO163.out) (Kd.R_base ho0) hb); replace HB := bs (w := w) hb; (try clear hb ho0); obtain ⟨Ao27, co27, rfl⟩ := Kd.R_slice HO167.out) | ((with_reducible refine gC 19 rfl ?_); refine goesZ (some 38) rfl Try.func19 #[.slice Ao21 t158.length co21, .slice Ao27 t165.length co27] ?_; (with_reducible refine (laws_eqPointS.calls k _ _ t158 _ _ t165 true _ ?side1 ?side2 ?side3 ?side4 A13.out).mono ?_); (case side1 => exact ca ((Kd.R_reads' HO160.out).2.2)); (case side2 => exact (Kd.R_reads' HO160.out).2.1); (case side3 => exact ca ((Kd.R_reads' HO167.out).2.2)); (case side4 => exact (Kd.R_reads' HO167.out).2.1); rintro e w28 ⟨rfl, hb⟩; refine ⟨_, rfl, ?_⟩; replace HO154 := Aside0.mk (Kd.R_below (rpR HO154.out) hb); replace HO157 := Aside0.mk (Kd.R_below (rpR HO157.out) hb); replace HO160 := Aside0.mk (Kd.R_below (rpR HO160.out) hb); replace HO163 := Aside0.mk (Kd.R_below (rpR HO163.out) hb); replace HO167 := Aside0.mk (Kd.R_below (rpR HO167.out) hb); replace HB := bs (w := w) hb; (try clear hb)) | ((with_reducible refine gC 28 rfl ?_); refine goesZ (some 42) rfl Try.func28 #[.slice Ao21 t158.length co21, .int .i64 1] ?_; (with_reducible refine (laws_markPointS.calls k (fun k_ => some k_ = (.slice Ao21 t158.length co21 : Value).ownBlock) (.slice Ao21 t158.length co21) t158 1 t169 t170 w _ ?side1 ?side2 A15.out).mono ?_); (case side1 => repeat (first | (with_reducible first | exact HB.out | apply below_alloc | apply pw_below_drewN | apply below_drew1) | exact HB.out)); (case side2 => exact Kd.R_tight rfl HO160.out); rintro e w29 ⟨rfl, hy0, hb, hkp⟩; refine ⟨_, rfl, ?_⟩; replace HO154 := Aside0.mk (Kd.R_mono (ok' := fun k_ => some k_ ≠ (.slice Ao24 t155.length co24 : Value).ownBlock ∧ some k_ ≠ (.slice Ao21 t158.length co21 : Value).ownBlock ∧ some k_ ≠ (.slice Ao23 t161.length co23 : Value).ownBlock ∧ some k_ ≠ (.slice Ao27 t165.length co27 : Value).ownBlock) (Kd.R_keptB (HO154.out) hkp (fun k_ hk_ hs_ => (hk_.1.1.2) hs_)) (fun k_ hk_ => ⟨hk_.1.1.1.1.2, hk_.1.1.1.2, hk_.1.1.2, hk_.1.2⟩)); replace HO157 := Aside0.mk (Kd.R_mono (ok' := fun k_ => some k_ ≠ (.slice Ao18 t152.length co18 : Value).ownBlock ∧ some k_ ≠ (.slice Ao21 t158.length co21 : Value).ownBlock ∧ some k_ ≠ (.slice Ao23 t161.length co23 : Value).ownBlock ∧ some k_ ≠ (.slice Ao27 t165.length co27 : Value).ownBlock) (Kd.R_keptB (HO157.out) hkp (fun k_ hk_ hs_ => (hk_.1.1.2) hs_)) (fun k_ hk_ => ⟨hk_.1.1.1.1.2, hk_.1.1.1.2, hk_.1.1.2, hk_.1.2⟩)); replace HO160 := Aside0.mk (Kd.R_reok rfl hy0 (fun k_ e_ => HO160.out.1 k_ e_)); replace HO163 := Aside0.mk (Kd.R_mono (ok' := fun k_ => some k_ ≠ (.slice Ao18 t152.length co18 : Value).ownBlock ∧ some k_ ≠ (.slice Ao24 t155.length co24 : Value).ownBlock ∧ some k_ ≠ (.slice Ao21 t158.length co21 : Value).ownBlock ∧ some k_ ≠ (.slice Ao27 t165.length co27 : Value).ownBlock) (Kd.R_keptB (HO163.out) hkp (fun k_ hk_ hs_ => (hk_.1.2) hs_)) (fun k_ hk_ => ⟨hk_.1.1.1.1.2, hk_.1.1.1.2, hk_.1.1.2, hk_.1.2⟩)); replace HO167 := Aside0.mk (Kd.R_mono (ok' := fun k_ => some k_ ≠ (.slice Ao18 t152.length co18 : Value).ownBlock ∧ some k_ ≠ (.slice Ao24 t155.length co24 : Value).ownBlock ∧ some k_ ≠ (.slice Ao21 t158.length co21 : Value).ownBlock ∧ some k_ ≠ (.slice Ao23 t161.length co23 : Value).ownBlock) (Kd.R_keptB (HO167.out) hkp (fun k_ hk_ hs_ => (hk_.1.2) hs_)) (fun k_ hk_ => ⟨hk_.1.1.1.1.2, hk_.1.1.1.2, hk_.1.1.2, hk_.1.2⟩)); replace HB := Aside0.mk (hb); (try clear hb hkp hy0)))
    (try simp only [Act.put, List.setIfInBounds_toArray, List.set_cons_zero, List.set_cons_succ])
    go_cut [50] (fun v50 wc => ∃ (kq : Nat) (x50_15 : Bool), v50 = .bool x50_15 ∧ Aside0 (laws_FnExactSlice.j0 kq l0 a1 a2 t155 t161 x50_15 = some r) ∧ Aside0 (kq ≤ k) ∧ Aside0 (Kd.R k92 92 wc w.heap.size (fun k_ => some k_ ≠ ((.slice Ao23 t161.length co23) : Value).ownBlock) (.slice Ao24 t155.length co24) t155) ∧ Aside0 (Kd.R k92 92 wc w.heap.size (fun k_ => some k_ ≠ ((.slice Ao24 t155.length co24) : Value).ownBlock) (.slice Ao23 t161.length co23) t161) ∧ Aside0 (Below w.heap.size w wc))
    case first =>
     have H := HC16.out
     clear HC16
     by_cases c30 : t169 < 0
     ·rw [if_pos c30] at H
      have c30b0 : decide (t169 < 0) = true := decide_eq_true c30
      clear c30
      (first | rw [c30b0] | (simp only [i64_w, i32_w]; rw [c30b0]) | skip)
      have H' := Aside0.mk H
      clear H
      go_wp2
      go_meet
      case rel => exact ⟨_, (true), fa, H', ⟨by first | omega | exact Nat.le_refl _⟩, ⟨rpR (Kd.R_mono HO157.out (fun _ hk => hk.2.2.1))⟩, ⟨rpR (Kd.R_mono HO163.out (fun _ hk => hk.2.1))⟩, ⟨bl⟩⟩
     ·rw [if_neg c30] at H
      have c30b0 : decide (t169 < 0) = false := decide_eq_false c30
      clear c30
      (first | rw [c30b0] | (simp only [i64_w, i32_w]; rw [c30b0]) | skip)
      obtain ⟨t171, A31, H⟩ := bd H
      have H' := Aside0.mk H
      clear H
      go_wp2_with (first | (go_at_call 19; (with_reducible refine (laws_eqPointS.calls k _ _ t161 _ _ t155 t171 _ ?side1 ?side2 ?side3 ?side4 A31.out).mono ?_); (case side1 => exact ca ((Kd.R_reads' HO163.out).2.2)); (case side2 => exact (Kd.R_reads' HO163.out).2.1); (case side3 => exact ca ((Kd.R_reads' HO157.out).2.2)); (case side4 => exact (Kd.R_reads' HO157.out).2.1); rintro e w32 ⟨rfl, hb⟩; replace HO154 := Aside0.mk (Kd.R_below (rpR HO154.out) hb); replace HO157 := Aside0.mk (Kd.R_below (rpR HO157.out) hb); replace HO160 := Aside0.mk (Kd.R_below (rpR HO160.out) hb); replace HO163 := Aside0.mk (Kd.R_below (rpR HO163.out) hb); replace HO167 := Aside0.mk (Kd.R_below (rpR HO167.out) hb); replace HB := bs (w := w) hb; (try clear hb)))
      go_meet
      case rel => exact ⟨_, (!t171), fa, H', ⟨by first | omega | exact Nat.le_refl _⟩, ⟨rpR (Kd.R_mono HO157.out (fun _ hk => hk.2.2.1))⟩, ⟨rpR (Kd.R_mono HO163.out (fun _ hk => hk.2.1))⟩, ⟨bl⟩⟩
    case rest =>
     clear HC16
     try clear c1
     try clear c2
     try clear p2
     try clear c3
     try clear c5
     try clear c5b0
     try clear c6
     try clear c11
     try clear c14
     try clear c15
     try clear c17
     try clear c19
     try clear c26
     try clear c27
     try clear c28
     try clear c30
     try clear c30b0
     obtain ⟨kq, x50_15, rfl, HA, HJ15, HO_8, HO_10, HB⟩ := hcut
     cases kq with
     | zero => exact absurd HA.out (by simp [laws_FnExactSlice.j0])
     | succ kj15 =>
      have H := HA.out
      clear HA
      simp only [laws_FnExactSlice.j0] at H
      by_cases c33 : x50_15 = true
      ·subst c33
       replace H := iT H
       exact absurd ((Option.some.inj H).trans hr_) (by decide)
      ·replace c33 := Bool.eq_false_iff.mpr c33
       subst c33
       replace H := iF H
       replace H := Option.bind_eq_some_iff.mp H
       obtain ⟨⟨t172, t173⟩, A340, H⟩ := H
       replace H : ((laws_heldPointS.f kj15 t173 1).bind fun t174 => (if t174 < 0 then (some false) else (if t174 = t172 then ((laws_toPointS.f kj15 l0).bind fun t175 => ((impl_Slice.f kj15 t175 a1 a2).bind fun t178 => ((laws_eqPointS.f kj15 t178 t155).bind fun t181 => (if t181 = true then ((laws_heldPointS.f kj15 t173 1).bind fun t182 => (if t182 < 0 then (some false) else (if t182 = t172 then (some true) else (some false)))) else (some false))))) else (some false)))) = some r := H
       have A34 := Aside0.mk A340
       clear A340
       obtain ⟨t174, A35, H⟩ := bd H
       by_cases c36 : t174 < 0
       ·rw [if_pos c36] at H
        have c36b0 : decide (t174 < 0) = true := decide_eq_true c36
        clear c36
        exact absurd ((Option.some.inj H).trans hr_) (by decide)
       ·rw [if_neg c36] at H
        have c36b0 : decide (t174 < 0) = false := decide_eq_false c36
        clear c36
        by_cases c37 : t174 = t172
        ·rw [if_pos c37] at H
         have c37b0 : (t174 == t172) = true := beq_iff_eq.mpr c37
         have c37b1 : (t174 != t172) = false := bne_eq_false_iff_eq.mpr c37
         clear c37
         obtain ⟨t175, A38, H⟩ := bd H
         obtain ⟨t178, A39, H⟩ := bd H
         obtain ⟨t181, A40, H⟩ := bd H
         by_cases c41 : t181 = true
         ·subst c41
          replace H := iT H
          obtain ⟨t182, A42, H⟩ := bd H
          by_cases c43 : t182 < 0
          ·rw [if_pos c43] at H
           have c43b0 : decide (t182 < 0) = true := decide_eq_true c43
           clear c43
           exact absurd ((Option.some.inj H).trans hr_) (by decide)
          ·rw [if_neg c43] at H
           have c43b0 : decide (t182 < 0) = false := decide_eq_false c43
           clear c43
           by_cases c44 : t182 = t172
           ·rw [if_pos c44] at H
            have c44b0 : (t182 == t172) = true := beq_iff_eq.mpr c44
            have c44b1 : (t182 != t172) = false := bne_eq_false_iff_eq.mpr c44
            clear c44
            obtain rfl := Option.some.inj H
            go_wp2_with (first | ((with_reducible refine gC 28 rfl ?_); refine goesZ (some 53) rfl Try.func28 #[.slice Ao23 t161.length co23, .int .i64 1] ?_; (with_reducible refine (laws_markPointS.calls kj15 (fun k_ => some k_ = (.slice Ao23 t161.length co23 : Value).ownBlock) (.slice Ao23 t161.length co23) t161 1 t172 t173 w _ ?side1 ?side2 A34.out).mono ?_); (case side1 => repeat (first | (with_reducible first | exact HB.out | apply below_alloc | apply pw_below_drewN | apply below_drew1) | exact HB.out)); (case side2 => exact Kd.R_tight rfl HO_10.out); rintro e w45 ⟨rfl, hy0, hb, hkp⟩; refine ⟨_, rfl, ?_⟩; replace HO_8 := Aside0.mk (Kd.R_mono (ok' := fun k_ => some k_ ≠ (.slice Ao23 t161.length co23 : Value).ownBlock) (Kd.R_keptB (HO_8.out) hkp (fun k_ hk_ hs_ => (hk_) hs_)) (fun k_ hk_ => hk_.1)); replace HO_10 := Aside0.mk (Kd.R_reok rfl hy0 (fun k_ e_ => HO_10.out.1 k_ e_)); replace HB := Aside0.mk (hb); (try clear hb hkp hy0)) | ((with_reducible refine gC 29 rfl ?_); refine goesL_ (some 56) rfl rfl Try.func29 (by kernel_rfl) rfl #[.slice Ao23 t173.length co23, .int .i64 1] rfl (by (try simp only [List.map_toArray, List.map_cons, List.map_nil]); first | done | (rw [show t173.length = t161.length from (Kd.R_reads' HO_10.out).1.symm] <;> rfl) | rfl | (simp only [List.length_drop, List.length_take]; rfl)) ?_; (with_reducible refine (laws_heldPointS.calls kj15 _ _ t173 1 t174 _ ?side1 ?side2 A35.out).mono ?_); (case side1 => exact ca ((Kd.R_reads' HO_10.out).2.2)); (case side2 => rw [show t173.length = t161.length from (Kd.R_reads' HO_10.out).1.symm]; exact (Kd.R_reads' HO_10.out).2.1); rintro e w' ⟨rfl, ⟨nd, rfl⟩⟩; refine ⟨_, rfl, ?_⟩) | ((with_reducible refine gC 17 rfl ?_); refine goesZ (some 63) rfl Try.func17 #[.slice A0 l0.length c0] ?_; (with_reducible refine (laws_toPointS.calls kj15 _ _ l0 t175 _ ?side1 ?side2 A38.out).mono ?_); (case side1 => exact ca (Kd.C_below HR0.out bl)); (case side2 => exact HC0.out); rintro e w46 ⟨v176, rfl, ho0, hb⟩; refine ⟨_, rfl, ?_⟩; have HO177 := Aside0.mk (Kd.R_lower (Kd.R_new' (Kd.R_new' ho0 (Kd.R_lt (rpR HO_8.out))) (Kd.R_lt (rpR HO_10.out))) (below_size bl)); replace HO_8 := Aside0.mk (Kd.R_elder' (rpR HO_8.out) (Kd.R_base ho0) hb); replace HO_10 := Aside0.mk (Kd.R_elder' (rpR HO_10.out) (Kd.R_base ho0) hb); replace HB := bs (w := w) hb; (try clear hb ho0); obtain ⟨Ao47, co47, rfl⟩ := Kd.R_slice HO177.out) | ((with_reducible refine gC 27 rfl ?_); refine goesZ (some 66) rfl Try.func27 #[.slice Ao47 t175.length co47, .int .i64 a1, .int .i64 a2] ?_; (with_reducible refine (impl_Slice.calls kj15 _ _ t175 a1 a2 t178 _ ?side1 ?side2 A39.out).mono ?_); (case side1 => exact ca ((Kd.R_reads' HO177.out).2.2)); (case side2 => exact (Kd.R_reads' HO177.out).2.1); rintro e w48 ⟨v179, rfl, ho0, hb⟩; refine ⟨_, rfl, ?_⟩; have HO180 := Aside0.mk (Kd.R_lower (Kd.R_new' (Kd.R_new' (Kd.R_new' ho0 (Kd.R_lt (rpR HO_8.out))) (Kd.R_lt (rpR HO_10.out))) (Kd.R_lt (rpR HO177.out))) (below_size bl)); replace HO_8 := Aside0.mk (Kd.R_elder' (rpR HO_8.out) (Kd.R_base ho0) hb); replace HO_10 := Aside0.mk (Kd.R_elder' (rpR HO_10.out) (Kd.R_base ho0) hb); replace HO177 := Aside0.mk (Kd.R_elder' (rpR HO177.out) (Kd.R_base ho0) hb); replace HB := bs (w := w) hb; (try clear hb ho0); obtain ⟨Ao49, co49, rfl⟩ := Kd.R_slice HO180.out) | ((with_reducible refine gC 19 rfl ?_); refine goesZ (some 69) rfl Try.func19 #[.slice Ao49 t178.length co49, .slice Ao24 t155.length co24] ?_; (with_reducible refine (laws_eqPointS.calls kj15 _ _ t178 _ _ t155 true _ ?side1 ?side2 ?side3 ?side4 A40.out).mono ?_); (case side1 => exact ca ((Kd.R_reads' HO180.out).2.2)); (case side2 => exact (Kd.R_reads' HO180.out).2.1); (case side3 => exact ca ((Kd.R_reads' HO_8.out).2.2)); (case side4 => exact (Kd.R_reads' HO_8.out).2.1); rintro e w50 ⟨rfl, hb⟩; refine ⟨_, rfl, ?_⟩; replace HO_8 := Aside0.mk (Kd.R_below (rpR HO_8.out) hb); replace HO_10 := Aside0.mk (Kd.R_below (rpR HO_10.out) hb); replace HO177 := Aside0.mk (Kd.R_below (rpR HO177.out) hb); replace HO180 := Aside0.mk (Kd.R_below (rpR HO180.out) hb); replace HB := bs (w := w) hb; (try clear hb)) | ((with_reducible refine gC 29 rfl ?_); refine goesL_ (some 73) rfl rfl Try.func29 (by kernel_rfl) rfl #[.slice Ao23 t173.length co23, .int .i64 1] rfl (by (try simp only [List.map_toArray, List.map_cons, List.map_nil]); first | done | (rw [show t173.length = t161.length from (Kd.R_reads' HO_10.out).1.symm] <;> rfl) | rfl | (simp only [List.length_drop, List.length_take]; rfl)) ?_; (with_reducible refine (laws_heldPointS.calls kj15 _ _ t173 1 t182 _ ?side1 ?side2 A42.out).mono ?_); (case side1 => exact ca ((Kd.R_reads' HO_10.out).2.2)); (case side2 => rw [show t173.length = t161.length from (Kd.R_reads' HO_10.out).1.symm]; exact (Kd.R_reads' HO_10.out).2.1); rintro e w' ⟨rfl, ⟨nd, rfl⟩⟩; refine ⟨_, rfl, ?_⟩))
            go_ret
            exact ⟨fe, bl⟩
           ·rw [if_neg c44] at H
            have c44b0 : (t182 == t172) = false := beq_eq_false_iff_ne.mpr c44
            have c44b1 : (t182 != t172) = true := bne_iff_ne.mpr c44
            exact absurd ((Option.some.inj H).trans hr_) (by decide)
         ·replace c41 := Bool.eq_false_iff.mpr c41
          subst c41
          replace H := iF H
          exact absurd ((Option.some.inj H).trans hr_) (by decide)
        ·rw [if_neg c37] at H
         have c37b0 : (t174 == t172) = false := beq_eq_false_iff_ne.mpr c37
         have c37b1 : (t174 != t172) = true := bne_iff_ne.mpr c37
         exact absurd ((Option.some.inj H).trans hr_) (by decide)
   ·replace c14 := Bool.eq_false_iff.mpr c14
    subst c14
    replace H := iF H
    exact absurd ((Option.some.inj H).trans hr_) (by decide)
  ·replace c11 := Bool.eq_false_iff.mpr c11
   subst c11
   replace H := iF H
   exact absurd ((Option.some.inj H).trans hr_) (by decide)

end Go.Proofs.Ytfmddjbekophnaa.PFnExactSlice
