/- Functions of the program, each with its contract, written by a program out of the translation. -/
import Derived.Test.YtjcmcamijaelbaaPDiskx0
import Derived.Test.YtjcmcamijaelbaaZip
namespace Go.Proofs.Ytjcmcamijaelbaa.PDisk
open Go.RowKit Go.Proofs.YtjcmcamijaelbaaW.PrintWords Go.Proofs.YtjcmcamijaelbaaW.PrintLast Go.Proofs.YtjcmcamijaelbaaW.PrintMore Go.Proofs.Ytjcmcamijaelbaa.Zip
attribute [local go_sem] max2_int min2_int max_two min_two max_three min_three max_four min_four   -- for this text's walks alone
set_option linter.unusedVariables false
set_option linter.unusedSimpArgs false
/-! ### impl_Link_138: function 138 -/
def impl_Link_138.f (l0 : List (S93)) : Option ((List (S93))) := if l0.length < 5864062014805 then some l0 else none
set_option maxHeartbeats 8000000 in
set_option maxRecDepth 100000 in
theorem impl_Link_138.calls (A0 : Option Addr) (c0 : Nat) (l0 : List (S93)) (r : List (S93)) (w : World) (hr0 : Kd.C k93 w A0 l0.length l0) (hc0 : l0.length ≤ c0) (h : impl_Link_138.f l0 = some r) :
 Calls Try.prog 138 #[.slice A0 l0.length c0] w fun e w' => ∃ v0_ : Value, e = .returned (v0_) ∧ Kd.R k93 93 w' w.heap.size (fun _ => True) v0_ r ∧ Below w.heap.size w w' := by
 have c1 : l0.length < 5864062014805 := by
  by_cases c : l0.length < 5864062014805
  ·exact c
  ·simp [impl_Link_138.f, c] at h
 obtain rfl : l0 = r := by simpa [impl_Link_138.f, c1] using h
 have LMc := Aside0.mk c1; clear c1 h; have HB := Aside0.mk (Below.refl w.heap.size w)
 cases A0 with
 | none =>
  have hl : l0 = [] := by
   rcases Nat.eq_zero_or_pos l0.length with g | g
   ·exact List.length_eq_zero_iff.1 g
   ·obtain ⟨ad, e, _⟩ := hr0.2.2 g; cases e
  subst hl; clear hr0 hc0; have hq := fun (w : World) (n c : Nat) => Lib.run_eql_slice_nil (P := Try.prog) w 23 93 none n c 0 0 Try.underlying23
  simp only [Option.isNone_none] at hq
  go_enter Try.func138, Try.ntmps138
  go_wp2
  go_ret
  exact ⟨_, rfl, Kd.R_nil _ _ _ _ _, bl⟩
 | some ad =>
  have HR0 := Aside0.mk hr0; clear hr0 hc0; have hq := fun (w : World) (n c : Nat) => Lib.run_eql_slice_nil (P := Try.prog) w 23 93 (some ad) n c 0 0 Try.underlying23
  simp only [Option.isNone_some] at hq
  go_enter Try.func138, Try.ntmps138
  go_wp2_with (first | ((with_reducible refine gD 5 rfl ?_); refine Kd.R_lit k93 _ 93 ?hg (N := 5) ?hd (xs := ([] : List (S93))) (inner := []) (ok := fun _ => True) (okp := fun _ => True) ?hr ?hp (fun _ hk => hk) trivial (Below.refl _ _) (Nat.le_refl _) (by simp) ?_; (case hd => rfl); (case hg => rfl); (case hr => first | (go_simp; done) | (go_simp; rfl)); (case hp => exact (Reps.none _ _)); intro v1 w1 ho hb hg_ hnew_; clear hg_ hnew_; have HO := Aside0.mk (Kd.R_lower ho (below_size bl)); replace HB := bs (w := w) hb; clear hb ho) | ((with_reducible refine gate_builtin (b := .append) (xs := #[.tmp 5, .tmp 6]) rfl ?_); at_builtin; refine Kd.R_append_rows k93 (w0 := w) w.heap.size rfl (.tmp 5) (.tmp 6) 23 93 (.agg #[(.string ⟨#[]⟩), (.int .i64 0)]) 24 rfl Try.underlying23 info93 rfl (by decide) (by omega) v1 [] l0 _ _ _ (fun _ => True) (fun _ => False) rfl rfl ?aO ?aR (fun _ _ h => h) (fun _ h => h.elim) ?aF ?aB ?aS ?aL ?_; (case aR => exact (Kd.C_below HR0.out bl)); (case aB => exact bl); (case aF => exact (fun _ _ => trivial)); (case aO => exact HO.out); (case aS => exact (below_size bl)); (case aL => have := LMc.out; simp; omega); intro v2 w2 ho hb hg hat; clear HO HB hg hat; have HO := Aside0.mk ho; have HB := Aside0.mk hb; clear ho hb; obtain ⟨Ao, co, eo⟩ := Kd.R_slice HO.out; subst eo))
  go_ret
  exact ⟨_, rfl, HO.out, bl⟩
-- NOT PRINTED: function 166 (impl_Link_166)
-- NOT PRINTED: function 164 (impl_Link_164)
-- NOT PRINTED: function 172 (impl_Link_172)
end Go.Proofs.Ytjcmcamijaelbaa.PDisk
