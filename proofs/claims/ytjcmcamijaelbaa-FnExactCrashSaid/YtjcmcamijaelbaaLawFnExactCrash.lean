/- The row of the law FnExactCrash out of its plain statement and the walk. No condition. -/
import Derived.Test.YtjcmcamijaelbaaRows
import Derived.Test.YtjcmcamijaelbaaPFnExactCrashx1
import Derived.Test.YtjcmcamijaelbaaPureFnExactCrash
import Derived.Test.YtjcmcamijaelbaaOpen
import Derived.WalkKit
import Derived.ProofKit
import Derived.OpenShut
import Derived.ShutString
import Derived.ChangeOld
import Derived.Below
import Derived.SizedLaws
namespace Go.Proofs.Ytjcmcamijaelbaa.fnExactCrash
open Go.ChangeShapes Go.WideShapes Go.ChangeAt Go.RowKit Go.Proofs.Ytjcmcamijaelbaa.Open Go.Proofs.Ytjcmcamijaelbaa.PDisk Go.Proofs.Ytjcmcamijaelbaa.PFnExactCrash Go.Proofs.YtjcmcamijaelbaaW.PrintWords Go.Deep
open Go.ChangeMaps (open_string shut_string)
set_option linter.unusedVariables false
set_option linter.unusedSimpArgs false
theorem own : ownKnob Try.prog.godebug = none := by kernel_rfl
theorem laidOut : laidOutB Try.prog = true := by kernel_rfl
theorem read134 {H : Type} {enc : TypeId × Value → H} {w : World} {base : Nat} {spare : Nat → Bool} {held : Bool} (m : Nat) (cs : List Value) (x : DataW H × List MemPlace) (h : DataW.trod enc Try.prog w base spare held m 134 cs = some x) : ∃ z : S134, k134.K w z cs ∧ (Lit.int .i64 z.f0).wf = true ∧ z.f1.size ≤ maxLen ∧ (Lit.int .i64 z.f2).wf = true := by
  obtain ⟨hl, hf⟩ := open_fields Try.underlying134 (by kernel_rfl) (by kernel_rfl) h
  obtain ⟨u0, y0, m0, e0, t0⟩ := hf 0 _ rfl
  obtain ⟨n0, rfl, g0⟩ := get_int Try.underlying3 t0
  obtain ⟨u1, y1, m1, e1, t1⟩ := hf 1 _ rfl
  obtain ⟨n1, rfl, g1⟩ := get_string Try.underlying9 t1
  obtain ⟨u2, y2, m2, e2, t2⟩ := hf 2 _ rfl
  obtain ⟨n2, rfl, g2⟩ := get_int Try.underlying3 t2
  obtain rfl : cs = [.int .i64 n0, .string n1, .int .i64 n2] := by
    have hl_ : cs.length = 3 := hl
    apply List.ext_getElem?
    intro i_
    match i_ with
    | 0 => exact e0
    | 1 => exact e1
    | 2 => exact e2
    | n_ + 3 => rw [List.getElem?_eq_none (by omega), List.getElem?_eq_none (by simp)]
  exact ⟨⟨n0, n1, n2⟩, k134_mk _ _, g0, g1, g2⟩
theorem read136 {H : Type} {enc : TypeId × Value → H} {w : World} {base : Nat} {spare : Nat → Bool} {held : Bool} (m : Nat) (cs : List Value) (x : DataW H × List MemPlace) (h : DataW.trod enc Try.prog w base spare held m 136 cs = some x) : ∃ z : S136, k136.K w z cs ∧ z.f0.size ≤ maxLen ∧ (Lit.int .i64 z.f1).wf = true := by
  obtain ⟨hl, hf⟩ := open_fields Try.underlying136 (by kernel_rfl) (by kernel_rfl) h
  obtain ⟨u0, y0, m0, e0, t0⟩ := hf 0 _ rfl
  obtain ⟨n0, rfl, g0⟩ := get_string Try.underlying9 t0
  obtain ⟨u1, y1, m1, e1, t1⟩ := hf 1 _ rfl
  obtain ⟨n1, rfl, g1⟩ := get_int Try.underlying3 t1
  obtain rfl : cs = [.string n0, .int .i64 n1] := by
    have hl_ : cs.length = 2 := hl
    apply List.ext_getElem?
    intro i_
    match i_ with
    | 0 => exact e0
    | 1 => exact e1
    | n_ + 2 => rw [List.getElem?_eq_none (by omega), List.getElem?_eq_none (by simp)]
  exact ⟨⟨n0, n1⟩, k136_mk _ _, g0, g1⟩
theorem read138 {H : Type} {enc : TypeId × Value → H} {w : World} {base : Nat} {spare : Nat → Bool} {held : Bool} (m : Nat) (cs : List Value) (x : DataW H × List MemPlace) (h : DataW.trod enc Try.prog w base spare held m 138 cs = some x) : ∃ z : S138, k138.K w z cs ∧ (Lit.int .i64 z.f0).wf = true ∧ z.f1.size ≤ maxLen ∧ z.f2.size ≤ maxLen ∧ (Lit.int .i64 z.f3).wf = true := by
  obtain ⟨hl, hf⟩ := open_fields Try.underlying138 (by kernel_rfl) (by kernel_rfl) h
  obtain ⟨u0, y0, m0, e0, t0⟩ := hf 0 _ rfl
  obtain ⟨n0, rfl, g0⟩ := get_int Try.underlying3 t0
  obtain ⟨u1, y1, m1, e1, t1⟩ := hf 1 _ rfl
  obtain ⟨n1, rfl, g1⟩ := get_string Try.underlying9 t1
  obtain ⟨u2, y2, m2, e2, t2⟩ := hf 2 _ rfl
  obtain ⟨n2, rfl, g2⟩ := get_string Try.underlying9 t2
  obtain ⟨u3, y3, m3, e3, t3⟩ := hf 3 _ rfl
  obtain ⟨n3, rfl, g3⟩ := get_int Try.underlying3 t3
  obtain rfl : cs = [.int .i64 n0, .string n1, .string n2, .int .i64 n3] := by
    have hl_ : cs.length = 4 := hl
    apply List.ext_getElem?
    intro i_
    match i_ with
    | 0 => exact e0
    | 1 => exact e1
    | 2 => exact e2
    | 3 => exact e3
    | n_ + 4 => rw [List.getElem?_eq_none (by omega), List.getElem?_eq_none (by simp)]
  exact ⟨⟨n0, n1, n2, n3⟩, k138_mk _ _, g0, g1, g2, g3⟩
theorem read3 {H : Type} {enc : TypeId × Value → H} {w : World} {base : Nat} {spare : Nat → Bool} {held : Bool} (m : Nat) (cs : List Value) (x : DataW H × List MemPlace) (h : DataW.trod enc Try.prog w base spare held m 3 cs = some x) : ∃ z : Int, (Kd.int .i64).K w z cs ∧ (Lit.int .i64 z).wf = true := by
  obtain ⟨n, h1, _, h3⟩ := DataW.trod_int Try.underlying3 h
  exact ⟨n, h1, h3⟩
set_option maxRecDepth 100000 in
theorem lifted (os : Os) (started : os.Started) (H : Type) (enc : TypeId × Value → H) :
    ReturnsInHanded {} Try.checked os 14 .any (Rows.fnExactCrashSpec.pre6 enc Try.prog Try.f14 Rows.fnExactCrashRow.domain false) (Rows.fnExactCrashSpec.post enc Try.prog Try.f14 false true false false) := by
  refine returnsInHanded_of_change_sized (C := Try.checked) own started (by kernel_rfl) Try.func14
    (ChangeSpec.witness6 (enc := enc) (C := Try.checked) false ⟨#[], #[.agg #[.int .i64 0, .int .i64 0, .slice none 0 0, .slice none 0 0, .slice none 0 0], .int .i64 0, .slice none 0 0], []⟩ 8 (by kernel_rfl) (by kernel_rfl) (by kernel_rfl) (by kernel_rfl)) ?_
  intro W base args ds gs before hval0 hW hcnd hsz0 _
  have hval : ∀ (j : Nat) t v, Try.f14.params[j]? = some t → args[j]? = some v → Value.okWide Try.prog W .any base t v := hval0
  have hW' := hW
  obtain ⟨p, q, hA0, hV, rfl, hfz, hnd⟩ := hW
  have hA : DataW.TrodAll enc Try.prog W 0 (fun _ => true) true Try.f14.params.toList args.toList ds p := hA0
  rw [Try.params14] at hA hval
  obtain ⟨v0, vs0, d0, ds0, p0, q0, hargs, rfl, rfl, h0, r0⟩ := trodAll_cons hA
  obtain ⟨v1, vs1, d1, ds1, p1, q1, rfl, rfl, rfl, h1, r1⟩ := trodAll_cons r0
  obtain ⟨v2, vs2, d2, ds2, p2, q2, rfl, rfl, rfl, h2, r2⟩ := trodAll_cons r1
  obtain ⟨rfl, rfl, rfl⟩ := trodAll_nil r2
  obtain rfl : args = #[v0, v1, v2] := by cases args; simp_all
  obtain ⟨rfl, rfl⟩ := trodVars_none hV
  have k0 := h0
  have lt0 : ∀ x ∈ p0, x.block < W.heap.size := by obtain ⟨m, hm⟩ := k0; exact DataW.trod_lt m _ _ _ hm
  obtain ⟨cs0, rfl, hl0, hf0⟩ := open_agg Try.underlying44 (by kernel_rfl) (by kernel_rfl) (hval 0 44 v0 rfl rfl) h0
  obtain ⟨u0_0, y0_0, m0_0, e0_0, t0_0⟩ := hf0 0 _ rfl
  obtain ⟨a0_0, rfl, w0_0⟩ := get_int Try.underlying3 t0_0
  obtain ⟨u0_1, y0_1, m0_1, e0_1, t0_1⟩ := hf0 1 _ rfl
  obtain ⟨a0_1, rfl, w0_1⟩ := get_int Try.underlying3 t0_1
  obtain ⟨u0_2, y0_2, m0_2, e0_2, t0_2⟩ := hf0 2 _ rfl
  obtain ⟨A0_2, c0_2, l0_2, rfl, hr0_2, hc0_2, hm0_2, hg0_2⟩ := open_rows k134 (fun z => (Lit.int .i64 z.f0).wf = true ∧ z.f1.size ≤ maxLen ∧ (Lit.int .i64 z.f2).wf = true) Try.underlying40 (by kernel_rfl) read134 t0_2
  obtain ⟨u0_3, y0_3, m0_3, e0_3, t0_3⟩ := hf0 3 _ rfl
  obtain ⟨A0_3, c0_3, l0_3, rfl, hr0_3, hc0_3, hm0_3, hg0_3⟩ := open_rows k136 (fun z => z.f0.size ≤ maxLen ∧ (Lit.int .i64 z.f1).wf = true) Try.underlying41 (by kernel_rfl) read136 t0_3
  obtain ⟨u0_4, y0_4, m0_4, e0_4, t0_4⟩ := hf0 4 _ rfl
  obtain ⟨A0_4, c0_4, l0_4, rfl, hr0_4, hc0_4, hm0_4, hg0_4⟩ := open_rows k138 (fun z => (Lit.int .i64 z.f0).wf = true ∧ z.f1.size ≤ maxLen ∧ z.f2.size ≤ maxLen ∧ (Lit.int .i64 z.f3).wf = true) Try.underlying42 (by kernel_rfl) read138 t0_4
  obtain rfl : cs0 = [.int .i64 a0_0, .int .i64 a0_1, .slice A0_2 l0_2.length c0_2, .slice A0_3 l0_3.length c0_3, .slice A0_4 l0_4.length c0_4] := by
    have hl_ : cs0.length = 5 := hl0
    apply List.ext_getElem?
    intro i_
    match i_ with
    | 0 => exact e0_0
    | 1 => exact e0_1
    | 2 => exact e0_2
    | 3 => exact e0_3
    | 4 => exact e0_4
    | n_ + 5 => rw [List.getElem?_eq_none (by omega), List.getElem?_eq_none (by simp)]
  obtain ⟨a1, rfl, rfl, rfl, w1⟩ := open_int Try.underlying3 (hval 1 3 v1 rfl rfl) h1
  have k2 := h2
  have lt2 : ∀ x ∈ p2, x.block < W.heap.size := by obtain ⟨m, hm⟩ := k2; exact DataW.trod_lt m _ _ _ hm
  obtain ⟨n2_, hf2⟩ := h2
  obtain ⟨s2_, sl2_, sc2_, rfl⟩ := okWide_slice Try.underlying61 (hval 2 61 v2 rfl rfl)
  obtain ⟨A2, c2, l2, hE2, hr2, hc2, hm2, hg2⟩ := open_rows (Kd.int .i64) (fun z => (Lit.int .i64 z).wf = true) Try.underlying61 (by kernel_rfl) read3 (by simpa [Value.cells] using hf2)
  obtain ⟨rfl, rfl, rfl⟩ : A2 = s2_ ∧ l2.length = sl2_ ∧ c2 = sc2_ := by injection hE2 with ea_ eb_ ec_; exact ⟨ea_.symm, eb_.symm, ec_.symm⟩
  clear hA0 hval0 hsz0 hval
  obtain ⟨k, hP⟩ := Pure.FnExactCrash a0_0 a0_1 l0_2 l0_3 l0_4 a1 l2 w0_0 w0_1 (Nat.le_trans hc0_2 hm0_2) hg0_2 (Nat.le_trans hc0_3 hm0_3) hg0_3 (Nat.le_trans hc0_4 hm0_4) hg0_4 w1 (Nat.le_trans hc2 hm2) hg2
  refine (laws_FnExactCrash.calls k a0_0 a0_1 A0_2 c0_2 l0_2 A0_3 c0_3 l0_3 A0_4 c0_4 l0_4 a1 A2 c2 l2 true W hr0_2 hc0_2 hr0_3 hc0_3 hr0_4 hc0_4 hr2 hc2 hP rfl).mono fun e W' ⟨he, bel⟩ => ?_
  subst he
  exact ⟨_, rfl, _, _, _, [], _, [], hW', trodAll_mk1 (shut_bool Try.underlying4 _), (trodAll_cons_mk (Below.trod laidOut (by kernel_rfl) (of_decide_eq_true (by kernel_rfl)) k0 bel lt0) (trodAll_cons_mk (shut_int Try.underlying3 w1) (trodAll_cons_mk (Below.trod laidOut (by kernel_rfl) (of_decide_eq_true (by kernel_rfl)) k2 bel lt2) trodAll_mk0))), rfl, bel.frame _, fun h => by cases h⟩
theorem over : Rows.fnExactCrashRow.holds Try.pinned (OpenSpec.ofChange Rows.fnExactCrashSpec) :=
  OpenClaim.holds_of_wide 14 Try.f14 rfl rfl rfl rfl rfl rfl rfl ⟨rfl, rfl, rfl, rfl, rfl⟩ rfl rfl rfl rfl rfl (by kernel_rfl) Try.func14 (by kernel_rfl)
    (of_decide_eq_true (by kernel_rfl)) (by unfold Func.isWrapper; first | (rw [if_pos (by decide +kernel)]; kernel_rfl) | (rw [if_neg (by decide +kernel)]; exact ⟨rfl, rfl⟩))
    (fun os started H enc _ => lifted os started H enc)
theorem proved : Rows.FnExactCrashSaid := over
#print axioms proved
end Go.Proofs.Ytjcmcamijaelbaa.fnExactCrash
namespace Go.Proofs.Ytjcmcamijaelbaa
/-- The row, under a short name, for the claim. -/
theorem fnExactCrash_holds : Rows.FnExactCrashSaid := fnExactCrash.proved
end Go.Proofs.Ytjcmcamijaelbaa
