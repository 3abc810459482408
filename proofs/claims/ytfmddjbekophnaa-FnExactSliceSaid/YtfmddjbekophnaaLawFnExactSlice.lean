/- The row of the law FnExactSlice out of its plain statement and the walk. No condition. -/
import Derived.Test.YtfmddjbekophnaaRows
import Derived.Test.YtfmddjbekophnaaPFnExactSlicex4
import Derived.Test.YtfmddjbekophnaaPureFnExactSlice
import Derived.Test.YtfmddjbekophnaaOpen
import Derived.WalkKit
import Derived.ProofKit
import Derived.OpenShut
import Derived.ShutString
import Derived.ChangeOld
import Derived.Below
import Derived.SizedLaws
namespace Go.Proofs.Ytfmddjbekophnaa.fnExactSlice
open Go.ChangeShapes Go.WideShapes Go.ChangeAt Go.RowKit Go.Proofs.Ytfmddjbekophnaa.Open Go.Proofs.Ytfmddjbekophnaa.PFnExactSlice Go.Proofs.YtfmddjbekophnaaW.PrintWords Go.Deep
open Go.ChangeMaps (open_string shut_string)
set_option linter.unusedVariables false
set_option linter.unusedSimpArgs false
theorem own : ownKnob Try.prog.godebug = none := by kernel_rfl
theorem laidOut : laidOutB Try.prog = true := by kernel_rfl
theorem read94 {H : Type} {enc : TypeId × Value → H} {w : World} {base : Nat} {spare : Nat → Bool} {held : Bool} (m : Nat) (cs : List Value) (x : DataW H × List MemPlace) (h : DataW.trod enc Try.prog w base spare held m 94 cs = some x) : ∃ z : S94, k94.K w z cs ∧ (Lit.int .i64 z.f0).wf = true ∧ (Lit.int .i64 z.f1).wf = true := by
  obtain ⟨hl, hf⟩ := open_fields Try.underlying94 (by kernel_rfl) (by kernel_rfl) h
  obtain ⟨u0, y0, m0, e0, t0⟩ := hf 0 _ rfl
  obtain ⟨n0, rfl, g0⟩ := get_int Try.underlying3 t0
  obtain ⟨u1, y1, m1, e1, t1⟩ := hf 1 _ rfl
  obtain ⟨n1, rfl, g1⟩ := get_int Try.underlying3 t1
  obtain rfl : cs = [.int .i64 n0, .int .i64 n1] := by
    have hl_ : cs.length = 2 := hl
    apply List.ext_getElem?
    intro i_
    match i_ with
    | 0 => exact e0
    | 1 => exact e1
    | n_ + 2 => rw [List.getElem?_eq_none (by omega), List.getElem?_eq_none (by simp)]
  exact ⟨⟨n0, n1⟩, k94_mk _ _, g0, g1⟩
set_option maxRecDepth 100000 in
theorem lifted (os : Os) (started : os.Started) (H : Type) (enc : TypeId × Value → H) :
    ReturnsInHanded {} Try.checked os 6 .any (Rows.fnExactSliceSpec.pre6 enc Try.prog Try.f6 Rows.fnExactSliceRow.domain false) (Rows.fnExactSliceSpec.post enc Try.prog Try.f6 false true false false) := by
  refine returnsInHanded_of_change_sized (C := Try.checked) own started (by kernel_rfl) Try.func6
    (ChangeSpec.witness6 (enc := enc) (C := Try.checked) false ⟨#[], #[.slice none 0 0, .int .i64 0, .int .i64 0], []⟩ 8 (by kernel_rfl) (by kernel_rfl) (by kernel_rfl) (by kernel_rfl)) ?_
  intro W base args ds gs before hval0 hW hcnd hsz0 _
  have hval : ∀ (j : Nat) t v, Try.f6.params[j]? = some t → args[j]? = some v → Value.okWide Try.prog W .any base t v := hval0
  have hW' := hW
  obtain ⟨p, q, hA0, hV, rfl, hfz, hnd⟩ := hW
  have hA : DataW.TrodAll enc Try.prog W 0 (fun _ => true) true Try.f6.params.toList args.toList ds p := hA0
  rw [Try.params6] at hA hval
  obtain ⟨v0, vs0, d0, ds0, p0, q0, hargs, rfl, rfl, h0, r0⟩ := trodAll_cons hA
  obtain ⟨v1, vs1, d1, ds1, p1, q1, rfl, rfl, rfl, h1, r1⟩ := trodAll_cons r0
  obtain ⟨v2, vs2, d2, ds2, p2, q2, rfl, rfl, rfl, h2, r2⟩ := trodAll_cons r1
  obtain ⟨rfl, rfl, rfl⟩ := trodAll_nil r2
  obtain rfl : args = #[v0, v1, v2] := by cases args; simp_all
  obtain ⟨rfl, rfl⟩ := trodVars_none hV
  have k0 := h0
  have lt0 : ∀ x ∈ p0, x.block < W.heap.size := by obtain ⟨m, hm⟩ := k0; exact DataW.trod_lt m _ _ _ hm
  obtain ⟨n0_, hf0⟩ := h0
  obtain ⟨s0_, sl0_, sc0_, rfl⟩ := okWide_slice Try.underlying22 (hval 0 22 v0 rfl rfl)
  obtain ⟨A0, c0, l0, hE0, hr0, hc0, hm0, hg0⟩ := open_rows k94 (fun z => (Lit.int .i64 z.f0).wf = true ∧ (Lit.int .i64 z.f1).wf = true) Try.underlying22 (by kernel_rfl) read94 (by simpa [Value.cells] using hf0)
  obtain ⟨rfl, rfl, rfl⟩ : A0 = s0_ ∧ l0.length = sl0_ ∧ c0 = sc0_ := by injection hE0 with ea_ eb_ ec_; exact ⟨ea_.symm, eb_.symm, ec_.symm⟩
  obtain ⟨a1, rfl, rfl, rfl, w1⟩ := open_int Try.underlying3 (hval 1 3 v1 rfl rfl) h1
  obtain ⟨a2, rfl, rfl, rfl, w2⟩ := open_int Try.underlying3 (hval 2 3 v2 rfl rfl) h2
  clear hA0 hval0 hsz0 hval
  obtain ⟨k, hP⟩ := Pure.FnExactSlice l0 a1 a2 (Nat.le_trans hc0 hm0) hg0 w1 w2
  refine (laws_FnExactSlice.calls k A0 c0 l0 a1 a2 true W hr0 hc0 hP rfl).mono fun e W' ⟨he, bel⟩ => ?_
  subst he
  exact ⟨_, rfl, _, _, _, [], _, [], hW', trodAll_mk1 (shut_bool Try.underlying4 _), (trodAll_cons_mk (Below.trod laidOut (by kernel_rfl) (of_decide_eq_true (by kernel_rfl)) k0 bel lt0) (trodAll_cons_mk (shut_int Try.underlying3 w1) (trodAll_cons_mk (shut_int Try.underlying3 w2) trodAll_mk0))), rfl, bel.frame _, fun h => by cases h⟩
theorem over : Rows.fnExactSliceRow.holds Try.pinned (OpenSpec.ofChange Rows.fnExactSliceSpec) :=
  OpenClaim.holds_of_wide 6 Try.f6 rfl rfl rfl rfl rfl rfl rfl ⟨rfl, rfl, rfl, rfl, rfl⟩ rfl rfl rfl rfl rfl (by kernel_rfl) Try.func6 (by kernel_rfl)
    (of_decide_eq_true (by kernel_rfl)) (by unfold Func.isWrapper; first | (rw [if_pos (by decide +kernel)]; kernel_rfl) | (rw [if_neg (by decide +kernel)]; exact ⟨rfl, rfl⟩))
    (fun os started H enc _ => lifted os started H enc)
theorem proved : Rows.FnExactSliceSaid := over
#print axioms proved
end Go.Proofs.Ytfmddjbekophnaa.fnExactSlice
namespace Go.Proofs.Ytfmddjbekophnaa
/-- The row, under a short name, for the claim. -/
theorem fnExactSlice_holds : Rows.FnExactSliceSaid := fnExactSlice.proved
end Go.Proofs.Ytfmddjbekophnaa
