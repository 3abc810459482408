/- The row of the law FnNames out of its plain statement and the walk. No condition. -/
import Derived.Test.YtndbmllnkjngnaaRows
import Derived.Test.YtndbmllnkjngnaaPFnNamesx1
import Derived.Test.YtndbmllnkjngnaaPureFnNames
import Derived.Test.YtndbmllnkjngnaaOpen
import Derived.WalkKit
import Derived.ProofKit
import Derived.OpenShut
import Derived.ShutString
import Derived.ChangeOld
import Derived.Below
import Derived.SizedLaws
namespace Go.Proofs.Ytndbmllnkjngnaa.fnNames
open Go.ChangeShapes Go.WideShapes Go.ChangeAt Go.RowKit Go.Proofs.Ytndbmllnkjngnaa.Open Go.Proofs.Ytndbmllnkjngnaa.PDs Go.Proofs.Ytndbmllnkjngnaa.PFnNames Go.Proofs.YtndbmllnkjngnaaW.PrintWords Go.Deep
open Go.ChangeMaps (open_string shut_string)
set_option linter.unusedVariables false
set_option linter.unusedSimpArgs false
theorem own : ownKnob Try.prog.godebug = none := by kernel_rfl
theorem laidOut : laidOutB Try.prog = true := by kernel_rfl
theorem read5 {H : Type} {enc : TypeId × Value → H} {w : World} {base : Nat} {spare : Nat → Bool} {held : Bool} (m : Nat) (cs : List Value) (x : DataW H × List MemPlace) (h : DataW.trod enc Try.prog w base spare held m 5 cs = some x) : ∃ z : Int, (Kd.int .u8).K w z cs ∧ (Lit.int .u8 z).wf = true := by
  obtain ⟨n, h1, _, h3⟩ := DataW.trod_int Try.underlying5 h
  exact ⟨n, h1, h3⟩
set_option maxRecDepth 100000 in
theorem lifted (os : Os) (started : os.Started) (H : Type) (enc : TypeId × Value → H) :
    ReturnsInHanded {} Try.checked os 3 .any (Rows.fnNamesSpec.pre6 enc Try.prog Try.f3 Rows.fnNamesRow.domain false) (Rows.fnNamesSpec.post enc Try.prog Try.f3 false true false false) := by
  refine returnsInHanded_of_change_sized (C := Try.checked) own started (by kernel_rfl) Try.func3
    (ChangeSpec.witness6 (enc := enc) (C := Try.checked) false ⟨#[], #[.slice none 0 0], []⟩ 8 (by kernel_rfl) (by kernel_rfl) (by kernel_rfl) (by kernel_rfl)) ?_
  intro W base args ds gs before hval0 hW hcnd hsz0 _
  have hval : ∀ (j : Nat) t v, Try.f3.params[j]? = some t → args[j]? = some v → Value.okWide Try.prog W .any base t v := hval0
  have hW' := hW
  obtain ⟨p, q, hA0, hV, rfl, hfz, hnd⟩ := hW
  have hA : DataW.TrodAll enc Try.prog W 0 (fun _ => true) true Try.f3.params.toList args.toList ds p := hA0
  rw [Try.params3] at hA hval
  obtain ⟨v0, vs0, d0, ds0, p0, q0, hargs, rfl, rfl, h0, r0⟩ := trodAll_cons hA
  obtain ⟨rfl, rfl, rfl⟩ := trodAll_nil r0
  obtain rfl : args = #[v0] := by cases args; simp_all
  obtain ⟨rfl, rfl⟩ := trodVars_none hV
  have k0 := h0
  have lt0 : ∀ x ∈ p0, x.block < W.heap.size := by obtain ⟨m, hm⟩ := k0; exact DataW.trod_lt m _ _ _ hm
  obtain ⟨n0_, hf0⟩ := h0
  obtain ⟨s0_, sl0_, sc0_, rfl⟩ := okWide_slice Try.underlying22 (hval 0 22 v0 rfl rfl)
  obtain ⟨A0, c0, l0, hE0, hr0, hc0, hm0, hg0⟩ := open_rows (Kd.int .u8) (fun z => (Lit.int .u8 z).wf = true) Try.underlying22 (by kernel_rfl) read5 (by simpa [Value.cells] using hf0)
  obtain ⟨rfl, rfl, rfl⟩ : A0 = s0_ ∧ l0.length = sl0_ ∧ c0 = sc0_ := by injection hE0 with ea_ eb_ ec_; exact ⟨ea_.symm, eb_.symm, ec_.symm⟩
  clear hA0 hval0 hsz0 hval
  obtain ⟨k, hP⟩ := Pure.FnNames l0 (Nat.le_trans hc0 hm0) hg0
  refine (laws_FnNames.calls k A0 c0 l0 true W hr0 hc0 hP rfl).mono fun e W' ⟨he, bel⟩ => ?_
  subst he
  exact ⟨_, rfl, _, _, _, [], _, [], hW', trodAll_mk1 (shut_bool Try.underlying4 _), (trodAll_cons_mk (Below.trod laidOut (by kernel_rfl) (of_decide_eq_true (by kernel_rfl)) k0 bel lt0) trodAll_mk0), rfl, bel.frame _, fun h => by cases h⟩
theorem over : Rows.fnNamesRow.holds Try.pinned (OpenSpec.ofChange Rows.fnNamesSpec) :=
  OpenClaim.holds_of_wide 3 Try.f3 rfl rfl rfl rfl rfl rfl rfl ⟨rfl, rfl, rfl, rfl, rfl⟩ rfl rfl rfl rfl rfl (by kernel_rfl) Try.func3 (by kernel_rfl)
    (of_decide_eq_true (by kernel_rfl)) (by unfold Func.isWrapper; first | (rw [if_pos (by decide +kernel)]; kernel_rfl) | (rw [if_neg (by decide +kernel)]; exact ⟨rfl, rfl⟩))
    (fun os started H enc _ => lifted os started H enc)
theorem proved : Rows.FnNamesSaid := over
#print axioms proved
end Go.Proofs.Ytndbmllnkjngnaa.fnNames
namespace Go.Proofs.Ytndbmllnkjngnaa
/-- The row, under a short name, for the claim. -/
theorem fnNames_holds : Rows.FnNamesSaid := fnNames.proved
end Go.Proofs.Ytndbmllnkjngnaa
