-- Printed by this claim's own program; Lean checks it.
import Derived.Test.YtanmcbjlooknoaaRows
import Derived.Test.YtanmcbjlooknoaaPFnExactByPairsx4
import Derived.Test.YtanmcbjlooknoaaPureFnExactByPairs
import Derived.Test.YtanmcbjlooknoaaOpens
import Derived.WalkKit
import Derived.ProofKit
import Derived.OpenShut
import Derived.ShutString
import Derived.ChangeOld
import Derived.Below
import Derived.SizedLaws
import Derived.Test.YtanmcbjlooknoaaWSized
namespace Go.Proofs.Ytanmcbjlooknoaa.fnExactByPairs
open Go.ChangeShapes Go.WideShapes Go.ChangeAt Go.RowKit Go.Proofs.Ytanmcbjlooknoaa.PFnExactByPairs Go.Proofs.Ytanmcbjlooknoaa.Opens Go.Proofs.YtanmcbjlooknoaaW.PrintWords
open Go.ChangeMaps (open_string shut_string)
set_option linter.unusedVariables false
theorem own : ownKnob Try.prog.godebug = none := by kernel_rfl
theorem laidOut : laidOutB Try.prog = true := by kernel_rfl
theorem opens0 : Opens Try.prog (Kd.slice 57 k57) 34 (fun x : List (S57) => (x.length ≤ maxLen ∧ ∀ y1_ : S57, y1_ ∈ x → ((Lit.int .i64 y1_.f0).wf = true ∧ (Lit.int .i64 y1_.f1).wf = true))) := (opens_slice (P := Try.prog) (d := k57) (z57 : S57) Try.underlying34 (by kernel_rfl) (show Opens Try.prog k57 57 _ from opens_iso (fun x : S57 => (x.f0, x.f1)) (fun p => ⟨p.1, p.2⟩) (fun _ => rfl) (opens_pair (P := Try.prog) (d0 := (Kd.int .i64)) (d1 := (Kd.int .i64)) Try.underlying57 rfl rfl (by kernel_rfl) (by kernel_rfl) (by kernel_rfl) (opens_int (P := Try.prog) Try.underlying3) (opens_int (P := Try.prog) Try.underlying3))))
set_option maxRecDepth 100000 in
theorem lifted (os : Os) (started : os.Started) (H : Type) (enc : TypeId × Value → H) :
    ReturnsInHanded {} Try.checked os 8 .any (Rows.fnExactByPairsSpec.pre6 enc Try.prog Try.f8 Rows.fnExactByPairsRow.domain false) (Rows.fnExactByPairsSpec.post enc Try.prog Try.f8 false true false false) := by
  refine returnsInHanded_of_change_sized (C := Try.checked) own started (by kernel_rfl) Try.func8
    (ChangeSpec.witness6 (enc := enc) (C := Try.checked) false ⟨#[], #[.slice none 0 0], []⟩ 8 (by kernel_rfl) (by kernel_rfl) (by kernel_rfl) (by kernel_rfl)) ?_
  intro W base args ds gs before hval0 hW hcnd hsz0 _
  have hsz : (DataW.weightsEach Try.prog (Try.f8.params.toList ++ Rows.fnExactByPairsSpec.plain.varTypes Try.prog) (ds ++ gs)).all (· ≤ reachBytes) = true := hsz0
  have hval : ∀ (j : Nat) t v, Try.f8.params[j]? = some t → args[j]? = some v → Value.okWide Try.prog W .any base t v := hval0
  have hW' := hW
  obtain ⟨p, q, hA0, hV, rfl, hfz, hnd⟩ := hW
  have hA : DataW.TrodAll enc Try.prog W 0 (fun _ => true) true Try.f8.params.toList args.toList ds p := hA0
  rw [Try.params8] at hA hval hsz
  obtain ⟨v0, vs0, d0, ds0, p0, q0, hargs, rfl, rfl, h0, r0⟩ := trodAll_cons hA
  obtain ⟨rfl, rfl, rfl⟩ := trodAll_nil r0
  obtain rfl : args = #[v0] := by cases args; simp_all
  obtain ⟨rfl, rfl⟩ := trodVars_none hV
  obtain ⟨a0, len0, cap0, rfl⟩ := okWide_slice Try.underlying34 (hval 0 34 v0 rfl rfl)
  have k0 := h0
  have lt0 : ∀ x ∈ p0, x.block < W.heap.size := by obtain ⟨m, hm⟩ := k0; exact DataW.trod_lt m _ _ _ hm
  obtain ⟨l0, rfl, hc0, hr0, hw0⟩ := arg_slice opens0 h0
  clear hA0 hval0 hsz0 hsz
  obtain ⟨k, h⟩ := Pure.FnExactByPairs l0 hw0
  refine (laws_FnExactByPairs.calls k _ _ l0 true W hr0 hc0 h).mono fun e W' hpost => ?_
  obtain ⟨he, bel0⟩ := hpost
  have bel : Below W.heap.size W W' := bel0
  subst he
  exact ⟨_, rfl, _, _, _, [], _, [], hW', trodAll_mk1 (shut_bool Try.underlying4 _), (trodAll_cons_mk (Below.trod laidOut (by kernel_rfl) (of_decide_eq_true (by kernel_rfl)) k0 bel lt0) trodAll_mk0), rfl, bel.frame _, fun h => by cases h⟩
theorem over : Rows.fnExactByPairsRow.holds Try.pinned (OpenSpec.ofChange Rows.fnExactByPairsSpec) :=
  OpenClaim.holds_of_wide 8 Try.f8 rfl rfl rfl rfl rfl rfl rfl ⟨rfl, rfl, rfl, rfl, rfl⟩ rfl rfl rfl rfl rfl (by kernel_rfl) Try.func8 (by kernel_rfl)
    (of_decide_eq_true (by kernel_rfl)) (by unfold Func.isWrapper; first | (rw [if_pos (by decide +kernel)]; kernel_rfl) | (rw [if_neg (by decide +kernel)]; exact ⟨rfl, rfl⟩))
    (fun os started H enc _ => lifted os started H enc)
theorem proved : Rows.FnExactByPairsSaid := over
#print axioms proved
end Go.Proofs.Ytanmcbjlooknoaa.fnExactByPairs
namespace Go.Proofs.Ytanmcbjlooknoaa
/-- The row, under a short name, for the claim. -/
theorem fnExactByPairs_holds : Rows.FnExactByPairsSaid := fnExactByPairs.proved
end Go.Proofs.Ytanmcbjlooknoaa
