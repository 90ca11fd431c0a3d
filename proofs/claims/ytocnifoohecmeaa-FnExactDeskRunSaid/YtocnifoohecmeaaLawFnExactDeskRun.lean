-- Printed by this claim's own program; Lean checks it.
import Derived.Test.YtocnifoohecmeaaRows
import Derived.Test.YtocnifoohecmeaaPFnExactDeskRunx14
import Derived.Test.YtocnifoohecmeaaPureFnExactDeskRun
import Derived.Test.YtocnifoohecmeaaVFnExactDeskRun
import Derived.WalkKit
import Derived.ProofKit
import Derived.OpenShut
import Derived.ShutString
import Derived.ChangeOld
import Derived.Below
import Derived.SizedLaws
namespace Go.Proofs.Ytocnifoohecmeaa.fnExactDeskRun
open Go.ChangeShapes Go.WideShapes Go.ChangeAt Go.RowKit Go.Proofs.Ytocnifoohecmeaa.PFnExactDeskRun Go.Proofs.Ytocnifoohecmeaa.Opens Go.Proofs.YtocnifoohecmeaaW.PrintWords
open Go.ChangeMaps (open_string shut_string)
set_option linter.unusedVariables false
theorem own : ownKnob Try.prog.godebug = none := by kernel_rfl
theorem laidOut : laidOutB Try.prog = true := by kernel_rfl
theorem opens0 : Opens Try.prog (Kd.pair (Kd.slice 79 k79) (Kd.slice 36 (Kd.slice 79 k79))) 39 (fun p : (List (S79)) × (List (List (S79))) => (p.1.length ≤ maxLen ∧ ∀ y1_ : S79, y1_ ∈ p.1 → ((Lit.int .i64 y1_.f0).wf = true ∧ (Lit.int .i64 y1_.f1).wf = true)) ∧ (p.2.length ≤ maxLen ∧ ∀ y1_ : List (S79), y1_ ∈ p.2 → (y1_.length ≤ maxLen ∧ ∀ y2_ : S79, y2_ ∈ y1_ → ((Lit.int .i64 y2_.f0).wf = true ∧ (Lit.int .i64 y2_.f1).wf = true)))) := (opens_pair (P := Try.prog) (d0 := (Kd.slice 79 k79)) (d1 := (Kd.slice 36 (Kd.slice 79 k79))) Try.underlying39 rfl rfl (by kernel_rfl) (by kernel_rfl) (by kernel_rfl) (opens_slice (P := Try.prog) (d := k79) (z79 : S79) Try.underlying36 (by kernel_rfl) (show Opens Try.prog k79 79 _ from opens_iso (fun x : S79 => (x.f0, x.f1)) (fun p => ⟨p.1, p.2⟩) (fun _ => rfl) (opens_pair (P := Try.prog) (d0 := (Kd.int .i64)) (d1 := (Kd.int .i64)) Try.underlying79 rfl rfl (by kernel_rfl) (by kernel_rfl) (by kernel_rfl) (opens_int (P := Try.prog) Try.underlying3) (opens_int (P := Try.prog) Try.underlying3)))) (opens_slice (P := Try.prog) (d := (Kd.slice 79 k79)) ([] : List (S79)) Try.underlying37 (by kernel_rfl) (opens_slice (P := Try.prog) (d := k79) (z79 : S79) Try.underlying36 (by kernel_rfl) (show Opens Try.prog k79 79 _ from opens_iso (fun x : S79 => (x.f0, x.f1)) (fun p => ⟨p.1, p.2⟩) (fun _ => rfl) (opens_pair (P := Try.prog) (d0 := (Kd.int .i64)) (d1 := (Kd.int .i64)) Try.underlying79 rfl rfl (by kernel_rfl) (by kernel_rfl) (by kernel_rfl) (opens_int (P := Try.prog) Try.underlying3) (opens_int (P := Try.prog) Try.underlying3))))))
theorem opens1 : Opens Try.prog (Kd.slice 57 k57) 65 (fun x : List (S57) => (x.length ≤ maxLen ∧ ∀ y1_ : S57, y1_ ∈ x → ((Lit.int .i64 y1_.f0).wf = true ∧ (Lit.int .i64 y1_.f1).wf = true ∧ (Lit.int .i64 y1_.f2).wf = true))) := (opens_slice (P := Try.prog) (d := k57) (z57 : S57) Try.underlying65 (by kernel_rfl) (show Opens Try.prog k57 57 _ from opens_iso (fun x : S57 => (x.f0, x.f1, x.f2)) (fun p => ⟨p.1, p.2.1, p.2.2⟩) (fun _ => rfl) (opens_triple (P := Try.prog) (d0 := (Kd.int .i64)) (d1 := (Kd.int .i64)) (d2 := (Kd.int .i64)) Try.underlying57 rfl rfl rfl (by kernel_rfl) (by kernel_rfl) (by kernel_rfl) (by kernel_rfl) (opens_int (P := Try.prog) Try.underlying3) (opens_int (P := Try.prog) Try.underlying3) (opens_int (P := Try.prog) Try.underlying3))))
set_option maxRecDepth 100000 in
theorem lifted (os : Os) (started : os.Started) (H : Type) (enc : TypeId × Value → H) :
    ReturnsInHanded {} Try.checked os 10 .any (Rows.fnExactDeskRunSpec.pre6 enc Try.prog Try.f10 Rows.fnExactDeskRunRow.domain false) (Rows.fnExactDeskRunSpec.post enc Try.prog Try.f10 false true false false) := by
  refine returnsInHanded_of_change_sized (C := Try.checked) own started (by kernel_rfl) Try.func10
    (ChangeSpec.witness6 (enc := enc) (C := Try.checked) false ⟨#[], #[.agg #[.slice none 0 0, .slice none 0 0], .slice none 0 0], []⟩ 8 (by kernel_rfl) (by kernel_rfl) (by kernel_rfl) (by kernel_rfl)) ?_
  intro W base args ds gs before hval0 hW hcnd hsz0 _
  have hsz : (DataW.weightsEach Try.prog (Try.f10.params.toList ++ Rows.fnExactDeskRunSpec.plain.varTypes Try.prog) (ds ++ gs)).all (· ≤ reachBytes) = true := hsz0
  have hval : ∀ (j : Nat) t v, Try.f10.params[j]? = some t → args[j]? = some v → Value.okWide Try.prog W .any base t v := hval0
  have hW' := hW
  obtain ⟨p, q, hA0, hV, rfl, hfz, hnd⟩ := hW
  have hA : DataW.TrodAll enc Try.prog W 0 (fun _ => true) true Try.f10.params.toList args.toList ds p := hA0
  rw [Try.params10] at hA hval hsz
  obtain ⟨v0, vs0, d0, ds0, p0, q0, hargs, rfl, rfl, h0, r0⟩ := trodAll_cons hA
  obtain ⟨v1, vs1, d1, ds1, p1, q1, rfl, rfl, rfl, h1, r1⟩ := trodAll_cons r0
  obtain ⟨rfl, rfl, rfl⟩ := trodAll_nil r1
  obtain rfl : args = #[v0, v1] := by cases args; simp_all
  obtain ⟨rfl, rfl⟩ := trodVars_none hV
  obtain ⟨cs0, rfl, hsz0⟩ := okWide_struct Try.underlying39 (hval 0 39 v0 rfl rfl)
  have k0 := h0
  have lt0 : ∀ x ∈ p0, x.block < W.heap.size := by obtain ⟨m, hm⟩ := k0; exact DataW.trod_lt m _ _ _ hm
  obtain ⟨⟨x0_0, x0_1⟩, ⟨e0_0, e0_1, hcs0, hk0_0, hk0_1⟩, hw0_0, hw0_1⟩ := arg_agg opens0 h0
  obtain ⟨A0_0, c0_0, rfl, hc0_0, hr0_0⟩ := hk0_0
  obtain ⟨A0_1, c0_1, rfl, hc0_1, hr0_1⟩ := hk0_1
  obtain rfl : cs0 = #[.slice A0_0 x0_0.length c0_0, .slice A0_1 x0_1.length c0_1] := by cases cs0; simpa using hcs0
  obtain ⟨a1, len1, cap1, rfl⟩ := okWide_slice Try.underlying65 (hval 1 65 v1 rfl rfl)
  have k1 := h1
  have lt1 : ∀ x ∈ p1, x.block < W.heap.size := by obtain ⟨m, hm⟩ := k1; exact DataW.trod_lt m _ _ _ hm
  obtain ⟨l1, rfl, hc1, hr1, hw1⟩ := arg_slice opens1 h1
  clear hA0 hval0 hsz0 hsz
  obtain ⟨k, h⟩ := Pure.FnExactDeskRun x0_0 x0_1 l1 hw0_0 hw0_1 hw1
  refine (laws_FnExactDeskRun.calls k _ _ x0_0 _ _ x0_1 _ _ l1 true W hr0_0 hc0_0 hr0_1 hc0_1 hr1 hc1 h).mono fun e W' hpost => ?_
  obtain ⟨he, bel0⟩ := hpost
  have bel : Below W.heap.size W W' := bel0
  subst he
  exact ⟨_, rfl, _, _, _, [], _, [], hW', trodAll_mk1 (shut_bool Try.underlying4 _), (trodAll_cons_mk (Below.trod laidOut (by kernel_rfl) (of_decide_eq_true (by kernel_rfl)) k0 bel lt0) (trodAll_cons_mk (Below.trod laidOut (by kernel_rfl) (of_decide_eq_true (by kernel_rfl)) k1 bel lt1) trodAll_mk0)), rfl, bel.frame _, fun h => by cases h⟩
theorem over : Rows.fnExactDeskRunRow.holds Try.pinned (OpenSpec.ofChange Rows.fnExactDeskRunSpec) :=
  OpenClaim.holds_of_wide 10 Try.f10 rfl rfl rfl rfl rfl rfl rfl ⟨rfl, rfl, rfl, rfl, rfl⟩ rfl rfl rfl rfl rfl (by kernel_rfl) Try.func10 (by kernel_rfl)
    (of_decide_eq_true (by kernel_rfl)) (by unfold Func.isWrapper; first | (rw [if_pos (by decide +kernel)]; kernel_rfl) | (rw [if_neg (by decide +kernel)]; exact ⟨rfl, rfl⟩))
    (fun os started H enc _ => lifted os started H enc)
theorem proved : Rows.FnExactDeskRunSaid := over
#print axioms proved
end Go.Proofs.Ytocnifoohecmeaa.fnExactDeskRun
namespace Go.Proofs.Ytocnifoohecmeaa
/-- The row, under a short name, for the claim. -/
theorem fnExactDeskRun_holds : Rows.FnExactDeskRunSaid := fnExactDeskRun.proved
end Go.Proofs.Ytocnifoohecmeaa
