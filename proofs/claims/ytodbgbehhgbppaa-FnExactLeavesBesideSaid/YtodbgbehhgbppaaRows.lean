/-
  No cell of these rows narrows 'for every input' (looked for: loops, veiled, ifaces, maps, wideKeys, modest, calm, conditions, laid).
  DERIVED. THE GIVEN ROWS OF THIS SEAT. 8 by the template 'for every input the law returns true; each argument reads behind the call as it read before'; 0 by the template 'total and deterministic' (their statements: YtodbgbehhgbppaaTotals.lean).
  GIVEN WITH THE SEED: the statements are not yours to turn. If you find one false, say at which input.
  Laid BY PROGRAM, IN A SANDBOX (cutbox-rows.mjs): the forced cells as the released guide's own fill.sh prints them over the translation 4a071ac3f92b789d… (all of the seat's roots in one cut). By AI agents, Wed Nov 11 2026. No macro, syntax, notation, axiom, sorry.
-/
import Derived.Test.YtodbgbehhgbppaaChecked
import GoSem.Claim
import GoSem.ClaimJoined
import GoSem.ClaimMapViews
import Derived.JoinedTies
import Derived.KernelRfl
namespace Go.Proofs.Ytodbgbehhgbppaa
/- THE CELL 'sum', in the pinned program and in every row, IS THE sha256 OF THE DUMP (.gsa) THAT YtodbgbehhgbppaaProg.lean LOADS. Nothing in Lean hashes anything: it is a label: what it is worth is what the hold of that sum in a sandbox is worth. -/
noncomputable def Try.pinned : Pinned := { name := "ytodbgbehhgbppaa", sum := "4a071ac3f92b789ded8021c429ad6aa681af6ddafe12155382fbeaaf8a67f7f8", checked := Try.checked }
namespace Rows
def none {H : Type} : Left H := { results := [], args := [] }

/-- 'laws.FnExactWaitSum': WHATEVER THE INPUT: true; the input reads as it did. -/
def fnExactWaitSumSpec : ChangeSpec := { name := "fnExactWaitSum", fn := fun _ => fun
  | [d1, d2] => { results := [.lit (.bool true)], args := [d1, d2] }
  | _ => none }
def fnExactWaitSumRow : OpenClaim := { program := "ytodbgbehhgbppaa", sum := "4a071ac3f92b789ded8021c429ad6aa681af6ddafe12155382fbeaaf8a67f7f8", func := "loop.example/onecounter/laws.FnExactWaitSum", spec := "fnExactWaitSum", apart := false }
def FnExactWaitSumSaid : Prop := fnExactWaitSumRow.holds Try.pinned (OpenSpec.ofChange fnExactWaitSumSpec)

/-- ITS FALSE NEIGHBOUR: 'it returns false'. Refute it at one input. -/
def fnExactWaitSumWrong : ChangeSpec := { name := "fnExactWaitSum", fn := fun _ => fun
  | [d1, d2] => { results := [.lit (.bool false)], args := [d1, d2] }
  | _ => none }
def FnExactWaitSumWrongFalsely : Prop := fnExactWaitSumRow.holds Try.pinned (OpenSpec.ofChange fnExactWaitSumWrong)

/-- 'laws.FnExactServedAt': WHATEVER THE INPUT: true; the input reads as it did. -/
def fnExactServedAtSpec : ChangeSpec := { name := "fnExactServedAt", fn := fun _ => fun
  | [d1, d2, d3] => { results := [.lit (.bool true)], args := [d1, d2, d3] }
  | _ => none }
def fnExactServedAtRow : OpenClaim := { program := "ytodbgbehhgbppaa", sum := "4a071ac3f92b789ded8021c429ad6aa681af6ddafe12155382fbeaaf8a67f7f8", func := "loop.example/onecounter/laws.FnExactServedAt", spec := "fnExactServedAt", apart := false }
def FnExactServedAtSaid : Prop := fnExactServedAtRow.holds Try.pinned (OpenSpec.ofChange fnExactServedAtSpec)

/-- ITS FALSE NEIGHBOUR: 'it returns false'. Refute it at one input. -/
def fnExactServedAtWrong : ChangeSpec := { name := "fnExactServedAt", fn := fun _ => fun
  | [d1, d2, d3] => { results := [.lit (.bool false)], args := [d1, d2, d3] }
  | _ => none }
def FnExactServedAtWrongFalsely : Prop := fnExactServedAtRow.holds Try.pinned (OpenSpec.ofChange fnExactServedAtWrong)

/-- 'laws.FnExactBeginsOf': WHATEVER THE INPUT: true; the input reads as it did. -/
def fnExactBeginsOfSpec : ChangeSpec := { name := "fnExactBeginsOf", fn := fun _ => fun
  | [d1, d2] => { results := [.lit (.bool true)], args := [d1, d2] }
  | _ => none }
def fnExactBeginsOfRow : OpenClaim := { program := "ytodbgbehhgbppaa", sum := "4a071ac3f92b789ded8021c429ad6aa681af6ddafe12155382fbeaaf8a67f7f8", func := "loop.example/onecounter/laws.FnExactBeginsOf", spec := "fnExactBeginsOf", apart := false }
def FnExactBeginsOfSaid : Prop := fnExactBeginsOfRow.holds Try.pinned (OpenSpec.ofChange fnExactBeginsOfSpec)

/-- ITS FALSE NEIGHBOUR: 'it returns false'. Refute it at one input. -/
def fnExactBeginsOfWrong : ChangeSpec := { name := "fnExactBeginsOf", fn := fun _ => fun
  | [d1, d2] => { results := [.lit (.bool false)], args := [d1, d2] }
  | _ => none }
def FnExactBeginsOfWrongFalsely : Prop := fnExactBeginsOfRow.holds Try.pinned (OpenSpec.ofChange fnExactBeginsOfWrong)

/-- 'laws.FnExactLeavesBeside': WHATEVER THE INPUT: true; the input reads as it did. -/
def fnExactLeavesBesideSpec : ChangeSpec := { name := "fnExactLeavesBeside", fn := fun _ => fun
  | [d1, d2] => { results := [.lit (.bool true)], args := [d1, d2] }
  | _ => none }
def fnExactLeavesBesideRow : OpenClaim := { program := "ytodbgbehhgbppaa", sum := "4a071ac3f92b789ded8021c429ad6aa681af6ddafe12155382fbeaaf8a67f7f8", func := "loop.example/onecounter/laws.FnExactLeavesBeside", spec := "fnExactLeavesBeside", apart := false }
def FnExactLeavesBesideSaid : Prop := fnExactLeavesBesideRow.holds Try.pinned (OpenSpec.ofChange fnExactLeavesBesideSpec)

/-- ITS FALSE NEIGHBOUR: 'it returns false'. Refute it at one input. -/
def fnExactLeavesBesideWrong : ChangeSpec := { name := "fnExactLeavesBeside", fn := fun _ => fun
  | [d1, d2] => { results := [.lit (.bool false)], args := [d1, d2] }
  | _ => none }
def FnExactLeavesBesideWrongFalsely : Prop := fnExactLeavesBesideRow.holds Try.pinned (OpenSpec.ofChange fnExactLeavesBesideWrong)

/-- 'laws.FnWaitSum': WHATEVER THE INPUT: true; the input reads as it did. -/
def fnWaitSumSpec : ChangeSpec := { name := "fnWaitSum", fn := fun _ => fun
  | [d] => { results := [.lit (.bool true)], args := [d] }
  | _ => none }
def fnWaitSumRow : OpenClaim := { program := "ytodbgbehhgbppaa", sum := "4a071ac3f92b789ded8021c429ad6aa681af6ddafe12155382fbeaaf8a67f7f8", func := "loop.example/onecounter/laws.FnWaitSum", spec := "fnWaitSum", apart := false }
def FnWaitSumSaid : Prop := fnWaitSumRow.holds Try.pinned (OpenSpec.ofChange fnWaitSumSpec)

/-- ITS FALSE NEIGHBOUR: 'it returns false'. Refute it at one input. -/
def fnWaitSumWrong : ChangeSpec := { name := "fnWaitSum", fn := fun _ => fun
  | [d] => { results := [.lit (.bool false)], args := [d] }
  | _ => none }
def FnWaitSumWrongFalsely : Prop := fnWaitSumRow.holds Try.pinned (OpenSpec.ofChange fnWaitSumWrong)

/-- 'laws.FnServedAt': WHATEVER THE INPUT: true; the input reads as it did. -/
def fnServedAtSpec : ChangeSpec := { name := "fnServedAt", fn := fun _ => fun
  | [d] => { results := [.lit (.bool true)], args := [d] }
  | _ => none }
def fnServedAtRow : OpenClaim := { program := "ytodbgbehhgbppaa", sum := "4a071ac3f92b789ded8021c429ad6aa681af6ddafe12155382fbeaaf8a67f7f8", func := "loop.example/onecounter/laws.FnServedAt", spec := "fnServedAt", apart := false }
def FnServedAtSaid : Prop := fnServedAtRow.holds Try.pinned (OpenSpec.ofChange fnServedAtSpec)

/-- ITS FALSE NEIGHBOUR: 'it returns false'. Refute it at one input. -/
def fnServedAtWrong : ChangeSpec := { name := "fnServedAt", fn := fun _ => fun
  | [d] => { results := [.lit (.bool false)], args := [d] }
  | _ => none }
def FnServedAtWrongFalsely : Prop := fnServedAtRow.holds Try.pinned (OpenSpec.ofChange fnServedAtWrong)

/-- 'laws.FnBeginsOf': WHATEVER THE INPUT: true; the input reads as it did. -/
def fnBeginsOfSpec : ChangeSpec := { name := "fnBeginsOf", fn := fun _ => fun
  | [d] => { results := [.lit (.bool true)], args := [d] }
  | _ => none }
def fnBeginsOfRow : OpenClaim := { program := "ytodbgbehhgbppaa", sum := "4a071ac3f92b789ded8021c429ad6aa681af6ddafe12155382fbeaaf8a67f7f8", func := "loop.example/onecounter/laws.FnBeginsOf", spec := "fnBeginsOf", apart := false }
def FnBeginsOfSaid : Prop := fnBeginsOfRow.holds Try.pinned (OpenSpec.ofChange fnBeginsOfSpec)

/-- ITS FALSE NEIGHBOUR: 'it returns false'. Refute it at one input. -/
def fnBeginsOfWrong : ChangeSpec := { name := "fnBeginsOf", fn := fun _ => fun
  | [d] => { results := [.lit (.bool false)], args := [d] }
  | _ => none }
def FnBeginsOfWrongFalsely : Prop := fnBeginsOfRow.holds Try.pinned (OpenSpec.ofChange fnBeginsOfWrong)

/-- 'laws.FnLeavesBeside': WHATEVER THE INPUT: true; the input reads as it did. -/
def fnLeavesBesideSpec : ChangeSpec := { name := "fnLeavesBeside", fn := fun _ => fun
  | [d] => { results := [.lit (.bool true)], args := [d] }
  | _ => none }
def fnLeavesBesideRow : OpenClaim := { program := "ytodbgbehhgbppaa", sum := "4a071ac3f92b789ded8021c429ad6aa681af6ddafe12155382fbeaaf8a67f7f8", func := "loop.example/onecounter/laws.FnLeavesBeside", spec := "fnLeavesBeside", apart := false }
def FnLeavesBesideSaid : Prop := fnLeavesBesideRow.holds Try.pinned (OpenSpec.ofChange fnLeavesBesideSpec)

/-- ITS FALSE NEIGHBOUR: 'it returns false'. Refute it at one input. -/
def fnLeavesBesideWrong : ChangeSpec := { name := "fnLeavesBeside", fn := fun _ => fun
  | [d] => { results := [.lit (.bool false)], args := [d] }
  | _ => none }
def FnLeavesBesideWrongFalsely : Prop := fnLeavesBesideRow.holds Try.pinned (OpenSpec.ofChange fnLeavesBesideWrong)

/- THE SECOND FORM. 'bulk': how many values and letters a reading holds, each counted each time it is reached (what is shared counts as often as it is met; a slice's spare places count too). A statement '..UptoSaid' is the law's where the arguments, and the package variables that the reading takes, are together of bulk at most 1048576: NARROWER than '..Said'. Prove '..Said' where nothing that the law and all that it calls make is longer than what came in: it says more and counts as full. Else prove '..UptoSaid'. A law counts once. -/
mutual
def uptoBulk {H : Type} : DataW H → Nat
  | .lit (.string bytes) => bytes.length + 1
  | .lit _ => 1
  | .nil => 1
  | .ptr d => uptoBulk d + 1
  | .slice elems spare => uptoBulkAll elems + uptoBulkAll spare + 1
  | .agg parts => uptoBulkAll parts + 1
  | .iface _ d => uptoBulk d + 1
  | .map entries => uptoBulkEntries entries + 1
  | .held _ => 1
def uptoBulkAll {H : Type} : List (DataW H) → Nat
  | [] => 0
  | d :: r => uptoBulk d + uptoBulkAll r
def uptoBulkEntries {H : Type} : List (Lit × DataW H) → Nat
  | [] => 0
  | x :: r => uptoBulkEntry x + uptoBulkEntries r
def uptoBulkEntry {H : Type} : Lit × DataW H → Nat
  | (.string bytes, d) => bytes.length + uptoBulk d + 1
  | (_, d) => uptoBulk d + 1
 end
def uptoSmall : (H : Type) → List (DataW H) → Bool := fun _ ds => decide (uptoBulkAll ds ≤ 1048576)
def OpenSpec.upto (s : _root_.Go.ChangeSpec) : _root_.Go.OpenSpec := { _root_.Go.OpenSpec.ofChange s with cond := some uptoSmall }

/-- 'laws.FnExactWaitSum', WHERE WHAT IT READS IS OF BULK AT MOST 1048576: true; the input reads as it did. -/
def fnExactWaitSumUptoRow : OpenClaim := { program := "ytodbgbehhgbppaa", sum := "4a071ac3f92b789ded8021c429ad6aa681af6ddafe12155382fbeaaf8a67f7f8", func := "loop.example/onecounter/laws.FnExactWaitSum", spec := "fnExactWaitSum", apart := false, narrowed := true }
def FnExactWaitSumUptoSaid : Prop := fnExactWaitSumUptoRow.holds Try.pinned (OpenSpec.upto fnExactWaitSumSpec)

/-- 'laws.FnExactServedAt', WHERE WHAT IT READS IS OF BULK AT MOST 1048576: true; the input reads as it did. -/
def fnExactServedAtUptoRow : OpenClaim := { program := "ytodbgbehhgbppaa", sum := "4a071ac3f92b789ded8021c429ad6aa681af6ddafe12155382fbeaaf8a67f7f8", func := "loop.example/onecounter/laws.FnExactServedAt", spec := "fnExactServedAt", apart := false, narrowed := true }
def FnExactServedAtUptoSaid : Prop := fnExactServedAtUptoRow.holds Try.pinned (OpenSpec.upto fnExactServedAtSpec)

/-- 'laws.FnExactBeginsOf', WHERE WHAT IT READS IS OF BULK AT MOST 1048576: true; the input reads as it did. -/
def fnExactBeginsOfUptoRow : OpenClaim := { program := "ytodbgbehhgbppaa", sum := "4a071ac3f92b789ded8021c429ad6aa681af6ddafe12155382fbeaaf8a67f7f8", func := "loop.example/onecounter/laws.FnExactBeginsOf", spec := "fnExactBeginsOf", apart := false, narrowed := true }
def FnExactBeginsOfUptoSaid : Prop := fnExactBeginsOfUptoRow.holds Try.pinned (OpenSpec.upto fnExactBeginsOfSpec)

/-- 'laws.FnExactLeavesBeside', WHERE WHAT IT READS IS OF BULK AT MOST 1048576: true; the input reads as it did. -/
def fnExactLeavesBesideUptoRow : OpenClaim := { program := "ytodbgbehhgbppaa", sum := "4a071ac3f92b789ded8021c429ad6aa681af6ddafe12155382fbeaaf8a67f7f8", func := "loop.example/onecounter/laws.FnExactLeavesBeside", spec := "fnExactLeavesBeside", apart := false, narrowed := true }
def FnExactLeavesBesideUptoSaid : Prop := fnExactLeavesBesideUptoRow.holds Try.pinned (OpenSpec.upto fnExactLeavesBesideSpec)

/-- 'laws.FnWaitSum', WHERE WHAT IT READS IS OF BULK AT MOST 1048576: true; the input reads as it did. -/
def fnWaitSumUptoRow : OpenClaim := { program := "ytodbgbehhgbppaa", sum := "4a071ac3f92b789ded8021c429ad6aa681af6ddafe12155382fbeaaf8a67f7f8", func := "loop.example/onecounter/laws.FnWaitSum", spec := "fnWaitSum", apart := false, narrowed := true }
def FnWaitSumUptoSaid : Prop := fnWaitSumUptoRow.holds Try.pinned (OpenSpec.upto fnWaitSumSpec)

/-- 'laws.FnServedAt', WHERE WHAT IT READS IS OF BULK AT MOST 1048576: true; the input reads as it did. -/
def fnServedAtUptoRow : OpenClaim := { program := "ytodbgbehhgbppaa", sum := "4a071ac3f92b789ded8021c429ad6aa681af6ddafe12155382fbeaaf8a67f7f8", func := "loop.example/onecounter/laws.FnServedAt", spec := "fnServedAt", apart := false, narrowed := true }
def FnServedAtUptoSaid : Prop := fnServedAtUptoRow.holds Try.pinned (OpenSpec.upto fnServedAtSpec)

/-- 'laws.FnBeginsOf', WHERE WHAT IT READS IS OF BULK AT MOST 1048576: true; the input reads as it did. -/
def fnBeginsOfUptoRow : OpenClaim := { program := "ytodbgbehhgbppaa", sum := "4a071ac3f92b789ded8021c429ad6aa681af6ddafe12155382fbeaaf8a67f7f8", func := "loop.example/onecounter/laws.FnBeginsOf", spec := "fnBeginsOf", apart := false, narrowed := true }
def FnBeginsOfUptoSaid : Prop := fnBeginsOfUptoRow.holds Try.pinned (OpenSpec.upto fnBeginsOfSpec)

/-- 'laws.FnLeavesBeside', WHERE WHAT IT READS IS OF BULK AT MOST 1048576: true; the input reads as it did. -/
def fnLeavesBesideUptoRow : OpenClaim := { program := "ytodbgbehhgbppaa", sum := "4a071ac3f92b789ded8021c429ad6aa681af6ddafe12155382fbeaaf8a67f7f8", func := "loop.example/onecounter/laws.FnLeavesBeside", spec := "fnLeavesBeside", apart := false, narrowed := true }
def FnLeavesBesideUptoSaid : Prop := fnLeavesBesideUptoRow.holds Try.pinned (OpenSpec.upto fnLeavesBesideSpec)

end Rows
end Go.Proofs.Ytodbgbehhgbppaa
