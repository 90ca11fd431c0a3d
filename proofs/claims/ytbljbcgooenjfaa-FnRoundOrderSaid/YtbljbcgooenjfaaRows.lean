/-
  No cell of these rows narrows 'for every input' (looked for: loops, veiled, ifaces, maps, wideKeys, modest, calm, conditions, laid).
  DERIVED. THE GIVEN ROWS OF THIS SEAT. 8 by the template 'for every input the law returns true; each argument reads behind the call as it read before'; 0 by the template 'total and deterministic' (their statements: YtbljbcgooenjfaaTotals.lean).
  GIVEN WITH THE SEED: the statements are not yours to turn. If you find one false, say at which input.
  Laid BY PROGRAM, IN A SANDBOX (cutbox-rows.mjs): the forced cells as the released guide's own fill.sh prints them over the translation 935f59be261dcbbc… (all of the seat's roots in one cut). By AI agents, Wed Nov 11 2026. No macro, syntax, notation, axiom, sorry.
-/
import Derived.Test.YtbljbcgooenjfaaChecked
import GoSem.Claim
import GoSem.ClaimJoined
import GoSem.ClaimMapViews
import Derived.JoinedTies
import Derived.KernelRfl
namespace Go.Proofs.Ytbljbcgooenjfaa
/- THE CELL 'sum', in the pinned program and in every row, IS THE sha256 OF THE DUMP (.gsa) THAT YtbljbcgooenjfaaProg.lean LOADS. Nothing in Lean hashes anything: it is a label: what it is worth is what the hold of that sum in a sandbox is worth. -/
noncomputable def Try.pinned : Pinned := { name := "ytbljbcgooenjfaa", sum := "935f59be261dcbbce9a5688e2e008e7d5793a739e6fe99250a19cf9f4881548a", checked := Try.checked }
namespace Rows
def none {H : Type} : Left H := { results := [], args := [] }

/-- 'laws.FnExactUnitsIn': WHATEVER THE INPUT: true; the input reads as it did. -/
def fnExactUnitsInSpec : ChangeSpec := { name := "fnExactUnitsIn", fn := fun _ => fun
  | [d1, d2, d3, d4, d5] => { results := [.lit (.bool true)], args := [d1, d2, d3, d4, d5] }
  | _ => none }
def fnExactUnitsInRow : OpenClaim := { program := "ytbljbcgooenjfaa", sum := "935f59be261dcbbce9a5688e2e008e7d5793a739e6fe99250a19cf9f4881548a", func := "loop.example/onecounter/laws.FnExactUnitsIn", spec := "fnExactUnitsIn", apart := false }
def FnExactUnitsInSaid : Prop := fnExactUnitsInRow.holds Try.pinned (OpenSpec.ofChange fnExactUnitsInSpec)

/-- ITS FALSE NEIGHBOUR: 'it returns false'. Refute it at one input. -/
def fnExactUnitsInWrong : ChangeSpec := { name := "fnExactUnitsIn", fn := fun _ => fun
  | [d1, d2, d3, d4, d5] => { results := [.lit (.bool false)], args := [d1, d2, d3, d4, d5] }
  | _ => none }
def FnExactUnitsInWrongFalsely : Prop := fnExactUnitsInRow.holds Try.pinned (OpenSpec.ofChange fnExactUnitsInWrong)

/-- 'laws.FnExactRoundOrder': WHATEVER THE INPUT: true; the input reads as it did. -/
def fnExactRoundOrderSpec : ChangeSpec := { name := "fnExactRoundOrder", fn := fun _ => fun
  | [d] => { results := [.lit (.bool true)], args := [d] }
  | _ => none }
def fnExactRoundOrderRow : OpenClaim := { program := "ytbljbcgooenjfaa", sum := "935f59be261dcbbce9a5688e2e008e7d5793a739e6fe99250a19cf9f4881548a", func := "loop.example/onecounter/laws.FnExactRoundOrder", spec := "fnExactRoundOrder", apart := false }
def FnExactRoundOrderSaid : Prop := fnExactRoundOrderRow.holds Try.pinned (OpenSpec.ofChange fnExactRoundOrderSpec)

/-- ITS FALSE NEIGHBOUR: 'it returns false'. Refute it at one input. -/
def fnExactRoundOrderWrong : ChangeSpec := { name := "fnExactRoundOrder", fn := fun _ => fun
  | [d] => { results := [.lit (.bool false)], args := [d] }
  | _ => none }
def FnExactRoundOrderWrongFalsely : Prop := fnExactRoundOrderRow.holds Try.pinned (OpenSpec.ofChange fnExactRoundOrderWrong)

/-- 'laws.FnExactAheadBy': WHATEVER THE INPUT: true; the input reads as it did. -/
def fnExactAheadBySpec : ChangeSpec := { name := "fnExactAheadBy", fn := fun _ => fun
  | [d1, d2, d3, d4] => { results := [.lit (.bool true)], args := [d1, d2, d3, d4] }
  | _ => none }
def fnExactAheadByRow : OpenClaim := { program := "ytbljbcgooenjfaa", sum := "935f59be261dcbbce9a5688e2e008e7d5793a739e6fe99250a19cf9f4881548a", func := "loop.example/onecounter/laws.FnExactAheadBy", spec := "fnExactAheadBy", apart := false }
def FnExactAheadBySaid : Prop := fnExactAheadByRow.holds Try.pinned (OpenSpec.ofChange fnExactAheadBySpec)

/-- ITS FALSE NEIGHBOUR: 'it returns false'. Refute it at one input. -/
def fnExactAheadByWrong : ChangeSpec := { name := "fnExactAheadBy", fn := fun _ => fun
  | [d1, d2, d3, d4] => { results := [.lit (.bool false)], args := [d1, d2, d3, d4] }
  | _ => none }
def FnExactAheadByWrongFalsely : Prop := fnExactAheadByRow.holds Try.pinned (OpenSpec.ofChange fnExactAheadByWrong)

/-- 'laws.FnRoundEnds': WHATEVER THE INPUT: true; the input reads as it did. -/
def fnRoundEndsSpec : ChangeSpec := { name := "fnRoundEnds", fn := fun _ => fun
  | [d] => { results := [.lit (.bool true)], args := [d] }
  | _ => none }
def fnRoundEndsRow : OpenClaim := { program := "ytbljbcgooenjfaa", sum := "935f59be261dcbbce9a5688e2e008e7d5793a739e6fe99250a19cf9f4881548a", func := "loop.example/onecounter/laws.FnRoundEnds", spec := "fnRoundEnds", apart := false }
def FnRoundEndsSaid : Prop := fnRoundEndsRow.holds Try.pinned (OpenSpec.ofChange fnRoundEndsSpec)

/-- ITS FALSE NEIGHBOUR: 'it returns false'. Refute it at one input. -/
def fnRoundEndsWrong : ChangeSpec := { name := "fnRoundEnds", fn := fun _ => fun
  | [d] => { results := [.lit (.bool false)], args := [d] }
  | _ => none }
def FnRoundEndsWrongFalsely : Prop := fnRoundEndsRow.holds Try.pinned (OpenSpec.ofChange fnRoundEndsWrong)

/-- 'laws.FnExactRoundEnds': WHATEVER THE INPUT: true; the input reads as it did. -/
def fnExactRoundEndsSpec : ChangeSpec := { name := "fnExactRoundEnds", fn := fun _ => fun
  | [d] => { results := [.lit (.bool true)], args := [d] }
  | _ => none }
def fnExactRoundEndsRow : OpenClaim := { program := "ytbljbcgooenjfaa", sum := "935f59be261dcbbce9a5688e2e008e7d5793a739e6fe99250a19cf9f4881548a", func := "loop.example/onecounter/laws.FnExactRoundEnds", spec := "fnExactRoundEnds", apart := false }
def FnExactRoundEndsSaid : Prop := fnExactRoundEndsRow.holds Try.pinned (OpenSpec.ofChange fnExactRoundEndsSpec)

/-- ITS FALSE NEIGHBOUR: 'it returns false'. Refute it at one input. -/
def fnExactRoundEndsWrong : ChangeSpec := { name := "fnExactRoundEnds", fn := fun _ => fun
  | [d] => { results := [.lit (.bool false)], args := [d] }
  | _ => none }
def FnExactRoundEndsWrongFalsely : Prop := fnExactRoundEndsRow.holds Try.pinned (OpenSpec.ofChange fnExactRoundEndsWrong)

/-- 'laws.FnUnitsIn': WHATEVER THE INPUT: true; the input reads as it did. -/
def fnUnitsInSpec : ChangeSpec := { name := "fnUnitsIn", fn := fun _ => fun
  | [d] => { results := [.lit (.bool true)], args := [d] }
  | _ => none }
def fnUnitsInRow : OpenClaim := { program := "ytbljbcgooenjfaa", sum := "935f59be261dcbbce9a5688e2e008e7d5793a739e6fe99250a19cf9f4881548a", func := "loop.example/onecounter/laws.FnUnitsIn", spec := "fnUnitsIn", apart := false }
def FnUnitsInSaid : Prop := fnUnitsInRow.holds Try.pinned (OpenSpec.ofChange fnUnitsInSpec)

/-- ITS FALSE NEIGHBOUR: 'it returns false'. Refute it at one input. -/
def fnUnitsInWrong : ChangeSpec := { name := "fnUnitsIn", fn := fun _ => fun
  | [d] => { results := [.lit (.bool false)], args := [d] }
  | _ => none }
def FnUnitsInWrongFalsely : Prop := fnUnitsInRow.holds Try.pinned (OpenSpec.ofChange fnUnitsInWrong)

/-- 'laws.FnRoundOrder': WHATEVER THE INPUT: true; the input reads as it did. -/
def fnRoundOrderSpec : ChangeSpec := { name := "fnRoundOrder", fn := fun _ => fun
  | [d] => { results := [.lit (.bool true)], args := [d] }
  | _ => none }
def fnRoundOrderRow : OpenClaim := { program := "ytbljbcgooenjfaa", sum := "935f59be261dcbbce9a5688e2e008e7d5793a739e6fe99250a19cf9f4881548a", func := "loop.example/onecounter/laws.FnRoundOrder", spec := "fnRoundOrder", apart := false }
def FnRoundOrderSaid : Prop := fnRoundOrderRow.holds Try.pinned (OpenSpec.ofChange fnRoundOrderSpec)

/-- ITS FALSE NEIGHBOUR: 'it returns false'. Refute it at one input. -/
def fnRoundOrderWrong : ChangeSpec := { name := "fnRoundOrder", fn := fun _ => fun
  | [d] => { results := [.lit (.bool false)], args := [d] }
  | _ => none }
def FnRoundOrderWrongFalsely : Prop := fnRoundOrderRow.holds Try.pinned (OpenSpec.ofChange fnRoundOrderWrong)

/-- 'laws.FnAheadBy': WHATEVER THE INPUT: true; the input reads as it did. -/
def fnAheadBySpec : ChangeSpec := { name := "fnAheadBy", fn := fun _ => fun
  | [d] => { results := [.lit (.bool true)], args := [d] }
  | _ => none }
def fnAheadByRow : OpenClaim := { program := "ytbljbcgooenjfaa", sum := "935f59be261dcbbce9a5688e2e008e7d5793a739e6fe99250a19cf9f4881548a", func := "loop.example/onecounter/laws.FnAheadBy", spec := "fnAheadBy", apart := false }
def FnAheadBySaid : Prop := fnAheadByRow.holds Try.pinned (OpenSpec.ofChange fnAheadBySpec)

/-- ITS FALSE NEIGHBOUR: 'it returns false'. Refute it at one input. -/
def fnAheadByWrong : ChangeSpec := { name := "fnAheadBy", fn := fun _ => fun
  | [d] => { results := [.lit (.bool false)], args := [d] }
  | _ => none }
def FnAheadByWrongFalsely : Prop := fnAheadByRow.holds Try.pinned (OpenSpec.ofChange fnAheadByWrong)

/- THE SECOND FORM. 'bulk': how many values and letters a reading holds, each counted each time it is reached (what is shared counts as often as it is met; a slice's spare places count too). A statement '..UptoSaid' is the law's where the arguments, and the package variables that the reading takes, are together of bulk at most 1048576: NARROWER than '..Said'. Prove '..Said' where nothing that the law and all that it calls make is longer than what came in: it says more and counts as full. Else prove '..UptoSaid'. A law counts once. -/
mutual
def uptoBulk {H : Type} : DataW H → Nat
  | .lit (.string bytes) => bytes.length + 1
  | .lit _ => 1
  | .nil => 1
  | .ptr d => uptoBulk d + 1
  | .slice elems spare => uptoBulkAll elems + uptoBulkAll spare + 1
  | .agg parts => uptoBulkAll parts + 1
  | .iface _ d => uptoBulk d + 1
  | .map entries => uptoBulkEntries entries + 1
  | .held _ => 1
def uptoBulkAll {H : Type} : List (DataW H) → Nat
  | [] => 0
  | d :: r => uptoBulk d + uptoBulkAll r
def uptoBulkEntries {H : Type} : List (Lit × DataW H) → Nat
  | [] => 0
  | x :: r => uptoBulkEntry x + uptoBulkEntries r
def uptoBulkEntry {H : Type} : Lit × DataW H → Nat
  | (.string bytes, d) => bytes.length + uptoBulk d + 1
  | (_, d) => uptoBulk d + 1
 end
def uptoSmall : (H : Type) → List (DataW H) → Bool := fun _ ds => decide (uptoBulkAll ds ≤ 1048576)
def OpenSpec.upto (s : _root_.Go.ChangeSpec) : _root_.Go.OpenSpec := { _root_.Go.OpenSpec.ofChange s with cond := some uptoSmall }

/-- 'laws.FnExactUnitsIn', WHERE WHAT IT READS IS OF BULK AT MOST 1048576: true; the input reads as it did. -/
def fnExactUnitsInUptoRow : OpenClaim := { program := "ytbljbcgooenjfaa", sum := "935f59be261dcbbce9a5688e2e008e7d5793a739e6fe99250a19cf9f4881548a", func := "loop.example/onecounter/laws.FnExactUnitsIn", spec := "fnExactUnitsIn", apart := false, narrowed := true }
def FnExactUnitsInUptoSaid : Prop := fnExactUnitsInUptoRow.holds Try.pinned (OpenSpec.upto fnExactUnitsInSpec)

/-- 'laws.FnExactRoundOrder', WHERE WHAT IT READS IS OF BULK AT MOST 1048576: true; the input reads as it did. -/
def fnExactRoundOrderUptoRow : OpenClaim := { program := "ytbljbcgooenjfaa", sum := "935f59be261dcbbce9a5688e2e008e7d5793a739e6fe99250a19cf9f4881548a", func := "loop.example/onecounter/laws.FnExactRoundOrder", spec := "fnExactRoundOrder", apart := false, narrowed := true }
def FnExactRoundOrderUptoSaid : Prop := fnExactRoundOrderUptoRow.holds Try.pinned (OpenSpec.upto fnExactRoundOrderSpec)

/-- 'laws.FnExactAheadBy', WHERE WHAT IT READS IS OF BULK AT MOST 1048576: true; the input reads as it did. -/
def fnExactAheadByUptoRow : OpenClaim := { program := "ytbljbcgooenjfaa", sum := "935f59be261dcbbce9a5688e2e008e7d5793a739e6fe99250a19cf9f4881548a", func := "loop.example/onecounter/laws.FnExactAheadBy", spec := "fnExactAheadBy", apart := false, narrowed := true }
def FnExactAheadByUptoSaid : Prop := fnExactAheadByUptoRow.holds Try.pinned (OpenSpec.upto fnExactAheadBySpec)

/-- 'laws.FnRoundEnds', WHERE WHAT IT READS IS OF BULK AT MOST 1048576: true; the input reads as it did. -/
def fnRoundEndsUptoRow : OpenClaim := { program := "ytbljbcgooenjfaa", sum := "935f59be261dcbbce9a5688e2e008e7d5793a739e6fe99250a19cf9f4881548a", func := "loop.example/onecounter/laws.FnRoundEnds", spec := "fnRoundEnds", apart := false, narrowed := true }
def FnRoundEndsUptoSaid : Prop := fnRoundEndsUptoRow.holds Try.pinned (OpenSpec.upto fnRoundEndsSpec)

/-- 'laws.FnExactRoundEnds', WHERE WHAT IT READS IS OF BULK AT MOST 1048576: true; the input reads as it did. -/
def fnExactRoundEndsUptoRow : OpenClaim := { program := "ytbljbcgooenjfaa", sum := "935f59be261dcbbce9a5688e2e008e7d5793a739e6fe99250a19cf9f4881548a", func := "loop.example/onecounter/laws.FnExactRoundEnds", spec := "fnExactRoundEnds", apart := false, narrowed := true }
def FnExactRoundEndsUptoSaid : Prop := fnExactRoundEndsUptoRow.holds Try.pinned (OpenSpec.upto fnExactRoundEndsSpec)

/-- 'laws.FnUnitsIn', WHERE WHAT IT READS IS OF BULK AT MOST 1048576: true; the input reads as it did. -/
def fnUnitsInUptoRow : OpenClaim := { program := "ytbljbcgooenjfaa", sum := "935f59be261dcbbce9a5688e2e008e7d5793a739e6fe99250a19cf9f4881548a", func := "loop.example/onecounter/laws.FnUnitsIn", spec := "fnUnitsIn", apart := false, narrowed := true }
def FnUnitsInUptoSaid : Prop := fnUnitsInUptoRow.holds Try.pinned (OpenSpec.upto fnUnitsInSpec)

/-- 'laws.FnRoundOrder', WHERE WHAT IT READS IS OF BULK AT MOST 1048576: true; the input reads as it did. -/
def fnRoundOrderUptoRow : OpenClaim := { program := "ytbljbcgooenjfaa", sum := "935f59be261dcbbce9a5688e2e008e7d5793a739e6fe99250a19cf9f4881548a", func := "loop.example/onecounter/laws.FnRoundOrder", spec := "fnRoundOrder", apart := false, narrowed := true }
def FnRoundOrderUptoSaid : Prop := fnRoundOrderUptoRow.holds Try.pinned (OpenSpec.upto fnRoundOrderSpec)

/-- 'laws.FnAheadBy', WHERE WHAT IT READS IS OF BULK AT MOST 1048576: true; the input reads as it did. -/
def fnAheadByUptoRow : OpenClaim := { program := "ytbljbcgooenjfaa", sum := "935f59be261dcbbce9a5688e2e008e7d5793a739e6fe99250a19cf9f4881548a", func := "loop.example/onecounter/laws.FnAheadBy", spec := "fnAheadBy", apart := false, narrowed := true }
def FnAheadByUptoSaid : Prop := fnAheadByUptoRow.holds Try.pinned (OpenSpec.upto fnAheadBySpec)

end Rows
end Go.Proofs.Ytbljbcgooenjfaa
