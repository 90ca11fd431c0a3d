/-
  No cell of these rows narrows 'for every input' (looked for: loops, veiled, ifaces, maps, wideKeys, modest, calm, conditions, laid).
  DERIVED. THE GIVEN ROWS OF THIS SEAT. 7 by the template 'for every input the law returns true; each argument reads behind the call as it read before'; 0 by the template 'total and deterministic' (their statements: YtanmcbjlooknoaaTotals.lean).
  GIVEN WITH THE SEED: the statements are not yours to turn. If you find one false, say at which input.
  Laid BY PROGRAM, IN A SANDBOX (cutbox-rows.mjs): the forced cells as the released guide's own fill.sh prints them over the translation c4f500566df33f2d… (all of the seat's roots in one cut). By AI agents, Wed Nov 11 2026. No macro, syntax, notation, axiom, sorry.
-/
import Derived.Test.YtanmcbjlooknoaaChecked
import GoSem.Claim
import GoSem.ClaimJoined
import GoSem.ClaimMapViews
import Derived.JoinedTies
import Derived.KernelRfl
namespace Go.Proofs.Ytanmcbjlooknoaa
/- THE CELL 'sum', in the pinned program and in every row, IS THE sha256 OF THE DUMP (.gsa) THAT YtanmcbjlooknoaaProg.lean LOADS. Nothing in Lean hashes anything: it is a label: what it is worth is what the hold of that sum in a sandbox is worth. -/
noncomputable def Try.pinned : Pinned := { name := "ytanmcbjlooknoaa", sum := "c4f500566df33f2d8484a8d7b2c51c30d70f6a4c8e18c799248479493e9be788", checked := Try.checked }
namespace Rows
def none {H : Type} : Left H := { results := [], args := [] }

/-- 'laws.FnLeavesBoth': WHATEVER THE INPUT: true; the input reads as it did. -/
def fnLeavesBothSpec : ChangeSpec := { name := "fnLeavesBoth", fn := fun _ => fun
  | [d] => { results := [.lit (.bool true)], args := [d] }
  | _ => none }
def fnLeavesBothRow : OpenClaim := { program := "ytanmcbjlooknoaa", sum := "c4f500566df33f2d8484a8d7b2c51c30d70f6a4c8e18c799248479493e9be788", func := "loop.example/onecounter/laws.FnLeavesBoth", spec := "fnLeavesBoth", apart := false }
def FnLeavesBothSaid : Prop := fnLeavesBothRow.holds Try.pinned (OpenSpec.ofChange fnLeavesBothSpec)

/-- ITS FALSE NEIGHBOUR: 'it returns false'. Refute it at one input. -/
def fnLeavesBothWrong : ChangeSpec := { name := "fnLeavesBoth", fn := fun _ => fun
  | [d] => { results := [.lit (.bool false)], args := [d] }
  | _ => none }
def FnLeavesBothWrongFalsely : Prop := fnLeavesBothRow.holds Try.pinned (OpenSpec.ofChange fnLeavesBothWrong)

/-- 'laws.FnExactInOrder': WHATEVER THE INPUT: true; the input reads as it did. -/
def fnExactInOrderSpec : ChangeSpec := { name := "fnExactInOrder", fn := fun _ => fun
  | [d1, d2] => { results := [.lit (.bool true)], args := [d1, d2] }
  | _ => none }
def fnExactInOrderRow : OpenClaim := { program := "ytanmcbjlooknoaa", sum := "c4f500566df33f2d8484a8d7b2c51c30d70f6a4c8e18c799248479493e9be788", func := "loop.example/onecounter/laws.FnExactInOrder", spec := "fnExactInOrder", apart := false }
def FnExactInOrderSaid : Prop := fnExactInOrderRow.holds Try.pinned (OpenSpec.ofChange fnExactInOrderSpec)

/-- ITS FALSE NEIGHBOUR: 'it returns false'. Refute it at one input. -/
def fnExactInOrderWrong : ChangeSpec := { name := "fnExactInOrder", fn := fun _ => fun
  | [d1, d2] => { results := [.lit (.bool false)], args := [d1, d2] }
  | _ => none }
def FnExactInOrderWrongFalsely : Prop := fnExactInOrderRow.holds Try.pinned (OpenSpec.ofChange fnExactInOrderWrong)

/-- 'laws.FnExactLeastWay': WHATEVER THE INPUT: true; the input reads as it did. -/
def fnExactLeastWaySpec : ChangeSpec := { name := "fnExactLeastWay", fn := fun _ => fun
  | [d] => { results := [.lit (.bool true)], args := [d] }
  | _ => none }
def fnExactLeastWayRow : OpenClaim := { program := "ytanmcbjlooknoaa", sum := "c4f500566df33f2d8484a8d7b2c51c30d70f6a4c8e18c799248479493e9be788", func := "loop.example/onecounter/laws.FnExactLeastWay", spec := "fnExactLeastWay", unfollowed := true, recurses := true, apart := false }
def FnExactLeastWaySaid : Prop := fnExactLeastWayRow.holds Try.pinned (OpenSpec.ofChange fnExactLeastWaySpec)

/-- ITS FALSE NEIGHBOUR: 'it returns false'. Refute it at one input. -/
def fnExactLeastWayWrong : ChangeSpec := { name := "fnExactLeastWay", fn := fun _ => fun
  | [d] => { results := [.lit (.bool false)], args := [d] }
  | _ => none }
def FnExactLeastWayWrongFalsely : Prop := fnExactLeastWayRow.holds Try.pinned (OpenSpec.ofChange fnExactLeastWayWrong)

/-- 'laws.FnInOrder': WHATEVER THE INPUT: true; the input reads as it did. -/
def fnInOrderSpec : ChangeSpec := { name := "fnInOrder", fn := fun _ => fun
  | [d] => { results := [.lit (.bool true)], args := [d] }
  | _ => none }
def fnInOrderRow : OpenClaim := { program := "ytanmcbjlooknoaa", sum := "c4f500566df33f2d8484a8d7b2c51c30d70f6a4c8e18c799248479493e9be788", func := "loop.example/onecounter/laws.FnInOrder", spec := "fnInOrder", unfollowed := true, recurses := true, apart := false }
def FnInOrderSaid : Prop := fnInOrderRow.holds Try.pinned (OpenSpec.ofChange fnInOrderSpec)

/-- ITS FALSE NEIGHBOUR: 'it returns false'. Refute it at one input. -/
def fnInOrderWrong : ChangeSpec := { name := "fnInOrder", fn := fun _ => fun
  | [d] => { results := [.lit (.bool false)], args := [d] }
  | _ => none }
def FnInOrderWrongFalsely : Prop := fnInOrderRow.holds Try.pinned (OpenSpec.ofChange fnInOrderWrong)

/-- 'laws.FnLeastWay': WHATEVER THE INPUT: true; the input reads as it did. -/
def fnLeastWaySpec : ChangeSpec := { name := "fnLeastWay", fn := fun _ => fun
  | [d] => { results := [.lit (.bool true)], args := [d] }
  | _ => none }
def fnLeastWayRow : OpenClaim := { program := "ytanmcbjlooknoaa", sum := "c4f500566df33f2d8484a8d7b2c51c30d70f6a4c8e18c799248479493e9be788", func := "loop.example/onecounter/laws.FnLeastWay", spec := "fnLeastWay", unfollowed := true, recurses := true, apart := false }
def FnLeastWaySaid : Prop := fnLeastWayRow.holds Try.pinned (OpenSpec.ofChange fnLeastWaySpec)

/-- ITS FALSE NEIGHBOUR: 'it returns false'. Refute it at one input. -/
def fnLeastWayWrong : ChangeSpec := { name := "fnLeastWay", fn := fun _ => fun
  | [d] => { results := [.lit (.bool false)], args := [d] }
  | _ => none }
def FnLeastWayWrongFalsely : Prop := fnLeastWayRow.holds Try.pinned (OpenSpec.ofChange fnLeastWayWrong)

/-- 'laws.FnExactByPairs': WHATEVER THE INPUT: true; the input reads as it did. -/
def fnExactByPairsSpec : ChangeSpec := { name := "fnExactByPairs", fn := fun _ => fun
  | [d] => { results := [.lit (.bool true)], args := [d] }
  | _ => none }
def fnExactByPairsRow : OpenClaim := { program := "ytanmcbjlooknoaa", sum := "c4f500566df33f2d8484a8d7b2c51c30d70f6a4c8e18c799248479493e9be788", func := "loop.example/onecounter/laws.FnExactByPairs", spec := "fnExactByPairs", unfollowed := true, recurses := true, apart := false }
def FnExactByPairsSaid : Prop := fnExactByPairsRow.holds Try.pinned (OpenSpec.ofChange fnExactByPairsSpec)

/-- ITS FALSE NEIGHBOUR: 'it returns false'. Refute it at one input. -/
def fnExactByPairsWrong : ChangeSpec := { name := "fnExactByPairs", fn := fun _ => fun
  | [d] => { results := [.lit (.bool false)], args := [d] }
  | _ => none }
def FnExactByPairsWrongFalsely : Prop := fnExactByPairsRow.holds Try.pinned (OpenSpec.ofChange fnExactByPairsWrong)

/-- 'laws.FnByPairs': WHATEVER THE INPUT: true; the input reads as it did. -/
def fnByPairsSpec : ChangeSpec := { name := "fnByPairs", fn := fun _ => fun
  | [d] => { results := [.lit (.bool true)], args := [d] }
  | _ => none }
def fnByPairsRow : OpenClaim := { program := "ytanmcbjlooknoaa", sum := "c4f500566df33f2d8484a8d7b2c51c30d70f6a4c8e18c799248479493e9be788", func := "loop.example/onecounter/laws.FnByPairs", spec := "fnByPairs", unfollowed := true, recurses := true, apart := false }
def FnByPairsSaid : Prop := fnByPairsRow.holds Try.pinned (OpenSpec.ofChange fnByPairsSpec)

/-- ITS FALSE NEIGHBOUR: 'it returns false'. Refute it at one input. -/
def fnByPairsWrong : ChangeSpec := { name := "fnByPairs", fn := fun _ => fun
  | [d] => { results := [.lit (.bool false)], args := [d] }
  | _ => none }
def FnByPairsWrongFalsely : Prop := fnByPairsRow.holds Try.pinned (OpenSpec.ofChange fnByPairsWrong)

/- THE SECOND FORM. 'bulk': how many values and letters a reading holds, each counted each time it is reached (what is shared counts as often as it is met; a slice's spare places count too). A statement '..UptoSaid' is the law's where the arguments, and the package variables that the reading takes, are together of bulk at most 1048576: NARROWER than '..Said'. Prove '..Said' where nothing that the law and all that it calls make is longer than what came in: it says more and counts as full. Else prove '..UptoSaid'. A law counts once. -/
mutual
def uptoBulk {H : Type} : DataW H → Nat
  | .lit (.string bytes) => bytes.length + 1
  | .lit _ => 1
  | .nil => 1
  | .ptr d => uptoBulk d + 1
  | .slice elems spare => uptoBulkAll elems + uptoBulkAll spare + 1
  | .agg parts => uptoBulkAll parts + 1
  | .iface _ d => uptoBulk d + 1
  | .map entries => uptoBulkEntries entries + 1
  | .held _ => 1
def uptoBulkAll {H : Type} : List (DataW H) → Nat
  | [] => 0
  | d :: r => uptoBulk d + uptoBulkAll r
def uptoBulkEntries {H : Type} : List (Lit × DataW H) → Nat
  | [] => 0
  | x :: r => uptoBulkEntry x + uptoBulkEntries r
def uptoBulkEntry {H : Type} : Lit × DataW H → Nat
  | (.string bytes, d) => bytes.length + uptoBulk d + 1
  | (_, d) => uptoBulk d + 1
 end
def uptoSmall : (H : Type) → List (DataW H) → Bool := fun _ ds => decide (uptoBulkAll ds ≤ 1048576)
def OpenSpec.upto (s : _root_.Go.ChangeSpec) : _root_.Go.OpenSpec := { _root_.Go.OpenSpec.ofChange s with cond := some uptoSmall }

/-- 'laws.FnLeavesBoth', WHERE WHAT IT READS IS OF BULK AT MOST 1048576: true; the input reads as it did. -/
def fnLeavesBothUptoRow : OpenClaim := { program := "ytanmcbjlooknoaa", sum := "c4f500566df33f2d8484a8d7b2c51c30d70f6a4c8e18c799248479493e9be788", func := "loop.example/onecounter/laws.FnLeavesBoth", spec := "fnLeavesBoth", apart := false, narrowed := true }
def FnLeavesBothUptoSaid : Prop := fnLeavesBothUptoRow.holds Try.pinned (OpenSpec.upto fnLeavesBothSpec)

/-- 'laws.FnExactInOrder', WHERE WHAT IT READS IS OF BULK AT MOST 1048576: true; the input reads as it did. -/
def fnExactInOrderUptoRow : OpenClaim := { program := "ytanmcbjlooknoaa", sum := "c4f500566df33f2d8484a8d7b2c51c30d70f6a4c8e18c799248479493e9be788", func := "loop.example/onecounter/laws.FnExactInOrder", spec := "fnExactInOrder", apart := false, narrowed := true }
def FnExactInOrderUptoSaid : Prop := fnExactInOrderUptoRow.holds Try.pinned (OpenSpec.upto fnExactInOrderSpec)

/-- 'laws.FnExactLeastWay', WHERE WHAT IT READS IS OF BULK AT MOST 1048576: true; the input reads as it did. -/
def fnExactLeastWayUptoRow : OpenClaim := { program := "ytanmcbjlooknoaa", sum := "c4f500566df33f2d8484a8d7b2c51c30d70f6a4c8e18c799248479493e9be788", func := "loop.example/onecounter/laws.FnExactLeastWay", spec := "fnExactLeastWay", unfollowed := true, recurses := true, apart := false, narrowed := true }
def FnExactLeastWayUptoSaid : Prop := fnExactLeastWayUptoRow.holds Try.pinned (OpenSpec.upto fnExactLeastWaySpec)

/-- 'laws.FnInOrder', WHERE WHAT IT READS IS OF BULK AT MOST 1048576: true; the input reads as it did. -/
def fnInOrderUptoRow : OpenClaim := { program := "ytanmcbjlooknoaa", sum := "c4f500566df33f2d8484a8d7b2c51c30d70f6a4c8e18c799248479493e9be788", func := "loop.example/onecounter/laws.FnInOrder", spec := "fnInOrder", unfollowed := true, recurses := true, apart := false, narrowed := true }
def FnInOrderUptoSaid : Prop := fnInOrderUptoRow.holds Try.pinned (OpenSpec.upto fnInOrderSpec)

/-- 'laws.FnLeastWay', WHERE WHAT IT READS IS OF BULK AT MOST 1048576: true; the input reads as it did. -/
def fnLeastWayUptoRow : OpenClaim := { program := "ytanmcbjlooknoaa", sum := "c4f500566df33f2d8484a8d7b2c51c30d70f6a4c8e18c799248479493e9be788", func := "loop.example/onecounter/laws.FnLeastWay", spec := "fnLeastWay", unfollowed := true, recurses := true, apart := false, narrowed := true }
def FnLeastWayUptoSaid : Prop := fnLeastWayUptoRow.holds Try.pinned (OpenSpec.upto fnLeastWaySpec)

/-- 'laws.FnExactByPairs', WHERE WHAT IT READS IS OF BULK AT MOST 1048576: true; the input reads as it did. -/
def fnExactByPairsUptoRow : OpenClaim := { program := "ytanmcbjlooknoaa", sum := "c4f500566df33f2d8484a8d7b2c51c30d70f6a4c8e18c799248479493e9be788", func := "loop.example/onecounter/laws.FnExactByPairs", spec := "fnExactByPairs", unfollowed := true, recurses := true, apart := false, narrowed := true }
def FnExactByPairsUptoSaid : Prop := fnExactByPairsUptoRow.holds Try.pinned (OpenSpec.upto fnExactByPairsSpec)

/-- 'laws.FnByPairs', WHERE WHAT IT READS IS OF BULK AT MOST 1048576: true; the input reads as it did. -/
def fnByPairsUptoRow : OpenClaim := { program := "ytanmcbjlooknoaa", sum := "c4f500566df33f2d8484a8d7b2c51c30d70f6a4c8e18c799248479493e9be788", func := "loop.example/onecounter/laws.FnByPairs", spec := "fnByPairs", unfollowed := true, recurses := true, apart := false, narrowed := true }
def FnByPairsUptoSaid : Prop := fnByPairsUptoRow.holds Try.pinned (OpenSpec.upto fnByPairsSpec)

end Rows
end Go.Proofs.Ytanmcbjlooknoaa
