/-
  No cell of these rows narrows 'for every input' (looked for: loops, veiled, ifaces, maps, wideKeys, modest, calm, conditions, laid).
  DERIVED. THE GIVEN ROWS OF THIS SEAT. 10 by the template 'for every input the law returns true; each argument reads behind the call as it read before'; 0 by the template 'total and deterministic' (their statements: YtnbfnpnephfjaaaTotals.lean).
  GIVEN WITH THE SEED: the statements are not yours to turn. If you find one false, say at which input.
  Laid BY PROGRAM, IN A SANDBOX (cutbox-rows.mjs): the forced cells as the released guide's own fill.sh prints them over the translation 73cac342271c6274… (all of the seat's roots in one cut). By AI agents, Wed Nov 11 2026. No macro, syntax, notation, axiom, sorry.
-/
import Derived.Test.YtnbfnpnephfjaaaChecked
import GoSem.Claim
import GoSem.ClaimJoined
import GoSem.ClaimMapViews
import Derived.JoinedTies
import Derived.KernelRfl
namespace Go.Proofs.Ytnbfnpnephfjaaa
/- THE CELL 'sum', in the pinned program and in every row, IS THE sha256 OF THE DUMP (.gsa) THAT YtnbfnpnephfjaaaProg.lean LOADS. Nothing in Lean hashes anything: it is a label: what it is worth is what the hold of that sum in a sandbox is worth. -/
noncomputable def Try.pinned : Pinned := { name := "ytnbfnpnephfjaaa", sum := "73cac342271c6274fb27f9f76637a1582e8e73dbb377c312f7e2094aeda0fa5a", checked := Try.checked }
namespace Rows
def none {H : Type} : Left H := { results := [], args := [] }

/-- 'laws.FnExactPanelOk': WHATEVER THE INPUT: true; the input reads as it did. -/
def fnExactPanelOkSpec : ChangeSpec := { name := "fnExactPanelOk", fn := fun _ => fun
  | [d] => { results := [.lit (.bool true)], args := [d] }
  | _ => none }
def fnExactPanelOkRow : OpenClaim := { program := "ytnbfnpnephfjaaa", sum := "73cac342271c6274fb27f9f76637a1582e8e73dbb377c312f7e2094aeda0fa5a", func := "loop.example/g00052/laws.FnExactPanelOk", spec := "fnExactPanelOk", apart := false }
def FnExactPanelOkSaid : Prop := fnExactPanelOkRow.holds Try.pinned (OpenSpec.ofChange fnExactPanelOkSpec)

/-- ITS FALSE NEIGHBOUR: 'it returns false'. Refute it at one input. -/
def fnExactPanelOkWrong : ChangeSpec := { name := "fnExactPanelOk", fn := fun _ => fun
  | [d] => { results := [.lit (.bool false)], args := [d] }
  | _ => none }
def FnExactPanelOkWrongFalsely : Prop := fnExactPanelOkRow.holds Try.pinned (OpenSpec.ofChange fnExactPanelOkWrong)

/-- 'laws.FnExactOneCall': WHATEVER THE INPUT: true; the input reads as it did. -/
def fnExactOneCallSpec : ChangeSpec := { name := "fnExactOneCall", fn := fun _ => fun
  | [d1, d2, d3] => { results := [.lit (.bool true)], args := [d1, d2, d3] }
  | _ => none }
def fnExactOneCallRow : OpenClaim := { program := "ytnbfnpnephfjaaa", sum := "73cac342271c6274fb27f9f76637a1582e8e73dbb377c312f7e2094aeda0fa5a", func := "loop.example/g00052/laws.FnExactOneCall", spec := "fnExactOneCall", apart := false }
def FnExactOneCallSaid : Prop := fnExactOneCallRow.holds Try.pinned (OpenSpec.ofChange fnExactOneCallSpec)

/-- ITS FALSE NEIGHBOUR: 'it returns false'. Refute it at one input. -/
def fnExactOneCallWrong : ChangeSpec := { name := "fnExactOneCall", fn := fun _ => fun
  | [d1, d2, d3] => { results := [.lit (.bool false)], args := [d1, d2, d3] }
  | _ => none }
def FnExactOneCallWrongFalsely : Prop := fnExactOneCallRow.holds Try.pinned (OpenSpec.ofChange fnExactOneCallWrong)

/-- 'laws.FnOneCall': WHATEVER THE INPUT: true; the input reads as it did. -/
def fnOneCallSpec : ChangeSpec := { name := "fnOneCall", fn := fun _ => fun
  | [d] => { results := [.lit (.bool true)], args := [d] }
  | _ => none }
def fnOneCallRow : OpenClaim := { program := "ytnbfnpnephfjaaa", sum := "73cac342271c6274fb27f9f76637a1582e8e73dbb377c312f7e2094aeda0fa5a", func := "loop.example/g00052/laws.FnOneCall", spec := "fnOneCall", apart := false }
def FnOneCallSaid : Prop := fnOneCallRow.holds Try.pinned (OpenSpec.ofChange fnOneCallSpec)

/-- ITS FALSE NEIGHBOUR: 'it returns false'. Refute it at one input. -/
def fnOneCallWrong : ChangeSpec := { name := "fnOneCall", fn := fun _ => fun
  | [d] => { results := [.lit (.bool false)], args := [d] }
  | _ => none }
def FnOneCallWrongFalsely : Prop := fnOneCallRow.holds Try.pinned (OpenSpec.ofChange fnOneCallWrong)

/-- 'laws.FnExactDoPanel': WHATEVER THE INPUT: true; the input reads as it did. -/
def fnExactDoPanelSpec : ChangeSpec := { name := "fnExactDoPanel", fn := fun _ => fun
  | [d1, d2] => { results := [.lit (.bool true)], args := [d1, d2] }
  | _ => none }
def fnExactDoPanelRow : OpenClaim := { program := "ytnbfnpnephfjaaa", sum := "73cac342271c6274fb27f9f76637a1582e8e73dbb377c312f7e2094aeda0fa5a", func := "loop.example/g00052/laws.FnExactDoPanel", spec := "fnExactDoPanel", unfollowed := true, recurses := true, apart := false }
def FnExactDoPanelSaid : Prop := fnExactDoPanelRow.holds Try.pinned (OpenSpec.ofChange fnExactDoPanelSpec)

/-- ITS FALSE NEIGHBOUR: 'it returns false'. Refute it at one input. -/
def fnExactDoPanelWrong : ChangeSpec := { name := "fnExactDoPanel", fn := fun _ => fun
  | [d1, d2] => { results := [.lit (.bool false)], args := [d1, d2] }
  | _ => none }
def FnExactDoPanelWrongFalsely : Prop := fnExactDoPanelRow.holds Try.pinned (OpenSpec.ofChange fnExactDoPanelWrong)

/-- 'laws.FnPanelKept': WHATEVER THE INPUT: true; the input reads as it did. -/
def fnPanelKeptSpec : ChangeSpec := { name := "fnPanelKept", fn := fun _ => fun
  | [d] => { results := [.lit (.bool true)], args := [d] }
  | _ => none }
def fnPanelKeptRow : OpenClaim := { program := "ytnbfnpnephfjaaa", sum := "73cac342271c6274fb27f9f76637a1582e8e73dbb377c312f7e2094aeda0fa5a", func := "loop.example/g00052/laws.FnPanelKept", spec := "fnPanelKept", unfollowed := true, recurses := true, apart := false }
def FnPanelKeptSaid : Prop := fnPanelKeptRow.holds Try.pinned (OpenSpec.ofChange fnPanelKeptSpec)

/-- ITS FALSE NEIGHBOUR: 'it returns false'. Refute it at one input. -/
def fnPanelKeptWrong : ChangeSpec := { name := "fnPanelKept", fn := fun _ => fun
  | [d] => { results := [.lit (.bool false)], args := [d] }
  | _ => none }
def FnPanelKeptWrongFalsely : Prop := fnPanelKeptRow.holds Try.pinned (OpenSpec.ofChange fnPanelKeptWrong)

/-- 'laws.FnExactRunPanel': WHATEVER THE INPUT: true; the input reads as it did. -/
def fnExactRunPanelSpec : ChangeSpec := { name := "fnExactRunPanel", fn := fun _ => fun
  | [d1, d2] => { results := [.lit (.bool true)], args := [d1, d2] }
  | _ => none }
def fnExactRunPanelRow : OpenClaim := { program := "ytnbfnpnephfjaaa", sum := "73cac342271c6274fb27f9f76637a1582e8e73dbb377c312f7e2094aeda0fa5a", func := "loop.example/g00052/laws.FnExactRunPanel", spec := "fnExactRunPanel", unfollowed := true, recurses := true, apart := false }
def FnExactRunPanelSaid : Prop := fnExactRunPanelRow.holds Try.pinned (OpenSpec.ofChange fnExactRunPanelSpec)

/-- ITS FALSE NEIGHBOUR: 'it returns false'. Refute it at one input. -/
def fnExactRunPanelWrong : ChangeSpec := { name := "fnExactRunPanel", fn := fun _ => fun
  | [d1, d2] => { results := [.lit (.bool false)], args := [d1, d2] }
  | _ => none }
def FnExactRunPanelWrongFalsely : Prop := fnExactRunPanelRow.holds Try.pinned (OpenSpec.ofChange fnExactRunPanelWrong)

/-- 'laws.FnExactHeard': WHATEVER THE INPUT: true; the input reads as it did. -/
def fnExactHeardSpec : ChangeSpec := { name := "fnExactHeard", fn := fun _ => fun
  | [d1, d2] => { results := [.lit (.bool true)], args := [d1, d2] }
  | _ => none }
def fnExactHeardRow : OpenClaim := { program := "ytnbfnpnephfjaaa", sum := "73cac342271c6274fb27f9f76637a1582e8e73dbb377c312f7e2094aeda0fa5a", func := "loop.example/g00052/laws.FnExactHeard", spec := "fnExactHeard", recurses := true, apart := false }
def FnExactHeardSaid : Prop := fnExactHeardRow.holds Try.pinned (OpenSpec.ofChange fnExactHeardSpec)

/-- ITS FALSE NEIGHBOUR: 'it returns false'. Refute it at one input. -/
def fnExactHeardWrong : ChangeSpec := { name := "fnExactHeard", fn := fun _ => fun
  | [d1, d2] => { results := [.lit (.bool false)], args := [d1, d2] }
  | _ => none }
def FnExactHeardWrongFalsely : Prop := fnExactHeardRow.holds Try.pinned (OpenSpec.ofChange fnExactHeardWrong)

/-- 'laws.FnHeard': WHATEVER THE INPUT: true; the input reads as it did. -/
def fnHeardSpec : ChangeSpec := { name := "fnHeard", fn := fun _ => fun
  | [d] => { results := [.lit (.bool true)], args := [d] }
  | _ => none }
def fnHeardRow : OpenClaim := { program := "ytnbfnpnephfjaaa", sum := "73cac342271c6274fb27f9f76637a1582e8e73dbb377c312f7e2094aeda0fa5a", func := "loop.example/g00052/laws.FnHeard", spec := "fnHeard", recurses := true, apart := false }
def FnHeardSaid : Prop := fnHeardRow.holds Try.pinned (OpenSpec.ofChange fnHeardSpec)

/-- ITS FALSE NEIGHBOUR: 'it returns false'. Refute it at one input. -/
def fnHeardWrong : ChangeSpec := { name := "fnHeard", fn := fun _ => fun
  | [d] => { results := [.lit (.bool false)], args := [d] }
  | _ => none }
def FnHeardWrongFalsely : Prop := fnHeardRow.holds Try.pinned (OpenSpec.ofChange fnHeardWrong)

/-- 'laws.FnExactMix': WHATEVER THE INPUT: true; the input reads as it did. -/
def fnExactMixSpec : ChangeSpec := { name := "fnExactMix", fn := fun _ => fun
  | [d1, d2] => { results := [.lit (.bool true)], args := [d1, d2] }
  | _ => none }
def fnExactMixRow : OpenClaim := { program := "ytnbfnpnephfjaaa", sum := "73cac342271c6274fb27f9f76637a1582e8e73dbb377c312f7e2094aeda0fa5a", func := "loop.example/g00052/laws.FnExactMix", spec := "fnExactMix", recurses := true, apart := false }
def FnExactMixSaid : Prop := fnExactMixRow.holds Try.pinned (OpenSpec.ofChange fnExactMixSpec)

/-- ITS FALSE NEIGHBOUR: 'it returns false'. Refute it at one input. -/
def fnExactMixWrong : ChangeSpec := { name := "fnExactMix", fn := fun _ => fun
  | [d1, d2] => { results := [.lit (.bool false)], args := [d1, d2] }
  | _ => none }
def FnExactMixWrongFalsely : Prop := fnExactMixRow.holds Try.pinned (OpenSpec.ofChange fnExactMixWrong)

/-- 'laws.FnMixed': WHATEVER THE INPUT: true; the input reads as it did. -/
def fnMixedSpec : ChangeSpec := { name := "fnMixed", fn := fun _ => fun
  | [d] => { results := [.lit (.bool true)], args := [d] }
  | _ => none }
def fnMixedRow : OpenClaim := { program := "ytnbfnpnephfjaaa", sum := "73cac342271c6274fb27f9f76637a1582e8e73dbb377c312f7e2094aeda0fa5a", func := "loop.example/g00052/laws.FnMixed", spec := "fnMixed", recurses := true, apart := false }
def FnMixedSaid : Prop := fnMixedRow.holds Try.pinned (OpenSpec.ofChange fnMixedSpec)

/-- ITS FALSE NEIGHBOUR: 'it returns false'. Refute it at one input. -/
def fnMixedWrong : ChangeSpec := { name := "fnMixed", fn := fun _ => fun
  | [d] => { results := [.lit (.bool false)], args := [d] }
  | _ => none }
def FnMixedWrongFalsely : Prop := fnMixedRow.holds Try.pinned (OpenSpec.ofChange fnMixedWrong)

/- THE SECOND FORM. 'bulk': how many values and letters a reading holds, each counted each time it is reached (what is shared counts as often as it is met; a slice's spare places count too). A statement '..UptoSaid' is the law's where the arguments, and the package variables that the reading takes, are together of bulk at most 1048576: NARROWER than '..Said'. Prove '..Said' where nothing that the law and all that it calls make is longer than what came in: it says more and counts as full. Else prove '..UptoSaid'. A law counts once. -/
mutual
def uptoBulk {H : Type} : DataW H → Nat
  | .lit (.string bytes) => bytes.length + 1
  | .lit _ => 1
  | .nil => 1
  | .ptr d => uptoBulk d + 1
  | .slice elems spare => uptoBulkAll elems + uptoBulkAll spare + 1
  | .agg parts => uptoBulkAll parts + 1
  | .iface _ d => uptoBulk d + 1
  | .map entries => uptoBulkEntries entries + 1
  | .held _ => 1
def uptoBulkAll {H : Type} : List (DataW H) → Nat
  | [] => 0
  | d :: r => uptoBulk d + uptoBulkAll r
def uptoBulkEntries {H : Type} : List (Lit × DataW H) → Nat
  | [] => 0
  | x :: r => uptoBulkEntry x + uptoBulkEntries r
def uptoBulkEntry {H : Type} : Lit × DataW H → Nat
  | (.string bytes, d) => bytes.length + uptoBulk d + 1
  | (_, d) => uptoBulk d + 1
 end
def uptoSmall : (H : Type) → List (DataW H) → Bool := fun _ ds => decide (uptoBulkAll ds ≤ 1048576)
def OpenSpec.upto (s : _root_.Go.ChangeSpec) : _root_.Go.OpenSpec := { _root_.Go.OpenSpec.ofChange s with cond := some uptoSmall }

/-- 'laws.FnExactPanelOk', WHERE WHAT IT READS IS OF BULK AT MOST 1048576: true; the input reads as it did. -/
def fnExactPanelOkUptoRow : OpenClaim := { program := "ytnbfnpnephfjaaa", sum := "73cac342271c6274fb27f9f76637a1582e8e73dbb377c312f7e2094aeda0fa5a", func := "loop.example/g00052/laws.FnExactPanelOk", spec := "fnExactPanelOk", apart := false, narrowed := true }
def FnExactPanelOkUptoSaid : Prop := fnExactPanelOkUptoRow.holds Try.pinned (OpenSpec.upto fnExactPanelOkSpec)

/-- 'laws.FnExactOneCall', WHERE WHAT IT READS IS OF BULK AT MOST 1048576: true; the input reads as it did. -/
def fnExactOneCallUptoRow : OpenClaim := { program := "ytnbfnpnephfjaaa", sum := "73cac342271c6274fb27f9f76637a1582e8e73dbb377c312f7e2094aeda0fa5a", func := "loop.example/g00052/laws.FnExactOneCall", spec := "fnExactOneCall", apart := false, narrowed := true }
def FnExactOneCallUptoSaid : Prop := fnExactOneCallUptoRow.holds Try.pinned (OpenSpec.upto fnExactOneCallSpec)

/-- 'laws.FnOneCall', WHERE WHAT IT READS IS OF BULK AT MOST 1048576: true; the input reads as it did. -/
def fnOneCallUptoRow : OpenClaim := { program := "ytnbfnpnephfjaaa", sum := "73cac342271c6274fb27f9f76637a1582e8e73dbb377c312f7e2094aeda0fa5a", func := "loop.example/g00052/laws.FnOneCall", spec := "fnOneCall", apart := false, narrowed := true }
def FnOneCallUptoSaid : Prop := fnOneCallUptoRow.holds Try.pinned (OpenSpec.upto fnOneCallSpec)

/-- 'laws.FnExactDoPanel', WHERE WHAT IT READS IS OF BULK AT MOST 1048576: true; the input reads as it did. -/
def fnExactDoPanelUptoRow : OpenClaim := { program := "ytnbfnpnephfjaaa", sum := "73cac342271c6274fb27f9f76637a1582e8e73dbb377c312f7e2094aeda0fa5a", func := "loop.example/g00052/laws.FnExactDoPanel", spec := "fnExactDoPanel", unfollowed := true, recurses := true, apart := false, narrowed := true }
def FnExactDoPanelUptoSaid : Prop := fnExactDoPanelUptoRow.holds Try.pinned (OpenSpec.upto fnExactDoPanelSpec)

/-- 'laws.FnPanelKept', WHERE WHAT IT READS IS OF BULK AT MOST 1048576: true; the input reads as it did. -/
def fnPanelKeptUptoRow : OpenClaim := { program := "ytnbfnpnephfjaaa", sum := "73cac342271c6274fb27f9f76637a1582e8e73dbb377c312f7e2094aeda0fa5a", func := "loop.example/g00052/laws.FnPanelKept", spec := "fnPanelKept", unfollowed := true, recurses := true, apart := false, narrowed := true }
def FnPanelKeptUptoSaid : Prop := fnPanelKeptUptoRow.holds Try.pinned (OpenSpec.upto fnPanelKeptSpec)

/-- 'laws.FnExactRunPanel', WHERE WHAT IT READS IS OF BULK AT MOST 1048576: true; the input reads as it did. -/
def fnExactRunPanelUptoRow : OpenClaim := { program := "ytnbfnpnephfjaaa", sum := "73cac342271c6274fb27f9f76637a1582e8e73dbb377c312f7e2094aeda0fa5a", func := "loop.example/g00052/laws.FnExactRunPanel", spec := "fnExactRunPanel", unfollowed := true, recurses := true, apart := false, narrowed := true }
def FnExactRunPanelUptoSaid : Prop := fnExactRunPanelUptoRow.holds Try.pinned (OpenSpec.upto fnExactRunPanelSpec)

/-- 'laws.FnExactHeard', WHERE WHAT IT READS IS OF BULK AT MOST 1048576: true; the input reads as it did. -/
def fnExactHeardUptoRow : OpenClaim := { program := "ytnbfnpnephfjaaa", sum := "73cac342271c6274fb27f9f76637a1582e8e73dbb377c312f7e2094aeda0fa5a", func := "loop.example/g00052/laws.FnExactHeard", spec := "fnExactHeard", recurses := true, apart := false, narrowed := true }
def FnExactHeardUptoSaid : Prop := fnExactHeardUptoRow.holds Try.pinned (OpenSpec.upto fnExactHeardSpec)

/-- 'laws.FnHeard', WHERE WHAT IT READS IS OF BULK AT MOST 1048576: true; the input reads as it did. -/
def fnHeardUptoRow : OpenClaim := { program := "ytnbfnpnephfjaaa", sum := "73cac342271c6274fb27f9f76637a1582e8e73dbb377c312f7e2094aeda0fa5a", func := "loop.example/g00052/laws.FnHeard", spec := "fnHeard", recurses := true, apart := false, narrowed := true }
def FnHeardUptoSaid : Prop := fnHeardUptoRow.holds Try.pinned (OpenSpec.upto fnHeardSpec)

/-- 'laws.FnExactMix', WHERE WHAT IT READS IS OF BULK AT MOST 1048576: true; the input reads as it did. -/
def fnExactMixUptoRow : OpenClaim := { program := "ytnbfnpnephfjaaa", sum := "73cac342271c6274fb27f9f76637a1582e8e73dbb377c312f7e2094aeda0fa5a", func := "loop.example/g00052/laws.FnExactMix", spec := "fnExactMix", recurses := true, apart := false, narrowed := true }
def FnExactMixUptoSaid : Prop := fnExactMixUptoRow.holds Try.pinned (OpenSpec.upto fnExactMixSpec)

/-- 'laws.FnMixed', WHERE WHAT IT READS IS OF BULK AT MOST 1048576: true; the input reads as it did. -/
def fnMixedUptoRow : OpenClaim := { program := "ytnbfnpnephfjaaa", sum := "73cac342271c6274fb27f9f76637a1582e8e73dbb377c312f7e2094aeda0fa5a", func := "loop.example/g00052/laws.FnMixed", spec := "fnMixed", recurses := true, apart := false, narrowed := true }
def FnMixedUptoSaid : Prop := fnMixedUptoRow.holds Try.pinned (OpenSpec.upto fnMixedSpec)

end Rows
end Go.Proofs.Ytnbfnpnephfjaaa
