/-
  No cell of these rows narrows 'for every input' (looked for: loops, veiled, ifaces, maps, wideKeys, modest, calm, conditions, laid).
  DERIVED. THE GIVEN ROWS OF THIS SEAT. 6 by the template 'for every input the law returns true; each argument reads behind the call as it read before'; 0 by the template 'total and deterministic' (their statements: YtgmcijagaielaaaTotals.lean).
  GIVEN WITH THE SEED: the statements are not yours to turn. If you find one false, say at which input.
  Laid BY PROGRAM, IN A SANDBOX (cutbox-rows.mjs): the forced cells as the released guide's own fill.sh prints them over the translation 80e9bf4a1a685b59… (all of the seat's roots in one cut). By AI agents, Wed Nov 11 2026. No macro, syntax, notation, axiom, sorry.
-/
import Derived.Test.YtgmcijagaielaaaChecked
import GoSem.Claim
import GoSem.ClaimJoined
import GoSem.ClaimMapViews
import Derived.JoinedTies
import Derived.KernelRfl
namespace Go.Proofs.Ytgmcijagaielaaa
/- THE CELL 'sum', in the pinned program and in every row, IS THE sha256 OF THE DUMP (.gsa) THAT YtgmcijagaielaaaProg.lean LOADS. Nothing in Lean hashes anything: it is a label: what it is worth is what the hold of that sum in a sandbox is worth. -/
noncomputable def Try.pinned : Pinned := { name := "ytgmcijagaielaaa", sum := "80e9bf4a1a685b5918d1b160e5f513962b992268fbe42da252614c38fd7a43f6", checked := Try.checked }
namespace Rows
def none {H : Type} : Left H := { results := [], args := [] }

/-- 'laws.FnExactFabricOk': WHATEVER THE INPUT: true; the input reads as it did. -/
def fnExactFabricOkSpec : ChangeSpec := { name := "fnExactFabricOk", fn := fun _ => fun
  | [d] => { results := [.lit (.bool true)], args := [d] }
  | _ => none }
def fnExactFabricOkRow : OpenClaim := { program := "ytgmcijagaielaaa", sum := "80e9bf4a1a685b5918d1b160e5f513962b992268fbe42da252614c38fd7a43f6", func := "loop.example/g00052/laws.FnExactFabricOk", spec := "fnExactFabricOk", plainKeys := false, apart := false }
def FnExactFabricOkSaid : Prop := fnExactFabricOkRow.holds Try.pinned (OpenSpec.ofChange fnExactFabricOkSpec)

/-- ITS FALSE NEIGHBOUR: 'it returns false'. Refute it at one input. -/
def fnExactFabricOkWrong : ChangeSpec := { name := "fnExactFabricOk", fn := fun _ => fun
  | [d] => { results := [.lit (.bool false)], args := [d] }
  | _ => none }
def FnExactFabricOkWrongFalsely : Prop := fnExactFabricOkRow.holds Try.pinned (OpenSpec.ofChange fnExactFabricOkWrong)

/-- 'laws.FnExactRelease': WHATEVER THE INPUT: true; the input reads as it did. -/
def fnExactReleaseSpec : ChangeSpec := { name := "fnExactRelease", fn := fun _ => fun
  | [d1, d2] => { results := [.lit (.bool true)], args := [d1, d2] }
  | _ => none }
def fnExactReleaseRow : OpenClaim := { program := "ytgmcijagaielaaa", sum := "80e9bf4a1a685b5918d1b160e5f513962b992268fbe42da252614c38fd7a43f6", func := "loop.example/g00052/laws.FnExactRelease", spec := "fnExactRelease", unfollowed := true, recurses := true, plainKeys := false, apart := false }
def FnExactReleaseSaid : Prop := fnExactReleaseRow.holds Try.pinned (OpenSpec.ofChange fnExactReleaseSpec)

/-- ITS FALSE NEIGHBOUR: 'it returns false'. Refute it at one input. -/
def fnExactReleaseWrong : ChangeSpec := { name := "fnExactRelease", fn := fun _ => fun
  | [d1, d2] => { results := [.lit (.bool false)], args := [d1, d2] }
  | _ => none }
def FnExactReleaseWrongFalsely : Prop := fnExactReleaseRow.holds Try.pinned (OpenSpec.ofChange fnExactReleaseWrong)

/-- 'laws.FnExactNeeds': WHATEVER THE INPUT: true; the input reads as it did. -/
def fnExactNeedsSpec : ChangeSpec := { name := "fnExactNeeds", fn := fun _ => fun
  | [d] => { results := [.lit (.bool true)], args := [d] }
  | _ => none }
def fnExactNeedsRow : OpenClaim := { program := "ytgmcijagaielaaa", sum := "80e9bf4a1a685b5918d1b160e5f513962b992268fbe42da252614c38fd7a43f6", func := "loop.example/g00052/laws.FnExactNeeds", spec := "fnExactNeeds", unfollowed := true, recurses := true, plainKeys := false, apart := false }
def FnExactNeedsSaid : Prop := fnExactNeedsRow.holds Try.pinned (OpenSpec.ofChange fnExactNeedsSpec)

/-- ITS FALSE NEIGHBOUR: 'it returns false'. Refute it at one input. -/
def fnExactNeedsWrong : ChangeSpec := { name := "fnExactNeeds", fn := fun _ => fun
  | [d] => { results := [.lit (.bool false)], args := [d] }
  | _ => none }
def FnExactNeedsWrongFalsely : Prop := fnExactNeedsRow.holds Try.pinned (OpenSpec.ofChange fnExactNeedsWrong)

/-- 'laws.FnExactConnect': WHATEVER THE INPUT: true; the input reads as it did. -/
def fnExactConnectSpec : ChangeSpec := { name := "fnExactConnect", fn := fun _ => fun
  | [d1, d2, d3] => { results := [.lit (.bool true)], args := [d1, d2, d3] }
  | _ => none }
def fnExactConnectRow : OpenClaim := { program := "ytgmcijagaielaaa", sum := "80e9bf4a1a685b5918d1b160e5f513962b992268fbe42da252614c38fd7a43f6", func := "loop.example/g00052/laws.FnExactConnect", spec := "fnExactConnect", unfollowed := true, recurses := true, plainKeys := false, apart := false }
def FnExactConnectSaid : Prop := fnExactConnectRow.holds Try.pinned (OpenSpec.ofChange fnExactConnectSpec)

/-- ITS FALSE NEIGHBOUR: 'it returns false'. Refute it at one input. -/
def fnExactConnectWrong : ChangeSpec := { name := "fnExactConnect", fn := fun _ => fun
  | [d1, d2, d3] => { results := [.lit (.bool false)], args := [d1, d2, d3] }
  | _ => none }
def FnExactConnectWrongFalsely : Prop := fnExactConnectRow.holds Try.pinned (OpenSpec.ofChange fnExactConnectWrong)

/-- 'laws.FnConnected': WHATEVER THE INPUT: true; the input reads as it did. -/
def fnConnectedSpec : ChangeSpec := { name := "fnConnected", fn := fun _ => fun
  | [d] => { results := [.lit (.bool true)], args := [d] }
  | _ => none }
def fnConnectedRow : OpenClaim := { program := "ytgmcijagaielaaa", sum := "80e9bf4a1a685b5918d1b160e5f513962b992268fbe42da252614c38fd7a43f6", func := "loop.example/g00052/laws.FnConnected", spec := "fnConnected", unfollowed := true, recurses := true, plainKeys := false, apart := false }
def FnConnectedSaid : Prop := fnConnectedRow.holds Try.pinned (OpenSpec.ofChange fnConnectedSpec)

/-- ITS FALSE NEIGHBOUR: 'it returns false'. Refute it at one input. -/
def fnConnectedWrong : ChangeSpec := { name := "fnConnected", fn := fun _ => fun
  | [d] => { results := [.lit (.bool false)], args := [d] }
  | _ => none }
def FnConnectedWrongFalsely : Prop := fnConnectedRow.holds Try.pinned (OpenSpec.ofChange fnConnectedWrong)

/-- 'laws.FnNeeded3': WHATEVER THE INPUT: true; the input reads as it did. -/
def fnNeeded3Spec : ChangeSpec := { name := "fnNeeded3", fn := fun _ => fun
  | [d] => { results := [.lit (.bool true)], args := [d] }
  | _ => none }
def fnNeeded3Row : OpenClaim := { program := "ytgmcijagaielaaa", sum := "80e9bf4a1a685b5918d1b160e5f513962b992268fbe42da252614c38fd7a43f6", func := "loop.example/g00052/laws.FnNeeded3", spec := "fnNeeded3", unfollowed := true, recurses := true, plainKeys := false, apart := false }
def FnNeeded3Said : Prop := fnNeeded3Row.holds Try.pinned (OpenSpec.ofChange fnNeeded3Spec)

/-- ITS FALSE NEIGHBOUR: 'it returns false'. Refute it at one input. -/
def fnNeeded3Wrong : ChangeSpec := { name := "fnNeeded3", fn := fun _ => fun
  | [d] => { results := [.lit (.bool false)], args := [d] }
  | _ => none }
def FnNeeded3WrongFalsely : Prop := fnNeeded3Row.holds Try.pinned (OpenSpec.ofChange fnNeeded3Wrong)

/- THE SECOND FORM. 'bulk': how many values and letters a reading holds, each counted each time it is reached (what is shared counts as often as it is met; a slice's spare places count too). A statement '..UptoSaid' is the law's where the arguments, and the package variables that the reading takes, are together of bulk at most 1048576: NARROWER than '..Said'. Prove '..Said' where nothing that the law and all that it calls make is longer than what came in: it says more and counts as full. Else prove '..UptoSaid'. A law counts once. -/
mutual
def uptoBulk {H : Type} : DataW H → Nat
  | .lit (.string bytes) => bytes.length + 1
  | .lit _ => 1
  | .nil => 1
  | .ptr d => uptoBulk d + 1
  | .slice elems spare => uptoBulkAll elems + uptoBulkAll spare + 1
  | .agg parts => uptoBulkAll parts + 1
  | .iface _ d => uptoBulk d + 1
  | .map entries => uptoBulkEntries entries + 1
  | .held _ => 1
def uptoBulkAll {H : Type} : List (DataW H) → Nat
  | [] => 0
  | d :: r => uptoBulk d + uptoBulkAll r
def uptoBulkEntries {H : Type} : List (Lit × DataW H) → Nat
  | [] => 0
  | x :: r => uptoBulkEntry x + uptoBulkEntries r
def uptoBulkEntry {H : Type} : Lit × DataW H → Nat
  | (.string bytes, d) => bytes.length + uptoBulk d + 1
  | (_, d) => uptoBulk d + 1
 end
def uptoSmall : (H : Type) → List (DataW H) → Bool := fun _ ds => decide (uptoBulkAll ds ≤ 1048576)
def OpenSpec.upto (s : _root_.Go.ChangeSpec) : _root_.Go.OpenSpec := { _root_.Go.OpenSpec.ofChange s with cond := some uptoSmall }

/-- 'laws.FnExactFabricOk', WHERE WHAT IT READS IS OF BULK AT MOST 1048576: true; the input reads as it did. -/
def fnExactFabricOkUptoRow : OpenClaim := { program := "ytgmcijagaielaaa", sum := "80e9bf4a1a685b5918d1b160e5f513962b992268fbe42da252614c38fd7a43f6", func := "loop.example/g00052/laws.FnExactFabricOk", spec := "fnExactFabricOk", plainKeys := false, apart := false, narrowed := true }
def FnExactFabricOkUptoSaid : Prop := fnExactFabricOkUptoRow.holds Try.pinned (OpenSpec.upto fnExactFabricOkSpec)

/-- 'laws.FnExactRelease', WHERE WHAT IT READS IS OF BULK AT MOST 1048576: true; the input reads as it did. -/
def fnExactReleaseUptoRow : OpenClaim := { program := "ytgmcijagaielaaa", sum := "80e9bf4a1a685b5918d1b160e5f513962b992268fbe42da252614c38fd7a43f6", func := "loop.example/g00052/laws.FnExactRelease", spec := "fnExactRelease", unfollowed := true, recurses := true, plainKeys := false, apart := false, narrowed := true }
def FnExactReleaseUptoSaid : Prop := fnExactReleaseUptoRow.holds Try.pinned (OpenSpec.upto fnExactReleaseSpec)

/-- 'laws.FnExactNeeds', WHERE WHAT IT READS IS OF BULK AT MOST 1048576: true; the input reads as it did. -/
def fnExactNeedsUptoRow : OpenClaim := { program := "ytgmcijagaielaaa", sum := "80e9bf4a1a685b5918d1b160e5f513962b992268fbe42da252614c38fd7a43f6", func := "loop.example/g00052/laws.FnExactNeeds", spec := "fnExactNeeds", unfollowed := true, recurses := true, plainKeys := false, apart := false, narrowed := true }
def FnExactNeedsUptoSaid : Prop := fnExactNeedsUptoRow.holds Try.pinned (OpenSpec.upto fnExactNeedsSpec)

/-- 'laws.FnExactConnect', WHERE WHAT IT READS IS OF BULK AT MOST 1048576: true; the input reads as it did. -/
def fnExactConnectUptoRow : OpenClaim := { program := "ytgmcijagaielaaa", sum := "80e9bf4a1a685b5918d1b160e5f513962b992268fbe42da252614c38fd7a43f6", func := "loop.example/g00052/laws.FnExactConnect", spec := "fnExactConnect", unfollowed := true, recurses := true, plainKeys := false, apart := false, narrowed := true }
def FnExactConnectUptoSaid : Prop := fnExactConnectUptoRow.holds Try.pinned (OpenSpec.upto fnExactConnectSpec)

/-- 'laws.FnConnected', WHERE WHAT IT READS IS OF BULK AT MOST 1048576: true; the input reads as it did. -/
def fnConnectedUptoRow : OpenClaim := { program := "ytgmcijagaielaaa", sum := "80e9bf4a1a685b5918d1b160e5f513962b992268fbe42da252614c38fd7a43f6", func := "loop.example/g00052/laws.FnConnected", spec := "fnConnected", unfollowed := true, recurses := true, plainKeys := false, apart := false, narrowed := true }
def FnConnectedUptoSaid : Prop := fnConnectedUptoRow.holds Try.pinned (OpenSpec.upto fnConnectedSpec)

/-- 'laws.FnNeeded3', WHERE WHAT IT READS IS OF BULK AT MOST 1048576: true; the input reads as it did. -/
def fnNeeded3UptoRow : OpenClaim := { program := "ytgmcijagaielaaa", sum := "80e9bf4a1a685b5918d1b160e5f513962b992268fbe42da252614c38fd7a43f6", func := "loop.example/g00052/laws.FnNeeded3", spec := "fnNeeded3", unfollowed := true, recurses := true, plainKeys := false, apart := false, narrowed := true }
def FnNeeded3UptoSaid : Prop := fnNeeded3UptoRow.holds Try.pinned (OpenSpec.upto fnNeeded3Spec)

end Rows
end Go.Proofs.Ytgmcijagaielaaa
