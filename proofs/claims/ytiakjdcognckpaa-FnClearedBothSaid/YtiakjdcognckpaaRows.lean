/-
  No cell of these rows narrows 'for every input' (looked for: loops, veiled, ifaces, maps, wideKeys, modest, calm, conditions, laid).
  DERIVED. THE GIVEN ROWS OF THIS SEAT. 6 by the template 'for every input the law returns true; each argument reads behind the call as it read before'; 0 by the template 'total and deterministic' (their statements: YtiakjdcognckpaaTotals.lean).
  GIVEN WITH THE SEED: the statements are not yours to turn. If you find one false, say at which input.
  Laid BY PROGRAM, IN A SANDBOX (cutbox-rows.mjs): the forced cells as the released guide's own fill.sh prints them over the translation c88bc69e4c6a186e… (all of the seat's roots in one cut). By AI agents, Wed Nov 11 2026. No macro, syntax, notation, axiom, sorry.
-/
import Derived.Test.YtiakjdcognckpaaChecked
import GoSem.Claim
import GoSem.ClaimJoined
import GoSem.ClaimMapViews
import Derived.JoinedTies
import Derived.KernelRfl
namespace Go.Proofs.Ytiakjdcognckpaa
/- THE CELL 'sum', in the pinned program and in every row, IS THE sha256 OF THE DUMP (.gsa) THAT YtiakjdcognckpaaProg.lean LOADS. Nothing in Lean hashes anything: it is a label: what it is worth is what the hold of that sum in a sandbox is worth. -/
noncomputable def Try.pinned : Pinned := { name := "ytiakjdcognckpaa", sum := "c88bc69e4c6a186e0cee887e0d63a889734a92c9fa7814980874e7b700570645", checked := Try.checked }
namespace Rows
def none {H : Type} : Left H := { results := [], args := [] }

/-- 'laws.FnExactSubsOk': WHATEVER THE INPUT: true; the input reads as it did. -/
def fnExactSubsOkSpec : ChangeSpec := { name := "fnExactSubsOk", fn := fun _ => fun
  | [d] => { results := [.lit (.bool true)], args := [d] }
  | _ => none }
def fnExactSubsOkRow : OpenClaim := { program := "ytiakjdcognckpaa", sum := "c88bc69e4c6a186e0cee887e0d63a889734a92c9fa7814980874e7b700570645", func := "loop.example/g00052/laws.FnExactSubsOk", spec := "fnExactSubsOk", plainKeys := false, apart := false }
def FnExactSubsOkSaid : Prop := fnExactSubsOkRow.holds Try.pinned (OpenSpec.ofChange fnExactSubsOkSpec)

/-- ITS FALSE NEIGHBOUR: 'it returns false'. Refute it at one input. -/
def fnExactSubsOkWrong : ChangeSpec := { name := "fnExactSubsOk", fn := fun _ => fun
  | [d] => { results := [.lit (.bool false)], args := [d] }
  | _ => none }
def FnExactSubsOkWrongFalsely : Prop := fnExactSubsOkRow.holds Try.pinned (OpenSpec.ofChange fnExactSubsOkWrong)

/-- 'laws.FnExactSettle': WHATEVER THE INPUT: true; the input reads as it did. -/
def fnExactSettleSpec : ChangeSpec := { name := "fnExactSettle", fn := fun _ => fun
  | [d1, d2] => { results := [.lit (.bool true)], args := [d1, d2] }
  | _ => none }
def fnExactSettleRow : OpenClaim := { program := "ytiakjdcognckpaa", sum := "c88bc69e4c6a186e0cee887e0d63a889734a92c9fa7814980874e7b700570645", func := "loop.example/g00052/laws.FnExactSettle", spec := "fnExactSettle", unfollowed := true, recurses := true, plainKeys := false, apart := false }
def FnExactSettleSaid : Prop := fnExactSettleRow.holds Try.pinned (OpenSpec.ofChange fnExactSettleSpec)

/-- ITS FALSE NEIGHBOUR: 'it returns false'. Refute it at one input. -/
def fnExactSettleWrong : ChangeSpec := { name := "fnExactSettle", fn := fun _ => fun
  | [d1, d2] => { results := [.lit (.bool false)], args := [d1, d2] }
  | _ => none }
def FnExactSettleWrongFalsely : Prop := fnExactSettleRow.holds Try.pinned (OpenSpec.ofChange fnExactSettleWrong)

/-- 'laws.FnExactDoEvent': WHATEVER THE INPUT: true; the input reads as it did. -/
def fnExactDoEventSpec : ChangeSpec := { name := "fnExactDoEvent", fn := fun _ => fun
  | [d1, d2] => { results := [.lit (.bool true)], args := [d1, d2] }
  | _ => none }
def fnExactDoEventRow : OpenClaim := { program := "ytiakjdcognckpaa", sum := "c88bc69e4c6a186e0cee887e0d63a889734a92c9fa7814980874e7b700570645", func := "loop.example/g00052/laws.FnExactDoEvent", spec := "fnExactDoEvent", plainKeys := false, apart := false }
def FnExactDoEventSaid : Prop := fnExactDoEventRow.holds Try.pinned (OpenSpec.ofChange fnExactDoEventSpec)

/-- ITS FALSE NEIGHBOUR: 'it returns false'. Refute it at one input. -/
def fnExactDoEventWrong : ChangeSpec := { name := "fnExactDoEvent", fn := fun _ => fun
  | [d1, d2] => { results := [.lit (.bool false)], args := [d1, d2] }
  | _ => none }
def FnExactDoEventWrongFalsely : Prop := fnExactDoEventRow.holds Try.pinned (OpenSpec.ofChange fnExactDoEventWrong)

/-- 'laws.FnExactRunDuo': WHATEVER THE INPUT: true; the input reads as it did. -/
def fnExactRunDuoSpec : ChangeSpec := { name := "fnExactRunDuo", fn := fun _ => fun
  | [d1, d2] => { results := [.lit (.bool true)], args := [d1, d2] }
  | _ => none }
def fnExactRunDuoRow : OpenClaim := { program := "ytiakjdcognckpaa", sum := "c88bc69e4c6a186e0cee887e0d63a889734a92c9fa7814980874e7b700570645", func := "loop.example/g00052/laws.FnExactRunDuo", spec := "fnExactRunDuo", plainKeys := false, apart := false }
def FnExactRunDuoSaid : Prop := fnExactRunDuoRow.holds Try.pinned (OpenSpec.ofChange fnExactRunDuoSpec)

/-- ITS FALSE NEIGHBOUR: 'it returns false'. Refute it at one input. -/
def fnExactRunDuoWrong : ChangeSpec := { name := "fnExactRunDuo", fn := fun _ => fun
  | [d1, d2] => { results := [.lit (.bool false)], args := [d1, d2] }
  | _ => none }
def FnExactRunDuoWrongFalsely : Prop := fnExactRunDuoRow.holds Try.pinned (OpenSpec.ofChange fnExactRunDuoWrong)

/-- 'laws.FnAgreed': WHATEVER THE INPUT: true; the input reads as it did. -/
def fnAgreedSpec : ChangeSpec := { name := "fnAgreed", fn := fun _ => fun
  | [d] => { results := [.lit (.bool true)], args := [d] }
  | _ => none }
def fnAgreedRow : OpenClaim := { program := "ytiakjdcognckpaa", sum := "c88bc69e4c6a186e0cee887e0d63a889734a92c9fa7814980874e7b700570645", func := "loop.example/g00052/laws.FnAgreed", spec := "fnAgreed", unfollowed := true, recurses := true, plainKeys := false, apart := false }
def FnAgreedSaid : Prop := fnAgreedRow.holds Try.pinned (OpenSpec.ofChange fnAgreedSpec)

/-- ITS FALSE NEIGHBOUR: 'it returns false'. Refute it at one input. -/
def fnAgreedWrong : ChangeSpec := { name := "fnAgreed", fn := fun _ => fun
  | [d] => { results := [.lit (.bool false)], args := [d] }
  | _ => none }
def FnAgreedWrongFalsely : Prop := fnAgreedRow.holds Try.pinned (OpenSpec.ofChange fnAgreedWrong)

/-- 'laws.FnClearedBoth': WHATEVER THE INPUT: true; the input reads as it did. -/
def fnClearedBothSpec : ChangeSpec := { name := "fnClearedBoth", fn := fun _ => fun
  | [d] => { results := [.lit (.bool true)], args := [d] }
  | _ => none }
def fnClearedBothRow : OpenClaim := { program := "ytiakjdcognckpaa", sum := "c88bc69e4c6a186e0cee887e0d63a889734a92c9fa7814980874e7b700570645", func := "loop.example/g00052/laws.FnClearedBoth", spec := "fnClearedBoth", unfollowed := true, recurses := true, plainKeys := false, apart := false }
def FnClearedBothSaid : Prop := fnClearedBothRow.holds Try.pinned (OpenSpec.ofChange fnClearedBothSpec)

/-- ITS FALSE NEIGHBOUR: 'it returns false'. Refute it at one input. -/
def fnClearedBothWrong : ChangeSpec := { name := "fnClearedBoth", fn := fun _ => fun
  | [d] => { results := [.lit (.bool false)], args := [d] }
  | _ => none }
def FnClearedBothWrongFalsely : Prop := fnClearedBothRow.holds Try.pinned (OpenSpec.ofChange fnClearedBothWrong)

/- THE SECOND FORM. 'bulk': how many values and letters a reading holds, each counted each time it is reached (what is shared counts as often as it is met; a slice's spare places count too). A statement '..UptoSaid' is the law's where the arguments, and the package variables that the reading takes, are together of bulk at most 1048576: NARROWER than '..Said'. Prove '..Said' where nothing that the law and all that it calls make is longer than what came in: it says more and counts as full. Else prove '..UptoSaid'. A law counts once. -/
mutual
def uptoBulk {H : Type} : DataW H → Nat
  | .lit (.string bytes) => bytes.length + 1
  | .lit _ => 1
  | .nil => 1
  | .ptr d => uptoBulk d + 1
  | .slice elems spare => uptoBulkAll elems + uptoBulkAll spare + 1
  | .agg parts => uptoBulkAll parts + 1
  | .iface _ d => uptoBulk d + 1
  | .map entries => uptoBulkEntries entries + 1
  | .held _ => 1
def uptoBulkAll {H : Type} : List (DataW H) → Nat
  | [] => 0
  | d :: r => uptoBulk d + uptoBulkAll r
def uptoBulkEntries {H : Type} : List (Lit × DataW H) → Nat
  | [] => 0
  | x :: r => uptoBulkEntry x + uptoBulkEntries r
def uptoBulkEntry {H : Type} : Lit × DataW H → Nat
  | (.string bytes, d) => bytes.length + uptoBulk d + 1
  | (_, d) => uptoBulk d + 1
 end
def uptoSmall : (H : Type) → List (DataW H) → Bool := fun _ ds => decide (uptoBulkAll ds ≤ 1048576)
def OpenSpec.upto (s : _root_.Go.ChangeSpec) : _root_.Go.OpenSpec := { _root_.Go.OpenSpec.ofChange s with cond := some uptoSmall }

/-- 'laws.FnExactSubsOk', WHERE WHAT IT READS IS OF BULK AT MOST 1048576: true; the input reads as it did. -/
def fnExactSubsOkUptoRow : OpenClaim := { program := "ytiakjdcognckpaa", sum := "c88bc69e4c6a186e0cee887e0d63a889734a92c9fa7814980874e7b700570645", func := "loop.example/g00052/laws.FnExactSubsOk", spec := "fnExactSubsOk", plainKeys := false, apart := false, narrowed := true }
def FnExactSubsOkUptoSaid : Prop := fnExactSubsOkUptoRow.holds Try.pinned (OpenSpec.upto fnExactSubsOkSpec)

/-- 'laws.FnExactSettle', WHERE WHAT IT READS IS OF BULK AT MOST 1048576: true; the input reads as it did. -/
def fnExactSettleUptoRow : OpenClaim := { program := "ytiakjdcognckpaa", sum := "c88bc69e4c6a186e0cee887e0d63a889734a92c9fa7814980874e7b700570645", func := "loop.example/g00052/laws.FnExactSettle", spec := "fnExactSettle", unfollowed := true, recurses := true, plainKeys := false, apart := false, narrowed := true }
def FnExactSettleUptoSaid : Prop := fnExactSettleUptoRow.holds Try.pinned (OpenSpec.upto fnExactSettleSpec)

/-- 'laws.FnExactDoEvent', WHERE WHAT IT READS IS OF BULK AT MOST 1048576: true; the input reads as it did. -/
def fnExactDoEventUptoRow : OpenClaim := { program := "ytiakjdcognckpaa", sum := "c88bc69e4c6a186e0cee887e0d63a889734a92c9fa7814980874e7b700570645", func := "loop.example/g00052/laws.FnExactDoEvent", spec := "fnExactDoEvent", plainKeys := false, apart := false, narrowed := true }
def FnExactDoEventUptoSaid : Prop := fnExactDoEventUptoRow.holds Try.pinned (OpenSpec.upto fnExactDoEventSpec)

/-- 'laws.FnExactRunDuo', WHERE WHAT IT READS IS OF BULK AT MOST 1048576: true; the input reads as it did. -/
def fnExactRunDuoUptoRow : OpenClaim := { program := "ytiakjdcognckpaa", sum := "c88bc69e4c6a186e0cee887e0d63a889734a92c9fa7814980874e7b700570645", func := "loop.example/g00052/laws.FnExactRunDuo", spec := "fnExactRunDuo", plainKeys := false, apart := false, narrowed := true }
def FnExactRunDuoUptoSaid : Prop := fnExactRunDuoUptoRow.holds Try.pinned (OpenSpec.upto fnExactRunDuoSpec)

/-- 'laws.FnAgreed', WHERE WHAT IT READS IS OF BULK AT MOST 1048576: true; the input reads as it did. -/
def fnAgreedUptoRow : OpenClaim := { program := "ytiakjdcognckpaa", sum := "c88bc69e4c6a186e0cee887e0d63a889734a92c9fa7814980874e7b700570645", func := "loop.example/g00052/laws.FnAgreed", spec := "fnAgreed", unfollowed := true, recurses := true, plainKeys := false, apart := false, narrowed := true }
def FnAgreedUptoSaid : Prop := fnAgreedUptoRow.holds Try.pinned (OpenSpec.upto fnAgreedSpec)

/-- 'laws.FnClearedBoth', WHERE WHAT IT READS IS OF BULK AT MOST 1048576: true; the input reads as it did. -/
def fnClearedBothUptoRow : OpenClaim := { program := "ytiakjdcognckpaa", sum := "c88bc69e4c6a186e0cee887e0d63a889734a92c9fa7814980874e7b700570645", func := "loop.example/g00052/laws.FnClearedBoth", spec := "fnClearedBoth", unfollowed := true, recurses := true, plainKeys := false, apart := false, narrowed := true }
def FnClearedBothUptoSaid : Prop := fnClearedBothUptoRow.holds Try.pinned (OpenSpec.upto fnClearedBothSpec)

end Rows
end Go.Proofs.Ytiakjdcognckpaa
