/-
  NARROWER THAN 'FOR EVERY INPUT', by the rows' own cells (each row's printed sentence says how): FnExactRulesOk: laid · FnExactPort: laid · FnPorted: laid · FnExactDial: laid · FnDialled: laid · FnTimers: laid · FnExactOverlap: laid.
  DERIVED. THE GIVEN ROWS OF THIS SEAT. 7 by the template 'for every input the law returns true; each argument reads behind the call as it read before'; 0 by the template 'total and deterministic' (their statements: YthghcialeghgoaaDoorTotals.lean).
  GIVEN WITH THE SEED: the statements are not yours to turn. If you find one false, say at which input.
  Laid BY PROGRAM, IN A SANDBOX (cutbox-rows.mjs): the forced cells as the released guide's own fill.sh prints them over the translation 509153da23b15d38… (all of the seat's roots in one cut). By AI agents, Wed Nov 11 2026. No macro, syntax, notation, axiom, sorry.
-/
import Derived.Test.YthghcialeghgoaaDoorChecked
import GoSem.PinnedTables
import GoSem.Claim
import GoSem.ClaimJoined
import GoSem.ClaimMapViews
import Derived.JoinedTies
import Derived.KernelRfl
namespace Go.Proofs.YthghcialeghgoaaDoor
/- THE CELL 'sum', in the pinned program and in every row, IS THE sha256 OF THE DUMP (.gsa) THAT YthghcialeghgoaaDoorProg.lean LOADS. Nothing in Lean hashes anything: it is a label: what it is worth is what the hold of that sum in a sandbox is worth. -/
noncomputable def Tryd.pinned : Pinned := { name := "ythghcialeghgoaadoor", sum := "509153da23b15d3825d0705b1f806cb7182d689369d1310e55777ca749571fab", checked := Tryd.checked }
namespace Rows
def none {H : Type} : Left H := { results := [], args := [] }

/- WHAT THE LISTED PACKAGE-LEVEL VARIABLES READ AS WHEN THE CALL BEGINS. Each datum BY PROGRAM (the guide's laid-datum.mjs) off the statement by which the dump's own 'gosem.cut.vars' lays the variable. In a bare row this is a premise. The card (YthghcialeghgoaaDoorCards.lean) ties it to the program's text. -/
def laid_unicode_utf8_acceptRanges {H : Type} : DataW H := .agg [.agg [.lit (.int .u8 128), .lit (.int .u8 191)], .agg [.lit (.int .u8 160), .lit (.int .u8 191)], .agg [.lit (.int .u8 128), .lit (.int .u8 159)], .agg [.lit (.int .u8 144), .lit (.int .u8 191)], .agg [.lit (.int .u8 128), .lit (.int .u8 143)], .agg [.lit (.int .u8 0), .lit (.int .u8 0)], .agg [.lit (.int .u8 0), .lit (.int .u8 0)], .agg [.lit (.int .u8 0), .lit (.int .u8 0)], .agg [.lit (.int .u8 0), .lit (.int .u8 0)], .agg [.lit (.int .u8 0), .lit (.int .u8 0)], .agg [.lit (.int .u8 0), .lit (.int .u8 0)], .agg [.lit (.int .u8 0), .lit (.int .u8 0)], .agg [.lit (.int .u8 0), .lit (.int .u8 0)], .agg [.lit (.int .u8 0), .lit (.int .u8 0)], .agg [.lit (.int .u8 0), .lit (.int .u8 0)], .agg [.lit (.int .u8 0), .lit (.int .u8 0)]]
/-- One of Go's own tables, pinned by name: the form's constant. -/
def laid_unicode_utf8_first : DataW Unit := Go.Pinned.utf8First

/-- 'laws.FnExactRulesOk': WHATEVER THE INPUT: true; the input reads as it did. -/
def fnExactRulesOkSpec : ChangeSpec := { name := "fnExactRulesOk", fn := fun _ => fun
  | [d] => { results := [.lit (.bool true)], args := [d] }
  | _ => none }
def fnExactRulesOkRow : OpenClaim := { program := "ythghcialeghgoaadoor", sum := "509153da23b15d3825d0705b1f806cb7182d689369d1310e55777ca749571fab", func := "loop.example/g00052/laws.FnExactRulesOk", spec := "fnExactRulesOk", inPlace := ["internal/bytealg.IndexByteString", "internal/bytealg.IndexString"], named := ["unicode/utf8.first", "unicode/utf8.acceptRanges", "internal/bytealg.MaxLen"], apart := false, laid := [("unicode/utf8.acceptRanges", laid_unicode_utf8_acceptRanges), ("unicode/utf8.first", laid_unicode_utf8_first)] }
def FnExactRulesOkSaid : Prop := fnExactRulesOkRow.holds Tryd.pinned (OpenSpec.ofChange fnExactRulesOkSpec)

/-- ITS FALSE NEIGHBOUR: 'it returns false'. Refute it at one input. -/
def fnExactRulesOkWrong : ChangeSpec := { name := "fnExactRulesOk", fn := fun _ => fun
  | [d] => { results := [.lit (.bool false)], args := [d] }
  | _ => none }
def FnExactRulesOkWrongFalsely : Prop := fnExactRulesOkRow.holds Tryd.pinned (OpenSpec.ofChange fnExactRulesOkWrong)

/-- 'laws.FnExactPort': WHATEVER THE INPUT: true; the input reads as it did. -/
def fnExactPortSpec : ChangeSpec := { name := "fnExactPort", fn := fun _ => fun
  | [d1, d2] => { results := [.lit (.bool true)], args := [d1, d2] }
  | _ => none }
def fnExactPortRow : OpenClaim := { program := "ythghcialeghgoaadoor", sum := "509153da23b15d3825d0705b1f806cb7182d689369d1310e55777ca749571fab", func := "loop.example/g00052/laws.FnExactPort", spec := "fnExactPort", inPlace := ["internal/bytealg.IndexByteString", "internal/bytealg.IndexString"], named := ["unicode/utf8.first", "unicode/utf8.acceptRanges", "internal/bytealg.MaxLen"], apart := false, laid := [("unicode/utf8.acceptRanges", laid_unicode_utf8_acceptRanges), ("unicode/utf8.first", laid_unicode_utf8_first)] }
def FnExactPortSaid : Prop := fnExactPortRow.holds Tryd.pinned (OpenSpec.ofChange fnExactPortSpec)

/-- ITS FALSE NEIGHBOUR: 'it returns false'. Refute it at one input. -/
def fnExactPortWrong : ChangeSpec := { name := "fnExactPort", fn := fun _ => fun
  | [d1, d2] => { results := [.lit (.bool false)], args := [d1, d2] }
  | _ => none }
def FnExactPortWrongFalsely : Prop := fnExactPortRow.holds Tryd.pinned (OpenSpec.ofChange fnExactPortWrong)

/-- 'laws.FnPorted': WHATEVER THE INPUT: true; the input reads as it did. -/
def fnPortedSpec : ChangeSpec := { name := "fnPorted", fn := fun _ => fun
  | [d] => { results := [.lit (.bool true)], args := [d] }
  | _ => none }
def fnPortedRow : OpenClaim := { program := "ythghcialeghgoaadoor", sum := "509153da23b15d3825d0705b1f806cb7182d689369d1310e55777ca749571fab", func := "loop.example/g00052/laws.FnPorted", spec := "fnPorted", inPlace := ["internal/bytealg.IndexByteString", "internal/bytealg.IndexString"], named := ["unicode/utf8.first", "unicode/utf8.acceptRanges", "internal/bytealg.MaxLen"], apart := false, laid := [("unicode/utf8.acceptRanges", laid_unicode_utf8_acceptRanges), ("unicode/utf8.first", laid_unicode_utf8_first)] }
def FnPortedSaid : Prop := fnPortedRow.holds Tryd.pinned (OpenSpec.ofChange fnPortedSpec)

/-- ITS FALSE NEIGHBOUR: 'it returns false'. Refute it at one input. -/
def fnPortedWrong : ChangeSpec := { name := "fnPorted", fn := fun _ => fun
  | [d] => { results := [.lit (.bool false)], args := [d] }
  | _ => none }
def FnPortedWrongFalsely : Prop := fnPortedRow.holds Tryd.pinned (OpenSpec.ofChange fnPortedWrong)

/-- 'laws.FnExactDial': WHATEVER THE INPUT: true; the input reads as it did. -/
def fnExactDialSpec : ChangeSpec := { name := "fnExactDial", fn := fun _ => fun
  | [d1, d2] => { results := [.lit (.bool true)], args := [d1, d2] }
  | _ => none }
def fnExactDialRow : OpenClaim := { program := "ythghcialeghgoaadoor", sum := "509153da23b15d3825d0705b1f806cb7182d689369d1310e55777ca749571fab", func := "loop.example/g00052/laws.FnExactDial", spec := "fnExactDial", inPlace := ["internal/bytealg.IndexByteString", "internal/bytealg.IndexString"], unfollowed := true, recurses := true, named := ["unicode/utf8.first", "unicode/utf8.acceptRanges", "internal/bytealg.MaxLen"], apart := false, laid := [("unicode/utf8.acceptRanges", laid_unicode_utf8_acceptRanges), ("unicode/utf8.first", laid_unicode_utf8_first)] }
def FnExactDialSaid : Prop := fnExactDialRow.holds Tryd.pinned (OpenSpec.ofChange fnExactDialSpec)

/-- ITS FALSE NEIGHBOUR: 'it returns false'. Refute it at one input. -/
def fnExactDialWrong : ChangeSpec := { name := "fnExactDial", fn := fun _ => fun
  | [d1, d2] => { results := [.lit (.bool false)], args := [d1, d2] }
  | _ => none }
def FnExactDialWrongFalsely : Prop := fnExactDialRow.holds Tryd.pinned (OpenSpec.ofChange fnExactDialWrong)

/-- 'laws.FnDialled': WHATEVER THE INPUT: true; the input reads as it did. -/
def fnDialledSpec : ChangeSpec := { name := "fnDialled", fn := fun _ => fun
  | [d] => { results := [.lit (.bool true)], args := [d] }
  | _ => none }
def fnDialledRow : OpenClaim := { program := "ythghcialeghgoaadoor", sum := "509153da23b15d3825d0705b1f806cb7182d689369d1310e55777ca749571fab", func := "loop.example/g00052/laws.FnDialled", spec := "fnDialled", inPlace := ["internal/bytealg.IndexByteString", "internal/bytealg.IndexString"], unfollowed := true, recurses := true, named := ["unicode/utf8.first", "unicode/utf8.acceptRanges", "internal/bytealg.MaxLen"], apart := false, laid := [("unicode/utf8.acceptRanges", laid_unicode_utf8_acceptRanges), ("unicode/utf8.first", laid_unicode_utf8_first)] }
def FnDialledSaid : Prop := fnDialledRow.holds Tryd.pinned (OpenSpec.ofChange fnDialledSpec)

/-- ITS FALSE NEIGHBOUR: 'it returns false'. Refute it at one input. -/
def fnDialledWrong : ChangeSpec := { name := "fnDialled", fn := fun _ => fun
  | [d] => { results := [.lit (.bool false)], args := [d] }
  | _ => none }
def FnDialledWrongFalsely : Prop := fnDialledRow.holds Tryd.pinned (OpenSpec.ofChange fnDialledWrong)

/-- 'laws.FnTimers': WHATEVER THE INPUT: true; the input reads as it did. -/
def fnTimersSpec : ChangeSpec := { name := "fnTimers", fn := fun _ => fun
  | [d] => { results := [.lit (.bool true)], args := [d] }
  | _ => none }
def fnTimersRow : OpenClaim := { program := "ythghcialeghgoaadoor", sum := "509153da23b15d3825d0705b1f806cb7182d689369d1310e55777ca749571fab", func := "loop.example/g00052/laws.FnTimers", spec := "fnTimers", inPlace := ["internal/bytealg.IndexByteString", "internal/bytealg.IndexString"], unfollowed := true, recurses := true, named := ["unicode/utf8.first", "unicode/utf8.acceptRanges", "internal/bytealg.MaxLen"], apart := false, laid := [("unicode/utf8.acceptRanges", laid_unicode_utf8_acceptRanges), ("unicode/utf8.first", laid_unicode_utf8_first)] }
def FnTimersSaid : Prop := fnTimersRow.holds Tryd.pinned (OpenSpec.ofChange fnTimersSpec)

/-- ITS FALSE NEIGHBOUR: 'it returns false'. Refute it at one input. -/
def fnTimersWrong : ChangeSpec := { name := "fnTimers", fn := fun _ => fun
  | [d] => { results := [.lit (.bool false)], args := [d] }
  | _ => none }
def FnTimersWrongFalsely : Prop := fnTimersRow.holds Tryd.pinned (OpenSpec.ofChange fnTimersWrong)

/-- 'laws.FnExactOverlap': WHATEVER THE INPUT: true; the input reads as it did. -/
def fnExactOverlapSpec : ChangeSpec := { name := "fnExactOverlap", fn := fun _ => fun
  | [d1, d2, d3] => { results := [.lit (.bool true)], args := [d1, d2, d3] }
  | _ => none }
def fnExactOverlapRow : OpenClaim := { program := "ythghcialeghgoaadoor", sum := "509153da23b15d3825d0705b1f806cb7182d689369d1310e55777ca749571fab", func := "loop.example/g00052/laws.FnExactOverlap", spec := "fnExactOverlap", inPlace := ["internal/bytealg.IndexByteString", "internal/bytealg.IndexString"], unfollowed := true, recurses := true, named := ["unicode/utf8.first", "unicode/utf8.acceptRanges", "internal/bytealg.MaxLen"], apart := false, laid := [("unicode/utf8.acceptRanges", laid_unicode_utf8_acceptRanges), ("unicode/utf8.first", laid_unicode_utf8_first)] }
def FnExactOverlapSaid : Prop := fnExactOverlapRow.holds Tryd.pinned (OpenSpec.ofChange fnExactOverlapSpec)

/-- ITS FALSE NEIGHBOUR: 'it returns false'. Refute it at one input. -/
def fnExactOverlapWrong : ChangeSpec := { name := "fnExactOverlap", fn := fun _ => fun
  | [d1, d2, d3] => { results := [.lit (.bool false)], args := [d1, d2, d3] }
  | _ => none }
def FnExactOverlapWrongFalsely : Prop := fnExactOverlapRow.holds Tryd.pinned (OpenSpec.ofChange fnExactOverlapWrong)

/- THE SECOND FORM. 'bulk': how many values and letters a reading holds, each counted each time it is reached (what is shared counts as often as it is met; a slice's spare places count too). A statement '..UptoSaid' is the law's where the arguments, and the package variables that the reading takes, are together of bulk at most 1048576: NARROWER than '..Said'. Prove '..Said' where nothing that the law and all that it calls make is longer than what came in: it says more and counts as full. Else prove '..UptoSaid'. A law counts once. -/
mutual
def uptoBulk {H : Type} : DataW H → Nat
  | .lit (.string bytes) => bytes.length + 1
  | .lit _ => 1
  | .nil => 1
  | .ptr d => uptoBulk d + 1
  | .slice elems spare => uptoBulkAll elems + uptoBulkAll spare + 1
  | .agg parts => uptoBulkAll parts + 1
  | .iface _ d => uptoBulk d + 1
  | .map entries => uptoBulkEntries entries + 1
  | .held _ => 1
def uptoBulkAll {H : Type} : List (DataW H) → Nat
  | [] => 0
  | d :: r => uptoBulk d + uptoBulkAll r
def uptoBulkEntries {H : Type} : List (Lit × DataW H) → Nat
  | [] => 0
  | x :: r => uptoBulkEntry x + uptoBulkEntries r
def uptoBulkEntry {H : Type} : Lit × DataW H → Nat
  | (.string bytes, d) => bytes.length + uptoBulk d + 1
  | (_, d) => uptoBulk d + 1
 end
def uptoSmall : (H : Type) → List (DataW H) → Bool := fun _ ds => decide (uptoBulkAll ds ≤ 1048576)
def OpenSpec.upto (s : _root_.Go.ChangeSpec) : _root_.Go.OpenSpec := { _root_.Go.OpenSpec.ofChange s with cond := some uptoSmall }

/-- 'laws.FnExactRulesOk', WHERE WHAT IT READS IS OF BULK AT MOST 1048576: true; the input reads as it did. -/
def fnExactRulesOkUptoRow : OpenClaim := { program := "ythghcialeghgoaadoor", sum := "509153da23b15d3825d0705b1f806cb7182d689369d1310e55777ca749571fab", func := "loop.example/g00052/laws.FnExactRulesOk", spec := "fnExactRulesOk", inPlace := ["internal/bytealg.IndexByteString", "internal/bytealg.IndexString"], named := ["unicode/utf8.first", "unicode/utf8.acceptRanges", "internal/bytealg.MaxLen"], apart := false, laid := [("unicode/utf8.acceptRanges", laid_unicode_utf8_acceptRanges), ("unicode/utf8.first", laid_unicode_utf8_first)], narrowed := true }
def FnExactRulesOkUptoSaid : Prop := fnExactRulesOkUptoRow.holds Tryd.pinned (OpenSpec.upto fnExactRulesOkSpec)

/-- 'laws.FnExactPort', WHERE WHAT IT READS IS OF BULK AT MOST 1048576: true; the input reads as it did. -/
def fnExactPortUptoRow : OpenClaim := { program := "ythghcialeghgoaadoor", sum := "509153da23b15d3825d0705b1f806cb7182d689369d1310e55777ca749571fab", func := "loop.example/g00052/laws.FnExactPort", spec := "fnExactPort", inPlace := ["internal/bytealg.IndexByteString", "internal/bytealg.IndexString"], named := ["unicode/utf8.first", "unicode/utf8.acceptRanges", "internal/bytealg.MaxLen"], apart := false, laid := [("unicode/utf8.acceptRanges", laid_unicode_utf8_acceptRanges), ("unicode/utf8.first", laid_unicode_utf8_first)], narrowed := true }
def FnExactPortUptoSaid : Prop := fnExactPortUptoRow.holds Tryd.pinned (OpenSpec.upto fnExactPortSpec)

/-- 'laws.FnPorted', WHERE WHAT IT READS IS OF BULK AT MOST 1048576: true; the input reads as it did. -/
def fnPortedUptoRow : OpenClaim := { program := "ythghcialeghgoaadoor", sum := "509153da23b15d3825d0705b1f806cb7182d689369d1310e55777ca749571fab", func := "loop.example/g00052/laws.FnPorted", spec := "fnPorted", inPlace := ["internal/bytealg.IndexByteString", "internal/bytealg.IndexString"], named := ["unicode/utf8.first", "unicode/utf8.acceptRanges", "internal/bytealg.MaxLen"], apart := false, laid := [("unicode/utf8.acceptRanges", laid_unicode_utf8_acceptRanges), ("unicode/utf8.first", laid_unicode_utf8_first)], narrowed := true }
def FnPortedUptoSaid : Prop := fnPortedUptoRow.holds Tryd.pinned (OpenSpec.upto fnPortedSpec)

/-- 'laws.FnExactDial', WHERE WHAT IT READS IS OF BULK AT MOST 1048576: true; the input reads as it did. -/
def fnExactDialUptoRow : OpenClaim := { program := "ythghcialeghgoaadoor", sum := "509153da23b15d3825d0705b1f806cb7182d689369d1310e55777ca749571fab", func := "loop.example/g00052/laws.FnExactDial", spec := "fnExactDial", inPlace := ["internal/bytealg.IndexByteString", "internal/bytealg.IndexString"], unfollowed := true, recurses := true, named := ["unicode/utf8.first", "unicode/utf8.acceptRanges", "internal/bytealg.MaxLen"], apart := false, laid := [("unicode/utf8.acceptRanges", laid_unicode_utf8_acceptRanges), ("unicode/utf8.first", laid_unicode_utf8_first)], narrowed := true }
def FnExactDialUptoSaid : Prop := fnExactDialUptoRow.holds Tryd.pinned (OpenSpec.upto fnExactDialSpec)

/-- 'laws.FnDialled', WHERE WHAT IT READS IS OF BULK AT MOST 1048576: true; the input reads as it did. -/
def fnDialledUptoRow : OpenClaim := { program := "ythghcialeghgoaadoor", sum := "509153da23b15d3825d0705b1f806cb7182d689369d1310e55777ca749571fab", func := "loop.example/g00052/laws.FnDialled", spec := "fnDialled", inPlace := ["internal/bytealg.IndexByteString", "internal/bytealg.IndexString"], unfollowed := true, recurses := true, named := ["unicode/utf8.first", "unicode/utf8.acceptRanges", "internal/bytealg.MaxLen"], apart := false, laid := [("unicode/utf8.acceptRanges", laid_unicode_utf8_acceptRanges), ("unicode/utf8.first", laid_unicode_utf8_first)], narrowed := true }
def FnDialledUptoSaid : Prop := fnDialledUptoRow.holds Tryd.pinned (OpenSpec.upto fnDialledSpec)

/-- 'laws.FnTimers', WHERE WHAT IT READS IS OF BULK AT MOST 1048576: true; the input reads as it did. -/
def fnTimersUptoRow : OpenClaim := { program := "ythghcialeghgoaadoor", sum := "509153da23b15d3825d0705b1f806cb7182d689369d1310e55777ca749571fab", func := "loop.example/g00052/laws.FnTimers", spec := "fnTimers", inPlace := ["internal/bytealg.IndexByteString", "internal/bytealg.IndexString"], unfollowed := true, recurses := true, named := ["unicode/utf8.first", "unicode/utf8.acceptRanges", "internal/bytealg.MaxLen"], apart := false, laid := [("unicode/utf8.acceptRanges", laid_unicode_utf8_acceptRanges), ("unicode/utf8.first", laid_unicode_utf8_first)], narrowed := true }
def FnTimersUptoSaid : Prop := fnTimersUptoRow.holds Tryd.pinned (OpenSpec.upto fnTimersSpec)

/-- 'laws.FnExactOverlap', WHERE WHAT IT READS IS OF BULK AT MOST 1048576: true; the input reads as it did. -/
def fnExactOverlapUptoRow : OpenClaim := { program := "ythghcialeghgoaadoor", sum := "509153da23b15d3825d0705b1f806cb7182d689369d1310e55777ca749571fab", func := "loop.example/g00052/laws.FnExactOverlap", spec := "fnExactOverlap", inPlace := ["internal/bytealg.IndexByteString", "internal/bytealg.IndexString"], unfollowed := true, recurses := true, named := ["unicode/utf8.first", "unicode/utf8.acceptRanges", "internal/bytealg.MaxLen"], apart := false, laid := [("unicode/utf8.acceptRanges", laid_unicode_utf8_acceptRanges), ("unicode/utf8.first", laid_unicode_utf8_first)], narrowed := true }
def FnExactOverlapUptoSaid : Prop := fnExactOverlapUptoRow.holds Tryd.pinned (OpenSpec.upto fnExactOverlapSpec)

end Rows
end Go.Proofs.YthghcialeghgoaaDoor
