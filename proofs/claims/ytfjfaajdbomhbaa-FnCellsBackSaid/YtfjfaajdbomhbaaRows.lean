/-
  No cell of these rows narrows 'for every input' (looked for: loops, veiled, ifaces, maps, wideKeys, modest, calm, conditions, laid).
  DERIVED. THE GIVEN ROWS OF THIS SEAT. 6 by the template 'for every input the law returns true; each argument reads behind the call as it read before'; 0 by the template 'total and deterministic' (their statements: YtfjfaajdbomhbaaTotals.lean).
  GIVEN WITH THE SEED: the statements are not yours to turn. If you find one false, say at which input.
  Laid BY PROGRAM, IN A SANDBOX (cutbox-rows.mjs): the forced cells as the released guide's own fill.sh prints them over the translation c1326a612736eb5b… (all of the seat's roots in one cut). By AI agents, Wed Nov 11 2026. No macro, syntax, notation, axiom, sorry.
-/
import Derived.Test.YtfjfaajdbomhbaaChecked
import GoSem.Claim
import GoSem.ClaimJoined
import GoSem.ClaimMapViews
import Derived.JoinedTies
import Derived.KernelRfl
namespace Go.Proofs.Ytfjfaajdbomhbaa
/- THE CELL 'sum', in the pinned program and in every row, IS THE sha256 OF THE DUMP (.gsa) THAT YtfjfaajdbomhbaaProg.lean LOADS. Nothing in Lean hashes anything: it is a label: what it is worth is what the hold of that sum in a sandbox is worth. -/
noncomputable def Try.pinned : Pinned := { name := "ytfjfaajdbomhbaa", sum := "c1326a612736eb5bc8da69491445c1a61575be3f9189836d7320fbf500116d05", checked := Try.checked }
namespace Rows
def none {H : Type} : Left H := { results := [], args := [] }

/-- 'laws.FnExactCellXor': WHATEVER THE INPUT: true; the input reads as it did. -/
def fnExactCellXorSpec : ChangeSpec := { name := "fnExactCellXor", fn := fun _ => fun
  | [d1, d2] => { results := [.lit (.bool true)], args := [d1, d2] }
  | _ => none }
def fnExactCellXorRow : OpenClaim := { program := "ytfjfaajdbomhbaa", sum := "c1326a612736eb5bc8da69491445c1a61575be3f9189836d7320fbf500116d05", func := "loop.example/g00052/laws.FnExactCellXor", spec := "fnExactCellXor", apart := false }
def FnExactCellXorSaid : Prop := fnExactCellXorRow.holds Try.pinned (OpenSpec.ofChange fnExactCellXorSpec)

/-- ITS FALSE NEIGHBOUR: 'it returns false'. Refute it at one input. -/
def fnExactCellXorWrong : ChangeSpec := { name := "fnExactCellXor", fn := fun _ => fun
  | [d1, d2] => { results := [.lit (.bool false)], args := [d1, d2] }
  | _ => none }
def FnExactCellXorWrongFalsely : Prop := fnExactCellXorRow.holds Try.pinned (OpenSpec.ofChange fnExactCellXorWrong)

/-- 'laws.FnExactCut': WHATEVER THE INPUT: true; the input reads as it did. -/
def fnExactCutSpec : ChangeSpec := { name := "fnExactCut", fn := fun _ => fun
  | [d1, d2] => { results := [.lit (.bool true)], args := [d1, d2] }
  | _ => none }
def fnExactCutRow : OpenClaim := { program := "ytfjfaajdbomhbaa", sum := "c1326a612736eb5bc8da69491445c1a61575be3f9189836d7320fbf500116d05", func := "loop.example/g00052/laws.FnExactCut", spec := "fnExactCut", apart := false }
def FnExactCutSaid : Prop := fnExactCutRow.holds Try.pinned (OpenSpec.ofChange fnExactCutSpec)

/-- ITS FALSE NEIGHBOUR: 'it returns false'. Refute it at one input. -/
def fnExactCutWrong : ChangeSpec := { name := "fnExactCut", fn := fun _ => fun
  | [d1, d2] => { results := [.lit (.bool false)], args := [d1, d2] }
  | _ => none }
def FnExactCutWrongFalsely : Prop := fnExactCutRow.holds Try.pinned (OpenSpec.ofChange fnExactCutWrong)

/-- 'laws.FnCellHurt': WHATEVER THE INPUT: true; the input reads as it did. -/
def fnCellHurtSpec : ChangeSpec := { name := "fnCellHurt", fn := fun _ => fun
  | [d] => { results := [.lit (.bool true)], args := [d] }
  | _ => none }
def fnCellHurtRow : OpenClaim := { program := "ytfjfaajdbomhbaa", sum := "c1326a612736eb5bc8da69491445c1a61575be3f9189836d7320fbf500116d05", func := "loop.example/g00052/laws.FnCellHurt", spec := "fnCellHurt", apart := false }
def FnCellHurtSaid : Prop := fnCellHurtRow.holds Try.pinned (OpenSpec.ofChange fnCellHurtSpec)

/-- ITS FALSE NEIGHBOUR: 'it returns false'. Refute it at one input. -/
def fnCellHurtWrong : ChangeSpec := { name := "fnCellHurt", fn := fun _ => fun
  | [d] => { results := [.lit (.bool false)], args := [d] }
  | _ => none }
def FnCellHurtWrongFalsely : Prop := fnCellHurtRow.holds Try.pinned (OpenSpec.ofChange fnCellHurtWrong)

/-- 'laws.FnExactCells': WHATEVER THE INPUT: true; the input reads as it did. -/
def fnExactCellsSpec : ChangeSpec := { name := "fnExactCells", fn := fun _ => fun
  | [d] => { results := [.lit (.bool true)], args := [d] }
  | _ => none }
def fnExactCellsRow : OpenClaim := { program := "ytfjfaajdbomhbaa", sum := "c1326a612736eb5bc8da69491445c1a61575be3f9189836d7320fbf500116d05", func := "loop.example/g00052/laws.FnExactCells", spec := "fnExactCells", apart := false }
def FnExactCellsSaid : Prop := fnExactCellsRow.holds Try.pinned (OpenSpec.ofChange fnExactCellsSpec)

/-- ITS FALSE NEIGHBOUR: 'it returns false'. Refute it at one input. -/
def fnExactCellsWrong : ChangeSpec := { name := "fnExactCells", fn := fun _ => fun
  | [d] => { results := [.lit (.bool false)], args := [d] }
  | _ => none }
def FnExactCellsWrongFalsely : Prop := fnExactCellsRow.holds Try.pinned (OpenSpec.ofChange fnExactCellsWrong)

/-- 'laws.FnCellsBack': WHATEVER THE INPUT: true; the input reads as it did. -/
def fnCellsBackSpec : ChangeSpec := { name := "fnCellsBack", fn := fun _ => fun
  | [d] => { results := [.lit (.bool true)], args := [d] }
  | _ => none }
def fnCellsBackRow : OpenClaim := { program := "ytfjfaajdbomhbaa", sum := "c1326a612736eb5bc8da69491445c1a61575be3f9189836d7320fbf500116d05", func := "loop.example/g00052/laws.FnCellsBack", spec := "fnCellsBack", apart := false }
def FnCellsBackSaid : Prop := fnCellsBackRow.holds Try.pinned (OpenSpec.ofChange fnCellsBackSpec)

/-- ITS FALSE NEIGHBOUR: 'it returns false'. Refute it at one input. -/
def fnCellsBackWrong : ChangeSpec := { name := "fnCellsBack", fn := fun _ => fun
  | [d] => { results := [.lit (.bool false)], args := [d] }
  | _ => none }
def FnCellsBackWrongFalsely : Prop := fnCellsBackRow.holds Try.pinned (OpenSpec.ofChange fnCellsBackWrong)

/-- 'laws.FnExactUncells': WHATEVER THE INPUT: true; the input reads as it did. -/
def fnExactUncellsSpec : ChangeSpec := { name := "fnExactUncells", fn := fun _ => fun
  | [d] => { results := [.lit (.bool true)], args := [d] }
  | _ => none }
def fnExactUncellsRow : OpenClaim := { program := "ytfjfaajdbomhbaa", sum := "c1326a612736eb5bc8da69491445c1a61575be3f9189836d7320fbf500116d05", func := "loop.example/g00052/laws.FnExactUncells", spec := "fnExactUncells", apart := false }
def FnExactUncellsSaid : Prop := fnExactUncellsRow.holds Try.pinned (OpenSpec.ofChange fnExactUncellsSpec)

/-- ITS FALSE NEIGHBOUR: 'it returns false'. Refute it at one input. -/
def fnExactUncellsWrong : ChangeSpec := { name := "fnExactUncells", fn := fun _ => fun
  | [d] => { results := [.lit (.bool false)], args := [d] }
  | _ => none }
def FnExactUncellsWrongFalsely : Prop := fnExactUncellsRow.holds Try.pinned (OpenSpec.ofChange fnExactUncellsWrong)

/- THE SECOND FORM. 'bulk': how many values and letters a reading holds, each counted each time it is reached (what is shared counts as often as it is met; a slice's spare places count too). A statement '..UptoSaid' is the law's where the arguments, and the package variables that the reading takes, are together of bulk at most 1048576: NARROWER than '..Said'. Prove '..Said' where nothing that the law and all that it calls make is longer than what came in: it says more and counts as full. Else prove '..UptoSaid'. A law counts once. -/
mutual
def uptoBulk {H : Type} : DataW H → Nat
  | .lit (.string bytes) => bytes.length + 1
  | .lit _ => 1
  | .nil => 1
  | .ptr d => uptoBulk d + 1
  | .slice elems spare => uptoBulkAll elems + uptoBulkAll spare + 1
  | .agg parts => uptoBulkAll parts + 1
  | .iface _ d => uptoBulk d + 1
  | .map entries => uptoBulkEntries entries + 1
  | .held _ => 1
def uptoBulkAll {H : Type} : List (DataW H) → Nat
  | [] => 0
  | d :: r => uptoBulk d + uptoBulkAll r
def uptoBulkEntries {H : Type} : List (Lit × DataW H) → Nat
  | [] => 0
  | x :: r => uptoBulkEntry x + uptoBulkEntries r
def uptoBulkEntry {H : Type} : Lit × DataW H → Nat
  | (.string bytes, d) => bytes.length + uptoBulk d + 1
  | (_, d) => uptoBulk d + 1
 end
def uptoSmall : (H : Type) → List (DataW H) → Bool := fun _ ds => decide (uptoBulkAll ds ≤ 1048576)
def OpenSpec.upto (s : _root_.Go.ChangeSpec) : _root_.Go.OpenSpec := { _root_.Go.OpenSpec.ofChange s with cond := some uptoSmall }

/-- 'laws.FnExactCellXor', WHERE WHAT IT READS IS OF BULK AT MOST 1048576: true; the input reads as it did. -/
def fnExactCellXorUptoRow : OpenClaim := { program := "ytfjfaajdbomhbaa", sum := "c1326a612736eb5bc8da69491445c1a61575be3f9189836d7320fbf500116d05", func := "loop.example/g00052/laws.FnExactCellXor", spec := "fnExactCellXor", apart := false, narrowed := true }
def FnExactCellXorUptoSaid : Prop := fnExactCellXorUptoRow.holds Try.pinned (OpenSpec.upto fnExactCellXorSpec)

/-- 'laws.FnExactCut', WHERE WHAT IT READS IS OF BULK AT MOST 1048576: true; the input reads as it did. -/
def fnExactCutUptoRow : OpenClaim := { program := "ytfjfaajdbomhbaa", sum := "c1326a612736eb5bc8da69491445c1a61575be3f9189836d7320fbf500116d05", func := "loop.example/g00052/laws.FnExactCut", spec := "fnExactCut", apart := false, narrowed := true }
def FnExactCutUptoSaid : Prop := fnExactCutUptoRow.holds Try.pinned (OpenSpec.upto fnExactCutSpec)

/-- 'laws.FnCellHurt', WHERE WHAT IT READS IS OF BULK AT MOST 1048576: true; the input reads as it did. -/
def fnCellHurtUptoRow : OpenClaim := { program := "ytfjfaajdbomhbaa", sum := "c1326a612736eb5bc8da69491445c1a61575be3f9189836d7320fbf500116d05", func := "loop.example/g00052/laws.FnCellHurt", spec := "fnCellHurt", apart := false, narrowed := true }
def FnCellHurtUptoSaid : Prop := fnCellHurtUptoRow.holds Try.pinned (OpenSpec.upto fnCellHurtSpec)

/-- 'laws.FnExactCells', WHERE WHAT IT READS IS OF BULK AT MOST 1048576: true; the input reads as it did. -/
def fnExactCellsUptoRow : OpenClaim := { program := "ytfjfaajdbomhbaa", sum := "c1326a612736eb5bc8da69491445c1a61575be3f9189836d7320fbf500116d05", func := "loop.example/g00052/laws.FnExactCells", spec := "fnExactCells", apart := false, narrowed := true }
def FnExactCellsUptoSaid : Prop := fnExactCellsUptoRow.holds Try.pinned (OpenSpec.upto fnExactCellsSpec)

/-- 'laws.FnCellsBack', WHERE WHAT IT READS IS OF BULK AT MOST 1048576: true; the input reads as it did. -/
def fnCellsBackUptoRow : OpenClaim := { program := "ytfjfaajdbomhbaa", sum := "c1326a612736eb5bc8da69491445c1a61575be3f9189836d7320fbf500116d05", func := "loop.example/g00052/laws.FnCellsBack", spec := "fnCellsBack", apart := false, narrowed := true }
def FnCellsBackUptoSaid : Prop := fnCellsBackUptoRow.holds Try.pinned (OpenSpec.upto fnCellsBackSpec)

/-- 'laws.FnExactUncells', WHERE WHAT IT READS IS OF BULK AT MOST 1048576: true; the input reads as it did. -/
def fnExactUncellsUptoRow : OpenClaim := { program := "ytfjfaajdbomhbaa", sum := "c1326a612736eb5bc8da69491445c1a61575be3f9189836d7320fbf500116d05", func := "loop.example/g00052/laws.FnExactUncells", spec := "fnExactUncells", apart := false, narrowed := true }
def FnExactUncellsUptoSaid : Prop := fnExactUncellsUptoRow.holds Try.pinned (OpenSpec.upto fnExactUncellsSpec)

end Rows
end Go.Proofs.Ytfjfaajdbomhbaa
