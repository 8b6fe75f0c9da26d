/-
  DERIVED. GIVEN WITH THE SEED: THE CARDS: each row of YthghcialeghgoaaDoorRows.lean that lists a variable, with what it lists TIED to the program's text (the seventh form; the later family's looks); each row that meets fmt, with fmt's text TOLD by the authors' own Lean function (tested against real Go, not proved from fmt's source: count such statements apart). THE CARD IS WHAT COUNTS. Prove the row's statement (the work); the ties are given (YthghcialeghgoaaDoorTie.lean); close each card by the builder's one call (the guide's Derived/Test/ToyasCard.lean, 'card_holds'). Laid BY PROGRAM, IN A SANDBOX (cutbox-door.mjs). By AI agents, Wed Nov 11 2026. No macro, syntax, notation, axiom, sorry.
-/
import Derived.Test.YthghcialeghgoaaDoorRows
import GoSem.ClaimSeven
namespace Go.Proofs.YthghcialeghgoaaDoor
namespace Rows

/-- THE TIED CARD OF 'laws.FnExactRulesOk'. -/
def fnExactRulesOkCard : Claim7 := { stood := { row := fnExactRulesOkRow, standIns := [], harness := (true, "bf0cd3b26e7dbb95da6880f074a3aaa577be5677f8b4a5afac8a3bc93b35382b"), looks := false }, kinds := [], alts := [], laidByText := true, laidKinds := [.data, .pinned], laidTests := true, laidLooks := .later }
def FnExactRulesOkCardSaid : Prop := Claim7.holds Tryd.pinned (.plain (OpenSpec.ofChange fnExactRulesOkSpec)) fnExactRulesOkCard

/-- THE TIED CARD OF 'laws.FnExactPort'. -/
def fnExactPortCard : Claim7 := { stood := { row := fnExactPortRow, standIns := [], harness := (true, "bf0cd3b26e7dbb95da6880f074a3aaa577be5677f8b4a5afac8a3bc93b35382b"), looks := false }, kinds := [], alts := [], laidByText := true, laidKinds := [.data, .pinned], laidTests := true, laidLooks := .later }
def FnExactPortCardSaid : Prop := Claim7.holds Tryd.pinned (.plain (OpenSpec.ofChange fnExactPortSpec)) fnExactPortCard

/-- THE TIED CARD OF 'laws.FnPorted'. -/
def fnPortedCard : Claim7 := { stood := { row := fnPortedRow, standIns := [], harness := (true, "bf0cd3b26e7dbb95da6880f074a3aaa577be5677f8b4a5afac8a3bc93b35382b"), looks := false }, kinds := [], alts := [], laidByText := true, laidKinds := [.data, .pinned], laidTests := true, laidLooks := .later }
def FnPortedCardSaid : Prop := Claim7.holds Tryd.pinned (.plain (OpenSpec.ofChange fnPortedSpec)) fnPortedCard

/-- THE TIED CARD OF 'laws.FnExactDial'. -/
def fnExactDialCard : Claim7 := { stood := { row := fnExactDialRow, standIns := [], harness := (true, "bf0cd3b26e7dbb95da6880f074a3aaa577be5677f8b4a5afac8a3bc93b35382b"), looks := false }, kinds := [], alts := [], laidByText := true, laidKinds := [.data, .pinned], laidTests := true, laidLooks := .later }
def FnExactDialCardSaid : Prop := Claim7.holds Tryd.pinned (.plain (OpenSpec.ofChange fnExactDialSpec)) fnExactDialCard

/-- THE TIED CARD OF 'laws.FnDialled'. -/
def fnDialledCard : Claim7 := { stood := { row := fnDialledRow, standIns := [], harness := (true, "bf0cd3b26e7dbb95da6880f074a3aaa577be5677f8b4a5afac8a3bc93b35382b"), looks := false }, kinds := [], alts := [], laidByText := true, laidKinds := [.data, .pinned], laidTests := true, laidLooks := .later }
def FnDialledCardSaid : Prop := Claim7.holds Tryd.pinned (.plain (OpenSpec.ofChange fnDialledSpec)) fnDialledCard

/-- THE TIED CARD OF 'laws.FnTimers'. -/
def fnTimersCard : Claim7 := { stood := { row := fnTimersRow, standIns := [], harness := (true, "bf0cd3b26e7dbb95da6880f074a3aaa577be5677f8b4a5afac8a3bc93b35382b"), looks := false }, kinds := [], alts := [], laidByText := true, laidKinds := [.data, .pinned], laidTests := true, laidLooks := .later }
def FnTimersCardSaid : Prop := Claim7.holds Tryd.pinned (.plain (OpenSpec.ofChange fnTimersSpec)) fnTimersCard

/-- THE TIED CARD OF 'laws.FnExactOverlap'. -/
def fnExactOverlapCard : Claim7 := { stood := { row := fnExactOverlapRow, standIns := [], harness := (true, "bf0cd3b26e7dbb95da6880f074a3aaa577be5677f8b4a5afac8a3bc93b35382b"), looks := false }, kinds := [], alts := [], laidByText := true, laidKinds := [.data, .pinned], laidTests := true, laidLooks := .later }
def FnExactOverlapCardSaid : Prop := Claim7.holds Tryd.pinned (.plain (OpenSpec.ofChange fnExactOverlapSpec)) fnExactOverlapCard

/-- THE SECOND FORM's CARD OF 'laws.FnExactRulesOk'. -/
def fnExactRulesOkUptoCard : Claim7 := { stood := { row := fnExactRulesOkUptoRow, standIns := [], harness := (true, "bf0cd3b26e7dbb95da6880f074a3aaa577be5677f8b4a5afac8a3bc93b35382b"), looks := false }, kinds := [], alts := [], laidByText := true, laidKinds := [.data, .pinned], laidTests := true, laidLooks := .later }
def FnExactRulesOkUptoCardSaid : Prop := Claim7.holds Tryd.pinned (.plain (OpenSpec.upto fnExactRulesOkSpec)) fnExactRulesOkUptoCard

/-- THE SECOND FORM's CARD OF 'laws.FnExactPort'. -/
def fnExactPortUptoCard : Claim7 := { stood := { row := fnExactPortUptoRow, standIns := [], harness := (true, "bf0cd3b26e7dbb95da6880f074a3aaa577be5677f8b4a5afac8a3bc93b35382b"), looks := false }, kinds := [], alts := [], laidByText := true, laidKinds := [.data, .pinned], laidTests := true, laidLooks := .later }
def FnExactPortUptoCardSaid : Prop := Claim7.holds Tryd.pinned (.plain (OpenSpec.upto fnExactPortSpec)) fnExactPortUptoCard

/-- THE SECOND FORM's CARD OF 'laws.FnPorted'. -/
def fnPortedUptoCard : Claim7 := { stood := { row := fnPortedUptoRow, standIns := [], harness := (true, "bf0cd3b26e7dbb95da6880f074a3aaa577be5677f8b4a5afac8a3bc93b35382b"), looks := false }, kinds := [], alts := [], laidByText := true, laidKinds := [.data, .pinned], laidTests := true, laidLooks := .later }
def FnPortedUptoCardSaid : Prop := Claim7.holds Tryd.pinned (.plain (OpenSpec.upto fnPortedSpec)) fnPortedUptoCard

/-- THE SECOND FORM's CARD OF 'laws.FnExactDial'. -/
def fnExactDialUptoCard : Claim7 := { stood := { row := fnExactDialUptoRow, standIns := [], harness := (true, "bf0cd3b26e7dbb95da6880f074a3aaa577be5677f8b4a5afac8a3bc93b35382b"), looks := false }, kinds := [], alts := [], laidByText := true, laidKinds := [.data, .pinned], laidTests := true, laidLooks := .later }
def FnExactDialUptoCardSaid : Prop := Claim7.holds Tryd.pinned (.plain (OpenSpec.upto fnExactDialSpec)) fnExactDialUptoCard

/-- THE SECOND FORM's CARD OF 'laws.FnDialled'. -/
def fnDialledUptoCard : Claim7 := { stood := { row := fnDialledUptoRow, standIns := [], harness := (true, "bf0cd3b26e7dbb95da6880f074a3aaa577be5677f8b4a5afac8a3bc93b35382b"), looks := false }, kinds := [], alts := [], laidByText := true, laidKinds := [.data, .pinned], laidTests := true, laidLooks := .later }
def FnDialledUptoCardSaid : Prop := Claim7.holds Tryd.pinned (.plain (OpenSpec.upto fnDialledSpec)) fnDialledUptoCard

/-- THE SECOND FORM's CARD OF 'laws.FnTimers'. -/
def fnTimersUptoCard : Claim7 := { stood := { row := fnTimersUptoRow, standIns := [], harness := (true, "bf0cd3b26e7dbb95da6880f074a3aaa577be5677f8b4a5afac8a3bc93b35382b"), looks := false }, kinds := [], alts := [], laidByText := true, laidKinds := [.data, .pinned], laidTests := true, laidLooks := .later }
def FnTimersUptoCardSaid : Prop := Claim7.holds Tryd.pinned (.plain (OpenSpec.upto fnTimersSpec)) fnTimersUptoCard

/-- THE SECOND FORM's CARD OF 'laws.FnExactOverlap'. -/
def fnExactOverlapUptoCard : Claim7 := { stood := { row := fnExactOverlapUptoRow, standIns := [], harness := (true, "bf0cd3b26e7dbb95da6880f074a3aaa577be5677f8b4a5afac8a3bc93b35382b"), looks := false }, kinds := [], alts := [], laidByText := true, laidKinds := [.data, .pinned], laidTests := true, laidLooks := .later }
def FnExactOverlapUptoCardSaid : Prop := Claim7.holds Tryd.pinned (.plain (OpenSpec.upto fnExactOverlapSpec)) fnExactOverlapUptoCard
end Rows
end Go.Proofs.YthghcialeghgoaaDoor
