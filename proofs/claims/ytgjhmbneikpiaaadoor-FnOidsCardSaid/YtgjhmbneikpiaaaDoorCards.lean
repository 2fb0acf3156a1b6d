/-
  DERIVED. GIVEN WITH THE SEED: THE CARDS: each row of YtgjhmbneikpiaaaDoorRows.lean that lists a variable, with what it lists TIED to the program's text (the seventh form; the later family's looks); each row that meets fmt, with fmt's text TOLD by the authors' own Lean function (tested against real Go, not proved from fmt's source: count such statements apart). THE CARD IS WHAT COUNTS. Prove the row's statement (the work); the ties are given (YtgjhmbneikpiaaaDoorTie.lean); close each card by the builder's one call (the guide's Derived/Test/ToyasCard.lean, 'card_holds'). Laid BY PROGRAM, IN A SANDBOX (cutbox-door.mjs). By AI agents, Wed Nov 11 2026. No macro, syntax, notation, axiom, sorry.
-/
import Derived.Test.YtgjhmbneikpiaaaDoorRows
import GoSem.ClaimSeven
namespace Go.Proofs.YtgjhmbneikpiaaaDoor
namespace Rows

/-- THE TIED CARD OF 'laws.FnExactParseOid'. -/
def fnExactParseOidCard : Claim7 := { stood := { row := fnExactParseOidRow, standIns := [], harness := (true, "03c885c4e32971a7639a80e2f75258286209ef2a86db8e7d97a337c1d5d76901"), looks := true }, kinds := [], alts := [], laidByText := true, laidKinds := [.data, .data, .data, .data, .sentinel, .sentinel, .pinned], laidTests := true, laidLooks := .later }
def FnExactParseOidCardSaid : Prop := Claim7.holds Tryd.pinned (.plain (OpenSpec.ofChange fnExactParseOidSpec)) fnExactParseOidCard

/-- THE TIED CARD OF 'laws.FnOids'. -/
def fnOidsCard : Claim7 := { stood := { row := fnOidsRow, standIns := [], harness := (true, "03c885c4e32971a7639a80e2f75258286209ef2a86db8e7d97a337c1d5d76901"), looks := true }, kinds := [], alts := [], laidByText := true, laidKinds := [.data, .data, .data, .data, .sentinel, .sentinel, .pinned], laidTests := true, laidLooks := .later }
def FnOidsCardSaid : Prop := Claim7.holds Tryd.pinned (.plain (OpenSpec.ofChange fnOidsSpec)) fnOidsCard

/-- THE SECOND FORM's CARD OF 'laws.FnExactParseOid'. -/
def fnExactParseOidUptoCard : Claim7 := { stood := { row := fnExactParseOidUptoRow, standIns := [], harness := (true, "03c885c4e32971a7639a80e2f75258286209ef2a86db8e7d97a337c1d5d76901"), looks := true }, kinds := [], alts := [], laidByText := true, laidKinds := [.data, .data, .data, .data, .sentinel, .sentinel, .pinned], laidTests := true, laidLooks := .later }
def FnExactParseOidUptoCardSaid : Prop := Claim7.holds Tryd.pinned (.plain (OpenSpec.upto fnExactParseOidSpec)) fnExactParseOidUptoCard

/-- THE SECOND FORM's CARD OF 'laws.FnOids'. -/
def fnOidsUptoCard : Claim7 := { stood := { row := fnOidsUptoRow, standIns := [], harness := (true, "03c885c4e32971a7639a80e2f75258286209ef2a86db8e7d97a337c1d5d76901"), looks := true }, kinds := [], alts := [], laidByText := true, laidKinds := [.data, .data, .data, .data, .sentinel, .sentinel, .pinned], laidTests := true, laidLooks := .later }
def FnOidsUptoCardSaid : Prop := Claim7.holds Tryd.pinned (.plain (OpenSpec.upto fnOidsSpec)) fnOidsUptoCard
end Rows
end Go.Proofs.YtgjhmbneikpiaaaDoor
