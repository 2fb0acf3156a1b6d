/-
  DERIVED. GIVEN WITH THE SEED: THE CARDS: each row of YthhnfmbfgplelaaDoorRows.lean that lists a variable, with what it lists TIED to the program's text (the seventh form; the later family's looks); each row that meets fmt, with fmt's text TOLD by the authors' own Lean function (tested against real Go, not proved from fmt's source: count such statements apart). THE CARD IS WHAT COUNTS. Prove the row's statement (the work); the ties are given (YthhnfmbfgplelaaDoorTie.lean); close each card by the builder's one call (the guide's Derived/Test/ToyasCard.lean, 'card_holds'). Laid BY PROGRAM, IN A SANDBOX (cutbox-door.mjs). By AI agents, Wed Nov 11 2026. No macro, syntax, notation, axiom, sorry.
-/
import Derived.Test.YthhnfmbfgplelaaDoorRows
import GoSem.ClaimSeven
namespace Go.Proofs.YthhnfmbfgplelaaDoor
namespace Rows

/-- THE TIED CARD OF 'laws.FnExactOidText'. -/
def fnExactOidTextCard : Claim7 := { stood := { row := fnExactOidTextRow, standIns := [], harness := (true, "a5df5722d715144a3eb5c646e042e405a792cec522185b38a199e330865c5315"), looks := false }, kinds := [], alts := [], laidByText := true, laidKinds := [.data, .data, .data], laidTests := true, laidLooks := .later }
def FnExactOidTextCardSaid : Prop := Claim7.holds Tryd.pinned (.plain (OpenSpec.ofChange fnExactOidTextSpec)) fnExactOidTextCard

/-- THE SECOND FORM's CARD OF 'laws.FnExactOidText'. -/
def fnExactOidTextUptoCard : Claim7 := { stood := { row := fnExactOidTextUptoRow, standIns := [], harness := (true, "a5df5722d715144a3eb5c646e042e405a792cec522185b38a199e330865c5315"), looks := false }, kinds := [], alts := [], laidByText := true, laidKinds := [.data, .data, .data], laidTests := true, laidLooks := .later }
def FnExactOidTextUptoCardSaid : Prop := Claim7.holds Tryd.pinned (.plain (OpenSpec.upto fnExactOidTextSpec)) fnExactOidTextUptoCard
end Rows
end Go.Proofs.YthhnfmbfgplelaaDoor
