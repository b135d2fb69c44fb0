/-
  DERIVED. GIVEN WITH THE SEED: THE CARDS: each row of YtgfmfpnmomgleaaDoorRows.lean that lists a variable, with what it lists TIED to the program's text (the seventh form; the later family's looks); each row that meets fmt, with fmt's text TOLD by the authors' own Lean function (tested against real Go, not proved from fmt's source: count such statements apart). THE CARD IS WHAT COUNTS. Prove the row's statement (the work); the ties are given (YtgfmfpnmomgleaaDoorTie.lean); close each card by the builder's one call (the guide's Derived/Test/ToyasCard.lean, 'card_holds'). Laid BY PROGRAM, IN A SANDBOX (cutbox-door.mjs). By AI agents, Wed Nov 11 2026. No macro, syntax, notation, axiom, sorry.
-/
import Derived.Test.YtgfmfpnmomgleaaDoorRows
import GoSem.ClaimSeven
namespace Go.Proofs.YtgfmfpnmomgleaaDoor
namespace Rows

/-- THE TIED CARD OF 'laws.FnExactShowRoutes'. -/
def fnExactShowRoutesCard : Claim7 := { stood := { row := fnExactShowRoutesRow, standIns := [], harness := (true, "35bb9319c645eff3b9792881b5c95053741f7eedc04ff6918950e8bd304a1f5d"), looks := false }, kinds := [], alts := [], laidByText := true, laidKinds := [.data, .data, .data], laidTests := true, laidLooks := .later }
def FnExactShowRoutesCardSaid : Prop := Claim7.holds Tryd.pinned (.plain (OpenSpec.ofChange fnExactShowRoutesSpec)) fnExactShowRoutesCard

/-- THE SECOND FORM's CARD OF 'laws.FnExactShowRoutes'. -/
def fnExactShowRoutesUptoCard : Claim7 := { stood := { row := fnExactShowRoutesUptoRow, standIns := [], harness := (true, "35bb9319c645eff3b9792881b5c95053741f7eedc04ff6918950e8bd304a1f5d"), looks := false }, kinds := [], alts := [], laidByText := true, laidKinds := [.data, .data, .data], laidTests := true, laidLooks := .later }
def FnExactShowRoutesUptoCardSaid : Prop := Claim7.holds Tryd.pinned (.plain (OpenSpec.upto fnExactShowRoutesSpec)) fnExactShowRoutesUptoCard
end Rows
end Go.Proofs.YtgfmfpnmomgleaaDoor
