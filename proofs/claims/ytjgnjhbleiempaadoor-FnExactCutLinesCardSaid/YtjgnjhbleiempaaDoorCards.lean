/-
  DERIVED. GIVEN WITH THE SEED: THE CARDS: each row of YtjgnjhbleiempaaDoorRows.lean that lists a variable, with what it lists TIED to the program's text (the seventh form; the later family's looks); each row that meets fmt, with fmt's text TOLD by the authors' own Lean function (tested against real Go, not proved from fmt's source: count such statements apart). THE CARD IS WHAT COUNTS. Prove the row's statement (the work); the ties are given (YtjgnjhbleiempaaDoorTie.lean); close each card by the builder's one call (the guide's Derived/Test/ToyasCard.lean, 'card_holds'). Laid BY PROGRAM, IN A SANDBOX (cutbox-door.mjs). By AI agents, Wed Nov 11 2026. No macro, syntax, notation, axiom, sorry.
-/
import Derived.Test.YtjgnjhbleiempaaDoorRows
import GoSem.ClaimSeven
namespace Go.Proofs.YtjgnjhbleiempaaDoor
namespace Rows

/-- THE TIED CARD OF 'laws.FnExactCutLines'. -/
def fnExactCutLinesCard : Claim7 := { stood := { row := fnExactCutLinesRow, standIns := [], harness := (true, "17a2dc44317a36084b64faedf8bb068f0a2a1be0f47f1ffb9962155fb8b67a2d"), looks := false }, kinds := [], alts := [], laidByText := true, laidKinds := [.data, .pinned], laidTests := true, laidLooks := .later }
def FnExactCutLinesCardSaid : Prop := Claim7.holds Tryd.pinned (.plain (OpenSpec.ofChange fnExactCutLinesSpec)) fnExactCutLinesCard

/-- THE SECOND FORM's CARD OF 'laws.FnExactCutLines'. -/
def fnExactCutLinesUptoCard : Claim7 := { stood := { row := fnExactCutLinesUptoRow, standIns := [], harness := (true, "17a2dc44317a36084b64faedf8bb068f0a2a1be0f47f1ffb9962155fb8b67a2d"), looks := false }, kinds := [], alts := [], laidByText := true, laidKinds := [.data, .pinned], laidTests := true, laidLooks := .later }
def FnExactCutLinesUptoCardSaid : Prop := Claim7.holds Tryd.pinned (.plain (OpenSpec.upto fnExactCutLinesSpec)) fnExactCutLinesUptoCard
end Rows
end Go.Proofs.YtjgnjhbleiempaaDoor
