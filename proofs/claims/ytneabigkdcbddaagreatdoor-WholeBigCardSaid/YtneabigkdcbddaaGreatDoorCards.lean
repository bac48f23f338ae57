/-
  DERIVED. GIVEN WITH THE SEED: THE CARDS: each row of YtneabigkdcbddaaGreatDoorRows.lean that lists a variable, with what it lists TIED to the program's text (the seventh form; the later family's looks); each row that meets fmt, with fmt's text TOLD by the authors' own Lean function (tested against real Go, not proved from fmt's source: count such statements apart). THE CARD IS WHAT COUNTS. Prove the row's statement (the work); the ties are given (YtneabigkdcbddaaGreatDoorTie.lean); close each card by the builder's one call (the guide's Derived/Test/ToyasCard.lean, 'card_holds'). Laid BY PROGRAM, IN A SANDBOX (cutbox-door.mjs). By AI agents, Wed Nov 11 2026. No macro, syntax, notation, axiom, sorry.
-/
import Derived.Test.YtneabigkdcbddaaGreatDoorRows
import GoSem.ClaimSeven
namespace Go.Proofs.YtneabigkdcbddaaGreatDoor
namespace Rows

/-- THE TIED CARD OF 'victuallerlaw21.SolveNone'. -/
def solveNoneCard : Claim7 := { stood := { row := solveNoneRow, standIns := [], harness := (true, "ecfc3d47374a63cb8721a1d550a8958f88bc0245f30d7dd69f3760b1fef619c3"), looks := true }, kinds := [], alts := [], laidByText := true, laidKinds := [.data, .data, .data, .pinned, .data, .sentinel, .sentinel, .pinned, .pinned, .pinned, .pinned, .pinned], laidTests := true, laidLooks := .later }
def SolveNoneCardSaid : Prop := Claim7.holds Tryz.pinned (.plain (OpenSpec.ofChange solveNoneSpec)) solveNoneCard

/-- THE TIED CARD OF 'victuallerlaw21.PoolFull'. -/
def poolFullCard : Claim7 := { stood := { row := poolFullRow, standIns := [], harness := (true, "ecfc3d47374a63cb8721a1d550a8958f88bc0245f30d7dd69f3760b1fef619c3"), looks := true }, kinds := [], alts := [], laidByText := true, laidKinds := [.data, .data, .data, .pinned, .data, .sentinel, .sentinel, .pinned, .pinned, .pinned, .pinned, .pinned], laidTests := true, laidLooks := .later }
def PoolFullCardSaid : Prop := Claim7.holds Tryz.pinned (.plain (OpenSpec.ofChange poolFullSpec)) poolFullCard

/-- THE TIED CARD OF 'victuallerlaw21.WholeBig'. -/
def wholeBigCard : Claim7 := { stood := { row := wholeBigRow, standIns := [], harness := (true, "ecfc3d47374a63cb8721a1d550a8958f88bc0245f30d7dd69f3760b1fef619c3"), looks := true }, kinds := [], alts := [], laidByText := true, laidKinds := [.data, .data, .data, .pinned, .data, .sentinel, .sentinel, .pinned, .pinned, .pinned, .pinned, .pinned], laidTests := true, laidLooks := .later }
def WholeBigCardSaid : Prop := Claim7.holds Tryz.pinned (.plain (OpenSpec.ofChange wholeBigSpec)) wholeBigCard

/-- THE SECOND FORM's CARD OF 'victuallerlaw21.SolveNone'. -/
def solveNoneUptoCard : Claim7 := { stood := { row := solveNoneUptoRow, standIns := [], harness := (true, "ecfc3d47374a63cb8721a1d550a8958f88bc0245f30d7dd69f3760b1fef619c3"), looks := true }, kinds := [], alts := [], laidByText := true, laidKinds := [.data, .data, .data, .pinned, .data, .sentinel, .sentinel, .pinned, .pinned, .pinned, .pinned, .pinned], laidTests := true, laidLooks := .later }
def SolveNoneUptoCardSaid : Prop := Claim7.holds Tryz.pinned (.plain (OpenSpec.upto solveNoneSpec)) solveNoneUptoCard

/-- THE SECOND FORM's CARD OF 'victuallerlaw21.PoolFull'. -/
def poolFullUptoCard : Claim7 := { stood := { row := poolFullUptoRow, standIns := [], harness := (true, "ecfc3d47374a63cb8721a1d550a8958f88bc0245f30d7dd69f3760b1fef619c3"), looks := true }, kinds := [], alts := [], laidByText := true, laidKinds := [.data, .data, .data, .pinned, .data, .sentinel, .sentinel, .pinned, .pinned, .pinned, .pinned, .pinned], laidTests := true, laidLooks := .later }
def PoolFullUptoCardSaid : Prop := Claim7.holds Tryz.pinned (.plain (OpenSpec.upto poolFullSpec)) poolFullUptoCard

/-- THE SECOND FORM's CARD OF 'victuallerlaw21.WholeBig'. -/
def wholeBigUptoCard : Claim7 := { stood := { row := wholeBigUptoRow, standIns := [], harness := (true, "ecfc3d47374a63cb8721a1d550a8958f88bc0245f30d7dd69f3760b1fef619c3"), looks := true }, kinds := [], alts := [], laidByText := true, laidKinds := [.data, .data, .data, .pinned, .data, .sentinel, .sentinel, .pinned, .pinned, .pinned, .pinned, .pinned], laidTests := true, laidLooks := .later }
def WholeBigUptoCardSaid : Prop := Claim7.holds Tryz.pinned (.plain (OpenSpec.upto wholeBigSpec)) wholeBigUptoCard
end Rows
end Go.Proofs.YtneabigkdcbddaaGreatDoor
