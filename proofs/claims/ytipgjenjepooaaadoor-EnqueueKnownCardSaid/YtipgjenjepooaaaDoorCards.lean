/-
  DERIVED. GIVEN WITH THE SEED: THE CARDS: each row of YtipgjenjepooaaaDoorRows.lean that lists a variable, with what it lists TIED to the program's text (the seventh form; the later family's looks); each row that meets fmt, with fmt's text TOLD by the authors' own Lean function (tested against real Go, not proved from fmt's source: count such statements apart). THE CARD IS WHAT COUNTS. Prove the row's statement (the work); the ties are given (YtipgjenjepooaaaDoorTie.lean); close each card by the builder's one call (the guide's Derived/Test/ToyasCard.lean, 'card_holds'). Laid BY PROGRAM, IN A SANDBOX (cutbox-door.mjs). By AI agents, Wed Nov 11 2026. No macro, syntax, notation, axiom, sorry.
-/
import Derived.Test.YtipgjenjepooaaaDoorRows
import GoSem.ClaimSeven
namespace Go.Proofs.YtipgjenjepooaaaDoor
namespace Rows

/-- THE TIED CARD OF 'jobshoplaw37.EnqueueKnown'. -/
def enqueueKnownCard : Claim7 := { stood := { row := enqueueKnownRow, standIns := [], harness := (true, "a50498e99d71da3aa3ee25b30c793f5051867d8a7fb1aabbadc292c566c17be0"), looks := false }, kinds := [], alts := [], laidByText := true, laidKinds := [.data, .pinned], laidTests := true, laidLooks := .later }
def EnqueueKnownCardSaid : Prop := Claim7.holds Tryd.pinned (.plain (OpenSpec.ofChange enqueueKnownSpec)) enqueueKnownCard

/-- THE SECOND FORM's CARD OF 'jobshoplaw37.EnqueueKnown'. -/
def enqueueKnownUptoCard : Claim7 := { stood := { row := enqueueKnownUptoRow, standIns := [], harness := (true, "a50498e99d71da3aa3ee25b30c793f5051867d8a7fb1aabbadc292c566c17be0"), looks := false }, kinds := [], alts := [], laidByText := true, laidKinds := [.data, .pinned], laidTests := true, laidLooks := .later }
def EnqueueKnownUptoCardSaid : Prop := Claim7.holds Tryd.pinned (.plain (OpenSpec.upto enqueueKnownSpec)) enqueueKnownUptoCard
end Rows
end Go.Proofs.YtipgjenjepooaaaDoor
