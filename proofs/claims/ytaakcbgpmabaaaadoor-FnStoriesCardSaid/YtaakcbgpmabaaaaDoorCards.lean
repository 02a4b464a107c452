/-
  DERIVED. GIVEN WITH THE SEED: THE CARDS: each row of YtaakcbgpmabaaaaDoorRows.lean that lists a variable, with what it lists TIED to the program's text (the seventh form; the later family's looks); each row that meets fmt, with fmt's text TOLD by the authors' own Lean function (tested against real Go, not proved from fmt's source: count such statements apart). THE CARD IS WHAT COUNTS. Prove the row's statement (the work); the ties are given (YtaakcbgpmabaaaaDoorTie.lean); close each card by the builder's one call (the guide's Derived/Test/ToyasCard.lean, 'card_holds'). Laid BY PROGRAM, IN A SANDBOX (cutbox-door.mjs). By AI agents, Wed Nov 11 2026. No macro, syntax, notation, axiom, sorry.
-/
import Derived.Test.YtaakcbgpmabaaaaDoorRows
import GoSem.ClaimSeven
namespace Go.Proofs.YtaakcbgpmabaaaaDoor
namespace Rows

/-- THE TIED CARD OF 'laws.FnStories'. -/
def fnStoriesCard : Claim7 := { stood := { row := fnStoriesRow, standIns := [], harness := (true, "c05201b3f65be86403c5e1e631a91a31030f9043c739a4fed7a4cadeb0e4c1a1"), looks := false }, kinds := [], alts := [], laidByText := true, laidKinds := [.data, .pinned], laidTests := true, laidLooks := .later }
def FnStoriesCardSaid : Prop := Claim7.holds Tryd.pinned (.plain (OpenSpec.ofChange fnStoriesSpec)) fnStoriesCard

/-- THE SECOND FORM's CARD OF 'laws.FnStories'. -/
def fnStoriesUptoCard : Claim7 := { stood := { row := fnStoriesUptoRow, standIns := [], harness := (true, "c05201b3f65be86403c5e1e631a91a31030f9043c739a4fed7a4cadeb0e4c1a1"), looks := false }, kinds := [], alts := [], laidByText := true, laidKinds := [.data, .pinned], laidTests := true, laidLooks := .later }
def FnStoriesUptoCardSaid : Prop := Claim7.holds Tryd.pinned (.plain (OpenSpec.upto fnStoriesSpec)) fnStoriesUptoCard
end Rows
end Go.Proofs.YtaakcbgpmabaaaaDoor
