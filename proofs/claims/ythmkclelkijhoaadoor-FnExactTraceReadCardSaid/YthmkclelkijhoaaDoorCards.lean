/-
  DERIVED. GIVEN WITH THE SEED: THE CARDS: each row of YthmkclelkijhoaaDoorRows.lean that lists a variable, with what it lists TIED to the program's text (the seventh form; the later family's looks); each row that meets fmt, with fmt's text TOLD by the authors' own Lean function (tested against real Go, not proved from fmt's source: count such statements apart). THE CARD IS WHAT COUNTS. Prove the row's statement (the work); the ties are given (YthmkclelkijhoaaDoorTie.lean); close each card by the builder's one call (the guide's Derived/Test/ToyasCard.lean, 'card_holds'). Laid BY PROGRAM, IN A SANDBOX (cutbox-door.mjs). By AI agents, Wed Nov 11 2026. No macro, syntax, notation, axiom, sorry.
-/
import Derived.Test.YthmkclelkijhoaaDoorRows
import GoSem.ClaimSeven
namespace Go.Proofs.YthmkclelkijhoaaDoor
namespace Rows

/-- THE TIED CARD OF 'laws.FnExactEventRead'. -/
def fnExactEventReadCard : Claim7 := { stood := { row := fnExactEventReadRow, standIns := [], harness := (true, "341ede54d16f07242ae8b7add4816f6ae6502db131de7a78bba669d2e3e012dd"), looks := false }, kinds := [], alts := [], laidByText := true, laidKinds := [.data, .pinned], laidTests := true, laidLooks := .later }
def FnExactEventReadCardSaid : Prop := Claim7.holds Tryd.pinned (.plain (OpenSpec.ofChange fnExactEventReadSpec)) fnExactEventReadCard

/-- THE TIED CARD OF 'laws.FnExactTraceRead'. -/
def fnExactTraceReadCard : Claim7 := { stood := { row := fnExactTraceReadRow, standIns := [], harness := (true, "341ede54d16f07242ae8b7add4816f6ae6502db131de7a78bba669d2e3e012dd"), looks := false }, kinds := [], alts := [], laidByText := true, laidKinds := [.data, .pinned], laidTests := true, laidLooks := .later }
def FnExactTraceReadCardSaid : Prop := Claim7.holds Tryd.pinned (.plain (OpenSpec.ofChange fnExactTraceReadSpec)) fnExactTraceReadCard

/-- THE SECOND FORM's CARD OF 'laws.FnExactEventRead'. -/
def fnExactEventReadUptoCard : Claim7 := { stood := { row := fnExactEventReadUptoRow, standIns := [], harness := (true, "341ede54d16f07242ae8b7add4816f6ae6502db131de7a78bba669d2e3e012dd"), looks := false }, kinds := [], alts := [], laidByText := true, laidKinds := [.data, .pinned], laidTests := true, laidLooks := .later }
def FnExactEventReadUptoCardSaid : Prop := Claim7.holds Tryd.pinned (.plain (OpenSpec.upto fnExactEventReadSpec)) fnExactEventReadUptoCard

/-- THE SECOND FORM's CARD OF 'laws.FnExactTraceRead'. -/
def fnExactTraceReadUptoCard : Claim7 := { stood := { row := fnExactTraceReadUptoRow, standIns := [], harness := (true, "341ede54d16f07242ae8b7add4816f6ae6502db131de7a78bba669d2e3e012dd"), looks := false }, kinds := [], alts := [], laidByText := true, laidKinds := [.data, .pinned], laidTests := true, laidLooks := .later }
def FnExactTraceReadUptoCardSaid : Prop := Claim7.holds Tryd.pinned (.plain (OpenSpec.upto fnExactTraceReadSpec)) fnExactTraceReadUptoCard
end Rows
end Go.Proofs.YthmkclelkijhoaaDoor
