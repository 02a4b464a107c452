/-
  No cell of these rows narrows 'for every input' (looked for: loops, veiled, ifaces, maps, wideKeys, modest, calm, conditions, laid).
  DERIVED. THE GIVEN ROWS OF THIS SEAT. 4 by the template 'for every input the law returns true; each argument reads behind the call as it read before'; 0 by the template 'total and deterministic' (their statements: YtpcgecacaemalaaTotals.lean).
  GIVEN WITH THE SEED: the statements are not yours to turn. If you find one false, say at which input.
  Laid BY PROGRAM, IN A SANDBOX (cutbox-rows.mjs): the forced cells as the released guide's own fill.sh prints them over the translation dedaff6a1c1ca0d1… (all of the seat's roots in one cut). By AI agents, Wed Nov 11 2026. No macro, syntax, notation, axiom, sorry.
-/
import Derived.Test.YtpcgecacaemalaaChecked
import GoSem.Claim
import GoSem.ClaimJoined
import GoSem.ClaimMapViews
import Derived.JoinedTies
import Derived.KernelRfl
namespace Go.Proofs.Ytpcgecacaemalaa
/- THE CELL 'sum', in the pinned program and in every row, IS THE sha256 OF THE DUMP (.gsa) THAT YtpcgecacaemalaaProg.lean LOADS. Nothing in Lean hashes anything: it is a label: what it is worth is what the hold of that sum in a sandbox is worth. -/
noncomputable def Try.pinned : Pinned := { name := "ytpcgecacaemalaa", sum := "dedaff6a1c1ca0d175d521db33fda04ce2d4bb921b1f65cf9c42803c2a947c8d", checked := Try.checked }
namespace Rows
def none {H : Type} : Left H := { results := [], args := [] }

/-- 'laws.FnWatched': WHATEVER THE INPUT: true; the input reads as it did. -/
def fnWatchedSpec : ChangeSpec := { name := "fnWatched", fn := fun _ => fun
  | [d] => { results := [.lit (.bool true)], args := [d] }
  | _ => none }
def fnWatchedRow : OpenClaim := { program := "ytpcgecacaemalaa", sum := "dedaff6a1c1ca0d175d521db33fda04ce2d4bb921b1f65cf9c42803c2a947c8d", func := "loop.example/g00281/laws.FnWatched", spec := "fnWatched", unfollowed := true, recurses := true, apart := false }
def FnWatchedSaid : Prop := fnWatchedRow.holds Try.pinned (OpenSpec.ofChange fnWatchedSpec)

/-- ITS FALSE NEIGHBOUR: 'it returns false'. Refute it at one input. -/
def fnWatchedWrong : ChangeSpec := { name := "fnWatched", fn := fun _ => fun
  | [d] => { results := [.lit (.bool false)], args := [d] }
  | _ => none }
def FnWatchedWrongFalsely : Prop := fnWatchedRow.holds Try.pinned (OpenSpec.ofChange fnWatchedWrong)

/-- 'laws.FnExactRunTo': WHATEVER THE INPUT: true; the input reads as it did. -/
def fnExactRunToSpec : ChangeSpec := { name := "fnExactRunTo", fn := fun _ => fun
  | [d1, d2, d3, d4] => { results := [.lit (.bool true)], args := [d1, d2, d3, d4] }
  | _ => none }
def fnExactRunToRow : OpenClaim := { program := "ytpcgecacaemalaa", sum := "dedaff6a1c1ca0d175d521db33fda04ce2d4bb921b1f65cf9c42803c2a947c8d", func := "loop.example/g00281/laws.FnExactRunTo", spec := "fnExactRunTo", unfollowed := true, recurses := true, apart := false }
def FnExactRunToSaid : Prop := fnExactRunToRow.holds Try.pinned (OpenSpec.ofChange fnExactRunToSpec)

/-- ITS FALSE NEIGHBOUR: 'it returns false'. Refute it at one input. -/
def fnExactRunToWrong : ChangeSpec := { name := "fnExactRunTo", fn := fun _ => fun
  | [d1, d2, d3, d4] => { results := [.lit (.bool false)], args := [d1, d2, d3, d4] }
  | _ => none }
def FnExactRunToWrongFalsely : Prop := fnExactRunToRow.holds Try.pinned (OpenSpec.ofChange fnExactRunToWrong)

/-- 'laws.FnStops': WHATEVER THE INPUT: true; the input reads as it did. -/
def fnStopsSpec : ChangeSpec := { name := "fnStops", fn := fun _ => fun
  | [d] => { results := [.lit (.bool true)], args := [d] }
  | _ => none }
def fnStopsRow : OpenClaim := { program := "ytpcgecacaemalaa", sum := "dedaff6a1c1ca0d175d521db33fda04ce2d4bb921b1f65cf9c42803c2a947c8d", func := "loop.example/g00281/laws.FnStops", spec := "fnStops", unfollowed := true, recurses := true, apart := false }
def FnStopsSaid : Prop := fnStopsRow.holds Try.pinned (OpenSpec.ofChange fnStopsSpec)

/-- ITS FALSE NEIGHBOUR: 'it returns false'. Refute it at one input. -/
def fnStopsWrong : ChangeSpec := { name := "fnStops", fn := fun _ => fun
  | [d] => { results := [.lit (.bool false)], args := [d] }
  | _ => none }
def FnStopsWrongFalsely : Prop := fnStopsRow.holds Try.pinned (OpenSpec.ofChange fnStopsWrong)

/-- 'laws.FnSaves': WHATEVER THE INPUT: true; the input reads as it did. -/
def fnSavesSpec : ChangeSpec := { name := "fnSaves", fn := fun _ => fun
  | [d] => { results := [.lit (.bool true)], args := [d] }
  | _ => none }
def fnSavesRow : OpenClaim := { program := "ytpcgecacaemalaa", sum := "dedaff6a1c1ca0d175d521db33fda04ce2d4bb921b1f65cf9c42803c2a947c8d", func := "loop.example/g00281/laws.FnSaves", spec := "fnSaves", unfollowed := true, recurses := true, apart := false }
def FnSavesSaid : Prop := fnSavesRow.holds Try.pinned (OpenSpec.ofChange fnSavesSpec)

/-- ITS FALSE NEIGHBOUR: 'it returns false'. Refute it at one input. -/
def fnSavesWrong : ChangeSpec := { name := "fnSaves", fn := fun _ => fun
  | [d] => { results := [.lit (.bool false)], args := [d] }
  | _ => none }
def FnSavesWrongFalsely : Prop := fnSavesRow.holds Try.pinned (OpenSpec.ofChange fnSavesWrong)

/- THE SECOND FORM. 'bulk': how many values and letters a reading holds, each counted each time it is reached (what is shared counts as often as it is met; a slice's spare places count too). A statement '..UptoSaid' is the law's where the arguments, and the package variables that the reading takes, are together of bulk at most 1048576: NARROWER than '..Said'. Prove '..Said' where nothing that the law and all that it calls make is longer than what came in: it says more and counts as full. Else prove '..UptoSaid'. A law counts once. -/
mutual
def uptoBulk {H : Type} : DataW H → Nat
  | .lit (.string bytes) => bytes.length + 1
  | .lit _ => 1
  | .nil => 1
  | .ptr d => uptoBulk d + 1
  | .slice elems spare => uptoBulkAll elems + uptoBulkAll spare + 1
  | .agg parts => uptoBulkAll parts + 1
  | .iface _ d => uptoBulk d + 1
  | .map entries => uptoBulkEntries entries + 1
  | .held _ => 1
def uptoBulkAll {H : Type} : List (DataW H) → Nat
  | [] => 0
  | d :: r => uptoBulk d + uptoBulkAll r
def uptoBulkEntries {H : Type} : List (Lit × DataW H) → Nat
  | [] => 0
  | x :: r => uptoBulkEntry x + uptoBulkEntries r
def uptoBulkEntry {H : Type} : Lit × DataW H → Nat
  | (.string bytes, d) => bytes.length + uptoBulk d + 1
  | (_, d) => uptoBulk d + 1
 end
def uptoSmall : (H : Type) → List (DataW H) → Bool := fun _ ds => decide (uptoBulkAll ds ≤ 1048576)
def OpenSpec.upto (s : _root_.Go.ChangeSpec) : _root_.Go.OpenSpec := { _root_.Go.OpenSpec.ofChange s with cond := some uptoSmall }

/-- 'laws.FnWatched', WHERE WHAT IT READS IS OF BULK AT MOST 1048576: true; the input reads as it did. -/
def fnWatchedUptoRow : OpenClaim := { program := "ytpcgecacaemalaa", sum := "dedaff6a1c1ca0d175d521db33fda04ce2d4bb921b1f65cf9c42803c2a947c8d", func := "loop.example/g00281/laws.FnWatched", spec := "fnWatched", unfollowed := true, recurses := true, apart := false, narrowed := true }
def FnWatchedUptoSaid : Prop := fnWatchedUptoRow.holds Try.pinned (OpenSpec.upto fnWatchedSpec)

/-- 'laws.FnExactRunTo', WHERE WHAT IT READS IS OF BULK AT MOST 1048576: true; the input reads as it did. -/
def fnExactRunToUptoRow : OpenClaim := { program := "ytpcgecacaemalaa", sum := "dedaff6a1c1ca0d175d521db33fda04ce2d4bb921b1f65cf9c42803c2a947c8d", func := "loop.example/g00281/laws.FnExactRunTo", spec := "fnExactRunTo", unfollowed := true, recurses := true, apart := false, narrowed := true }
def FnExactRunToUptoSaid : Prop := fnExactRunToUptoRow.holds Try.pinned (OpenSpec.upto fnExactRunToSpec)

/-- 'laws.FnStops', WHERE WHAT IT READS IS OF BULK AT MOST 1048576: true; the input reads as it did. -/
def fnStopsUptoRow : OpenClaim := { program := "ytpcgecacaemalaa", sum := "dedaff6a1c1ca0d175d521db33fda04ce2d4bb921b1f65cf9c42803c2a947c8d", func := "loop.example/g00281/laws.FnStops", spec := "fnStops", unfollowed := true, recurses := true, apart := false, narrowed := true }
def FnStopsUptoSaid : Prop := fnStopsUptoRow.holds Try.pinned (OpenSpec.upto fnStopsSpec)

/-- 'laws.FnSaves', WHERE WHAT IT READS IS OF BULK AT MOST 1048576: true; the input reads as it did. -/
def fnSavesUptoRow : OpenClaim := { program := "ytpcgecacaemalaa", sum := "dedaff6a1c1ca0d175d521db33fda04ce2d4bb921b1f65cf9c42803c2a947c8d", func := "loop.example/g00281/laws.FnSaves", spec := "fnSaves", unfollowed := true, recurses := true, apart := false, narrowed := true }
def FnSavesUptoSaid : Prop := fnSavesUptoRow.holds Try.pinned (OpenSpec.upto fnSavesSpec)

end Rows
end Go.Proofs.Ytpcgecacaemalaa
