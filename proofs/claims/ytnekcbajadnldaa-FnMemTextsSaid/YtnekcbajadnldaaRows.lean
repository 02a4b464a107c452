/-
  No cell of these rows narrows 'for every input' (looked for: loops, veiled, ifaces, maps, wideKeys, modest, calm, conditions, laid).
  DERIVED. THE GIVEN ROWS OF THIS SEAT. 12 by the template 'for every input the law returns true; each argument reads behind the call as it read before'; 0 by the template 'total and deterministic' (their statements: YtnekcbajadnldaaTotals.lean).
  GIVEN WITH THE SEED: the statements are not yours to turn. If you find one false, say at which input.
  Laid BY PROGRAM, IN A SANDBOX (cutbox-rows.mjs): the forced cells as the released guide's own fill.sh prints them over the translation e8e98dc615d24dcc… (all of the seat's roots in one cut). By AI agents, Wed Nov 11 2026. No macro, syntax, notation, axiom, sorry.
-/
import Derived.Test.YtnekcbajadnldaaChecked
import GoSem.Claim
import GoSem.ClaimJoined
import GoSem.ClaimMapViews
import Derived.JoinedTies
import Derived.KernelRfl
namespace Go.Proofs.Ytnekcbajadnldaa
/- THE CELL 'sum', in the pinned program and in every row, IS THE sha256 OF THE DUMP (.gsa) THAT YtnekcbajadnldaaProg.lean LOADS. Nothing in Lean hashes anything: it is a label: what it is worth is what the hold of that sum in a sandbox is worth. -/
noncomputable def Try.pinned : Pinned := { name := "ytnekcbajadnldaa", sum := "e8e98dc615d24dcc6ab428d86c829921cc0b4861c0bc2d0fb9707dec900dd1f6", checked := Try.checked }
namespace Rows
def none {H : Type} : Left H := { results := [], args := [] }

/-- 'laws.FnExactNextOf': WHATEVER THE INPUT: true; the input reads as it did. -/
def fnExactNextOfSpec : ChangeSpec := { name := "fnExactNextOf", fn := fun _ => fun
  | [d1, d2] => { results := [.lit (.bool true)], args := [d1, d2] }
  | _ => none }
def fnExactNextOfRow : OpenClaim := { program := "ytnekcbajadnldaa", sum := "e8e98dc615d24dcc6ab428d86c829921cc0b4861c0bc2d0fb9707dec900dd1f6", func := "loop.example/g00281/laws.FnExactNextOf", spec := "fnExactNextOf", unfollowed := true, recurses := true, apart := false }
def FnExactNextOfSaid : Prop := fnExactNextOfRow.holds Try.pinned (OpenSpec.ofChange fnExactNextOfSpec)

/-- ITS FALSE NEIGHBOUR: 'it returns false'. Refute it at one input. -/
def fnExactNextOfWrong : ChangeSpec := { name := "fnExactNextOf", fn := fun _ => fun
  | [d1, d2] => { results := [.lit (.bool false)], args := [d1, d2] }
  | _ => none }
def FnExactNextOfWrongFalsely : Prop := fnExactNextOfRow.holds Try.pinned (OpenSpec.ofChange fnExactNextOfWrong)

/-- 'laws.FnExactReachOf': WHATEVER THE INPUT: true; the input reads as it did. -/
def fnExactReachOfSpec : ChangeSpec := { name := "fnExactReachOf", fn := fun _ => fun
  | [d1, d2] => { results := [.lit (.bool true)], args := [d1, d2] }
  | _ => none }
def fnExactReachOfRow : OpenClaim := { program := "ytnekcbajadnldaa", sum := "e8e98dc615d24dcc6ab428d86c829921cc0b4861c0bc2d0fb9707dec900dd1f6", func := "loop.example/g00281/laws.FnExactReachOf", spec := "fnExactReachOf", unfollowed := true, recurses := true, apart := false }
def FnExactReachOfSaid : Prop := fnExactReachOfRow.holds Try.pinned (OpenSpec.ofChange fnExactReachOfSpec)

/-- ITS FALSE NEIGHBOUR: 'it returns false'. Refute it at one input. -/
def fnExactReachOfWrong : ChangeSpec := { name := "fnExactReachOf", fn := fun _ => fun
  | [d1, d2] => { results := [.lit (.bool false)], args := [d1, d2] }
  | _ => none }
def FnExactReachOfWrongFalsely : Prop := fnExactReachOfRow.holds Try.pinned (OpenSpec.ofChange fnExactReachOfWrong)

/-- 'laws.FnExactLeadsTo': WHATEVER THE INPUT: true; the input reads as it did. -/
def fnExactLeadsToSpec : ChangeSpec := { name := "fnExactLeadsTo", fn := fun _ => fun
  | [d1, d2, d3] => { results := [.lit (.bool true)], args := [d1, d2, d3] }
  | _ => none }
def fnExactLeadsToRow : OpenClaim := { program := "ytnekcbajadnldaa", sum := "e8e98dc615d24dcc6ab428d86c829921cc0b4861c0bc2d0fb9707dec900dd1f6", func := "loop.example/g00281/laws.FnExactLeadsTo", spec := "fnExactLeadsTo", unfollowed := true, recurses := true, apart := false }
def FnExactLeadsToSaid : Prop := fnExactLeadsToRow.holds Try.pinned (OpenSpec.ofChange fnExactLeadsToSpec)

/-- ITS FALSE NEIGHBOUR: 'it returns false'. Refute it at one input. -/
def fnExactLeadsToWrong : ChangeSpec := { name := "fnExactLeadsTo", fn := fun _ => fun
  | [d1, d2, d3] => { results := [.lit (.bool false)], args := [d1, d2, d3] }
  | _ => none }
def FnExactLeadsToWrongFalsely : Prop := fnExactLeadsToRow.holds Try.pinned (OpenSpec.ofChange fnExactLeadsToWrong)

/-- 'laws.FnExactSeqOk': WHATEVER THE INPUT: true; the input reads as it did. -/
def fnExactSeqOkSpec : ChangeSpec := { name := "fnExactSeqOk", fn := fun _ => fun
  | [d1, d2] => { results := [.lit (.bool true)], args := [d1, d2] }
  | _ => none }
def fnExactSeqOkRow : OpenClaim := { program := "ytnekcbajadnldaa", sum := "e8e98dc615d24dcc6ab428d86c829921cc0b4861c0bc2d0fb9707dec900dd1f6", func := "loop.example/g00281/laws.FnExactSeqOk", spec := "fnExactSeqOk", unfollowed := true, recurses := true, apart := false }
def FnExactSeqOkSaid : Prop := fnExactSeqOkRow.holds Try.pinned (OpenSpec.ofChange fnExactSeqOkSpec)

/-- ITS FALSE NEIGHBOUR: 'it returns false'. Refute it at one input. -/
def fnExactSeqOkWrong : ChangeSpec := { name := "fnExactSeqOk", fn := fun _ => fun
  | [d1, d2] => { results := [.lit (.bool false)], args := [d1, d2] }
  | _ => none }
def FnExactSeqOkWrongFalsely : Prop := fnExactSeqOkRow.holds Try.pinned (OpenSpec.ofChange fnExactSeqOkWrong)

/-- 'laws.FnExactLoopsFrom': WHATEVER THE INPUT: true; the input reads as it did. -/
def fnExactLoopsFromSpec : ChangeSpec := { name := "fnExactLoopsFrom", fn := fun _ => fun
  | [d1, d2] => { results := [.lit (.bool true)], args := [d1, d2] }
  | _ => none }
def fnExactLoopsFromRow : OpenClaim := { program := "ytnekcbajadnldaa", sum := "e8e98dc615d24dcc6ab428d86c829921cc0b4861c0bc2d0fb9707dec900dd1f6", func := "loop.example/g00281/laws.FnExactLoopsFrom", spec := "fnExactLoopsFrom", unfollowed := true, recurses := true, apart := false }
def FnExactLoopsFromSaid : Prop := fnExactLoopsFromRow.holds Try.pinned (OpenSpec.ofChange fnExactLoopsFromSpec)

/-- ITS FALSE NEIGHBOUR: 'it returns false'. Refute it at one input. -/
def fnExactLoopsFromWrong : ChangeSpec := { name := "fnExactLoopsFrom", fn := fun _ => fun
  | [d1, d2] => { results := [.lit (.bool false)], args := [d1, d2] }
  | _ => none }
def FnExactLoopsFromWrongFalsely : Prop := fnExactLoopsFromRow.holds Try.pinned (OpenSpec.ofChange fnExactLoopsFromWrong)

/-- 'laws.FnExactWritesFrom': WHATEVER THE INPUT: true; the input reads as it did. -/
def fnExactWritesFromSpec : ChangeSpec := { name := "fnExactWritesFrom", fn := fun _ => fun
  | [d1, d2] => { results := [.lit (.bool true)], args := [d1, d2] }
  | _ => none }
def fnExactWritesFromRow : OpenClaim := { program := "ytnekcbajadnldaa", sum := "e8e98dc615d24dcc6ab428d86c829921cc0b4861c0bc2d0fb9707dec900dd1f6", func := "loop.example/g00281/laws.FnExactWritesFrom", spec := "fnExactWritesFrom", unfollowed := true, recurses := true, apart := false }
def FnExactWritesFromSaid : Prop := fnExactWritesFromRow.holds Try.pinned (OpenSpec.ofChange fnExactWritesFromSpec)

/-- ITS FALSE NEIGHBOUR: 'it returns false'. Refute it at one input. -/
def fnExactWritesFromWrong : ChangeSpec := { name := "fnExactWritesFrom", fn := fun _ => fun
  | [d1, d2] => { results := [.lit (.bool false)], args := [d1, d2] }
  | _ => none }
def FnExactWritesFromWrongFalsely : Prop := fnExactWritesFromRow.holds Try.pinned (OpenSpec.ofChange fnExactWritesFromWrong)

/-- 'laws.FnLayouts': WHATEVER THE INPUT: true; the input reads as it did. -/
def fnLayoutsSpec : ChangeSpec := { name := "fnLayouts", fn := fun _ => fun
  | [d] => { results := [.lit (.bool true)], args := [d] }
  | _ => none }
def fnLayoutsRow : OpenClaim := { program := "ytnekcbajadnldaa", sum := "e8e98dc615d24dcc6ab428d86c829921cc0b4861c0bc2d0fb9707dec900dd1f6", func := "loop.example/g00281/laws.FnLayouts", spec := "fnLayouts", unfollowed := true, recurses := true, apart := false }
def FnLayoutsSaid : Prop := fnLayoutsRow.holds Try.pinned (OpenSpec.ofChange fnLayoutsSpec)

/-- ITS FALSE NEIGHBOUR: 'it returns false'. Refute it at one input. -/
def fnLayoutsWrong : ChangeSpec := { name := "fnLayouts", fn := fun _ => fun
  | [d] => { results := [.lit (.bool false)], args := [d] }
  | _ => none }
def FnLayoutsWrongFalsely : Prop := fnLayoutsRow.holds Try.pinned (OpenSpec.ofChange fnLayoutsWrong)

/-- 'laws.FnLinked': WHATEVER THE INPUT: true; the input reads as it did. -/
def fnLinkedSpec : ChangeSpec := { name := "fnLinked", fn := fun _ => fun
  | [d] => { results := [.lit (.bool true)], args := [d] }
  | _ => none }
def fnLinkedRow : OpenClaim := { program := "ytnekcbajadnldaa", sum := "e8e98dc615d24dcc6ab428d86c829921cc0b4861c0bc2d0fb9707dec900dd1f6", func := "loop.example/g00281/laws.FnLinked", spec := "fnLinked", unfollowed := true, recurses := true, apart := false }
def FnLinkedSaid : Prop := fnLinkedRow.holds Try.pinned (OpenSpec.ofChange fnLinkedSpec)

/-- ITS FALSE NEIGHBOUR: 'it returns false'. Refute it at one input. -/
def fnLinkedWrong : ChangeSpec := { name := "fnLinked", fn := fun _ => fun
  | [d] => { results := [.lit (.bool false)], args := [d] }
  | _ => none }
def FnLinkedWrongFalsely : Prop := fnLinkedRow.holds Try.pinned (OpenSpec.ofChange fnLinkedWrong)

/-- 'laws.FnMoved': WHATEVER THE INPUT: true; the input reads as it did. -/
def fnMovedSpec : ChangeSpec := { name := "fnMoved", fn := fun _ => fun
  | [d] => { results := [.lit (.bool true)], args := [d] }
  | _ => none }
def fnMovedRow : OpenClaim := { program := "ytnekcbajadnldaa", sum := "e8e98dc615d24dcc6ab428d86c829921cc0b4861c0bc2d0fb9707dec900dd1f6", func := "loop.example/g00281/laws.FnMoved", spec := "fnMoved", unfollowed := true, recurses := true, apart := false }
def FnMovedSaid : Prop := fnMovedRow.holds Try.pinned (OpenSpec.ofChange fnMovedSpec)

/-- ITS FALSE NEIGHBOUR: 'it returns false'. Refute it at one input. -/
def fnMovedWrong : ChangeSpec := { name := "fnMoved", fn := fun _ => fun
  | [d] => { results := [.lit (.bool false)], args := [d] }
  | _ => none }
def FnMovedWrongFalsely : Prop := fnMovedRow.holds Try.pinned (OpenSpec.ofChange fnMovedWrong)

/-- 'laws.FnMemTexts': WHATEVER THE INPUT: true; the input reads as it did. -/
def fnMemTextsSpec : ChangeSpec := { name := "fnMemTexts", fn := fun _ => fun
  | [d] => { results := [.lit (.bool true)], args := [d] }
  | _ => none }
def fnMemTextsRow : OpenClaim := { program := "ytnekcbajadnldaa", sum := "e8e98dc615d24dcc6ab428d86c829921cc0b4861c0bc2d0fb9707dec900dd1f6", func := "loop.example/g00281/laws.FnMemTexts", spec := "fnMemTexts", inPlace := ["internal/abi.NoEscape", "internal/bytealg.MakeNoZero"], unfollowed := true, recurses := true, apart := false }
def FnMemTextsSaid : Prop := fnMemTextsRow.holds Try.pinned (OpenSpec.ofChange fnMemTextsSpec)

/-- ITS FALSE NEIGHBOUR: 'it returns false'. Refute it at one input. -/
def fnMemTextsWrong : ChangeSpec := { name := "fnMemTexts", fn := fun _ => fun
  | [d] => { results := [.lit (.bool false)], args := [d] }
  | _ => none }
def FnMemTextsWrongFalsely : Prop := fnMemTextsRow.holds Try.pinned (OpenSpec.ofChange fnMemTextsWrong)

/-- 'laws.FnExactRunTo': WHATEVER THE INPUT: true; the input reads as it did. -/
def fnExactRunToSpec : ChangeSpec := { name := "fnExactRunTo", fn := fun _ => fun
  | [d1, d2, d3, d4] => { results := [.lit (.bool true)], args := [d1, d2, d3, d4] }
  | _ => none }
def fnExactRunToRow : OpenClaim := { program := "ytnekcbajadnldaa", sum := "e8e98dc615d24dcc6ab428d86c829921cc0b4861c0bc2d0fb9707dec900dd1f6", func := "loop.example/g00281/laws.FnExactRunTo", spec := "fnExactRunTo", unfollowed := true, recurses := true, apart := false }
def FnExactRunToSaid : Prop := fnExactRunToRow.holds Try.pinned (OpenSpec.ofChange fnExactRunToSpec)

/-- ITS FALSE NEIGHBOUR: 'it returns false'. Refute it at one input. -/
def fnExactRunToWrong : ChangeSpec := { name := "fnExactRunTo", fn := fun _ => fun
  | [d1, d2, d3, d4] => { results := [.lit (.bool false)], args := [d1, d2, d3, d4] }
  | _ => none }
def FnExactRunToWrongFalsely : Prop := fnExactRunToRow.holds Try.pinned (OpenSpec.ofChange fnExactRunToWrong)

/-- 'laws.FnExactEnds2': WHATEVER THE INPUT: true; the input reads as it did. -/
def fnExactEnds2Spec : ChangeSpec := { name := "fnExactEnds2", fn := fun _ => fun
  | [d1, d2, d3] => { results := [.lit (.bool true)], args := [d1, d2, d3] }
  | _ => none }
def fnExactEnds2Row : OpenClaim := { program := "ytnekcbajadnldaa", sum := "e8e98dc615d24dcc6ab428d86c829921cc0b4861c0bc2d0fb9707dec900dd1f6", func := "loop.example/g00281/laws.FnExactEnds2", spec := "fnExactEnds2", unfollowed := true, recurses := true, apart := false }
def FnExactEnds2Said : Prop := fnExactEnds2Row.holds Try.pinned (OpenSpec.ofChange fnExactEnds2Spec)

/-- ITS FALSE NEIGHBOUR: 'it returns false'. Refute it at one input. -/
def fnExactEnds2Wrong : ChangeSpec := { name := "fnExactEnds2", fn := fun _ => fun
  | [d1, d2, d3] => { results := [.lit (.bool false)], args := [d1, d2, d3] }
  | _ => none }
def FnExactEnds2WrongFalsely : Prop := fnExactEnds2Row.holds Try.pinned (OpenSpec.ofChange fnExactEnds2Wrong)

/- THE SECOND FORM. 'bulk': how many values and letters a reading holds, each counted each time it is reached (what is shared counts as often as it is met; a slice's spare places count too). A statement '..UptoSaid' is the law's where the arguments, and the package variables that the reading takes, are together of bulk at most 1048576: NARROWER than '..Said'. Prove '..Said' where nothing that the law and all that it calls make is longer than what came in: it says more and counts as full. Else prove '..UptoSaid'. A law counts once. -/
mutual
def uptoBulk {H : Type} : DataW H → Nat
  | .lit (.string bytes) => bytes.length + 1
  | .lit _ => 1
  | .nil => 1
  | .ptr d => uptoBulk d + 1
  | .slice elems spare => uptoBulkAll elems + uptoBulkAll spare + 1
  | .agg parts => uptoBulkAll parts + 1
  | .iface _ d => uptoBulk d + 1
  | .map entries => uptoBulkEntries entries + 1
  | .held _ => 1
def uptoBulkAll {H : Type} : List (DataW H) → Nat
  | [] => 0
  | d :: r => uptoBulk d + uptoBulkAll r
def uptoBulkEntries {H : Type} : List (Lit × DataW H) → Nat
  | [] => 0
  | x :: r => uptoBulkEntry x + uptoBulkEntries r
def uptoBulkEntry {H : Type} : Lit × DataW H → Nat
  | (.string bytes, d) => bytes.length + uptoBulk d + 1
  | (_, d) => uptoBulk d + 1
 end
def uptoSmall : (H : Type) → List (DataW H) → Bool := fun _ ds => decide (uptoBulkAll ds ≤ 1048576)
def OpenSpec.upto (s : _root_.Go.ChangeSpec) : _root_.Go.OpenSpec := { _root_.Go.OpenSpec.ofChange s with cond := some uptoSmall }

/-- 'laws.FnExactNextOf', WHERE WHAT IT READS IS OF BULK AT MOST 1048576: true; the input reads as it did. -/
def fnExactNextOfUptoRow : OpenClaim := { program := "ytnekcbajadnldaa", sum := "e8e98dc615d24dcc6ab428d86c829921cc0b4861c0bc2d0fb9707dec900dd1f6", func := "loop.example/g00281/laws.FnExactNextOf", spec := "fnExactNextOf", unfollowed := true, recurses := true, apart := false, narrowed := true }
def FnExactNextOfUptoSaid : Prop := fnExactNextOfUptoRow.holds Try.pinned (OpenSpec.upto fnExactNextOfSpec)

/-- 'laws.FnExactReachOf', WHERE WHAT IT READS IS OF BULK AT MOST 1048576: true; the input reads as it did. -/
def fnExactReachOfUptoRow : OpenClaim := { program := "ytnekcbajadnldaa", sum := "e8e98dc615d24dcc6ab428d86c829921cc0b4861c0bc2d0fb9707dec900dd1f6", func := "loop.example/g00281/laws.FnExactReachOf", spec := "fnExactReachOf", unfollowed := true, recurses := true, apart := false, narrowed := true }
def FnExactReachOfUptoSaid : Prop := fnExactReachOfUptoRow.holds Try.pinned (OpenSpec.upto fnExactReachOfSpec)

/-- 'laws.FnExactLeadsTo', WHERE WHAT IT READS IS OF BULK AT MOST 1048576: true; the input reads as it did. -/
def fnExactLeadsToUptoRow : OpenClaim := { program := "ytnekcbajadnldaa", sum := "e8e98dc615d24dcc6ab428d86c829921cc0b4861c0bc2d0fb9707dec900dd1f6", func := "loop.example/g00281/laws.FnExactLeadsTo", spec := "fnExactLeadsTo", unfollowed := true, recurses := true, apart := false, narrowed := true }
def FnExactLeadsToUptoSaid : Prop := fnExactLeadsToUptoRow.holds Try.pinned (OpenSpec.upto fnExactLeadsToSpec)

/-- 'laws.FnExactSeqOk', WHERE WHAT IT READS IS OF BULK AT MOST 1048576: true; the input reads as it did. -/
def fnExactSeqOkUptoRow : OpenClaim := { program := "ytnekcbajadnldaa", sum := "e8e98dc615d24dcc6ab428d86c829921cc0b4861c0bc2d0fb9707dec900dd1f6", func := "loop.example/g00281/laws.FnExactSeqOk", spec := "fnExactSeqOk", unfollowed := true, recurses := true, apart := false, narrowed := true }
def FnExactSeqOkUptoSaid : Prop := fnExactSeqOkUptoRow.holds Try.pinned (OpenSpec.upto fnExactSeqOkSpec)

/-- 'laws.FnExactLoopsFrom', WHERE WHAT IT READS IS OF BULK AT MOST 1048576: true; the input reads as it did. -/
def fnExactLoopsFromUptoRow : OpenClaim := { program := "ytnekcbajadnldaa", sum := "e8e98dc615d24dcc6ab428d86c829921cc0b4861c0bc2d0fb9707dec900dd1f6", func := "loop.example/g00281/laws.FnExactLoopsFrom", spec := "fnExactLoopsFrom", unfollowed := true, recurses := true, apart := false, narrowed := true }
def FnExactLoopsFromUptoSaid : Prop := fnExactLoopsFromUptoRow.holds Try.pinned (OpenSpec.upto fnExactLoopsFromSpec)

/-- 'laws.FnExactWritesFrom', WHERE WHAT IT READS IS OF BULK AT MOST 1048576: true; the input reads as it did. -/
def fnExactWritesFromUptoRow : OpenClaim := { program := "ytnekcbajadnldaa", sum := "e8e98dc615d24dcc6ab428d86c829921cc0b4861c0bc2d0fb9707dec900dd1f6", func := "loop.example/g00281/laws.FnExactWritesFrom", spec := "fnExactWritesFrom", unfollowed := true, recurses := true, apart := false, narrowed := true }
def FnExactWritesFromUptoSaid : Prop := fnExactWritesFromUptoRow.holds Try.pinned (OpenSpec.upto fnExactWritesFromSpec)

/-- 'laws.FnLayouts', WHERE WHAT IT READS IS OF BULK AT MOST 1048576: true; the input reads as it did. -/
def fnLayoutsUptoRow : OpenClaim := { program := "ytnekcbajadnldaa", sum := "e8e98dc615d24dcc6ab428d86c829921cc0b4861c0bc2d0fb9707dec900dd1f6", func := "loop.example/g00281/laws.FnLayouts", spec := "fnLayouts", unfollowed := true, recurses := true, apart := false, narrowed := true }
def FnLayoutsUptoSaid : Prop := fnLayoutsUptoRow.holds Try.pinned (OpenSpec.upto fnLayoutsSpec)

/-- 'laws.FnLinked', WHERE WHAT IT READS IS OF BULK AT MOST 1048576: true; the input reads as it did. -/
def fnLinkedUptoRow : OpenClaim := { program := "ytnekcbajadnldaa", sum := "e8e98dc615d24dcc6ab428d86c829921cc0b4861c0bc2d0fb9707dec900dd1f6", func := "loop.example/g00281/laws.FnLinked", spec := "fnLinked", unfollowed := true, recurses := true, apart := false, narrowed := true }
def FnLinkedUptoSaid : Prop := fnLinkedUptoRow.holds Try.pinned (OpenSpec.upto fnLinkedSpec)

/-- 'laws.FnMoved', WHERE WHAT IT READS IS OF BULK AT MOST 1048576: true; the input reads as it did. -/
def fnMovedUptoRow : OpenClaim := { program := "ytnekcbajadnldaa", sum := "e8e98dc615d24dcc6ab428d86c829921cc0b4861c0bc2d0fb9707dec900dd1f6", func := "loop.example/g00281/laws.FnMoved", spec := "fnMoved", unfollowed := true, recurses := true, apart := false, narrowed := true }
def FnMovedUptoSaid : Prop := fnMovedUptoRow.holds Try.pinned (OpenSpec.upto fnMovedSpec)

/-- 'laws.FnMemTexts', WHERE WHAT IT READS IS OF BULK AT MOST 1048576: true; the input reads as it did. -/
def fnMemTextsUptoRow : OpenClaim := { program := "ytnekcbajadnldaa", sum := "e8e98dc615d24dcc6ab428d86c829921cc0b4861c0bc2d0fb9707dec900dd1f6", func := "loop.example/g00281/laws.FnMemTexts", spec := "fnMemTexts", inPlace := ["internal/abi.NoEscape", "internal/bytealg.MakeNoZero"], unfollowed := true, recurses := true, apart := false, narrowed := true }
def FnMemTextsUptoSaid : Prop := fnMemTextsUptoRow.holds Try.pinned (OpenSpec.upto fnMemTextsSpec)

/-- 'laws.FnExactRunTo', WHERE WHAT IT READS IS OF BULK AT MOST 1048576: true; the input reads as it did. -/
def fnExactRunToUptoRow : OpenClaim := { program := "ytnekcbajadnldaa", sum := "e8e98dc615d24dcc6ab428d86c829921cc0b4861c0bc2d0fb9707dec900dd1f6", func := "loop.example/g00281/laws.FnExactRunTo", spec := "fnExactRunTo", unfollowed := true, recurses := true, apart := false, narrowed := true }
def FnExactRunToUptoSaid : Prop := fnExactRunToUptoRow.holds Try.pinned (OpenSpec.upto fnExactRunToSpec)

/-- 'laws.FnExactEnds2', WHERE WHAT IT READS IS OF BULK AT MOST 1048576: true; the input reads as it did. -/
def fnExactEnds2UptoRow : OpenClaim := { program := "ytnekcbajadnldaa", sum := "e8e98dc615d24dcc6ab428d86c829921cc0b4861c0bc2d0fb9707dec900dd1f6", func := "loop.example/g00281/laws.FnExactEnds2", spec := "fnExactEnds2", unfollowed := true, recurses := true, apart := false, narrowed := true }
def FnExactEnds2UptoSaid : Prop := fnExactEnds2UptoRow.holds Try.pinned (OpenSpec.upto fnExactEnds2Spec)

end Rows
end Go.Proofs.Ytnekcbajadnldaa
