/-
  No cell of these rows narrows 'for every input' (looked for: loops, veiled, ifaces, maps, wideKeys, modest, calm, conditions, laid).
  DERIVED. THE GIVEN ROWS OF THIS SEAT. 11 by the template 'for every input the law returns true; each argument reads behind the call as it read before'; 0 by the template 'total and deterministic' (their statements: YtddncenhddiemaaTotals.lean).
  GIVEN WITH THE SEED: the statements are not yours to turn. If you find one false, say at which input.
  Laid BY PROGRAM, IN A SANDBOX (cutbox-rows.mjs): the forced cells as the released guide's own fill.sh prints them over the translation 26fdf6e37e451c6f… (all of the seat's roots in one cut). By AI agents, Wed Nov 11 2026. No macro, syntax, notation, axiom, sorry.
-/
import Derived.Test.YtddncenhddiemaaChecked
import GoSem.Claim
import GoSem.ClaimJoined
import GoSem.ClaimMapViews
import Derived.JoinedTies
import Derived.KernelRfl
namespace Go.Proofs.Ytddncenhddiemaa
/- THE CELL 'sum', in the pinned program and in every row, IS THE sha256 OF THE DUMP (.gsa) THAT YtddncenhddiemaaProg.lean LOADS. Nothing in Lean hashes anything: it is a label: what it is worth is what the hold of that sum in a sandbox is worth. -/
noncomputable def Try.pinned : Pinned := { name := "ytddncenhddiemaa", sum := "26fdf6e37e451c6f082c0267bdb7ef57ee8353e19477ae7315fbddd0d461fcb3", checked := Try.checked }
namespace Rows
def none {H : Type} : Left H := { results := [], args := [] }

/-- 'laws.FnCountsAll': WHATEVER THE INPUT: true; the input reads as it did. -/
def fnCountsAllSpec : ChangeSpec := { name := "fnCountsAll", fn := fun _ => fun
  | [d] => { results := [.lit (.bool true)], args := [d] }
  | _ => none }
def fnCountsAllRow : OpenClaim := { program := "ytddncenhddiemaa", sum := "26fdf6e37e451c6f082c0267bdb7ef57ee8353e19477ae7315fbddd0d461fcb3", func := "loop.example/g00281/laws.FnCountsAll", spec := "fnCountsAll", unfollowed := true, recurses := true, apart := false }
def FnCountsAllSaid : Prop := fnCountsAllRow.holds Try.pinned (OpenSpec.ofChange fnCountsAllSpec)

/-- ITS FALSE NEIGHBOUR: 'it returns false'. Refute it at one input. -/
def fnCountsAllWrong : ChangeSpec := { name := "fnCountsAll", fn := fun _ => fun
  | [d] => { results := [.lit (.bool false)], args := [d] }
  | _ => none }
def FnCountsAllWrongFalsely : Prop := fnCountsAllRow.holds Try.pinned (OpenSpec.ofChange fnCountsAllWrong)

/-- 'laws.FnLoses': WHATEVER THE INPUT: true; the input reads as it did. -/
def fnLosesSpec : ChangeSpec := { name := "fnLoses", fn := fun _ => fun
  | [d] => { results := [.lit (.bool true)], args := [d] }
  | _ => none }
def fnLosesRow : OpenClaim := { program := "ytddncenhddiemaa", sum := "26fdf6e37e451c6f082c0267bdb7ef57ee8353e19477ae7315fbddd0d461fcb3", func := "loop.example/g00281/laws.FnLoses", spec := "fnLoses", unfollowed := true, recurses := true, apart := false }
def FnLosesSaid : Prop := fnLosesRow.holds Try.pinned (OpenSpec.ofChange fnLosesSpec)

/-- ITS FALSE NEIGHBOUR: 'it returns false'. Refute it at one input. -/
def fnLosesWrong : ChangeSpec := { name := "fnLoses", fn := fun _ => fun
  | [d] => { results := [.lit (.bool false)], args := [d] }
  | _ => none }
def FnLosesWrongFalsely : Prop := fnLosesRow.holds Try.pinned (OpenSpec.ofChange fnLosesWrong)

/-- 'laws.FnExactPartOk': WHATEVER THE INPUT: true; the input reads as it did. -/
def fnExactPartOkSpec : ChangeSpec := { name := "fnExactPartOk", fn := fun _ => fun
  | [d] => { results := [.lit (.bool true)], args := [d] }
  | _ => none }
def fnExactPartOkRow : OpenClaim := { program := "ytddncenhddiemaa", sum := "26fdf6e37e451c6f082c0267bdb7ef57ee8353e19477ae7315fbddd0d461fcb3", func := "loop.example/g00281/laws.FnExactPartOk", spec := "fnExactPartOk", unfollowed := true, recurses := true, apart := false }
def FnExactPartOkSaid : Prop := fnExactPartOkRow.holds Try.pinned (OpenSpec.ofChange fnExactPartOkSpec)

/-- ITS FALSE NEIGHBOUR: 'it returns false'. Refute it at one input. -/
def fnExactPartOkWrong : ChangeSpec := { name := "fnExactPartOk", fn := fun _ => fun
  | [d] => { results := [.lit (.bool false)], args := [d] }
  | _ => none }
def FnExactPartOkWrongFalsely : Prop := fnExactPartOkRow.holds Try.pinned (OpenSpec.ofChange fnExactPartOkWrong)

/-- 'laws.FnMoved': WHATEVER THE INPUT: true; the input reads as it did. -/
def fnMovedSpec : ChangeSpec := { name := "fnMoved", fn := fun _ => fun
  | [d] => { results := [.lit (.bool true)], args := [d] }
  | _ => none }
def fnMovedRow : OpenClaim := { program := "ytddncenhddiemaa", sum := "26fdf6e37e451c6f082c0267bdb7ef57ee8353e19477ae7315fbddd0d461fcb3", func := "loop.example/g00281/laws.FnMoved", spec := "fnMoved", unfollowed := true, recurses := true, apart := false }
def FnMovedSaid : Prop := fnMovedRow.holds Try.pinned (OpenSpec.ofChange fnMovedSpec)

/-- ITS FALSE NEIGHBOUR: 'it returns false'. Refute it at one input. -/
def fnMovedWrong : ChangeSpec := { name := "fnMoved", fn := fun _ => fun
  | [d] => { results := [.lit (.bool false)], args := [d] }
  | _ => none }
def FnMovedWrongFalsely : Prop := fnMovedRow.holds Try.pinned (OpenSpec.ofChange fnMovedWrong)

/-- 'laws.FnLayouts': WHATEVER THE INPUT: true; the input reads as it did. -/
def fnLayoutsSpec : ChangeSpec := { name := "fnLayouts", fn := fun _ => fun
  | [d] => { results := [.lit (.bool true)], args := [d] }
  | _ => none }
def fnLayoutsRow : OpenClaim := { program := "ytddncenhddiemaa", sum := "26fdf6e37e451c6f082c0267bdb7ef57ee8353e19477ae7315fbddd0d461fcb3", func := "loop.example/g00281/laws.FnLayouts", spec := "fnLayouts", unfollowed := true, recurses := true, apart := false }
def FnLayoutsSaid : Prop := fnLayoutsRow.holds Try.pinned (OpenSpec.ofChange fnLayoutsSpec)

/-- ITS FALSE NEIGHBOUR: 'it returns false'. Refute it at one input. -/
def fnLayoutsWrong : ChangeSpec := { name := "fnLayouts", fn := fun _ => fun
  | [d] => { results := [.lit (.bool false)], args := [d] }
  | _ => none }
def FnLayoutsWrongFalsely : Prop := fnLayoutsRow.holds Try.pinned (OpenSpec.ofChange fnLayoutsWrong)

/-- 'laws.FnMemTexts': WHATEVER THE INPUT: true; the input reads as it did. -/
def fnMemTextsSpec : ChangeSpec := { name := "fnMemTexts", fn := fun _ => fun
  | [d] => { results := [.lit (.bool true)], args := [d] }
  | _ => none }
def fnMemTextsRow : OpenClaim := { program := "ytddncenhddiemaa", sum := "26fdf6e37e451c6f082c0267bdb7ef57ee8353e19477ae7315fbddd0d461fcb3", func := "loop.example/g00281/laws.FnMemTexts", spec := "fnMemTexts", inPlace := ["internal/abi.NoEscape", "internal/bytealg.MakeNoZero"], unfollowed := true, recurses := true, apart := false }
def FnMemTextsSaid : Prop := fnMemTextsRow.holds Try.pinned (OpenSpec.ofChange fnMemTextsSpec)

/-- ITS FALSE NEIGHBOUR: 'it returns false'. Refute it at one input. -/
def fnMemTextsWrong : ChangeSpec := { name := "fnMemTexts", fn := fun _ => fun
  | [d] => { results := [.lit (.bool false)], args := [d] }
  | _ => none }
def FnMemTextsWrongFalsely : Prop := fnMemTextsRow.holds Try.pinned (OpenSpec.ofChange fnMemTextsWrong)

/-- 'laws.FnByHart': WHATEVER THE INPUT: true; the input reads as it did. -/
def fnByHartSpec : ChangeSpec := { name := "fnByHart", fn := fun _ => fun
  | [d] => { results := [.lit (.bool true)], args := [d] }
  | _ => none }
def fnByHartRow : OpenClaim := { program := "ytddncenhddiemaa", sum := "26fdf6e37e451c6f082c0267bdb7ef57ee8353e19477ae7315fbddd0d461fcb3", func := "loop.example/g00281/laws.FnByHart", spec := "fnByHart", apart := false }
def FnByHartSaid : Prop := fnByHartRow.holds Try.pinned (OpenSpec.ofChange fnByHartSpec)

/-- ITS FALSE NEIGHBOUR: 'it returns false'. Refute it at one input. -/
def fnByHartWrong : ChangeSpec := { name := "fnByHart", fn := fun _ => fun
  | [d] => { results := [.lit (.bool false)], args := [d] }
  | _ => none }
def FnByHartWrongFalsely : Prop := fnByHartRow.holds Try.pinned (OpenSpec.ofChange fnByHartWrong)

/-- 'laws.FnPlaced': WHATEVER THE INPUT: true; the input reads as it did. -/
def fnPlacedSpec : ChangeSpec := { name := "fnPlaced", fn := fun _ => fun
  | [d] => { results := [.lit (.bool true)], args := [d] }
  | _ => none }
def fnPlacedRow : OpenClaim := { program := "ytddncenhddiemaa", sum := "26fdf6e37e451c6f082c0267bdb7ef57ee8353e19477ae7315fbddd0d461fcb3", func := "loop.example/g00281/laws.FnPlaced", spec := "fnPlaced", unfollowed := true, recurses := true, apart := false }
def FnPlacedSaid : Prop := fnPlacedRow.holds Try.pinned (OpenSpec.ofChange fnPlacedSpec)

/-- ITS FALSE NEIGHBOUR: 'it returns false'. Refute it at one input. -/
def fnPlacedWrong : ChangeSpec := { name := "fnPlaced", fn := fun _ => fun
  | [d] => { results := [.lit (.bool false)], args := [d] }
  | _ => none }
def FnPlacedWrongFalsely : Prop := fnPlacedRow.holds Try.pinned (OpenSpec.ofChange fnPlacedWrong)

/-- 'laws.FnLinked': WHATEVER THE INPUT: true; the input reads as it did. -/
def fnLinkedSpec : ChangeSpec := { name := "fnLinked", fn := fun _ => fun
  | [d] => { results := [.lit (.bool true)], args := [d] }
  | _ => none }
def fnLinkedRow : OpenClaim := { program := "ytddncenhddiemaa", sum := "26fdf6e37e451c6f082c0267bdb7ef57ee8353e19477ae7315fbddd0d461fcb3", func := "loop.example/g00281/laws.FnLinked", spec := "fnLinked", unfollowed := true, recurses := true, apart := false }
def FnLinkedSaid : Prop := fnLinkedRow.holds Try.pinned (OpenSpec.ofChange fnLinkedSpec)

/-- ITS FALSE NEIGHBOUR: 'it returns false'. Refute it at one input. -/
def fnLinkedWrong : ChangeSpec := { name := "fnLinked", fn := fun _ => fun
  | [d] => { results := [.lit (.bool false)], args := [d] }
  | _ => none }
def FnLinkedWrongFalsely : Prop := fnLinkedRow.holds Try.pinned (OpenSpec.ofChange fnLinkedWrong)

/-- 'laws.FnExactMoved': WHATEVER THE INPUT: true; the input reads as it did. -/
def fnExactMovedSpec : ChangeSpec := { name := "fnExactMoved", fn := fun _ => fun
  | [d1, d2] => { results := [.lit (.bool true)], args := [d1, d2] }
  | _ => none }
def fnExactMovedRow : OpenClaim := { program := "ytddncenhddiemaa", sum := "26fdf6e37e451c6f082c0267bdb7ef57ee8353e19477ae7315fbddd0d461fcb3", func := "loop.example/g00281/laws.FnExactMoved", spec := "fnExactMoved", unfollowed := true, recurses := true, apart := false }
def FnExactMovedSaid : Prop := fnExactMovedRow.holds Try.pinned (OpenSpec.ofChange fnExactMovedSpec)

/-- ITS FALSE NEIGHBOUR: 'it returns false'. Refute it at one input. -/
def fnExactMovedWrong : ChangeSpec := { name := "fnExactMoved", fn := fun _ => fun
  | [d1, d2] => { results := [.lit (.bool false)], args := [d1, d2] }
  | _ => none }
def FnExactMovedWrongFalsely : Prop := fnExactMovedRow.holds Try.pinned (OpenSpec.ofChange fnExactMovedWrong)

/-- 'laws.FnSaves': WHATEVER THE INPUT: true; the input reads as it did. -/
def fnSavesSpec : ChangeSpec := { name := "fnSaves", fn := fun _ => fun
  | [d] => { results := [.lit (.bool true)], args := [d] }
  | _ => none }
def fnSavesRow : OpenClaim := { program := "ytddncenhddiemaa", sum := "26fdf6e37e451c6f082c0267bdb7ef57ee8353e19477ae7315fbddd0d461fcb3", func := "loop.example/g00281/laws.FnSaves", spec := "fnSaves", unfollowed := true, recurses := true, apart := false }
def FnSavesSaid : Prop := fnSavesRow.holds Try.pinned (OpenSpec.ofChange fnSavesSpec)

/-- ITS FALSE NEIGHBOUR: 'it returns false'. Refute it at one input. -/
def fnSavesWrong : ChangeSpec := { name := "fnSaves", fn := fun _ => fun
  | [d] => { results := [.lit (.bool false)], args := [d] }
  | _ => none }
def FnSavesWrongFalsely : Prop := fnSavesRow.holds Try.pinned (OpenSpec.ofChange fnSavesWrong)

/- THE SECOND FORM. 'bulk': how many values and letters a reading holds, each counted each time it is reached (what is shared counts as often as it is met; a slice's spare places count too). A statement '..UptoSaid' is the law's where the arguments, and the package variables that the reading takes, are together of bulk at most 1048576: NARROWER than '..Said'. Prove '..Said' where nothing that the law and all that it calls make is longer than what came in: it says more and counts as full. Else prove '..UptoSaid'. A law counts once. -/
mutual
def uptoBulk {H : Type} : DataW H → Nat
  | .lit (.string bytes) => bytes.length + 1
  | .lit _ => 1
  | .nil => 1
  | .ptr d => uptoBulk d + 1
  | .slice elems spare => uptoBulkAll elems + uptoBulkAll spare + 1
  | .agg parts => uptoBulkAll parts + 1
  | .iface _ d => uptoBulk d + 1
  | .map entries => uptoBulkEntries entries + 1
  | .held _ => 1
def uptoBulkAll {H : Type} : List (DataW H) → Nat
  | [] => 0
  | d :: r => uptoBulk d + uptoBulkAll r
def uptoBulkEntries {H : Type} : List (Lit × DataW H) → Nat
  | [] => 0
  | x :: r => uptoBulkEntry x + uptoBulkEntries r
def uptoBulkEntry {H : Type} : Lit × DataW H → Nat
  | (.string bytes, d) => bytes.length + uptoBulk d + 1
  | (_, d) => uptoBulk d + 1
 end
def uptoSmall : (H : Type) → List (DataW H) → Bool := fun _ ds => decide (uptoBulkAll ds ≤ 1048576)
def OpenSpec.upto (s : _root_.Go.ChangeSpec) : _root_.Go.OpenSpec := { _root_.Go.OpenSpec.ofChange s with cond := some uptoSmall }

/-- 'laws.FnCountsAll', WHERE WHAT IT READS IS OF BULK AT MOST 1048576: true; the input reads as it did. -/
def fnCountsAllUptoRow : OpenClaim := { program := "ytddncenhddiemaa", sum := "26fdf6e37e451c6f082c0267bdb7ef57ee8353e19477ae7315fbddd0d461fcb3", func := "loop.example/g00281/laws.FnCountsAll", spec := "fnCountsAll", unfollowed := true, recurses := true, apart := false, narrowed := true }
def FnCountsAllUptoSaid : Prop := fnCountsAllUptoRow.holds Try.pinned (OpenSpec.upto fnCountsAllSpec)

/-- 'laws.FnLoses', WHERE WHAT IT READS IS OF BULK AT MOST 1048576: true; the input reads as it did. -/
def fnLosesUptoRow : OpenClaim := { program := "ytddncenhddiemaa", sum := "26fdf6e37e451c6f082c0267bdb7ef57ee8353e19477ae7315fbddd0d461fcb3", func := "loop.example/g00281/laws.FnLoses", spec := "fnLoses", unfollowed := true, recurses := true, apart := false, narrowed := true }
def FnLosesUptoSaid : Prop := fnLosesUptoRow.holds Try.pinned (OpenSpec.upto fnLosesSpec)

/-- 'laws.FnExactPartOk', WHERE WHAT IT READS IS OF BULK AT MOST 1048576: true; the input reads as it did. -/
def fnExactPartOkUptoRow : OpenClaim := { program := "ytddncenhddiemaa", sum := "26fdf6e37e451c6f082c0267bdb7ef57ee8353e19477ae7315fbddd0d461fcb3", func := "loop.example/g00281/laws.FnExactPartOk", spec := "fnExactPartOk", unfollowed := true, recurses := true, apart := false, narrowed := true }
def FnExactPartOkUptoSaid : Prop := fnExactPartOkUptoRow.holds Try.pinned (OpenSpec.upto fnExactPartOkSpec)

/-- 'laws.FnMoved', WHERE WHAT IT READS IS OF BULK AT MOST 1048576: true; the input reads as it did. -/
def fnMovedUptoRow : OpenClaim := { program := "ytddncenhddiemaa", sum := "26fdf6e37e451c6f082c0267bdb7ef57ee8353e19477ae7315fbddd0d461fcb3", func := "loop.example/g00281/laws.FnMoved", spec := "fnMoved", unfollowed := true, recurses := true, apart := false, narrowed := true }
def FnMovedUptoSaid : Prop := fnMovedUptoRow.holds Try.pinned (OpenSpec.upto fnMovedSpec)

/-- 'laws.FnLayouts', WHERE WHAT IT READS IS OF BULK AT MOST 1048576: true; the input reads as it did. -/
def fnLayoutsUptoRow : OpenClaim := { program := "ytddncenhddiemaa", sum := "26fdf6e37e451c6f082c0267bdb7ef57ee8353e19477ae7315fbddd0d461fcb3", func := "loop.example/g00281/laws.FnLayouts", spec := "fnLayouts", unfollowed := true, recurses := true, apart := false, narrowed := true }
def FnLayoutsUptoSaid : Prop := fnLayoutsUptoRow.holds Try.pinned (OpenSpec.upto fnLayoutsSpec)

/-- 'laws.FnMemTexts', WHERE WHAT IT READS IS OF BULK AT MOST 1048576: true; the input reads as it did. -/
def fnMemTextsUptoRow : OpenClaim := { program := "ytddncenhddiemaa", sum := "26fdf6e37e451c6f082c0267bdb7ef57ee8353e19477ae7315fbddd0d461fcb3", func := "loop.example/g00281/laws.FnMemTexts", spec := "fnMemTexts", inPlace := ["internal/abi.NoEscape", "internal/bytealg.MakeNoZero"], unfollowed := true, recurses := true, apart := false, narrowed := true }
def FnMemTextsUptoSaid : Prop := fnMemTextsUptoRow.holds Try.pinned (OpenSpec.upto fnMemTextsSpec)

/-- 'laws.FnByHart', WHERE WHAT IT READS IS OF BULK AT MOST 1048576: true; the input reads as it did. -/
def fnByHartUptoRow : OpenClaim := { program := "ytddncenhddiemaa", sum := "26fdf6e37e451c6f082c0267bdb7ef57ee8353e19477ae7315fbddd0d461fcb3", func := "loop.example/g00281/laws.FnByHart", spec := "fnByHart", apart := false, narrowed := true }
def FnByHartUptoSaid : Prop := fnByHartUptoRow.holds Try.pinned (OpenSpec.upto fnByHartSpec)

/-- 'laws.FnPlaced', WHERE WHAT IT READS IS OF BULK AT MOST 1048576: true; the input reads as it did. -/
def fnPlacedUptoRow : OpenClaim := { program := "ytddncenhddiemaa", sum := "26fdf6e37e451c6f082c0267bdb7ef57ee8353e19477ae7315fbddd0d461fcb3", func := "loop.example/g00281/laws.FnPlaced", spec := "fnPlaced", unfollowed := true, recurses := true, apart := false, narrowed := true }
def FnPlacedUptoSaid : Prop := fnPlacedUptoRow.holds Try.pinned (OpenSpec.upto fnPlacedSpec)

/-- 'laws.FnLinked', WHERE WHAT IT READS IS OF BULK AT MOST 1048576: true; the input reads as it did. -/
def fnLinkedUptoRow : OpenClaim := { program := "ytddncenhddiemaa", sum := "26fdf6e37e451c6f082c0267bdb7ef57ee8353e19477ae7315fbddd0d461fcb3", func := "loop.example/g00281/laws.FnLinked", spec := "fnLinked", unfollowed := true, recurses := true, apart := false, narrowed := true }
def FnLinkedUptoSaid : Prop := fnLinkedUptoRow.holds Try.pinned (OpenSpec.upto fnLinkedSpec)

/-- 'laws.FnExactMoved', WHERE WHAT IT READS IS OF BULK AT MOST 1048576: true; the input reads as it did. -/
def fnExactMovedUptoRow : OpenClaim := { program := "ytddncenhddiemaa", sum := "26fdf6e37e451c6f082c0267bdb7ef57ee8353e19477ae7315fbddd0d461fcb3", func := "loop.example/g00281/laws.FnExactMoved", spec := "fnExactMoved", unfollowed := true, recurses := true, apart := false, narrowed := true }
def FnExactMovedUptoSaid : Prop := fnExactMovedUptoRow.holds Try.pinned (OpenSpec.upto fnExactMovedSpec)

/-- 'laws.FnSaves', WHERE WHAT IT READS IS OF BULK AT MOST 1048576: true; the input reads as it did. -/
def fnSavesUptoRow : OpenClaim := { program := "ytddncenhddiemaa", sum := "26fdf6e37e451c6f082c0267bdb7ef57ee8353e19477ae7315fbddd0d461fcb3", func := "loop.example/g00281/laws.FnSaves", spec := "fnSaves", unfollowed := true, recurses := true, apart := false, narrowed := true }
def FnSavesUptoSaid : Prop := fnSavesUptoRow.holds Try.pinned (OpenSpec.upto fnSavesSpec)

end Rows
end Go.Proofs.Ytddncenhddiemaa
