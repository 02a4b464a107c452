/-
  No cell of these rows narrows 'for every input' (looked for: loops, veiled, ifaces, maps, wideKeys, modest, calm, conditions, laid).
  DERIVED. THE GIVEN ROWS OF THIS SEAT. 7 by the template 'for every input the law returns true; each argument reads behind the call as it read before'; 0 by the template 'total and deterministic' (their statements: YtnjdepmlpdjghaaTotals.lean).
  GIVEN WITH THE SEED: the statements are not yours to turn. If you find one false, say at which input.
  Laid BY PROGRAM, IN A SANDBOX (cutbox-rows.mjs): the forced cells as the released guide's own fill.sh prints them over the translation 9036a5f360057a0f… (all of the seat's roots in one cut). By AI agents, Wed Nov 11 2026. No macro, syntax, notation, axiom, sorry.
-/
import Derived.Test.YtnjdepmlpdjghaaChecked
import GoSem.Claim
import GoSem.ClaimJoined
import GoSem.ClaimMapViews
import Derived.JoinedTies
import Derived.KernelRfl
namespace Go.Proofs.Ytnjdepmlpdjghaa
/- THE CELL 'sum', in the pinned program and in every row, IS THE sha256 OF THE DUMP (.gsa) THAT YtnjdepmlpdjghaaProg.lean LOADS. Nothing in Lean hashes anything: it is a label: what it is worth is what the hold of that sum in a sandbox is worth. -/
noncomputable def Try.pinned : Pinned := { name := "ytnjdepmlpdjghaa", sum := "9036a5f360057a0f328205d3c60e998a9f4690960bd3740eb7b5a4e3136993b6", checked := Try.checked }
namespace Rows
def none {H : Type} : Left H := { results := [], args := [] }

/-- 'laws.FnAllCounts': WHATEVER THE INPUT: true; the input reads as it did. -/
def fnAllCountsSpec : ChangeSpec := { name := "fnAllCounts", fn := fun _ => fun
  | [d] => { results := [.lit (.bool true)], args := [d] }
  | _ => none }
def fnAllCountsRow : OpenClaim := { program := "ytnjdepmlpdjghaa", sum := "9036a5f360057a0f328205d3c60e998a9f4690960bd3740eb7b5a4e3136993b6", func := "loop.example/g00281/laws.FnAllCounts", spec := "fnAllCounts", unfollowed := true, recurses := true, apart := false }
def FnAllCountsSaid : Prop := fnAllCountsRow.holds Try.pinned (OpenSpec.ofChange fnAllCountsSpec)

/-- ITS FALSE NEIGHBOUR: 'it returns false'. Refute it at one input. -/
def fnAllCountsWrong : ChangeSpec := { name := "fnAllCounts", fn := fun _ => fun
  | [d] => { results := [.lit (.bool false)], args := [d] }
  | _ => none }
def FnAllCountsWrongFalsely : Prop := fnAllCountsRow.holds Try.pinned (OpenSpec.ofChange fnAllCountsWrong)

/-- 'laws.FnExactEnds2': WHATEVER THE INPUT: true; the input reads as it did. -/
def fnExactEnds2Spec : ChangeSpec := { name := "fnExactEnds2", fn := fun _ => fun
  | [d1, d2, d3] => { results := [.lit (.bool true)], args := [d1, d2, d3] }
  | _ => none }
def fnExactEnds2Row : OpenClaim := { program := "ytnjdepmlpdjghaa", sum := "9036a5f360057a0f328205d3c60e998a9f4690960bd3740eb7b5a4e3136993b6", func := "loop.example/g00281/laws.FnExactEnds2", spec := "fnExactEnds2", unfollowed := true, recurses := true, apart := false }
def FnExactEnds2Said : Prop := fnExactEnds2Row.holds Try.pinned (OpenSpec.ofChange fnExactEnds2Spec)

/-- ITS FALSE NEIGHBOUR: 'it returns false'. Refute it at one input. -/
def fnExactEnds2Wrong : ChangeSpec := { name := "fnExactEnds2", fn := fun _ => fun
  | [d1, d2, d3] => { results := [.lit (.bool false)], args := [d1, d2, d3] }
  | _ => none }
def FnExactEnds2WrongFalsely : Prop := fnExactEnds2Row.holds Try.pinned (OpenSpec.ofChange fnExactEnds2Wrong)

/-- 'laws.FnAllEnds': WHATEVER THE INPUT: true; the input reads as it did. -/
def fnAllEndsSpec : ChangeSpec := { name := "fnAllEnds", fn := fun _ => fun
  | [d] => { results := [.lit (.bool true)], args := [d] }
  | _ => none }
def fnAllEndsRow : OpenClaim := { program := "ytnjdepmlpdjghaa", sum := "9036a5f360057a0f328205d3c60e998a9f4690960bd3740eb7b5a4e3136993b6", func := "loop.example/g00281/laws.FnAllEnds", spec := "fnAllEnds", unfollowed := true, recurses := true, apart := false }
def FnAllEndsSaid : Prop := fnAllEndsRow.holds Try.pinned (OpenSpec.ofChange fnAllEndsSpec)

/-- ITS FALSE NEIGHBOUR: 'it returns false'. Refute it at one input. -/
def fnAllEndsWrong : ChangeSpec := { name := "fnAllEnds", fn := fun _ => fun
  | [d] => { results := [.lit (.bool false)], args := [d] }
  | _ => none }
def FnAllEndsWrongFalsely : Prop := fnAllEndsRow.holds Try.pinned (OpenSpec.ofChange fnAllEndsWrong)

/-- 'laws.FnExactAlways': WHATEVER THE INPUT: true; the input reads as it did. -/
def fnExactAlwaysSpec : ChangeSpec := { name := "fnExactAlways", fn := fun _ => fun
  | [d1, d2, d3, d4, d5] => { results := [.lit (.bool true)], args := [d1, d2, d3, d4, d5] }
  | _ => none }
def fnExactAlwaysRow : OpenClaim := { program := "ytnjdepmlpdjghaa", sum := "9036a5f360057a0f328205d3c60e998a9f4690960bd3740eb7b5a4e3136993b6", func := "loop.example/g00281/laws.FnExactAlways", spec := "fnExactAlways", unfollowed := true, recurses := true, apart := false }
def FnExactAlwaysSaid : Prop := fnExactAlwaysRow.holds Try.pinned (OpenSpec.ofChange fnExactAlwaysSpec)

/-- ITS FALSE NEIGHBOUR: 'it returns false'. Refute it at one input. -/
def fnExactAlwaysWrong : ChangeSpec := { name := "fnExactAlways", fn := fun _ => fun
  | [d1, d2, d3, d4, d5] => { results := [.lit (.bool false)], args := [d1, d2, d3, d4, d5] }
  | _ => none }
def FnExactAlwaysWrongFalsely : Prop := fnExactAlwaysRow.holds Try.pinned (OpenSpec.ofChange fnExactAlwaysWrong)

/-- 'laws.FnExactEver': WHATEVER THE INPUT: true; the input reads as it did. -/
def fnExactEverSpec : ChangeSpec := { name := "fnExactEver", fn := fun _ => fun
  | [d1, d2, d3, d4, d5] => { results := [.lit (.bool true)], args := [d1, d2, d3, d4, d5] }
  | _ => none }
def fnExactEverRow : OpenClaim := { program := "ytnjdepmlpdjghaa", sum := "9036a5f360057a0f328205d3c60e998a9f4690960bd3740eb7b5a4e3136993b6", func := "loop.example/g00281/laws.FnExactEver", spec := "fnExactEver", unfollowed := true, recurses := true, apart := false }
def FnExactEverSaid : Prop := fnExactEverRow.holds Try.pinned (OpenSpec.ofChange fnExactEverSpec)

/-- ITS FALSE NEIGHBOUR: 'it returns false'. Refute it at one input. -/
def fnExactEverWrong : ChangeSpec := { name := "fnExactEver", fn := fun _ => fun
  | [d1, d2, d3, d4, d5] => { results := [.lit (.bool false)], args := [d1, d2, d3, d4, d5] }
  | _ => none }
def FnExactEverWrongFalsely : Prop := fnExactEverRow.holds Try.pinned (OpenSpec.ofChange fnExactEverWrong)

/-- 'laws.FnExactFinals': WHATEVER THE INPUT: true; the input reads as it did. -/
def fnExactFinalsSpec : ChangeSpec := { name := "fnExactFinals", fn := fun _ => fun
  | [d1, d2, d3, d4] => { results := [.lit (.bool true)], args := [d1, d2, d3, d4] }
  | _ => none }
def fnExactFinalsRow : OpenClaim := { program := "ytnjdepmlpdjghaa", sum := "9036a5f360057a0f328205d3c60e998a9f4690960bd3740eb7b5a4e3136993b6", func := "loop.example/g00281/laws.FnExactFinals", spec := "fnExactFinals", unfollowed := true, recurses := true, apart := false }
def FnExactFinalsSaid : Prop := fnExactFinalsRow.holds Try.pinned (OpenSpec.ofChange fnExactFinalsSpec)

/-- ITS FALSE NEIGHBOUR: 'it returns false'. Refute it at one input. -/
def fnExactFinalsWrong : ChangeSpec := { name := "fnExactFinals", fn := fun _ => fun
  | [d1, d2, d3, d4] => { results := [.lit (.bool false)], args := [d1, d2, d3, d4] }
  | _ => none }
def FnExactFinalsWrongFalsely : Prop := fnExactFinalsRow.holds Try.pinned (OpenSpec.ofChange fnExactFinalsWrong)

/-- 'laws.FnFinals': WHATEVER THE INPUT: true; the input reads as it did. -/
def fnFinalsSpec : ChangeSpec := { name := "fnFinals", fn := fun _ => fun
  | [d] => { results := [.lit (.bool true)], args := [d] }
  | _ => none }
def fnFinalsRow : OpenClaim := { program := "ytnjdepmlpdjghaa", sum := "9036a5f360057a0f328205d3c60e998a9f4690960bd3740eb7b5a4e3136993b6", func := "loop.example/g00281/laws.FnFinals", spec := "fnFinals", unfollowed := true, recurses := true, apart := false }
def FnFinalsSaid : Prop := fnFinalsRow.holds Try.pinned (OpenSpec.ofChange fnFinalsSpec)

/-- ITS FALSE NEIGHBOUR: 'it returns false'. Refute it at one input. -/
def fnFinalsWrong : ChangeSpec := { name := "fnFinals", fn := fun _ => fun
  | [d] => { results := [.lit (.bool false)], args := [d] }
  | _ => none }
def FnFinalsWrongFalsely : Prop := fnFinalsRow.holds Try.pinned (OpenSpec.ofChange fnFinalsWrong)

/- THE SECOND FORM. 'bulk': how many values and letters a reading holds, each counted each time it is reached (what is shared counts as often as it is met; a slice's spare places count too). A statement '..UptoSaid' is the law's where the arguments, and the package variables that the reading takes, are together of bulk at most 1048576: NARROWER than '..Said'. Prove '..Said' where nothing that the law and all that it calls make is longer than what came in: it says more and counts as full. Else prove '..UptoSaid'. A law counts once. -/
mutual
def uptoBulk {H : Type} : DataW H → Nat
  | .lit (.string bytes) => bytes.length + 1
  | .lit _ => 1
  | .nil => 1
  | .ptr d => uptoBulk d + 1
  | .slice elems spare => uptoBulkAll elems + uptoBulkAll spare + 1
  | .agg parts => uptoBulkAll parts + 1
  | .iface _ d => uptoBulk d + 1
  | .map entries => uptoBulkEntries entries + 1
  | .held _ => 1
def uptoBulkAll {H : Type} : List (DataW H) → Nat
  | [] => 0
  | d :: r => uptoBulk d + uptoBulkAll r
def uptoBulkEntries {H : Type} : List (Lit × DataW H) → Nat
  | [] => 0
  | x :: r => uptoBulkEntry x + uptoBulkEntries r
def uptoBulkEntry {H : Type} : Lit × DataW H → Nat
  | (.string bytes, d) => bytes.length + uptoBulk d + 1
  | (_, d) => uptoBulk d + 1
 end
def uptoSmall : (H : Type) → List (DataW H) → Bool := fun _ ds => decide (uptoBulkAll ds ≤ 1048576)
def OpenSpec.upto (s : _root_.Go.ChangeSpec) : _root_.Go.OpenSpec := { _root_.Go.OpenSpec.ofChange s with cond := some uptoSmall }

/-- 'laws.FnAllCounts', WHERE WHAT IT READS IS OF BULK AT MOST 1048576: true; the input reads as it did. -/
def fnAllCountsUptoRow : OpenClaim := { program := "ytnjdepmlpdjghaa", sum := "9036a5f360057a0f328205d3c60e998a9f4690960bd3740eb7b5a4e3136993b6", func := "loop.example/g00281/laws.FnAllCounts", spec := "fnAllCounts", unfollowed := true, recurses := true, apart := false, narrowed := true }
def FnAllCountsUptoSaid : Prop := fnAllCountsUptoRow.holds Try.pinned (OpenSpec.upto fnAllCountsSpec)

/-- 'laws.FnExactEnds2', WHERE WHAT IT READS IS OF BULK AT MOST 1048576: true; the input reads as it did. -/
def fnExactEnds2UptoRow : OpenClaim := { program := "ytnjdepmlpdjghaa", sum := "9036a5f360057a0f328205d3c60e998a9f4690960bd3740eb7b5a4e3136993b6", func := "loop.example/g00281/laws.FnExactEnds2", spec := "fnExactEnds2", unfollowed := true, recurses := true, apart := false, narrowed := true }
def FnExactEnds2UptoSaid : Prop := fnExactEnds2UptoRow.holds Try.pinned (OpenSpec.upto fnExactEnds2Spec)

/-- 'laws.FnAllEnds', WHERE WHAT IT READS IS OF BULK AT MOST 1048576: true; the input reads as it did. -/
def fnAllEndsUptoRow : OpenClaim := { program := "ytnjdepmlpdjghaa", sum := "9036a5f360057a0f328205d3c60e998a9f4690960bd3740eb7b5a4e3136993b6", func := "loop.example/g00281/laws.FnAllEnds", spec := "fnAllEnds", unfollowed := true, recurses := true, apart := false, narrowed := true }
def FnAllEndsUptoSaid : Prop := fnAllEndsUptoRow.holds Try.pinned (OpenSpec.upto fnAllEndsSpec)

/-- 'laws.FnExactAlways', WHERE WHAT IT READS IS OF BULK AT MOST 1048576: true; the input reads as it did. -/
def fnExactAlwaysUptoRow : OpenClaim := { program := "ytnjdepmlpdjghaa", sum := "9036a5f360057a0f328205d3c60e998a9f4690960bd3740eb7b5a4e3136993b6", func := "loop.example/g00281/laws.FnExactAlways", spec := "fnExactAlways", unfollowed := true, recurses := true, apart := false, narrowed := true }
def FnExactAlwaysUptoSaid : Prop := fnExactAlwaysUptoRow.holds Try.pinned (OpenSpec.upto fnExactAlwaysSpec)

/-- 'laws.FnExactEver', WHERE WHAT IT READS IS OF BULK AT MOST 1048576: true; the input reads as it did. -/
def fnExactEverUptoRow : OpenClaim := { program := "ytnjdepmlpdjghaa", sum := "9036a5f360057a0f328205d3c60e998a9f4690960bd3740eb7b5a4e3136993b6", func := "loop.example/g00281/laws.FnExactEver", spec := "fnExactEver", unfollowed := true, recurses := true, apart := false, narrowed := true }
def FnExactEverUptoSaid : Prop := fnExactEverUptoRow.holds Try.pinned (OpenSpec.upto fnExactEverSpec)

/-- 'laws.FnExactFinals', WHERE WHAT IT READS IS OF BULK AT MOST 1048576: true; the input reads as it did. -/
def fnExactFinalsUptoRow : OpenClaim := { program := "ytnjdepmlpdjghaa", sum := "9036a5f360057a0f328205d3c60e998a9f4690960bd3740eb7b5a4e3136993b6", func := "loop.example/g00281/laws.FnExactFinals", spec := "fnExactFinals", unfollowed := true, recurses := true, apart := false, narrowed := true }
def FnExactFinalsUptoSaid : Prop := fnExactFinalsUptoRow.holds Try.pinned (OpenSpec.upto fnExactFinalsSpec)

/-- 'laws.FnFinals', WHERE WHAT IT READS IS OF BULK AT MOST 1048576: true; the input reads as it did. -/
def fnFinalsUptoRow : OpenClaim := { program := "ytnjdepmlpdjghaa", sum := "9036a5f360057a0f328205d3c60e998a9f4690960bd3740eb7b5a4e3136993b6", func := "loop.example/g00281/laws.FnFinals", spec := "fnFinals", unfollowed := true, recurses := true, apart := false, narrowed := true }
def FnFinalsUptoSaid : Prop := fnFinalsUptoRow.holds Try.pinned (OpenSpec.upto fnFinalsSpec)

end Rows
end Go.Proofs.Ytnjdepmlpdjghaa
