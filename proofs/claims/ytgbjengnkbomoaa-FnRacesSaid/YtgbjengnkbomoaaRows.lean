/-
  No cell of these rows narrows 'for every input' (looked for: loops, veiled, ifaces, maps, wideKeys, modest, calm, conditions, laid).
  DERIVED. THE GIVEN ROWS OF THIS SEAT. 5 by the template 'for every input the law returns true; each argument reads behind the call as it read before'; 0 by the template 'total and deterministic' (their statements: YtgbjengnkbomoaaTotals.lean).
  GIVEN WITH THE SEED: the statements are not yours to turn. If you find one false, say at which input.
  Laid BY PROGRAM, IN A SANDBOX (cutbox-rows.mjs): the forced cells as the released guide's own fill.sh prints them over the translation 86808c7eda1d1bb0… (all of the seat's roots in one cut). By AI agents, Wed Nov 11 2026. No macro, syntax, notation, axiom, sorry.
-/
import Derived.Test.YtgbjengnkbomoaaChecked
import GoSem.Claim
import GoSem.ClaimJoined
import GoSem.ClaimMapViews
import Derived.JoinedTies
import Derived.KernelRfl
namespace Go.Proofs.Ytgbjengnkbomoaa
/- THE CELL 'sum', in the pinned program and in every row, IS THE sha256 OF THE DUMP (.gsa) THAT YtgbjengnkbomoaaProg.lean LOADS. Nothing in Lean hashes anything: it is a label: what it is worth is what the hold of that sum in a sandbox is worth. -/
noncomputable def Try.pinned : Pinned := { name := "ytgbjengnkbomoaa", sum := "86808c7eda1d1bb03c28b14b8aef0bfe805076c4d125136f20501a9960e5cbbd", checked := Try.checked }
namespace Rows
def none {H : Type} : Left H := { results := [], args := [] }

/-- 'laws.FnByHart': WHATEVER THE INPUT: true; the input reads as it did. -/
def fnByHartSpec : ChangeSpec := { name := "fnByHart", fn := fun _ => fun
  | [d] => { results := [.lit (.bool true)], args := [d] }
  | _ => none }
def fnByHartRow : OpenClaim := { program := "ytgbjengnkbomoaa", sum := "86808c7eda1d1bb03c28b14b8aef0bfe805076c4d125136f20501a9960e5cbbd", func := "loop.example/g00281/laws.FnByHart", spec := "fnByHart", apart := false }
def FnByHartSaid : Prop := fnByHartRow.holds Try.pinned (OpenSpec.ofChange fnByHartSpec)

/-- ITS FALSE NEIGHBOUR: 'it returns false'. Refute it at one input. -/
def fnByHartWrong : ChangeSpec := { name := "fnByHart", fn := fun _ => fun
  | [d] => { results := [.lit (.bool false)], args := [d] }
  | _ => none }
def FnByHartWrongFalsely : Prop := fnByHartRow.holds Try.pinned (OpenSpec.ofChange fnByHartWrong)

/-- 'laws.FnClocksOf': WHATEVER THE INPUT: true; the input reads as it did. -/
def fnClocksOfSpec : ChangeSpec := { name := "fnClocksOf", fn := fun _ => fun
  | [d] => { results := [.lit (.bool true)], args := [d] }
  | _ => none }
def fnClocksOfRow : OpenClaim := { program := "ytgbjengnkbomoaa", sum := "86808c7eda1d1bb03c28b14b8aef0bfe805076c4d125136f20501a9960e5cbbd", func := "loop.example/g00281/laws.FnClocksOf", spec := "fnClocksOf", unfollowed := true, recurses := true, apart := false }
def FnClocksOfSaid : Prop := fnClocksOfRow.holds Try.pinned (OpenSpec.ofChange fnClocksOfSpec)

/-- ITS FALSE NEIGHBOUR: 'it returns false'. Refute it at one input. -/
def fnClocksOfWrong : ChangeSpec := { name := "fnClocksOf", fn := fun _ => fun
  | [d] => { results := [.lit (.bool false)], args := [d] }
  | _ => none }
def FnClocksOfWrongFalsely : Prop := fnClocksOfRow.holds Try.pinned (OpenSpec.ofChange fnClocksOfWrong)

/-- 'laws.FnKnows': WHATEVER THE INPUT: true; the input reads as it did. -/
def fnKnowsSpec : ChangeSpec := { name := "fnKnows", fn := fun _ => fun
  | [d] => { results := [.lit (.bool true)], args := [d] }
  | _ => none }
def fnKnowsRow : OpenClaim := { program := "ytgbjengnkbomoaa", sum := "86808c7eda1d1bb03c28b14b8aef0bfe805076c4d125136f20501a9960e5cbbd", func := "loop.example/g00281/laws.FnKnows", spec := "fnKnows", unfollowed := true, recurses := true, apart := false }
def FnKnowsSaid : Prop := fnKnowsRow.holds Try.pinned (OpenSpec.ofChange fnKnowsSpec)

/-- ITS FALSE NEIGHBOUR: 'it returns false'. Refute it at one input. -/
def fnKnowsWrong : ChangeSpec := { name := "fnKnows", fn := fun _ => fun
  | [d] => { results := [.lit (.bool false)], args := [d] }
  | _ => none }
def FnKnowsWrongFalsely : Prop := fnKnowsRow.holds Try.pinned (OpenSpec.ofChange fnKnowsWrong)

/-- 'laws.FnRaces': WHATEVER THE INPUT: true; the input reads as it did. -/
def fnRacesSpec : ChangeSpec := { name := "fnRaces", fn := fun _ => fun
  | [d] => { results := [.lit (.bool true)], args := [d] }
  | _ => none }
def fnRacesRow : OpenClaim := { program := "ytgbjengnkbomoaa", sum := "86808c7eda1d1bb03c28b14b8aef0bfe805076c4d125136f20501a9960e5cbbd", func := "loop.example/g00281/laws.FnRaces", spec := "fnRaces", unfollowed := true, recurses := true, apart := false }
def FnRacesSaid : Prop := fnRacesRow.holds Try.pinned (OpenSpec.ofChange fnRacesSpec)

/-- ITS FALSE NEIGHBOUR: 'it returns false'. Refute it at one input. -/
def fnRacesWrong : ChangeSpec := { name := "fnRaces", fn := fun _ => fun
  | [d] => { results := [.lit (.bool false)], args := [d] }
  | _ => none }
def FnRacesWrongFalsely : Prop := fnRacesRow.holds Try.pinned (OpenSpec.ofChange fnRacesWrong)

/-- 'laws.FnRacesOfCounts': WHATEVER THE INPUT: true; the input reads as it did. -/
def fnRacesOfCountsSpec : ChangeSpec := { name := "fnRacesOfCounts", fn := fun _ => fun
  | [d] => { results := [.lit (.bool true)], args := [d] }
  | _ => none }
def fnRacesOfCountsRow : OpenClaim := { program := "ytgbjengnkbomoaa", sum := "86808c7eda1d1bb03c28b14b8aef0bfe805076c4d125136f20501a9960e5cbbd", func := "loop.example/g00281/laws.FnRacesOfCounts", spec := "fnRacesOfCounts", unfollowed := true, recurses := true, apart := false }
def FnRacesOfCountsSaid : Prop := fnRacesOfCountsRow.holds Try.pinned (OpenSpec.ofChange fnRacesOfCountsSpec)

/-- ITS FALSE NEIGHBOUR: 'it returns false'. Refute it at one input. -/
def fnRacesOfCountsWrong : ChangeSpec := { name := "fnRacesOfCounts", fn := fun _ => fun
  | [d] => { results := [.lit (.bool false)], args := [d] }
  | _ => none }
def FnRacesOfCountsWrongFalsely : Prop := fnRacesOfCountsRow.holds Try.pinned (OpenSpec.ofChange fnRacesOfCountsWrong)

/- THE SECOND FORM. 'bulk': how many values and letters a reading holds, each counted each time it is reached (what is shared counts as often as it is met; a slice's spare places count too). A statement '..UptoSaid' is the law's where the arguments, and the package variables that the reading takes, are together of bulk at most 1048576: NARROWER than '..Said'. Prove '..Said' where nothing that the law and all that it calls make is longer than what came in: it says more and counts as full. Else prove '..UptoSaid'. A law counts once. -/
mutual
def uptoBulk {H : Type} : DataW H → Nat
  | .lit (.string bytes) => bytes.length + 1
  | .lit _ => 1
  | .nil => 1
  | .ptr d => uptoBulk d + 1
  | .slice elems spare => uptoBulkAll elems + uptoBulkAll spare + 1
  | .agg parts => uptoBulkAll parts + 1
  | .iface _ d => uptoBulk d + 1
  | .map entries => uptoBulkEntries entries + 1
  | .held _ => 1
def uptoBulkAll {H : Type} : List (DataW H) → Nat
  | [] => 0
  | d :: r => uptoBulk d + uptoBulkAll r
def uptoBulkEntries {H : Type} : List (Lit × DataW H) → Nat
  | [] => 0
  | x :: r => uptoBulkEntry x + uptoBulkEntries r
def uptoBulkEntry {H : Type} : Lit × DataW H → Nat
  | (.string bytes, d) => bytes.length + uptoBulk d + 1
  | (_, d) => uptoBulk d + 1
 end
def uptoSmall : (H : Type) → List (DataW H) → Bool := fun _ ds => decide (uptoBulkAll ds ≤ 1048576)
def OpenSpec.upto (s : _root_.Go.ChangeSpec) : _root_.Go.OpenSpec := { _root_.Go.OpenSpec.ofChange s with cond := some uptoSmall }

/-- 'laws.FnByHart', WHERE WHAT IT READS IS OF BULK AT MOST 1048576: true; the input reads as it did. -/
def fnByHartUptoRow : OpenClaim := { program := "ytgbjengnkbomoaa", sum := "86808c7eda1d1bb03c28b14b8aef0bfe805076c4d125136f20501a9960e5cbbd", func := "loop.example/g00281/laws.FnByHart", spec := "fnByHart", apart := false, narrowed := true }
def FnByHartUptoSaid : Prop := fnByHartUptoRow.holds Try.pinned (OpenSpec.upto fnByHartSpec)

/-- 'laws.FnClocksOf', WHERE WHAT IT READS IS OF BULK AT MOST 1048576: true; the input reads as it did. -/
def fnClocksOfUptoRow : OpenClaim := { program := "ytgbjengnkbomoaa", sum := "86808c7eda1d1bb03c28b14b8aef0bfe805076c4d125136f20501a9960e5cbbd", func := "loop.example/g00281/laws.FnClocksOf", spec := "fnClocksOf", unfollowed := true, recurses := true, apart := false, narrowed := true }
def FnClocksOfUptoSaid : Prop := fnClocksOfUptoRow.holds Try.pinned (OpenSpec.upto fnClocksOfSpec)

/-- 'laws.FnKnows', WHERE WHAT IT READS IS OF BULK AT MOST 1048576: true; the input reads as it did. -/
def fnKnowsUptoRow : OpenClaim := { program := "ytgbjengnkbomoaa", sum := "86808c7eda1d1bb03c28b14b8aef0bfe805076c4d125136f20501a9960e5cbbd", func := "loop.example/g00281/laws.FnKnows", spec := "fnKnows", unfollowed := true, recurses := true, apart := false, narrowed := true }
def FnKnowsUptoSaid : Prop := fnKnowsUptoRow.holds Try.pinned (OpenSpec.upto fnKnowsSpec)

/-- 'laws.FnRaces', WHERE WHAT IT READS IS OF BULK AT MOST 1048576: true; the input reads as it did. -/
def fnRacesUptoRow : OpenClaim := { program := "ytgbjengnkbomoaa", sum := "86808c7eda1d1bb03c28b14b8aef0bfe805076c4d125136f20501a9960e5cbbd", func := "loop.example/g00281/laws.FnRaces", spec := "fnRaces", unfollowed := true, recurses := true, apart := false, narrowed := true }
def FnRacesUptoSaid : Prop := fnRacesUptoRow.holds Try.pinned (OpenSpec.upto fnRacesSpec)

/-- 'laws.FnRacesOfCounts', WHERE WHAT IT READS IS OF BULK AT MOST 1048576: true; the input reads as it did. -/
def fnRacesOfCountsUptoRow : OpenClaim := { program := "ytgbjengnkbomoaa", sum := "86808c7eda1d1bb03c28b14b8aef0bfe805076c4d125136f20501a9960e5cbbd", func := "loop.example/g00281/laws.FnRacesOfCounts", spec := "fnRacesOfCounts", unfollowed := true, recurses := true, apart := false, narrowed := true }
def FnRacesOfCountsUptoSaid : Prop := fnRacesOfCountsUptoRow.holds Try.pinned (OpenSpec.upto fnRacesOfCountsSpec)

end Rows
end Go.Proofs.Ytgbjengnkbomoaa
