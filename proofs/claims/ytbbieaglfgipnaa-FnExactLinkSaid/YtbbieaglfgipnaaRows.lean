/-
  No cell of these rows narrows 'for every input' (looked for: loops, veiled, ifaces, maps, wideKeys, modest, calm, conditions, laid).
  DERIVED. THE GIVEN ROWS OF THIS SEAT. 11 by the template 'for every input the law returns true; each argument reads behind the call as it read before'; 0 by the template 'total and deterministic' (their statements: YtbbieaglfgipnaaTotals.lean).
  GIVEN WITH THE SEED: the statements are not yours to turn. If you find one false, say at which input.
  Laid BY PROGRAM, IN A SANDBOX (cutbox-rows.mjs): the forced cells as the released guide's own fill.sh prints them over the translation 4931a077d2685e04… (all of the seat's roots in one cut). By AI agents, Wed Nov 11 2026. No macro, syntax, notation, axiom, sorry.
-/
import Derived.Test.YtbbieaglfgipnaaChecked
import GoSem.Claim
import GoSem.ClaimJoined
import GoSem.ClaimMapViews
import Derived.JoinedTies
import Derived.KernelRfl
namespace Go.Proofs.Ytbbieaglfgipnaa
/- THE CELL 'sum', in the pinned program and in every row, IS THE sha256 OF THE DUMP (.gsa) THAT YtbbieaglfgipnaaProg.lean LOADS. Nothing in Lean hashes anything: it is a label: what it is worth is what the hold of that sum in a sandbox is worth. -/
noncomputable def Try.pinned : Pinned := { name := "ytbbieaglfgipnaa", sum := "4931a077d2685e048602284e8a01dac334963915c1cb6d958c1d493ac58a5ed9", checked := Try.checked }
namespace Rows
def none {H : Type} : Left H := { results := [], args := [] }

/-- 'laws.FnExactByHart': WHATEVER THE INPUT: true; the input reads as it did. -/
def fnExactByHartSpec : ChangeSpec := { name := "fnExactByHart", fn := fun _ => fun
  | [d1, d2] => { results := [.lit (.bool true)], args := [d1, d2] }
  | _ => none }
def fnExactByHartRow : OpenClaim := { program := "ytbbieaglfgipnaa", sum := "4931a077d2685e048602284e8a01dac334963915c1cb6d958c1d493ac58a5ed9", func := "loop.example/g00281/laws.FnExactByHart", spec := "fnExactByHart", apart := false }
def FnExactByHartSaid : Prop := fnExactByHartRow.holds Try.pinned (OpenSpec.ofChange fnExactByHartSpec)

/-- ITS FALSE NEIGHBOUR: 'it returns false'. Refute it at one input. -/
def fnExactByHartWrong : ChangeSpec := { name := "fnExactByHart", fn := fun _ => fun
  | [d1, d2] => { results := [.lit (.bool false)], args := [d1, d2] }
  | _ => none }
def FnExactByHartWrongFalsely : Prop := fnExactByHartRow.holds Try.pinned (OpenSpec.ofChange fnExactByHartWrong)

/-- 'laws.FnExactSeqOk': WHATEVER THE INPUT: true; the input reads as it did. -/
def fnExactSeqOkSpec : ChangeSpec := { name := "fnExactSeqOk", fn := fun _ => fun
  | [d1, d2] => { results := [.lit (.bool true)], args := [d1, d2] }
  | _ => none }
def fnExactSeqOkRow : OpenClaim := { program := "ytbbieaglfgipnaa", sum := "4931a077d2685e048602284e8a01dac334963915c1cb6d958c1d493ac58a5ed9", func := "loop.example/g00281/laws.FnExactSeqOk", spec := "fnExactSeqOk", unfollowed := true, recurses := true, apart := false }
def FnExactSeqOkSaid : Prop := fnExactSeqOkRow.holds Try.pinned (OpenSpec.ofChange fnExactSeqOkSpec)

/-- ITS FALSE NEIGHBOUR: 'it returns false'. Refute it at one input. -/
def fnExactSeqOkWrong : ChangeSpec := { name := "fnExactSeqOk", fn := fun _ => fun
  | [d1, d2] => { results := [.lit (.bool false)], args := [d1, d2] }
  | _ => none }
def FnExactSeqOkWrongFalsely : Prop := fnExactSeqOkRow.holds Try.pinned (OpenSpec.ofChange fnExactSeqOkWrong)

/-- 'laws.FnExactSaveBytes': WHATEVER THE INPUT: true; the input reads as it did. -/
def fnExactSaveBytesSpec : ChangeSpec := { name := "fnExactSaveBytes", fn := fun _ => fun
  | [d1, d2] => { results := [.lit (.bool true)], args := [d1, d2] }
  | _ => none }
def fnExactSaveBytesRow : OpenClaim := { program := "ytbbieaglfgipnaa", sum := "4931a077d2685e048602284e8a01dac334963915c1cb6d958c1d493ac58a5ed9", func := "loop.example/g00281/laws.FnExactSaveBytes", spec := "fnExactSaveBytes", unfollowed := true, recurses := true, apart := false }
def FnExactSaveBytesSaid : Prop := fnExactSaveBytesRow.holds Try.pinned (OpenSpec.ofChange fnExactSaveBytesSpec)

/-- ITS FALSE NEIGHBOUR: 'it returns false'. Refute it at one input. -/
def fnExactSaveBytesWrong : ChangeSpec := { name := "fnExactSaveBytes", fn := fun _ => fun
  | [d1, d2] => { results := [.lit (.bool false)], args := [d1, d2] }
  | _ => none }
def FnExactSaveBytesWrongFalsely : Prop := fnExactSaveBytesRow.holds Try.pinned (OpenSpec.ofChange fnExactSaveBytesWrong)

/-- 'laws.FnExactSaveOf': WHATEVER THE INPUT: true; the input reads as it did. -/
def fnExactSaveOfSpec : ChangeSpec := { name := "fnExactSaveOf", fn := fun _ => fun
  | [d] => { results := [.lit (.bool true)], args := [d] }
  | _ => none }
def fnExactSaveOfRow : OpenClaim := { program := "ytbbieaglfgipnaa", sum := "4931a077d2685e048602284e8a01dac334963915c1cb6d958c1d493ac58a5ed9", func := "loop.example/g00281/laws.FnExactSaveOf", spec := "fnExactSaveOf", unfollowed := true, recurses := true, apart := false }
def FnExactSaveOfSaid : Prop := fnExactSaveOfRow.holds Try.pinned (OpenSpec.ofChange fnExactSaveOfSpec)

/-- ITS FALSE NEIGHBOUR: 'it returns false'. Refute it at one input. -/
def fnExactSaveOfWrong : ChangeSpec := { name := "fnExactSaveOf", fn := fun _ => fun
  | [d] => { results := [.lit (.bool false)], args := [d] }
  | _ => none }
def FnExactSaveOfWrongFalsely : Prop := fnExactSaveOfRow.holds Try.pinned (OpenSpec.ofChange fnExactSaveOfWrong)

/-- 'laws.FnExactLayout': WHATEVER THE INPUT: true; the input reads as it did. -/
def fnExactLayoutSpec : ChangeSpec := { name := "fnExactLayout", fn := fun _ => fun
  | [d] => { results := [.lit (.bool true)], args := [d] }
  | _ => none }
def fnExactLayoutRow : OpenClaim := { program := "ytbbieaglfgipnaa", sum := "4931a077d2685e048602284e8a01dac334963915c1cb6d958c1d493ac58a5ed9", func := "loop.example/g00281/laws.FnExactLayout", spec := "fnExactLayout", unfollowed := true, recurses := true, apart := false }
def FnExactLayoutSaid : Prop := fnExactLayoutRow.holds Try.pinned (OpenSpec.ofChange fnExactLayoutSpec)

/-- ITS FALSE NEIGHBOUR: 'it returns false'. Refute it at one input. -/
def fnExactLayoutWrong : ChangeSpec := { name := "fnExactLayout", fn := fun _ => fun
  | [d] => { results := [.lit (.bool false)], args := [d] }
  | _ => none }
def FnExactLayoutWrongFalsely : Prop := fnExactLayoutRow.holds Try.pinned (OpenSpec.ofChange fnExactLayoutWrong)

/-- 'laws.FnExactLink': WHATEVER THE INPUT: true; the input reads as it did. -/
def fnExactLinkSpec : ChangeSpec := { name := "fnExactLink", fn := fun _ => fun
  | [d] => { results := [.lit (.bool true)], args := [d] }
  | _ => none }
def fnExactLinkRow : OpenClaim := { program := "ytbbieaglfgipnaa", sum := "4931a077d2685e048602284e8a01dac334963915c1cb6d958c1d493ac58a5ed9", func := "loop.example/g00281/laws.FnExactLink", spec := "fnExactLink", unfollowed := true, recurses := true, apart := false }
def FnExactLinkSaid : Prop := fnExactLinkRow.holds Try.pinned (OpenSpec.ofChange fnExactLinkSpec)

/-- ITS FALSE NEIGHBOUR: 'it returns false'. Refute it at one input. -/
def fnExactLinkWrong : ChangeSpec := { name := "fnExactLink", fn := fun _ => fun
  | [d] => { results := [.lit (.bool false)], args := [d] }
  | _ => none }
def FnExactLinkWrongFalsely : Prop := fnExactLinkRow.holds Try.pinned (OpenSpec.ofChange fnExactLinkWrong)

/-- 'laws.FnExactNextOf': WHATEVER THE INPUT: true; the input reads as it did. -/
def fnExactNextOfSpec : ChangeSpec := { name := "fnExactNextOf", fn := fun _ => fun
  | [d1, d2] => { results := [.lit (.bool true)], args := [d1, d2] }
  | _ => none }
def fnExactNextOfRow : OpenClaim := { program := "ytbbieaglfgipnaa", sum := "4931a077d2685e048602284e8a01dac334963915c1cb6d958c1d493ac58a5ed9", func := "loop.example/g00281/laws.FnExactNextOf", spec := "fnExactNextOf", unfollowed := true, recurses := true, apart := false }
def FnExactNextOfSaid : Prop := fnExactNextOfRow.holds Try.pinned (OpenSpec.ofChange fnExactNextOfSpec)

/-- ITS FALSE NEIGHBOUR: 'it returns false'. Refute it at one input. -/
def fnExactNextOfWrong : ChangeSpec := { name := "fnExactNextOf", fn := fun _ => fun
  | [d1, d2] => { results := [.lit (.bool false)], args := [d1, d2] }
  | _ => none }
def FnExactNextOfWrongFalsely : Prop := fnExactNextOfRow.holds Try.pinned (OpenSpec.ofChange fnExactNextOfWrong)

/-- 'laws.FnExactLeadsTo': WHATEVER THE INPUT: true; the input reads as it did. -/
def fnExactLeadsToSpec : ChangeSpec := { name := "fnExactLeadsTo", fn := fun _ => fun
  | [d1, d2, d3] => { results := [.lit (.bool true)], args := [d1, d2, d3] }
  | _ => none }
def fnExactLeadsToRow : OpenClaim := { program := "ytbbieaglfgipnaa", sum := "4931a077d2685e048602284e8a01dac334963915c1cb6d958c1d493ac58a5ed9", func := "loop.example/g00281/laws.FnExactLeadsTo", spec := "fnExactLeadsTo", unfollowed := true, recurses := true, apart := false }
def FnExactLeadsToSaid : Prop := fnExactLeadsToRow.holds Try.pinned (OpenSpec.ofChange fnExactLeadsToSpec)

/-- ITS FALSE NEIGHBOUR: 'it returns false'. Refute it at one input. -/
def fnExactLeadsToWrong : ChangeSpec := { name := "fnExactLeadsTo", fn := fun _ => fun
  | [d1, d2, d3] => { results := [.lit (.bool false)], args := [d1, d2, d3] }
  | _ => none }
def FnExactLeadsToWrongFalsely : Prop := fnExactLeadsToRow.holds Try.pinned (OpenSpec.ofChange fnExactLeadsToWrong)

/-- 'laws.FnExactLoopsFrom': WHATEVER THE INPUT: true; the input reads as it did. -/
def fnExactLoopsFromSpec : ChangeSpec := { name := "fnExactLoopsFrom", fn := fun _ => fun
  | [d1, d2] => { results := [.lit (.bool true)], args := [d1, d2] }
  | _ => none }
def fnExactLoopsFromRow : OpenClaim := { program := "ytbbieaglfgipnaa", sum := "4931a077d2685e048602284e8a01dac334963915c1cb6d958c1d493ac58a5ed9", func := "loop.example/g00281/laws.FnExactLoopsFrom", spec := "fnExactLoopsFrom", unfollowed := true, recurses := true, apart := false }
def FnExactLoopsFromSaid : Prop := fnExactLoopsFromRow.holds Try.pinned (OpenSpec.ofChange fnExactLoopsFromSpec)

/-- ITS FALSE NEIGHBOUR: 'it returns false'. Refute it at one input. -/
def fnExactLoopsFromWrong : ChangeSpec := { name := "fnExactLoopsFrom", fn := fun _ => fun
  | [d1, d2] => { results := [.lit (.bool false)], args := [d1, d2] }
  | _ => none }
def FnExactLoopsFromWrongFalsely : Prop := fnExactLoopsFromRow.holds Try.pinned (OpenSpec.ofChange fnExactLoopsFromWrong)

/-- 'laws.FnExactReachOf': WHATEVER THE INPUT: true; the input reads as it did. -/
def fnExactReachOfSpec : ChangeSpec := { name := "fnExactReachOf", fn := fun _ => fun
  | [d1, d2] => { results := [.lit (.bool true)], args := [d1, d2] }
  | _ => none }
def fnExactReachOfRow : OpenClaim := { program := "ytbbieaglfgipnaa", sum := "4931a077d2685e048602284e8a01dac334963915c1cb6d958c1d493ac58a5ed9", func := "loop.example/g00281/laws.FnExactReachOf", spec := "fnExactReachOf", unfollowed := true, recurses := true, apart := false }
def FnExactReachOfSaid : Prop := fnExactReachOfRow.holds Try.pinned (OpenSpec.ofChange fnExactReachOfSpec)

/-- ITS FALSE NEIGHBOUR: 'it returns false'. Refute it at one input. -/
def fnExactReachOfWrong : ChangeSpec := { name := "fnExactReachOf", fn := fun _ => fun
  | [d1, d2] => { results := [.lit (.bool false)], args := [d1, d2] }
  | _ => none }
def FnExactReachOfWrongFalsely : Prop := fnExactReachOfRow.holds Try.pinned (OpenSpec.ofChange fnExactReachOfWrong)

/-- 'laws.FnExactWritesFrom': WHATEVER THE INPUT: true; the input reads as it did. -/
def fnExactWritesFromSpec : ChangeSpec := { name := "fnExactWritesFrom", fn := fun _ => fun
  | [d1, d2] => { results := [.lit (.bool true)], args := [d1, d2] }
  | _ => none }
def fnExactWritesFromRow : OpenClaim := { program := "ytbbieaglfgipnaa", sum := "4931a077d2685e048602284e8a01dac334963915c1cb6d958c1d493ac58a5ed9", func := "loop.example/g00281/laws.FnExactWritesFrom", spec := "fnExactWritesFrom", unfollowed := true, recurses := true, apart := false }
def FnExactWritesFromSaid : Prop := fnExactWritesFromRow.holds Try.pinned (OpenSpec.ofChange fnExactWritesFromSpec)

/-- ITS FALSE NEIGHBOUR: 'it returns false'. Refute it at one input. -/
def fnExactWritesFromWrong : ChangeSpec := { name := "fnExactWritesFrom", fn := fun _ => fun
  | [d1, d2] => { results := [.lit (.bool false)], args := [d1, d2] }
  | _ => none }
def FnExactWritesFromWrongFalsely : Prop := fnExactWritesFromRow.holds Try.pinned (OpenSpec.ofChange fnExactWritesFromWrong)

/- THE SECOND FORM. 'bulk': how many values and letters a reading holds, each counted each time it is reached (what is shared counts as often as it is met; a slice's spare places count too). A statement '..UptoSaid' is the law's where the arguments, and the package variables that the reading takes, are together of bulk at most 1048576: NARROWER than '..Said'. Prove '..Said' where nothing that the law and all that it calls make is longer than what came in: it says more and counts as full. Else prove '..UptoSaid'. A law counts once. -/
mutual
def uptoBulk {H : Type} : DataW H → Nat
  | .lit (.string bytes) => bytes.length + 1
  | .lit _ => 1
  | .nil => 1
  | .ptr d => uptoBulk d + 1
  | .slice elems spare => uptoBulkAll elems + uptoBulkAll spare + 1
  | .agg parts => uptoBulkAll parts + 1
  | .iface _ d => uptoBulk d + 1
  | .map entries => uptoBulkEntries entries + 1
  | .held _ => 1
def uptoBulkAll {H : Type} : List (DataW H) → Nat
  | [] => 0
  | d :: r => uptoBulk d + uptoBulkAll r
def uptoBulkEntries {H : Type} : List (Lit × DataW H) → Nat
  | [] => 0
  | x :: r => uptoBulkEntry x + uptoBulkEntries r
def uptoBulkEntry {H : Type} : Lit × DataW H → Nat
  | (.string bytes, d) => bytes.length + uptoBulk d + 1
  | (_, d) => uptoBulk d + 1
 end
def uptoSmall : (H : Type) → List (DataW H) → Bool := fun _ ds => decide (uptoBulkAll ds ≤ 1048576)
def OpenSpec.upto (s : _root_.Go.ChangeSpec) : _root_.Go.OpenSpec := { _root_.Go.OpenSpec.ofChange s with cond := some uptoSmall }

/-- 'laws.FnExactByHart', WHERE WHAT IT READS IS OF BULK AT MOST 1048576: true; the input reads as it did. -/
def fnExactByHartUptoRow : OpenClaim := { program := "ytbbieaglfgipnaa", sum := "4931a077d2685e048602284e8a01dac334963915c1cb6d958c1d493ac58a5ed9", func := "loop.example/g00281/laws.FnExactByHart", spec := "fnExactByHart", apart := false, narrowed := true }
def FnExactByHartUptoSaid : Prop := fnExactByHartUptoRow.holds Try.pinned (OpenSpec.upto fnExactByHartSpec)

/-- 'laws.FnExactSeqOk', WHERE WHAT IT READS IS OF BULK AT MOST 1048576: true; the input reads as it did. -/
def fnExactSeqOkUptoRow : OpenClaim := { program := "ytbbieaglfgipnaa", sum := "4931a077d2685e048602284e8a01dac334963915c1cb6d958c1d493ac58a5ed9", func := "loop.example/g00281/laws.FnExactSeqOk", spec := "fnExactSeqOk", unfollowed := true, recurses := true, apart := false, narrowed := true }
def FnExactSeqOkUptoSaid : Prop := fnExactSeqOkUptoRow.holds Try.pinned (OpenSpec.upto fnExactSeqOkSpec)

/-- 'laws.FnExactSaveBytes', WHERE WHAT IT READS IS OF BULK AT MOST 1048576: true; the input reads as it did. -/
def fnExactSaveBytesUptoRow : OpenClaim := { program := "ytbbieaglfgipnaa", sum := "4931a077d2685e048602284e8a01dac334963915c1cb6d958c1d493ac58a5ed9", func := "loop.example/g00281/laws.FnExactSaveBytes", spec := "fnExactSaveBytes", unfollowed := true, recurses := true, apart := false, narrowed := true }
def FnExactSaveBytesUptoSaid : Prop := fnExactSaveBytesUptoRow.holds Try.pinned (OpenSpec.upto fnExactSaveBytesSpec)

/-- 'laws.FnExactSaveOf', WHERE WHAT IT READS IS OF BULK AT MOST 1048576: true; the input reads as it did. -/
def fnExactSaveOfUptoRow : OpenClaim := { program := "ytbbieaglfgipnaa", sum := "4931a077d2685e048602284e8a01dac334963915c1cb6d958c1d493ac58a5ed9", func := "loop.example/g00281/laws.FnExactSaveOf", spec := "fnExactSaveOf", unfollowed := true, recurses := true, apart := false, narrowed := true }
def FnExactSaveOfUptoSaid : Prop := fnExactSaveOfUptoRow.holds Try.pinned (OpenSpec.upto fnExactSaveOfSpec)

/-- 'laws.FnExactLayout', WHERE WHAT IT READS IS OF BULK AT MOST 1048576: true; the input reads as it did. -/
def fnExactLayoutUptoRow : OpenClaim := { program := "ytbbieaglfgipnaa", sum := "4931a077d2685e048602284e8a01dac334963915c1cb6d958c1d493ac58a5ed9", func := "loop.example/g00281/laws.FnExactLayout", spec := "fnExactLayout", unfollowed := true, recurses := true, apart := false, narrowed := true }
def FnExactLayoutUptoSaid : Prop := fnExactLayoutUptoRow.holds Try.pinned (OpenSpec.upto fnExactLayoutSpec)

/-- 'laws.FnExactLink', WHERE WHAT IT READS IS OF BULK AT MOST 1048576: true; the input reads as it did. -/
def fnExactLinkUptoRow : OpenClaim := { program := "ytbbieaglfgipnaa", sum := "4931a077d2685e048602284e8a01dac334963915c1cb6d958c1d493ac58a5ed9", func := "loop.example/g00281/laws.FnExactLink", spec := "fnExactLink", unfollowed := true, recurses := true, apart := false, narrowed := true }
def FnExactLinkUptoSaid : Prop := fnExactLinkUptoRow.holds Try.pinned (OpenSpec.upto fnExactLinkSpec)

/-- 'laws.FnExactNextOf', WHERE WHAT IT READS IS OF BULK AT MOST 1048576: true; the input reads as it did. -/
def fnExactNextOfUptoRow : OpenClaim := { program := "ytbbieaglfgipnaa", sum := "4931a077d2685e048602284e8a01dac334963915c1cb6d958c1d493ac58a5ed9", func := "loop.example/g00281/laws.FnExactNextOf", spec := "fnExactNextOf", unfollowed := true, recurses := true, apart := false, narrowed := true }
def FnExactNextOfUptoSaid : Prop := fnExactNextOfUptoRow.holds Try.pinned (OpenSpec.upto fnExactNextOfSpec)

/-- 'laws.FnExactLeadsTo', WHERE WHAT IT READS IS OF BULK AT MOST 1048576: true; the input reads as it did. -/
def fnExactLeadsToUptoRow : OpenClaim := { program := "ytbbieaglfgipnaa", sum := "4931a077d2685e048602284e8a01dac334963915c1cb6d958c1d493ac58a5ed9", func := "loop.example/g00281/laws.FnExactLeadsTo", spec := "fnExactLeadsTo", unfollowed := true, recurses := true, apart := false, narrowed := true }
def FnExactLeadsToUptoSaid : Prop := fnExactLeadsToUptoRow.holds Try.pinned (OpenSpec.upto fnExactLeadsToSpec)

/-- 'laws.FnExactLoopsFrom', WHERE WHAT IT READS IS OF BULK AT MOST 1048576: true; the input reads as it did. -/
def fnExactLoopsFromUptoRow : OpenClaim := { program := "ytbbieaglfgipnaa", sum := "4931a077d2685e048602284e8a01dac334963915c1cb6d958c1d493ac58a5ed9", func := "loop.example/g00281/laws.FnExactLoopsFrom", spec := "fnExactLoopsFrom", unfollowed := true, recurses := true, apart := false, narrowed := true }
def FnExactLoopsFromUptoSaid : Prop := fnExactLoopsFromUptoRow.holds Try.pinned (OpenSpec.upto fnExactLoopsFromSpec)

/-- 'laws.FnExactReachOf', WHERE WHAT IT READS IS OF BULK AT MOST 1048576: true; the input reads as it did. -/
def fnExactReachOfUptoRow : OpenClaim := { program := "ytbbieaglfgipnaa", sum := "4931a077d2685e048602284e8a01dac334963915c1cb6d958c1d493ac58a5ed9", func := "loop.example/g00281/laws.FnExactReachOf", spec := "fnExactReachOf", unfollowed := true, recurses := true, apart := false, narrowed := true }
def FnExactReachOfUptoSaid : Prop := fnExactReachOfUptoRow.holds Try.pinned (OpenSpec.upto fnExactReachOfSpec)

/-- 'laws.FnExactWritesFrom', WHERE WHAT IT READS IS OF BULK AT MOST 1048576: true; the input reads as it did. -/
def fnExactWritesFromUptoRow : OpenClaim := { program := "ytbbieaglfgipnaa", sum := "4931a077d2685e048602284e8a01dac334963915c1cb6d958c1d493ac58a5ed9", func := "loop.example/g00281/laws.FnExactWritesFrom", spec := "fnExactWritesFrom", unfollowed := true, recurses := true, apart := false, narrowed := true }
def FnExactWritesFromUptoSaid : Prop := fnExactWritesFromUptoRow.holds Try.pinned (OpenSpec.upto fnExactWritesFromSpec)

end Rows
end Go.Proofs.Ytbbieaglfgipnaa
