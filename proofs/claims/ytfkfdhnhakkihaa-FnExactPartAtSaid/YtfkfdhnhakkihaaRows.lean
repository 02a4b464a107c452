/-
  No cell of these rows narrows 'for every input' (looked for: loops, veiled, ifaces, maps, wideKeys, modest, calm, conditions, laid).
  DERIVED. THE GIVEN ROWS OF THIS SEAT. 12 by the template 'for every input the law returns true; each argument reads behind the call as it read before'; 0 by the template 'total and deterministic' (their statements: YtfkfdhnhakkihaaTotals.lean).
  GIVEN WITH THE SEED: the statements are not yours to turn. If you find one false, say at which input.
  Laid BY PROGRAM, IN A SANDBOX (cutbox-rows.mjs): the forced cells as the released guide's own fill.sh prints them over the translation 4102680f1c1d07d7… (all of the seat's roots in one cut). By AI agents, Wed Nov 11 2026. No macro, syntax, notation, axiom, sorry.
-/
import Derived.Test.YtfkfdhnhakkihaaChecked
import GoSem.Claim
import GoSem.ClaimJoined
import GoSem.ClaimMapViews
import Derived.JoinedTies
import Derived.KernelRfl
namespace Go.Proofs.Ytfkfdhnhakkihaa
/- THE CELL 'sum', in the pinned program and in every row, IS THE sha256 OF THE DUMP (.gsa) THAT YtfkfdhnhakkihaaProg.lean LOADS. Nothing in Lean hashes anything: it is a label: what it is worth is what the hold of that sum in a sandbox is worth. -/
noncomputable def Try.pinned : Pinned := { name := "ytfkfdhnhakkihaa", sum := "4102680f1c1d07d7b5dd2555dd59a440e0d43504530bb9b9678a05b7ca288953", checked := Try.checked }
namespace Rows
def none {H : Type} : Left H := { results := [], args := [] }

/-- 'laws.FnExactLoseCode': WHATEVER THE INPUT: true; the input reads as it did. -/
def fnExactLoseCodeSpec : ChangeSpec := { name := "fnExactLoseCode", fn := fun _ => fun
  | [d1, d2, d3] => { results := [.lit (.bool true)], args := [d1, d2, d3] }
  | _ => none }
def fnExactLoseCodeRow : OpenClaim := { program := "ytfkfdhnhakkihaa", sum := "4102680f1c1d07d7b5dd2555dd59a440e0d43504530bb9b9678a05b7ca288953", func := "loop.example/g00281/laws.FnExactLoseCode", spec := "fnExactLoseCode", apart := false }
def FnExactLoseCodeSaid : Prop := fnExactLoseCodeRow.holds Try.pinned (OpenSpec.ofChange fnExactLoseCodeSpec)

/-- ITS FALSE NEIGHBOUR: 'it returns false'. Refute it at one input. -/
def fnExactLoseCodeWrong : ChangeSpec := { name := "fnExactLoseCode", fn := fun _ => fun
  | [d1, d2, d3] => { results := [.lit (.bool false)], args := [d1, d2, d3] }
  | _ => none }
def FnExactLoseCodeWrongFalsely : Prop := fnExactLoseCodeRow.holds Try.pinned (OpenSpec.ofChange fnExactLoseCodeWrong)

/-- 'laws.FnExactHartOf': WHATEVER THE INPUT: true; the input reads as it did. -/
def fnExactHartOfSpec : ChangeSpec := { name := "fnExactHartOf", fn := fun _ => fun
  | [d] => { results := [.lit (.bool true)], args := [d] }
  | _ => none }
def fnExactHartOfRow : OpenClaim := { program := "ytfkfdhnhakkihaa", sum := "4102680f1c1d07d7b5dd2555dd59a440e0d43504530bb9b9678a05b7ca288953", func := "loop.example/g00281/laws.FnExactHartOf", spec := "fnExactHartOf", unfollowed := true, recurses := true, apart := false }
def FnExactHartOfSaid : Prop := fnExactHartOfRow.holds Try.pinned (OpenSpec.ofChange fnExactHartOfSpec)

/-- ITS FALSE NEIGHBOUR: 'it returns false'. Refute it at one input. -/
def fnExactHartOfWrong : ChangeSpec := { name := "fnExactHartOf", fn := fun _ => fun
  | [d] => { results := [.lit (.bool false)], args := [d] }
  | _ => none }
def FnExactHartOfWrongFalsely : Prop := fnExactHartOfRow.holds Try.pinned (OpenSpec.ofChange fnExactHartOfWrong)

/-- 'laws.FnExactHartBytes': WHATEVER THE INPUT: true; the input reads as it did. -/
def fnExactHartBytesSpec : ChangeSpec := { name := "fnExactHartBytes", fn := fun _ => fun
  | [d] => { results := [.lit (.bool true)], args := [d] }
  | _ => none }
def fnExactHartBytesRow : OpenClaim := { program := "ytfkfdhnhakkihaa", sum := "4102680f1c1d07d7b5dd2555dd59a440e0d43504530bb9b9678a05b7ca288953", func := "loop.example/g00281/laws.FnExactHartBytes", spec := "fnExactHartBytes", unfollowed := true, recurses := true, apart := false }
def FnExactHartBytesSaid : Prop := fnExactHartBytesRow.holds Try.pinned (OpenSpec.ofChange fnExactHartBytesSpec)

/-- ITS FALSE NEIGHBOUR: 'it returns false'. Refute it at one input. -/
def fnExactHartBytesWrong : ChangeSpec := { name := "fnExactHartBytes", fn := fun _ => fun
  | [d] => { results := [.lit (.bool false)], args := [d] }
  | _ => none }
def FnExactHartBytesWrongFalsely : Prop := fnExactHartBytesRow.holds Try.pinned (OpenSpec.ofChange fnExactHartBytesWrong)

/-- 'laws.FnSeen': WHATEVER THE INPUT: true; the input reads as it did. -/
def fnSeenSpec : ChangeSpec := { name := "fnSeen", fn := fun _ => fun
  | [d] => { results := [.lit (.bool true)], args := [d] }
  | _ => none }
def fnSeenRow : OpenClaim := { program := "ytfkfdhnhakkihaa", sum := "4102680f1c1d07d7b5dd2555dd59a440e0d43504530bb9b9678a05b7ca288953", func := "loop.example/g00281/laws.FnSeen", spec := "fnSeen", inPlace := ["internal/abi.NoEscape", "internal/bytealg.MakeNoZero"], unfollowed := true, recurses := true, apart := false }
def FnSeenSaid : Prop := fnSeenRow.holds Try.pinned (OpenSpec.ofChange fnSeenSpec)

/-- ITS FALSE NEIGHBOUR: 'it returns false'. Refute it at one input. -/
def fnSeenWrong : ChangeSpec := { name := "fnSeen", fn := fun _ => fun
  | [d] => { results := [.lit (.bool false)], args := [d] }
  | _ => none }
def FnSeenWrongFalsely : Prop := fnSeenRow.holds Try.pinned (OpenSpec.ofChange fnSeenWrong)

/-- 'laws.FnExactMemText': WHATEVER THE INPUT: true; the input reads as it did. -/
def fnExactMemTextSpec : ChangeSpec := { name := "fnExactMemText", fn := fun _ => fun
  | [d] => { results := [.lit (.bool true)], args := [d] }
  | _ => none }
def fnExactMemTextRow : OpenClaim := { program := "ytfkfdhnhakkihaa", sum := "4102680f1c1d07d7b5dd2555dd59a440e0d43504530bb9b9678a05b7ca288953", func := "loop.example/g00281/laws.FnExactMemText", spec := "fnExactMemText", inPlace := ["internal/abi.NoEscape", "internal/bytealg.MakeNoZero"], unfollowed := true, recurses := true, apart := false }
def FnExactMemTextSaid : Prop := fnExactMemTextRow.holds Try.pinned (OpenSpec.ofChange fnExactMemTextSpec)

/-- ITS FALSE NEIGHBOUR: 'it returns false'. Refute it at one input. -/
def fnExactMemTextWrong : ChangeSpec := { name := "fnExactMemText", fn := fun _ => fun
  | [d] => { results := [.lit (.bool false)], args := [d] }
  | _ => none }
def FnExactMemTextWrongFalsely : Prop := fnExactMemTextRow.holds Try.pinned (OpenSpec.ofChange fnExactMemTextWrong)

/-- 'laws.FnExactByHart': WHATEVER THE INPUT: true; the input reads as it did. -/
def fnExactByHartSpec : ChangeSpec := { name := "fnExactByHart", fn := fun _ => fun
  | [d1, d2] => { results := [.lit (.bool true)], args := [d1, d2] }
  | _ => none }
def fnExactByHartRow : OpenClaim := { program := "ytfkfdhnhakkihaa", sum := "4102680f1c1d07d7b5dd2555dd59a440e0d43504530bb9b9678a05b7ca288953", func := "loop.example/g00281/laws.FnExactByHart", spec := "fnExactByHart", apart := false }
def FnExactByHartSaid : Prop := fnExactByHartRow.holds Try.pinned (OpenSpec.ofChange fnExactByHartSpec)

/-- ITS FALSE NEIGHBOUR: 'it returns false'. Refute it at one input. -/
def fnExactByHartWrong : ChangeSpec := { name := "fnExactByHart", fn := fun _ => fun
  | [d1, d2] => { results := [.lit (.bool false)], args := [d1, d2] }
  | _ => none }
def FnExactByHartWrongFalsely : Prop := fnExactByHartRow.holds Try.pinned (OpenSpec.ofChange fnExactByHartWrong)

/-- 'laws.FnExactTraceText': WHATEVER THE INPUT: true; the input reads as it did. -/
def fnExactTraceTextSpec : ChangeSpec := { name := "fnExactTraceText", fn := fun _ => fun
  | [d] => { results := [.lit (.bool true)], args := [d] }
  | _ => none }
def fnExactTraceTextRow : OpenClaim := { program := "ytfkfdhnhakkihaa", sum := "4102680f1c1d07d7b5dd2555dd59a440e0d43504530bb9b9678a05b7ca288953", func := "loop.example/g00281/laws.FnExactTraceText", spec := "fnExactTraceText", inPlace := ["internal/abi.NoEscape", "internal/bytealg.MakeNoZero"], recurses := true, apart := false }
def FnExactTraceTextSaid : Prop := fnExactTraceTextRow.holds Try.pinned (OpenSpec.ofChange fnExactTraceTextSpec)

/-- ITS FALSE NEIGHBOUR: 'it returns false'. Refute it at one input. -/
def fnExactTraceTextWrong : ChangeSpec := { name := "fnExactTraceText", fn := fun _ => fun
  | [d] => { results := [.lit (.bool false)], args := [d] }
  | _ => none }
def FnExactTraceTextWrongFalsely : Prop := fnExactTraceTextRow.holds Try.pinned (OpenSpec.ofChange fnExactTraceTextWrong)

/-- 'laws.FnExactPartAt': WHATEVER THE INPUT: true; the input reads as it did. -/
def fnExactPartAtSpec : ChangeSpec := { name := "fnExactPartAt", fn := fun _ => fun
  | [d1, d2] => { results := [.lit (.bool true)], args := [d1, d2] }
  | _ => none }
def fnExactPartAtRow : OpenClaim := { program := "ytfkfdhnhakkihaa", sum := "4102680f1c1d07d7b5dd2555dd59a440e0d43504530bb9b9678a05b7ca288953", func := "loop.example/g00281/laws.FnExactPartAt", spec := "fnExactPartAt", unfollowed := true, recurses := true, apart := false }
def FnExactPartAtSaid : Prop := fnExactPartAtRow.holds Try.pinned (OpenSpec.ofChange fnExactPartAtSpec)

/-- ITS FALSE NEIGHBOUR: 'it returns false'. Refute it at one input. -/
def fnExactPartAtWrong : ChangeSpec := { name := "fnExactPartAt", fn := fun _ => fun
  | [d1, d2] => { results := [.lit (.bool false)], args := [d1, d2] }
  | _ => none }
def FnExactPartAtWrongFalsely : Prop := fnExactPartAtRow.holds Try.pinned (OpenSpec.ofChange fnExactPartAtWrong)

/-- 'laws.FnExactSeqOk': WHATEVER THE INPUT: true; the input reads as it did. -/
def fnExactSeqOkSpec : ChangeSpec := { name := "fnExactSeqOk", fn := fun _ => fun
  | [d1, d2] => { results := [.lit (.bool true)], args := [d1, d2] }
  | _ => none }
def fnExactSeqOkRow : OpenClaim := { program := "ytfkfdhnhakkihaa", sum := "4102680f1c1d07d7b5dd2555dd59a440e0d43504530bb9b9678a05b7ca288953", func := "loop.example/g00281/laws.FnExactSeqOk", spec := "fnExactSeqOk", unfollowed := true, recurses := true, apart := false }
def FnExactSeqOkSaid : Prop := fnExactSeqOkRow.holds Try.pinned (OpenSpec.ofChange fnExactSeqOkSpec)

/-- ITS FALSE NEIGHBOUR: 'it returns false'. Refute it at one input. -/
def fnExactSeqOkWrong : ChangeSpec := { name := "fnExactSeqOk", fn := fun _ => fun
  | [d1, d2] => { results := [.lit (.bool false)], args := [d1, d2] }
  | _ => none }
def FnExactSeqOkWrongFalsely : Prop := fnExactSeqOkRow.holds Try.pinned (OpenSpec.ofChange fnExactSeqOkWrong)

/-- 'laws.FnExactSaveBytes': WHATEVER THE INPUT: true; the input reads as it did. -/
def fnExactSaveBytesSpec : ChangeSpec := { name := "fnExactSaveBytes", fn := fun _ => fun
  | [d1, d2] => { results := [.lit (.bool true)], args := [d1, d2] }
  | _ => none }
def fnExactSaveBytesRow : OpenClaim := { program := "ytfkfdhnhakkihaa", sum := "4102680f1c1d07d7b5dd2555dd59a440e0d43504530bb9b9678a05b7ca288953", func := "loop.example/g00281/laws.FnExactSaveBytes", spec := "fnExactSaveBytes", unfollowed := true, recurses := true, apart := false }
def FnExactSaveBytesSaid : Prop := fnExactSaveBytesRow.holds Try.pinned (OpenSpec.ofChange fnExactSaveBytesSpec)

/-- ITS FALSE NEIGHBOUR: 'it returns false'. Refute it at one input. -/
def fnExactSaveBytesWrong : ChangeSpec := { name := "fnExactSaveBytes", fn := fun _ => fun
  | [d1, d2] => { results := [.lit (.bool false)], args := [d1, d2] }
  | _ => none }
def FnExactSaveBytesWrongFalsely : Prop := fnExactSaveBytesRow.holds Try.pinned (OpenSpec.ofChange fnExactSaveBytesWrong)

/-- 'laws.FnExactSaveOf': WHATEVER THE INPUT: true; the input reads as it did. -/
def fnExactSaveOfSpec : ChangeSpec := { name := "fnExactSaveOf", fn := fun _ => fun
  | [d] => { results := [.lit (.bool true)], args := [d] }
  | _ => none }
def fnExactSaveOfRow : OpenClaim := { program := "ytfkfdhnhakkihaa", sum := "4102680f1c1d07d7b5dd2555dd59a440e0d43504530bb9b9678a05b7ca288953", func := "loop.example/g00281/laws.FnExactSaveOf", spec := "fnExactSaveOf", unfollowed := true, recurses := true, apart := false }
def FnExactSaveOfSaid : Prop := fnExactSaveOfRow.holds Try.pinned (OpenSpec.ofChange fnExactSaveOfSpec)

/-- ITS FALSE NEIGHBOUR: 'it returns false'. Refute it at one input. -/
def fnExactSaveOfWrong : ChangeSpec := { name := "fnExactSaveOf", fn := fun _ => fun
  | [d] => { results := [.lit (.bool false)], args := [d] }
  | _ => none }
def FnExactSaveOfWrongFalsely : Prop := fnExactSaveOfRow.holds Try.pinned (OpenSpec.ofChange fnExactSaveOfWrong)

/-- 'laws.FnAllCounts': WHATEVER THE INPUT: true; the input reads as it did. -/
def fnAllCountsSpec : ChangeSpec := { name := "fnAllCounts", fn := fun _ => fun
  | [d] => { results := [.lit (.bool true)], args := [d] }
  | _ => none }
def fnAllCountsRow : OpenClaim := { program := "ytfkfdhnhakkihaa", sum := "4102680f1c1d07d7b5dd2555dd59a440e0d43504530bb9b9678a05b7ca288953", func := "loop.example/g00281/laws.FnAllCounts", spec := "fnAllCounts", unfollowed := true, recurses := true, apart := false }
def FnAllCountsSaid : Prop := fnAllCountsRow.holds Try.pinned (OpenSpec.ofChange fnAllCountsSpec)

/-- ITS FALSE NEIGHBOUR: 'it returns false'. Refute it at one input. -/
def fnAllCountsWrong : ChangeSpec := { name := "fnAllCounts", fn := fun _ => fun
  | [d] => { results := [.lit (.bool false)], args := [d] }
  | _ => none }
def FnAllCountsWrongFalsely : Prop := fnAllCountsRow.holds Try.pinned (OpenSpec.ofChange fnAllCountsWrong)

/- THE SECOND FORM. 'bulk': how many values and letters a reading holds, each counted each time it is reached (what is shared counts as often as it is met; a slice's spare places count too). A statement '..UptoSaid' is the law's where the arguments, and the package variables that the reading takes, are together of bulk at most 1048576: NARROWER than '..Said'. Prove '..Said' where nothing that the law and all that it calls make is longer than what came in: it says more and counts as full. Else prove '..UptoSaid'. A law counts once. -/
mutual
def uptoBulk {H : Type} : DataW H → Nat
  | .lit (.string bytes) => bytes.length + 1
  | .lit _ => 1
  | .nil => 1
  | .ptr d => uptoBulk d + 1
  | .slice elems spare => uptoBulkAll elems + uptoBulkAll spare + 1
  | .agg parts => uptoBulkAll parts + 1
  | .iface _ d => uptoBulk d + 1
  | .map entries => uptoBulkEntries entries + 1
  | .held _ => 1
def uptoBulkAll {H : Type} : List (DataW H) → Nat
  | [] => 0
  | d :: r => uptoBulk d + uptoBulkAll r
def uptoBulkEntries {H : Type} : List (Lit × DataW H) → Nat
  | [] => 0
  | x :: r => uptoBulkEntry x + uptoBulkEntries r
def uptoBulkEntry {H : Type} : Lit × DataW H → Nat
  | (.string bytes, d) => bytes.length + uptoBulk d + 1
  | (_, d) => uptoBulk d + 1
 end
def uptoSmall : (H : Type) → List (DataW H) → Bool := fun _ ds => decide (uptoBulkAll ds ≤ 1048576)
def OpenSpec.upto (s : _root_.Go.ChangeSpec) : _root_.Go.OpenSpec := { _root_.Go.OpenSpec.ofChange s with cond := some uptoSmall }

/-- 'laws.FnExactLoseCode', WHERE WHAT IT READS IS OF BULK AT MOST 1048576: true; the input reads as it did. -/
def fnExactLoseCodeUptoRow : OpenClaim := { program := "ytfkfdhnhakkihaa", sum := "4102680f1c1d07d7b5dd2555dd59a440e0d43504530bb9b9678a05b7ca288953", func := "loop.example/g00281/laws.FnExactLoseCode", spec := "fnExactLoseCode", apart := false, narrowed := true }
def FnExactLoseCodeUptoSaid : Prop := fnExactLoseCodeUptoRow.holds Try.pinned (OpenSpec.upto fnExactLoseCodeSpec)

/-- 'laws.FnExactHartOf', WHERE WHAT IT READS IS OF BULK AT MOST 1048576: true; the input reads as it did. -/
def fnExactHartOfUptoRow : OpenClaim := { program := "ytfkfdhnhakkihaa", sum := "4102680f1c1d07d7b5dd2555dd59a440e0d43504530bb9b9678a05b7ca288953", func := "loop.example/g00281/laws.FnExactHartOf", spec := "fnExactHartOf", unfollowed := true, recurses := true, apart := false, narrowed := true }
def FnExactHartOfUptoSaid : Prop := fnExactHartOfUptoRow.holds Try.pinned (OpenSpec.upto fnExactHartOfSpec)

/-- 'laws.FnExactHartBytes', WHERE WHAT IT READS IS OF BULK AT MOST 1048576: true; the input reads as it did. -/
def fnExactHartBytesUptoRow : OpenClaim := { program := "ytfkfdhnhakkihaa", sum := "4102680f1c1d07d7b5dd2555dd59a440e0d43504530bb9b9678a05b7ca288953", func := "loop.example/g00281/laws.FnExactHartBytes", spec := "fnExactHartBytes", unfollowed := true, recurses := true, apart := false, narrowed := true }
def FnExactHartBytesUptoSaid : Prop := fnExactHartBytesUptoRow.holds Try.pinned (OpenSpec.upto fnExactHartBytesSpec)

/-- 'laws.FnSeen', WHERE WHAT IT READS IS OF BULK AT MOST 1048576: true; the input reads as it did. -/
def fnSeenUptoRow : OpenClaim := { program := "ytfkfdhnhakkihaa", sum := "4102680f1c1d07d7b5dd2555dd59a440e0d43504530bb9b9678a05b7ca288953", func := "loop.example/g00281/laws.FnSeen", spec := "fnSeen", inPlace := ["internal/abi.NoEscape", "internal/bytealg.MakeNoZero"], unfollowed := true, recurses := true, apart := false, narrowed := true }
def FnSeenUptoSaid : Prop := fnSeenUptoRow.holds Try.pinned (OpenSpec.upto fnSeenSpec)

/-- 'laws.FnExactMemText', WHERE WHAT IT READS IS OF BULK AT MOST 1048576: true; the input reads as it did. -/
def fnExactMemTextUptoRow : OpenClaim := { program := "ytfkfdhnhakkihaa", sum := "4102680f1c1d07d7b5dd2555dd59a440e0d43504530bb9b9678a05b7ca288953", func := "loop.example/g00281/laws.FnExactMemText", spec := "fnExactMemText", inPlace := ["internal/abi.NoEscape", "internal/bytealg.MakeNoZero"], unfollowed := true, recurses := true, apart := false, narrowed := true }
def FnExactMemTextUptoSaid : Prop := fnExactMemTextUptoRow.holds Try.pinned (OpenSpec.upto fnExactMemTextSpec)

/-- 'laws.FnExactByHart', WHERE WHAT IT READS IS OF BULK AT MOST 1048576: true; the input reads as it did. -/
def fnExactByHartUptoRow : OpenClaim := { program := "ytfkfdhnhakkihaa", sum := "4102680f1c1d07d7b5dd2555dd59a440e0d43504530bb9b9678a05b7ca288953", func := "loop.example/g00281/laws.FnExactByHart", spec := "fnExactByHart", apart := false, narrowed := true }
def FnExactByHartUptoSaid : Prop := fnExactByHartUptoRow.holds Try.pinned (OpenSpec.upto fnExactByHartSpec)

/-- 'laws.FnExactTraceText', WHERE WHAT IT READS IS OF BULK AT MOST 1048576: true; the input reads as it did. -/
def fnExactTraceTextUptoRow : OpenClaim := { program := "ytfkfdhnhakkihaa", sum := "4102680f1c1d07d7b5dd2555dd59a440e0d43504530bb9b9678a05b7ca288953", func := "loop.example/g00281/laws.FnExactTraceText", spec := "fnExactTraceText", inPlace := ["internal/abi.NoEscape", "internal/bytealg.MakeNoZero"], recurses := true, apart := false, narrowed := true }
def FnExactTraceTextUptoSaid : Prop := fnExactTraceTextUptoRow.holds Try.pinned (OpenSpec.upto fnExactTraceTextSpec)

/-- 'laws.FnExactPartAt', WHERE WHAT IT READS IS OF BULK AT MOST 1048576: true; the input reads as it did. -/
def fnExactPartAtUptoRow : OpenClaim := { program := "ytfkfdhnhakkihaa", sum := "4102680f1c1d07d7b5dd2555dd59a440e0d43504530bb9b9678a05b7ca288953", func := "loop.example/g00281/laws.FnExactPartAt", spec := "fnExactPartAt", unfollowed := true, recurses := true, apart := false, narrowed := true }
def FnExactPartAtUptoSaid : Prop := fnExactPartAtUptoRow.holds Try.pinned (OpenSpec.upto fnExactPartAtSpec)

/-- 'laws.FnExactSeqOk', WHERE WHAT IT READS IS OF BULK AT MOST 1048576: true; the input reads as it did. -/
def fnExactSeqOkUptoRow : OpenClaim := { program := "ytfkfdhnhakkihaa", sum := "4102680f1c1d07d7b5dd2555dd59a440e0d43504530bb9b9678a05b7ca288953", func := "loop.example/g00281/laws.FnExactSeqOk", spec := "fnExactSeqOk", unfollowed := true, recurses := true, apart := false, narrowed := true }
def FnExactSeqOkUptoSaid : Prop := fnExactSeqOkUptoRow.holds Try.pinned (OpenSpec.upto fnExactSeqOkSpec)

/-- 'laws.FnExactSaveBytes', WHERE WHAT IT READS IS OF BULK AT MOST 1048576: true; the input reads as it did. -/
def fnExactSaveBytesUptoRow : OpenClaim := { program := "ytfkfdhnhakkihaa", sum := "4102680f1c1d07d7b5dd2555dd59a440e0d43504530bb9b9678a05b7ca288953", func := "loop.example/g00281/laws.FnExactSaveBytes", spec := "fnExactSaveBytes", unfollowed := true, recurses := true, apart := false, narrowed := true }
def FnExactSaveBytesUptoSaid : Prop := fnExactSaveBytesUptoRow.holds Try.pinned (OpenSpec.upto fnExactSaveBytesSpec)

/-- 'laws.FnExactSaveOf', WHERE WHAT IT READS IS OF BULK AT MOST 1048576: true; the input reads as it did. -/
def fnExactSaveOfUptoRow : OpenClaim := { program := "ytfkfdhnhakkihaa", sum := "4102680f1c1d07d7b5dd2555dd59a440e0d43504530bb9b9678a05b7ca288953", func := "loop.example/g00281/laws.FnExactSaveOf", spec := "fnExactSaveOf", unfollowed := true, recurses := true, apart := false, narrowed := true }
def FnExactSaveOfUptoSaid : Prop := fnExactSaveOfUptoRow.holds Try.pinned (OpenSpec.upto fnExactSaveOfSpec)

/-- 'laws.FnAllCounts', WHERE WHAT IT READS IS OF BULK AT MOST 1048576: true; the input reads as it did. -/
def fnAllCountsUptoRow : OpenClaim := { program := "ytfkfdhnhakkihaa", sum := "4102680f1c1d07d7b5dd2555dd59a440e0d43504530bb9b9678a05b7ca288953", func := "loop.example/g00281/laws.FnAllCounts", spec := "fnAllCounts", unfollowed := true, recurses := true, apart := false, narrowed := true }
def FnAllCountsUptoSaid : Prop := fnAllCountsUptoRow.holds Try.pinned (OpenSpec.upto fnAllCountsSpec)

end Rows
end Go.Proofs.Ytfkfdhnhakkihaa
