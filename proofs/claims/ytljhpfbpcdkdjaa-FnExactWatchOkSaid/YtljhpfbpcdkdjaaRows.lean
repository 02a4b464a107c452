/-
  No cell of these rows narrows 'for every input' (looked for: loops, veiled, ifaces, maps, wideKeys, modest, calm, conditions, laid).
  DERIVED. THE GIVEN ROWS OF THIS SEAT. 12 by the template 'for every input the law returns true; each argument reads behind the call as it read before'; 0 by the template 'total and deterministic' (their statements: YtljhpfbpcdkdjaaTotals.lean).
  GIVEN WITH THE SEED: the statements are not yours to turn. If you find one false, say at which input.
  Laid BY PROGRAM, IN A SANDBOX (cutbox-rows.mjs): the forced cells as the released guide's own fill.sh prints them over the translation a8e2524c48f7d912… (all of the seat's roots in one cut). By AI agents, Wed Nov 11 2026. No macro, syntax, notation, axiom, sorry.
-/
import Derived.Test.YtljhpfbpcdkdjaaChecked
import GoSem.Claim
import GoSem.ClaimJoined
import GoSem.ClaimMapViews
import Derived.JoinedTies
import Derived.KernelRfl
namespace Go.Proofs.Ytljhpfbpcdkdjaa
/- THE CELL 'sum', in the pinned program and in every row, IS THE sha256 OF THE DUMP (.gsa) THAT YtljhpfbpcdkdjaaProg.lean LOADS. Nothing in Lean hashes anything: it is a label: what it is worth is what the hold of that sum in a sandbox is worth. -/
noncomputable def Try.pinned : Pinned := { name := "ytljhpfbpcdkdjaa", sum := "a8e2524c48f7d912af3a991ef6696f54dc5d76e86bc95f4477d61955ba5dc52f", checked := Try.checked }
namespace Rows
def none {H : Type} : Left H := { results := [], args := [] }

/-- 'laws.FnExactTallyAdd': WHATEVER THE INPUT: true; the input reads as it did. -/
def fnExactTallyAddSpec : ChangeSpec := { name := "fnExactTallyAdd", fn := fun _ => fun
  | [d1, d2] => { results := [.lit (.bool true)], args := [d1, d2] }
  | _ => none }
def fnExactTallyAddRow : OpenClaim := { program := "ytljhpfbpcdkdjaa", sum := "a8e2524c48f7d912af3a991ef6696f54dc5d76e86bc95f4477d61955ba5dc52f", func := "loop.example/g00281/laws.FnExactTallyAdd", spec := "fnExactTallyAdd", apart := false }
def FnExactTallyAddSaid : Prop := fnExactTallyAddRow.holds Try.pinned (OpenSpec.ofChange fnExactTallyAddSpec)

/-- ITS FALSE NEIGHBOUR: 'it returns false'. Refute it at one input. -/
def fnExactTallyAddWrong : ChangeSpec := { name := "fnExactTallyAdd", fn := fun _ => fun
  | [d1, d2] => { results := [.lit (.bool false)], args := [d1, d2] }
  | _ => none }
def FnExactTallyAddWrongFalsely : Prop := fnExactTallyAddRow.holds Try.pinned (OpenSpec.ofChange fnExactTallyAddWrong)

/-- 'laws.FnExactMemOf': WHATEVER THE INPUT: true; the input reads as it did. -/
def fnExactMemOfSpec : ChangeSpec := { name := "fnExactMemOf", fn := fun _ => fun
  | [d] => { results := [.lit (.bool true)], args := [d] }
  | _ => none }
def fnExactMemOfRow : OpenClaim := { program := "ytljhpfbpcdkdjaa", sum := "a8e2524c48f7d912af3a991ef6696f54dc5d76e86bc95f4477d61955ba5dc52f", func := "loop.example/g00281/laws.FnExactMemOf", spec := "fnExactMemOf", apart := false }
def FnExactMemOfSaid : Prop := fnExactMemOfRow.holds Try.pinned (OpenSpec.ofChange fnExactMemOfSpec)

/-- ITS FALSE NEIGHBOUR: 'it returns false'. Refute it at one input. -/
def fnExactMemOfWrong : ChangeSpec := { name := "fnExactMemOf", fn := fun _ => fun
  | [d] => { results := [.lit (.bool false)], args := [d] }
  | _ => none }
def FnExactMemOfWrongFalsely : Prop := fnExactMemOfRow.holds Try.pinned (OpenSpec.ofChange fnExactMemOfWrong)

/-- 'laws.FnExactChangedText': WHATEVER THE INPUT: true; the input reads as it did. -/
def fnExactChangedTextSpec : ChangeSpec := { name := "fnExactChangedText", fn := fun _ => fun
  | [d1, d2] => { results := [.lit (.bool true)], args := [d1, d2] }
  | _ => none }
def fnExactChangedTextRow : OpenClaim := { program := "ytljhpfbpcdkdjaa", sum := "a8e2524c48f7d912af3a991ef6696f54dc5d76e86bc95f4477d61955ba5dc52f", func := "loop.example/g00281/laws.FnExactChangedText", spec := "fnExactChangedText", unfollowed := true, recurses := true, apart := false }
def FnExactChangedTextSaid : Prop := fnExactChangedTextRow.holds Try.pinned (OpenSpec.ofChange fnExactChangedTextSpec)

/-- ITS FALSE NEIGHBOUR: 'it returns false'. Refute it at one input. -/
def fnExactChangedTextWrong : ChangeSpec := { name := "fnExactChangedText", fn := fun _ => fun
  | [d1, d2] => { results := [.lit (.bool false)], args := [d1, d2] }
  | _ => none }
def FnExactChangedTextWrongFalsely : Prop := fnExactChangedTextRow.holds Try.pinned (OpenSpec.ofChange fnExactChangedTextWrong)

/-- 'laws.FnExactPlace': WHATEVER THE INPUT: true; the input reads as it did. -/
def fnExactPlaceSpec : ChangeSpec := { name := "fnExactPlace", fn := fun _ => fun
  | [d1, d2, d3] => { results := [.lit (.bool true)], args := [d1, d2, d3] }
  | _ => none }
def fnExactPlaceRow : OpenClaim := { program := "ytljhpfbpcdkdjaa", sum := "a8e2524c48f7d912af3a991ef6696f54dc5d76e86bc95f4477d61955ba5dc52f", func := "loop.example/g00281/laws.FnExactPlace", spec := "fnExactPlace", unfollowed := true, recurses := true, apart := false }
def FnExactPlaceSaid : Prop := fnExactPlaceRow.holds Try.pinned (OpenSpec.ofChange fnExactPlaceSpec)

/-- ITS FALSE NEIGHBOUR: 'it returns false'. Refute it at one input. -/
def fnExactPlaceWrong : ChangeSpec := { name := "fnExactPlace", fn := fun _ => fun
  | [d1, d2, d3] => { results := [.lit (.bool false)], args := [d1, d2, d3] }
  | _ => none }
def FnExactPlaceWrongFalsely : Prop := fnExactPlaceRow.holds Try.pinned (OpenSpec.ofChange fnExactPlaceWrong)

/-- 'laws.FnExactMemBytes': WHATEVER THE INPUT: true; the input reads as it did. -/
def fnExactMemBytesSpec : ChangeSpec := { name := "fnExactMemBytes", fn := fun _ => fun
  | [d] => { results := [.lit (.bool true)], args := [d] }
  | _ => none }
def fnExactMemBytesRow : OpenClaim := { program := "ytljhpfbpcdkdjaa", sum := "a8e2524c48f7d912af3a991ef6696f54dc5d76e86bc95f4477d61955ba5dc52f", func := "loop.example/g00281/laws.FnExactMemBytes", spec := "fnExactMemBytes", unfollowed := true, recurses := true, apart := false }
def FnExactMemBytesSaid : Prop := fnExactMemBytesRow.holds Try.pinned (OpenSpec.ofChange fnExactMemBytesSpec)

/-- ITS FALSE NEIGHBOUR: 'it returns false'. Refute it at one input. -/
def fnExactMemBytesWrong : ChangeSpec := { name := "fnExactMemBytes", fn := fun _ => fun
  | [d] => { results := [.lit (.bool false)], args := [d] }
  | _ => none }
def FnExactMemBytesWrongFalsely : Prop := fnExactMemBytesRow.holds Try.pinned (OpenSpec.ofChange fnExactMemBytesWrong)

/-- 'laws.FnExactAllHalt': WHATEVER THE INPUT: true; the input reads as it did. -/
def fnExactAllHaltSpec : ChangeSpec := { name := "fnExactAllHalt", fn := fun _ => fun
  | [d] => { results := [.lit (.bool true)], args := [d] }
  | _ => none }
def fnExactAllHaltRow : OpenClaim := { program := "ytljhpfbpcdkdjaa", sum := "a8e2524c48f7d912af3a991ef6696f54dc5d76e86bc95f4477d61955ba5dc52f", func := "loop.example/g00281/laws.FnExactAllHalt", spec := "fnExactAllHalt", unfollowed := true, recurses := true, apart := false }
def FnExactAllHaltSaid : Prop := fnExactAllHaltRow.holds Try.pinned (OpenSpec.ofChange fnExactAllHaltSpec)

/-- ITS FALSE NEIGHBOUR: 'it returns false'. Refute it at one input. -/
def fnExactAllHaltWrong : ChangeSpec := { name := "fnExactAllHalt", fn := fun _ => fun
  | [d] => { results := [.lit (.bool false)], args := [d] }
  | _ => none }
def FnExactAllHaltWrongFalsely : Prop := fnExactAllHaltRow.holds Try.pinned (OpenSpec.ofChange fnExactAllHaltWrong)

/-- 'laws.FnExactWatchOk': WHATEVER THE INPUT: true; the input reads as it did. -/
def fnExactWatchOkSpec : ChangeSpec := { name := "fnExactWatchOk", fn := fun _ => fun
  | [d] => { results := [.lit (.bool true)], args := [d] }
  | _ => none }
def fnExactWatchOkRow : OpenClaim := { program := "ytljhpfbpcdkdjaa", sum := "a8e2524c48f7d912af3a991ef6696f54dc5d76e86bc95f4477d61955ba5dc52f", func := "loop.example/g00281/laws.FnExactWatchOk", spec := "fnExactWatchOk", unfollowed := true, recurses := true, apart := false }
def FnExactWatchOkSaid : Prop := fnExactWatchOkRow.holds Try.pinned (OpenSpec.ofChange fnExactWatchOkSpec)

/-- ITS FALSE NEIGHBOUR: 'it returns false'. Refute it at one input. -/
def fnExactWatchOkWrong : ChangeSpec := { name := "fnExactWatchOk", fn := fun _ => fun
  | [d] => { results := [.lit (.bool false)], args := [d] }
  | _ => none }
def FnExactWatchOkWrongFalsely : Prop := fnExactWatchOkRow.holds Try.pinned (OpenSpec.ofChange fnExactWatchOkWrong)

/-- 'laws.FnWatched': WHATEVER THE INPUT: true; the input reads as it did. -/
def fnWatchedSpec : ChangeSpec := { name := "fnWatched", fn := fun _ => fun
  | [d] => { results := [.lit (.bool true)], args := [d] }
  | _ => none }
def fnWatchedRow : OpenClaim := { program := "ytljhpfbpcdkdjaa", sum := "a8e2524c48f7d912af3a991ef6696f54dc5d76e86bc95f4477d61955ba5dc52f", func := "loop.example/g00281/laws.FnWatched", spec := "fnWatched", unfollowed := true, recurses := true, apart := false }
def FnWatchedSaid : Prop := fnWatchedRow.holds Try.pinned (OpenSpec.ofChange fnWatchedSpec)

/-- ITS FALSE NEIGHBOUR: 'it returns false'. Refute it at one input. -/
def fnWatchedWrong : ChangeSpec := { name := "fnWatched", fn := fun _ => fun
  | [d] => { results := [.lit (.bool false)], args := [d] }
  | _ => none }
def FnWatchedWrongFalsely : Prop := fnWatchedRow.holds Try.pinned (OpenSpec.ofChange fnWatchedWrong)

/-- 'laws.FnExactWatchText': WHATEVER THE INPUT: true; the input reads as it did. -/
def fnExactWatchTextSpec : ChangeSpec := { name := "fnExactWatchText", fn := fun _ => fun
  | [d] => { results := [.lit (.bool true)], args := [d] }
  | _ => none }
def fnExactWatchTextRow : OpenClaim := { program := "ytljhpfbpcdkdjaa", sum := "a8e2524c48f7d912af3a991ef6696f54dc5d76e86bc95f4477d61955ba5dc52f", func := "loop.example/g00281/laws.FnExactWatchText", spec := "fnExactWatchText", recurses := true, apart := false }
def FnExactWatchTextSaid : Prop := fnExactWatchTextRow.holds Try.pinned (OpenSpec.ofChange fnExactWatchTextSpec)

/-- ITS FALSE NEIGHBOUR: 'it returns false'. Refute it at one input. -/
def fnExactWatchTextWrong : ChangeSpec := { name := "fnExactWatchText", fn := fun _ => fun
  | [d] => { results := [.lit (.bool false)], args := [d] }
  | _ => none }
def FnExactWatchTextWrongFalsely : Prop := fnExactWatchTextRow.holds Try.pinned (OpenSpec.ofChange fnExactWatchTextWrong)

/-- 'laws.FnExactDidText': WHATEVER THE INPUT: true; the input reads as it did. -/
def fnExactDidTextSpec : ChangeSpec := { name := "fnExactDidText", fn := fun _ => fun
  | [d] => { results := [.lit (.bool true)], args := [d] }
  | _ => none }
def fnExactDidTextRow : OpenClaim := { program := "ytljhpfbpcdkdjaa", sum := "a8e2524c48f7d912af3a991ef6696f54dc5d76e86bc95f4477d61955ba5dc52f", func := "loop.example/g00281/laws.FnExactDidText", spec := "fnExactDidText", inPlace := ["internal/abi.NoEscape", "internal/bytealg.MakeNoZero"], recurses := true, apart := false }
def FnExactDidTextSaid : Prop := fnExactDidTextRow.holds Try.pinned (OpenSpec.ofChange fnExactDidTextSpec)

/-- ITS FALSE NEIGHBOUR: 'it returns false'. Refute it at one input. -/
def fnExactDidTextWrong : ChangeSpec := { name := "fnExactDidText", fn := fun _ => fun
  | [d] => { results := [.lit (.bool false)], args := [d] }
  | _ => none }
def FnExactDidTextWrongFalsely : Prop := fnExactDidTextRow.holds Try.pinned (OpenSpec.ofChange fnExactDidTextWrong)

/-- 'laws.FnExactTallyText': WHATEVER THE INPUT: true; the input reads as it did. -/
def fnExactTallyTextSpec : ChangeSpec := { name := "fnExactTallyText", fn := fun _ => fun
  | [d] => { results := [.lit (.bool true)], args := [d] }
  | _ => none }
def fnExactTallyTextRow : OpenClaim := { program := "ytljhpfbpcdkdjaa", sum := "a8e2524c48f7d912af3a991ef6696f54dc5d76e86bc95f4477d61955ba5dc52f", func := "loop.example/g00281/laws.FnExactTallyText", spec := "fnExactTallyText", inPlace := ["internal/abi.NoEscape", "internal/bytealg.MakeNoZero"], recurses := true, apart := false }
def FnExactTallyTextSaid : Prop := fnExactTallyTextRow.holds Try.pinned (OpenSpec.ofChange fnExactTallyTextSpec)

/-- ITS FALSE NEIGHBOUR: 'it returns false'. Refute it at one input. -/
def fnExactTallyTextWrong : ChangeSpec := { name := "fnExactTallyText", fn := fun _ => fun
  | [d] => { results := [.lit (.bool false)], args := [d] }
  | _ => none }
def FnExactTallyTextWrongFalsely : Prop := fnExactTallyTextRow.holds Try.pinned (OpenSpec.ofChange fnExactTallyTextWrong)

/-- 'laws.FnExactCountCode': WHATEVER THE INPUT: true; the input reads as it did. -/
def fnExactCountCodeSpec : ChangeSpec := { name := "fnExactCountCode", fn := fun _ => fun
  | [d1, d2, d3] => { results := [.lit (.bool true)], args := [d1, d2, d3] }
  | _ => none }
def fnExactCountCodeRow : OpenClaim := { program := "ytljhpfbpcdkdjaa", sum := "a8e2524c48f7d912af3a991ef6696f54dc5d76e86bc95f4477d61955ba5dc52f", func := "loop.example/g00281/laws.FnExactCountCode", spec := "fnExactCountCode", apart := false }
def FnExactCountCodeSaid : Prop := fnExactCountCodeRow.holds Try.pinned (OpenSpec.ofChange fnExactCountCodeSpec)

/-- ITS FALSE NEIGHBOUR: 'it returns false'. Refute it at one input. -/
def fnExactCountCodeWrong : ChangeSpec := { name := "fnExactCountCode", fn := fun _ => fun
  | [d1, d2, d3] => { results := [.lit (.bool false)], args := [d1, d2, d3] }
  | _ => none }
def FnExactCountCodeWrongFalsely : Prop := fnExactCountCodeRow.holds Try.pinned (OpenSpec.ofChange fnExactCountCodeWrong)

/- THE SECOND FORM. 'bulk': how many values and letters a reading holds, each counted each time it is reached (what is shared counts as often as it is met; a slice's spare places count too). A statement '..UptoSaid' is the law's where the arguments, and the package variables that the reading takes, are together of bulk at most 1048576: NARROWER than '..Said'. Prove '..Said' where nothing that the law and all that it calls make is longer than what came in: it says more and counts as full. Else prove '..UptoSaid'. A law counts once. -/
mutual
def uptoBulk {H : Type} : DataW H → Nat
  | .lit (.string bytes) => bytes.length + 1
  | .lit _ => 1
  | .nil => 1
  | .ptr d => uptoBulk d + 1
  | .slice elems spare => uptoBulkAll elems + uptoBulkAll spare + 1
  | .agg parts => uptoBulkAll parts + 1
  | .iface _ d => uptoBulk d + 1
  | .map entries => uptoBulkEntries entries + 1
  | .held _ => 1
def uptoBulkAll {H : Type} : List (DataW H) → Nat
  | [] => 0
  | d :: r => uptoBulk d + uptoBulkAll r
def uptoBulkEntries {H : Type} : List (Lit × DataW H) → Nat
  | [] => 0
  | x :: r => uptoBulkEntry x + uptoBulkEntries r
def uptoBulkEntry {H : Type} : Lit × DataW H → Nat
  | (.string bytes, d) => bytes.length + uptoBulk d + 1
  | (_, d) => uptoBulk d + 1
 end
def uptoSmall : (H : Type) → List (DataW H) → Bool := fun _ ds => decide (uptoBulkAll ds ≤ 1048576)
def OpenSpec.upto (s : _root_.Go.ChangeSpec) : _root_.Go.OpenSpec := { _root_.Go.OpenSpec.ofChange s with cond := some uptoSmall }

/-- 'laws.FnExactTallyAdd', WHERE WHAT IT READS IS OF BULK AT MOST 1048576: true; the input reads as it did. -/
def fnExactTallyAddUptoRow : OpenClaim := { program := "ytljhpfbpcdkdjaa", sum := "a8e2524c48f7d912af3a991ef6696f54dc5d76e86bc95f4477d61955ba5dc52f", func := "loop.example/g00281/laws.FnExactTallyAdd", spec := "fnExactTallyAdd", apart := false, narrowed := true }
def FnExactTallyAddUptoSaid : Prop := fnExactTallyAddUptoRow.holds Try.pinned (OpenSpec.upto fnExactTallyAddSpec)

/-- 'laws.FnExactMemOf', WHERE WHAT IT READS IS OF BULK AT MOST 1048576: true; the input reads as it did. -/
def fnExactMemOfUptoRow : OpenClaim := { program := "ytljhpfbpcdkdjaa", sum := "a8e2524c48f7d912af3a991ef6696f54dc5d76e86bc95f4477d61955ba5dc52f", func := "loop.example/g00281/laws.FnExactMemOf", spec := "fnExactMemOf", apart := false, narrowed := true }
def FnExactMemOfUptoSaid : Prop := fnExactMemOfUptoRow.holds Try.pinned (OpenSpec.upto fnExactMemOfSpec)

/-- 'laws.FnExactChangedText', WHERE WHAT IT READS IS OF BULK AT MOST 1048576: true; the input reads as it did. -/
def fnExactChangedTextUptoRow : OpenClaim := { program := "ytljhpfbpcdkdjaa", sum := "a8e2524c48f7d912af3a991ef6696f54dc5d76e86bc95f4477d61955ba5dc52f", func := "loop.example/g00281/laws.FnExactChangedText", spec := "fnExactChangedText", unfollowed := true, recurses := true, apart := false, narrowed := true }
def FnExactChangedTextUptoSaid : Prop := fnExactChangedTextUptoRow.holds Try.pinned (OpenSpec.upto fnExactChangedTextSpec)

/-- 'laws.FnExactPlace', WHERE WHAT IT READS IS OF BULK AT MOST 1048576: true; the input reads as it did. -/
def fnExactPlaceUptoRow : OpenClaim := { program := "ytljhpfbpcdkdjaa", sum := "a8e2524c48f7d912af3a991ef6696f54dc5d76e86bc95f4477d61955ba5dc52f", func := "loop.example/g00281/laws.FnExactPlace", spec := "fnExactPlace", unfollowed := true, recurses := true, apart := false, narrowed := true }
def FnExactPlaceUptoSaid : Prop := fnExactPlaceUptoRow.holds Try.pinned (OpenSpec.upto fnExactPlaceSpec)

/-- 'laws.FnExactMemBytes', WHERE WHAT IT READS IS OF BULK AT MOST 1048576: true; the input reads as it did. -/
def fnExactMemBytesUptoRow : OpenClaim := { program := "ytljhpfbpcdkdjaa", sum := "a8e2524c48f7d912af3a991ef6696f54dc5d76e86bc95f4477d61955ba5dc52f", func := "loop.example/g00281/laws.FnExactMemBytes", spec := "fnExactMemBytes", unfollowed := true, recurses := true, apart := false, narrowed := true }
def FnExactMemBytesUptoSaid : Prop := fnExactMemBytesUptoRow.holds Try.pinned (OpenSpec.upto fnExactMemBytesSpec)

/-- 'laws.FnExactAllHalt', WHERE WHAT IT READS IS OF BULK AT MOST 1048576: true; the input reads as it did. -/
def fnExactAllHaltUptoRow : OpenClaim := { program := "ytljhpfbpcdkdjaa", sum := "a8e2524c48f7d912af3a991ef6696f54dc5d76e86bc95f4477d61955ba5dc52f", func := "loop.example/g00281/laws.FnExactAllHalt", spec := "fnExactAllHalt", unfollowed := true, recurses := true, apart := false, narrowed := true }
def FnExactAllHaltUptoSaid : Prop := fnExactAllHaltUptoRow.holds Try.pinned (OpenSpec.upto fnExactAllHaltSpec)

/-- 'laws.FnExactWatchOk', WHERE WHAT IT READS IS OF BULK AT MOST 1048576: true; the input reads as it did. -/
def fnExactWatchOkUptoRow : OpenClaim := { program := "ytljhpfbpcdkdjaa", sum := "a8e2524c48f7d912af3a991ef6696f54dc5d76e86bc95f4477d61955ba5dc52f", func := "loop.example/g00281/laws.FnExactWatchOk", spec := "fnExactWatchOk", unfollowed := true, recurses := true, apart := false, narrowed := true }
def FnExactWatchOkUptoSaid : Prop := fnExactWatchOkUptoRow.holds Try.pinned (OpenSpec.upto fnExactWatchOkSpec)

/-- 'laws.FnWatched', WHERE WHAT IT READS IS OF BULK AT MOST 1048576: true; the input reads as it did. -/
def fnWatchedUptoRow : OpenClaim := { program := "ytljhpfbpcdkdjaa", sum := "a8e2524c48f7d912af3a991ef6696f54dc5d76e86bc95f4477d61955ba5dc52f", func := "loop.example/g00281/laws.FnWatched", spec := "fnWatched", unfollowed := true, recurses := true, apart := false, narrowed := true }
def FnWatchedUptoSaid : Prop := fnWatchedUptoRow.holds Try.pinned (OpenSpec.upto fnWatchedSpec)

/-- 'laws.FnExactWatchText', WHERE WHAT IT READS IS OF BULK AT MOST 1048576: true; the input reads as it did. -/
def fnExactWatchTextUptoRow : OpenClaim := { program := "ytljhpfbpcdkdjaa", sum := "a8e2524c48f7d912af3a991ef6696f54dc5d76e86bc95f4477d61955ba5dc52f", func := "loop.example/g00281/laws.FnExactWatchText", spec := "fnExactWatchText", recurses := true, apart := false, narrowed := true }
def FnExactWatchTextUptoSaid : Prop := fnExactWatchTextUptoRow.holds Try.pinned (OpenSpec.upto fnExactWatchTextSpec)

/-- 'laws.FnExactDidText', WHERE WHAT IT READS IS OF BULK AT MOST 1048576: true; the input reads as it did. -/
def fnExactDidTextUptoRow : OpenClaim := { program := "ytljhpfbpcdkdjaa", sum := "a8e2524c48f7d912af3a991ef6696f54dc5d76e86bc95f4477d61955ba5dc52f", func := "loop.example/g00281/laws.FnExactDidText", spec := "fnExactDidText", inPlace := ["internal/abi.NoEscape", "internal/bytealg.MakeNoZero"], recurses := true, apart := false, narrowed := true }
def FnExactDidTextUptoSaid : Prop := fnExactDidTextUptoRow.holds Try.pinned (OpenSpec.upto fnExactDidTextSpec)

/-- 'laws.FnExactTallyText', WHERE WHAT IT READS IS OF BULK AT MOST 1048576: true; the input reads as it did. -/
def fnExactTallyTextUptoRow : OpenClaim := { program := "ytljhpfbpcdkdjaa", sum := "a8e2524c48f7d912af3a991ef6696f54dc5d76e86bc95f4477d61955ba5dc52f", func := "loop.example/g00281/laws.FnExactTallyText", spec := "fnExactTallyText", inPlace := ["internal/abi.NoEscape", "internal/bytealg.MakeNoZero"], recurses := true, apart := false, narrowed := true }
def FnExactTallyTextUptoSaid : Prop := fnExactTallyTextUptoRow.holds Try.pinned (OpenSpec.upto fnExactTallyTextSpec)

/-- 'laws.FnExactCountCode', WHERE WHAT IT READS IS OF BULK AT MOST 1048576: true; the input reads as it did. -/
def fnExactCountCodeUptoRow : OpenClaim := { program := "ytljhpfbpcdkdjaa", sum := "a8e2524c48f7d912af3a991ef6696f54dc5d76e86bc95f4477d61955ba5dc52f", func := "loop.example/g00281/laws.FnExactCountCode", spec := "fnExactCountCode", apart := false, narrowed := true }
def FnExactCountCodeUptoSaid : Prop := fnExactCountCodeUptoRow.holds Try.pinned (OpenSpec.upto fnExactCountCodeSpec)

end Rows
end Go.Proofs.Ytljhpfbpcdkdjaa
