/-
  No cell of these rows narrows 'for every input' (looked for: loops, veiled, ifaces, maps, wideKeys, modest, calm, conditions, laid).
  DERIVED. THE GIVEN ROWS OF THIS SEAT. 10 by the template 'for every input the law returns true; each argument reads behind the call as it read before'; 0 by the template 'total and deterministic' (their statements: YtfponeljjihkbaaTotals.lean).
  GIVEN WITH THE SEED: the statements are not yours to turn. If you find one false, say at which input.
  Laid BY PROGRAM, IN A SANDBOX (cutbox-rows.mjs): the forced cells as the released guide's own fill.sh prints them over the translation e680d5497d49c60b… (all of the seat's roots in one cut). By AI agents, Wed Nov 11 2026. No macro, syntax, notation, axiom, sorry.
-/
import Derived.Test.YtfponeljjihkbaaChecked
import GoSem.Claim
import GoSem.ClaimJoined
import GoSem.ClaimMapViews
import Derived.JoinedTies
import Derived.KernelRfl
namespace Go.Proofs.Ytfponeljjihkbaa
/- THE CELL 'sum', in the pinned program and in every row, IS THE sha256 OF THE DUMP (.gsa) THAT YtfponeljjihkbaaProg.lean LOADS. Nothing in Lean hashes anything: it is a label: what it is worth is what the hold of that sum in a sandbox is worth. -/
noncomputable def Try.pinned : Pinned := { name := "ytfponeljjihkbaa", sum := "e680d5497d49c60ba1e6ccb5002810a486a98277d08963ab3c45279d9c0ff9c7", checked := Try.checked }
namespace Rows
def none {H : Type} : Left H := { results := [], args := [] }

/-- 'laws.FnExactNoteSeen': WHATEVER THE INPUT: true; the input reads as it did. -/
def fnExactNoteSeenSpec : ChangeSpec := { name := "fnExactNoteSeen", fn := fun _ => fun
  | [d1, d2] => { results := [.lit (.bool true)], args := [d1, d2] }
  | _ => none }
def fnExactNoteSeenRow : OpenClaim := { program := "ytfponeljjihkbaa", sum := "e680d5497d49c60ba1e6ccb5002810a486a98277d08963ab3c45279d9c0ff9c7", func := "loop.example/g00193/laws.FnExactNoteSeen", spec := "fnExactNoteSeen", unfollowed := true, recurses := true, apart := false }
def FnExactNoteSeenSaid : Prop := fnExactNoteSeenRow.holds Try.pinned (OpenSpec.ofChange fnExactNoteSeenSpec)

/-- ITS FALSE NEIGHBOUR: 'it returns false'. Refute it at one input. -/
def fnExactNoteSeenWrong : ChangeSpec := { name := "fnExactNoteSeen", fn := fun _ => fun
  | [d1, d2] => { results := [.lit (.bool false)], args := [d1, d2] }
  | _ => none }
def FnExactNoteSeenWrongFalsely : Prop := fnExactNoteSeenRow.holds Try.pinned (OpenSpec.ofChange fnExactNoteSeenWrong)

/-- 'laws.FnExactTakeAll': WHATEVER THE INPUT: true; the input reads as it did. -/
def fnExactTakeAllSpec : ChangeSpec := { name := "fnExactTakeAll", fn := fun _ => fun
  | [d] => { results := [.lit (.bool true)], args := [d] }
  | _ => none }
def fnExactTakeAllRow : OpenClaim := { program := "ytfponeljjihkbaa", sum := "e680d5497d49c60ba1e6ccb5002810a486a98277d08963ab3c45279d9c0ff9c7", func := "loop.example/g00193/laws.FnExactTakeAll", spec := "fnExactTakeAll", unfollowed := true, recurses := true, apart := false }
def FnExactTakeAllSaid : Prop := fnExactTakeAllRow.holds Try.pinned (OpenSpec.ofChange fnExactTakeAllSpec)

/-- ITS FALSE NEIGHBOUR: 'it returns false'. Refute it at one input. -/
def fnExactTakeAllWrong : ChangeSpec := { name := "fnExactTakeAll", fn := fun _ => fun
  | [d] => { results := [.lit (.bool false)], args := [d] }
  | _ => none }
def FnExactTakeAllWrongFalsely : Prop := fnExactTakeAllRow.holds Try.pinned (OpenSpec.ofChange fnExactTakeAllWrong)

/-- 'laws.FnExactPairSlots': WHATEVER THE INPUT: true; the input reads as it did. -/
def fnExactPairSlotsSpec : ChangeSpec := { name := "fnExactPairSlots", fn := fun _ => fun
  | [d] => { results := [.lit (.bool true)], args := [d] }
  | _ => none }
def fnExactPairSlotsRow : OpenClaim := { program := "ytfponeljjihkbaa", sum := "e680d5497d49c60ba1e6ccb5002810a486a98277d08963ab3c45279d9c0ff9c7", func := "loop.example/g00193/laws.FnExactPairSlots", spec := "fnExactPairSlots", inPlace := ["internal/abi.NoEscape", "internal/bytealg.MakeNoZero"], apart := false }
def FnExactPairSlotsSaid : Prop := fnExactPairSlotsRow.holds Try.pinned (OpenSpec.ofChange fnExactPairSlotsSpec)

/-- ITS FALSE NEIGHBOUR: 'it returns false'. Refute it at one input. -/
def fnExactPairSlotsWrong : ChangeSpec := { name := "fnExactPairSlots", fn := fun _ => fun
  | [d] => { results := [.lit (.bool false)], args := [d] }
  | _ => none }
def FnExactPairSlotsWrongFalsely : Prop := fnExactPairSlotsRow.holds Try.pinned (OpenSpec.ofChange fnExactPairSlotsWrong)

/-- 'laws.FnExactStepBoth': WHATEVER THE INPUT: true; the input reads as it did. -/
def fnExactStepBothSpec : ChangeSpec := { name := "fnExactStepBoth", fn := fun _ => fun
  | [d1, d2] => { results := [.lit (.bool true)], args := [d1, d2] }
  | _ => none }
def fnExactStepBothRow : OpenClaim := { program := "ytfponeljjihkbaa", sum := "e680d5497d49c60ba1e6ccb5002810a486a98277d08963ab3c45279d9c0ff9c7", func := "loop.example/g00193/laws.FnExactStepBoth", spec := "fnExactStepBoth", inPlace := ["internal/abi.NoEscape", "internal/bytealg.MakeNoZero"], apart := false }
def FnExactStepBothSaid : Prop := fnExactStepBothRow.holds Try.pinned (OpenSpec.ofChange fnExactStepBothSpec)

/-- ITS FALSE NEIGHBOUR: 'it returns false'. Refute it at one input. -/
def fnExactStepBothWrong : ChangeSpec := { name := "fnExactStepBoth", fn := fun _ => fun
  | [d1, d2] => { results := [.lit (.bool false)], args := [d1, d2] }
  | _ => none }
def FnExactStepBothWrongFalsely : Prop := fnExactStepBothRow.holds Try.pinned (OpenSpec.ofChange fnExactStepBothWrong)

/-- 'laws.FnExactTargetOf': WHATEVER THE INPUT: true; the input reads as it did. -/
def fnExactTargetOfSpec : ChangeSpec := { name := "fnExactTargetOf", fn := fun _ => fun
  | [d1, d2] => { results := [.lit (.bool true)], args := [d1, d2] }
  | _ => none }
def fnExactTargetOfRow : OpenClaim := { program := "ytfponeljjihkbaa", sum := "e680d5497d49c60ba1e6ccb5002810a486a98277d08963ab3c45279d9c0ff9c7", func := "loop.example/g00193/laws.FnExactTargetOf", spec := "fnExactTargetOf", apart := false }
def FnExactTargetOfSaid : Prop := fnExactTargetOfRow.holds Try.pinned (OpenSpec.ofChange fnExactTargetOfSpec)

/-- ITS FALSE NEIGHBOUR: 'it returns false'. Refute it at one input. -/
def fnExactTargetOfWrong : ChangeSpec := { name := "fnExactTargetOf", fn := fun _ => fun
  | [d1, d2] => { results := [.lit (.bool false)], args := [d1, d2] }
  | _ => none }
def FnExactTargetOfWrongFalsely : Prop := fnExactTargetOfRow.holds Try.pinned (OpenSpec.ofChange fnExactTargetOfWrong)

/-- 'laws.FnExactAllowed': WHATEVER THE INPUT: true; the input reads as it did. -/
def fnExactAllowedSpec : ChangeSpec := { name := "fnExactAllowed", fn := fun _ => fun
  | [d1, d2, d3] => { results := [.lit (.bool true)], args := [d1, d2, d3] }
  | _ => none }
def fnExactAllowedRow : OpenClaim := { program := "ytfponeljjihkbaa", sum := "e680d5497d49c60ba1e6ccb5002810a486a98277d08963ab3c45279d9c0ff9c7", func := "loop.example/g00193/laws.FnExactAllowed", spec := "fnExactAllowed", apart := false }
def FnExactAllowedSaid : Prop := fnExactAllowedRow.holds Try.pinned (OpenSpec.ofChange fnExactAllowedSpec)

/-- ITS FALSE NEIGHBOUR: 'it returns false'. Refute it at one input. -/
def fnExactAllowedWrong : ChangeSpec := { name := "fnExactAllowed", fn := fun _ => fun
  | [d1, d2, d3] => { results := [.lit (.bool false)], args := [d1, d2, d3] }
  | _ => none }
def FnExactAllowedWrongFalsely : Prop := fnExactAllowedRow.holds Try.pinned (OpenSpec.ofChange fnExactAllowedWrong)

/-- 'laws.FnExactSealData': WHATEVER THE INPUT: true; the input reads as it did. -/
def fnExactSealDataSpec : ChangeSpec := { name := "fnExactSealData", fn := fun _ => fun
  | [d1, d2, d3, d4] => { results := [.lit (.bool true)], args := [d1, d2, d3, d4] }
  | _ => none }
def fnExactSealDataRow : OpenClaim := { program := "ytfponeljjihkbaa", sum := "e680d5497d49c60ba1e6ccb5002810a486a98277d08963ab3c45279d9c0ff9c7", func := "loop.example/g00193/laws.FnExactSealData", spec := "fnExactSealData", inPlace := ["internal/abi.NoEscape", "internal/bytealg.MakeNoZero"], apart := false }
def FnExactSealDataSaid : Prop := fnExactSealDataRow.holds Try.pinned (OpenSpec.ofChange fnExactSealDataSpec)

/-- ITS FALSE NEIGHBOUR: 'it returns false'. Refute it at one input. -/
def fnExactSealDataWrong : ChangeSpec := { name := "fnExactSealData", fn := fun _ => fun
  | [d1, d2, d3, d4] => { results := [.lit (.bool false)], args := [d1, d2, d3, d4] }
  | _ => none }
def FnExactSealDataWrongFalsely : Prop := fnExactSealDataRow.holds Try.pinned (OpenSpec.ofChange fnExactSealDataWrong)

/-- 'laws.FnExactNumbersOnce': WHATEVER THE INPUT: true; the input reads as it did. -/
def fnExactNumbersOnceSpec : ChangeSpec := { name := "fnExactNumbersOnce", fn := fun _ => fun
  | [d] => { results := [.lit (.bool true)], args := [d] }
  | _ => none }
def fnExactNumbersOnceRow : OpenClaim := { program := "ytfponeljjihkbaa", sum := "e680d5497d49c60ba1e6ccb5002810a486a98277d08963ab3c45279d9c0ff9c7", func := "loop.example/g00193/laws.FnExactNumbersOnce", spec := "fnExactNumbersOnce", apart := false }
def FnExactNumbersOnceSaid : Prop := fnExactNumbersOnceRow.holds Try.pinned (OpenSpec.ofChange fnExactNumbersOnceSpec)

/-- ITS FALSE NEIGHBOUR: 'it returns false'. Refute it at one input. -/
def fnExactNumbersOnceWrong : ChangeSpec := { name := "fnExactNumbersOnce", fn := fun _ => fun
  | [d] => { results := [.lit (.bool false)], args := [d] }
  | _ => none }
def FnExactNumbersOnceWrongFalsely : Prop := fnExactNumbersOnceRow.holds Try.pinned (OpenSpec.ofChange fnExactNumbersOnceWrong)

/-- 'laws.FnExactAtMostSaid': WHATEVER THE INPUT: true; the input reads as it did. -/
def fnExactAtMostSaidSpec : ChangeSpec := { name := "fnExactAtMostSaid", fn := fun _ => fun
  | [d] => { results := [.lit (.bool true)], args := [d] }
  | _ => none }
def fnExactAtMostSaidRow : OpenClaim := { program := "ytfponeljjihkbaa", sum := "e680d5497d49c60ba1e6ccb5002810a486a98277d08963ab3c45279d9c0ff9c7", func := "loop.example/g00193/laws.FnExactAtMostSaid", spec := "fnExactAtMostSaid", apart := false }
def FnExactAtMostSaidSaid : Prop := fnExactAtMostSaidRow.holds Try.pinned (OpenSpec.ofChange fnExactAtMostSaidSpec)

/-- ITS FALSE NEIGHBOUR: 'it returns false'. Refute it at one input. -/
def fnExactAtMostSaidWrong : ChangeSpec := { name := "fnExactAtMostSaid", fn := fun _ => fun
  | [d] => { results := [.lit (.bool false)], args := [d] }
  | _ => none }
def FnExactAtMostSaidWrongFalsely : Prop := fnExactAtMostSaidRow.holds Try.pinned (OpenSpec.ofChange fnExactAtMostSaidWrong)

/-- 'laws.FnExactKeysMeet': WHATEVER THE INPUT: true; the input reads as it did. -/
def fnExactKeysMeetSpec : ChangeSpec := { name := "fnExactKeysMeet", fn := fun _ => fun
  | [d] => { results := [.lit (.bool true)], args := [d] }
  | _ => none }
def fnExactKeysMeetRow : OpenClaim := { program := "ytfponeljjihkbaa", sum := "e680d5497d49c60ba1e6ccb5002810a486a98277d08963ab3c45279d9c0ff9c7", func := "loop.example/g00193/laws.FnExactKeysMeet", spec := "fnExactKeysMeet", unfollowed := true, recurses := true, apart := false }
def FnExactKeysMeetSaid : Prop := fnExactKeysMeetRow.holds Try.pinned (OpenSpec.ofChange fnExactKeysMeetSpec)

/-- ITS FALSE NEIGHBOUR: 'it returns false'. Refute it at one input. -/
def fnExactKeysMeetWrong : ChangeSpec := { name := "fnExactKeysMeet", fn := fun _ => fun
  | [d] => { results := [.lit (.bool false)], args := [d] }
  | _ => none }
def FnExactKeysMeetWrongFalsely : Prop := fnExactKeysMeetRow.holds Try.pinned (OpenSpec.ofChange fnExactKeysMeetWrong)

/- THE SECOND FORM. 'bulk': how many values and letters a reading holds, each counted each time it is reached (what is shared counts as often as it is met; a slice's spare places count too). A statement '..UptoSaid' is the law's where the arguments, and the package variables that the reading takes, are together of bulk at most 1048576: NARROWER than '..Said'. Prove '..Said' where nothing that the law and all that it calls make is longer than what came in: it says more and counts as full. Else prove '..UptoSaid'. A law counts once. -/
mutual
def uptoBulk {H : Type} : DataW H → Nat
  | .lit (.string bytes) => bytes.length + 1
  | .lit _ => 1
  | .nil => 1
  | .ptr d => uptoBulk d + 1
  | .slice elems spare => uptoBulkAll elems + uptoBulkAll spare + 1
  | .agg parts => uptoBulkAll parts + 1
  | .iface _ d => uptoBulk d + 1
  | .map entries => uptoBulkEntries entries + 1
  | .held _ => 1
def uptoBulkAll {H : Type} : List (DataW H) → Nat
  | [] => 0
  | d :: r => uptoBulk d + uptoBulkAll r
def uptoBulkEntries {H : Type} : List (Lit × DataW H) → Nat
  | [] => 0
  | x :: r => uptoBulkEntry x + uptoBulkEntries r
def uptoBulkEntry {H : Type} : Lit × DataW H → Nat
  | (.string bytes, d) => bytes.length + uptoBulk d + 1
  | (_, d) => uptoBulk d + 1
 end
def uptoSmall : (H : Type) → List (DataW H) → Bool := fun _ ds => decide (uptoBulkAll ds ≤ 1048576)
def OpenSpec.upto (s : _root_.Go.ChangeSpec) : _root_.Go.OpenSpec := { _root_.Go.OpenSpec.ofChange s with cond := some uptoSmall }

/-- 'laws.FnExactNoteSeen', WHERE WHAT IT READS IS OF BULK AT MOST 1048576: true; the input reads as it did. -/
def fnExactNoteSeenUptoRow : OpenClaim := { program := "ytfponeljjihkbaa", sum := "e680d5497d49c60ba1e6ccb5002810a486a98277d08963ab3c45279d9c0ff9c7", func := "loop.example/g00193/laws.FnExactNoteSeen", spec := "fnExactNoteSeen", unfollowed := true, recurses := true, apart := false, narrowed := true }
def FnExactNoteSeenUptoSaid : Prop := fnExactNoteSeenUptoRow.holds Try.pinned (OpenSpec.upto fnExactNoteSeenSpec)

/-- 'laws.FnExactTakeAll', WHERE WHAT IT READS IS OF BULK AT MOST 1048576: true; the input reads as it did. -/
def fnExactTakeAllUptoRow : OpenClaim := { program := "ytfponeljjihkbaa", sum := "e680d5497d49c60ba1e6ccb5002810a486a98277d08963ab3c45279d9c0ff9c7", func := "loop.example/g00193/laws.FnExactTakeAll", spec := "fnExactTakeAll", unfollowed := true, recurses := true, apart := false, narrowed := true }
def FnExactTakeAllUptoSaid : Prop := fnExactTakeAllUptoRow.holds Try.pinned (OpenSpec.upto fnExactTakeAllSpec)

/-- 'laws.FnExactPairSlots', WHERE WHAT IT READS IS OF BULK AT MOST 1048576: true; the input reads as it did. -/
def fnExactPairSlotsUptoRow : OpenClaim := { program := "ytfponeljjihkbaa", sum := "e680d5497d49c60ba1e6ccb5002810a486a98277d08963ab3c45279d9c0ff9c7", func := "loop.example/g00193/laws.FnExactPairSlots", spec := "fnExactPairSlots", inPlace := ["internal/abi.NoEscape", "internal/bytealg.MakeNoZero"], apart := false, narrowed := true }
def FnExactPairSlotsUptoSaid : Prop := fnExactPairSlotsUptoRow.holds Try.pinned (OpenSpec.upto fnExactPairSlotsSpec)

/-- 'laws.FnExactStepBoth', WHERE WHAT IT READS IS OF BULK AT MOST 1048576: true; the input reads as it did. -/
def fnExactStepBothUptoRow : OpenClaim := { program := "ytfponeljjihkbaa", sum := "e680d5497d49c60ba1e6ccb5002810a486a98277d08963ab3c45279d9c0ff9c7", func := "loop.example/g00193/laws.FnExactStepBoth", spec := "fnExactStepBoth", inPlace := ["internal/abi.NoEscape", "internal/bytealg.MakeNoZero"], apart := false, narrowed := true }
def FnExactStepBothUptoSaid : Prop := fnExactStepBothUptoRow.holds Try.pinned (OpenSpec.upto fnExactStepBothSpec)

/-- 'laws.FnExactTargetOf', WHERE WHAT IT READS IS OF BULK AT MOST 1048576: true; the input reads as it did. -/
def fnExactTargetOfUptoRow : OpenClaim := { program := "ytfponeljjihkbaa", sum := "e680d5497d49c60ba1e6ccb5002810a486a98277d08963ab3c45279d9c0ff9c7", func := "loop.example/g00193/laws.FnExactTargetOf", spec := "fnExactTargetOf", apart := false, narrowed := true }
def FnExactTargetOfUptoSaid : Prop := fnExactTargetOfUptoRow.holds Try.pinned (OpenSpec.upto fnExactTargetOfSpec)

/-- 'laws.FnExactAllowed', WHERE WHAT IT READS IS OF BULK AT MOST 1048576: true; the input reads as it did. -/
def fnExactAllowedUptoRow : OpenClaim := { program := "ytfponeljjihkbaa", sum := "e680d5497d49c60ba1e6ccb5002810a486a98277d08963ab3c45279d9c0ff9c7", func := "loop.example/g00193/laws.FnExactAllowed", spec := "fnExactAllowed", apart := false, narrowed := true }
def FnExactAllowedUptoSaid : Prop := fnExactAllowedUptoRow.holds Try.pinned (OpenSpec.upto fnExactAllowedSpec)

/-- 'laws.FnExactSealData', WHERE WHAT IT READS IS OF BULK AT MOST 1048576: true; the input reads as it did. -/
def fnExactSealDataUptoRow : OpenClaim := { program := "ytfponeljjihkbaa", sum := "e680d5497d49c60ba1e6ccb5002810a486a98277d08963ab3c45279d9c0ff9c7", func := "loop.example/g00193/laws.FnExactSealData", spec := "fnExactSealData", inPlace := ["internal/abi.NoEscape", "internal/bytealg.MakeNoZero"], apart := false, narrowed := true }
def FnExactSealDataUptoSaid : Prop := fnExactSealDataUptoRow.holds Try.pinned (OpenSpec.upto fnExactSealDataSpec)

/-- 'laws.FnExactNumbersOnce', WHERE WHAT IT READS IS OF BULK AT MOST 1048576: true; the input reads as it did. -/
def fnExactNumbersOnceUptoRow : OpenClaim := { program := "ytfponeljjihkbaa", sum := "e680d5497d49c60ba1e6ccb5002810a486a98277d08963ab3c45279d9c0ff9c7", func := "loop.example/g00193/laws.FnExactNumbersOnce", spec := "fnExactNumbersOnce", apart := false, narrowed := true }
def FnExactNumbersOnceUptoSaid : Prop := fnExactNumbersOnceUptoRow.holds Try.pinned (OpenSpec.upto fnExactNumbersOnceSpec)

/-- 'laws.FnExactAtMostSaid', WHERE WHAT IT READS IS OF BULK AT MOST 1048576: true; the input reads as it did. -/
def fnExactAtMostSaidUptoRow : OpenClaim := { program := "ytfponeljjihkbaa", sum := "e680d5497d49c60ba1e6ccb5002810a486a98277d08963ab3c45279d9c0ff9c7", func := "loop.example/g00193/laws.FnExactAtMostSaid", spec := "fnExactAtMostSaid", apart := false, narrowed := true }
def FnExactAtMostSaidUptoSaid : Prop := fnExactAtMostSaidUptoRow.holds Try.pinned (OpenSpec.upto fnExactAtMostSaidSpec)

/-- 'laws.FnExactKeysMeet', WHERE WHAT IT READS IS OF BULK AT MOST 1048576: true; the input reads as it did. -/
def fnExactKeysMeetUptoRow : OpenClaim := { program := "ytfponeljjihkbaa", sum := "e680d5497d49c60ba1e6ccb5002810a486a98277d08963ab3c45279d9c0ff9c7", func := "loop.example/g00193/laws.FnExactKeysMeet", spec := "fnExactKeysMeet", unfollowed := true, recurses := true, apart := false, narrowed := true }
def FnExactKeysMeetUptoSaid : Prop := fnExactKeysMeetUptoRow.holds Try.pinned (OpenSpec.upto fnExactKeysMeetSpec)

end Rows
end Go.Proofs.Ytfponeljjihkbaa
