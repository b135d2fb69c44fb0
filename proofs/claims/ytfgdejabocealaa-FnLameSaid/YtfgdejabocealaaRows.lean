/-
  No cell of these rows narrows 'for every input' (looked for: loops, veiled, ifaces, maps, wideKeys, modest, calm, conditions, laid).
  DERIVED. THE GIVEN ROWS OF THIS SEAT. 5 by the template 'for every input the law returns true; each argument reads behind the call as it read before'; 0 by the template 'total and deterministic' (their statements: YtfgdejabocealaaTotals.lean).
  GIVEN WITH THE SEED: the statements are not yours to turn. If you find one false, say at which input.
  Laid BY PROGRAM, IN A SANDBOX (cutbox-rows.mjs): the forced cells as the released guide's own fill.sh prints them over the translation 125a8c8ab92318ea… (all of the seat's roots in one cut). By AI agents, Wed Nov 11 2026. No macro, syntax, notation, axiom, sorry.
-/
import Derived.Test.YtfgdejabocealaaChecked
import GoSem.Claim
import GoSem.ClaimJoined
import GoSem.ClaimMapViews
import Derived.JoinedTies
import Derived.KernelRfl
namespace Go.Proofs.Ytfgdejabocealaa
/- THE CELL 'sum', in the pinned program and in every row, IS THE sha256 OF THE DUMP (.gsa) THAT YtfgdejabocealaaProg.lean LOADS. Nothing in Lean hashes anything: it is a label: what it is worth is what the hold of that sum in a sandbox is worth. -/
noncomputable def Try.pinned : Pinned := { name := "ytfgdejabocealaa", sum := "125a8c8ab92318ea248bf043bb506fab4c47375b45c63e6524b91186604e4e97", checked := Try.checked }
namespace Rows
def none {H : Type} : Left H := { results := [], args := [] }

/-- 'laws.FnExactPairSlots': WHATEVER THE INPUT: true; the input reads as it did. -/
def fnExactPairSlotsSpec : ChangeSpec := { name := "fnExactPairSlots", fn := fun _ => fun
  | [d] => { results := [.lit (.bool true)], args := [d] }
  | _ => none }
def fnExactPairSlotsRow : OpenClaim := { program := "ytfgdejabocealaa", sum := "125a8c8ab92318ea248bf043bb506fab4c47375b45c63e6524b91186604e4e97", func := "loop.example/g00193/laws.FnExactPairSlots", spec := "fnExactPairSlots", inPlace := ["internal/abi.NoEscape", "internal/bytealg.MakeNoZero"], apart := false }
def FnExactPairSlotsSaid : Prop := fnExactPairSlotsRow.holds Try.pinned (OpenSpec.ofChange fnExactPairSlotsSpec)

/-- ITS FALSE NEIGHBOUR: 'it returns false'. Refute it at one input. -/
def fnExactPairSlotsWrong : ChangeSpec := { name := "fnExactPairSlots", fn := fun _ => fun
  | [d] => { results := [.lit (.bool false)], args := [d] }
  | _ => none }
def FnExactPairSlotsWrongFalsely : Prop := fnExactPairSlotsRow.holds Try.pinned (OpenSpec.ofChange fnExactPairSlotsWrong)

/-- 'laws.FnExactStepBoth': WHATEVER THE INPUT: true; the input reads as it did. -/
def fnExactStepBothSpec : ChangeSpec := { name := "fnExactStepBoth", fn := fun _ => fun
  | [d1, d2] => { results := [.lit (.bool true)], args := [d1, d2] }
  | _ => none }
def fnExactStepBothRow : OpenClaim := { program := "ytfgdejabocealaa", sum := "125a8c8ab92318ea248bf043bb506fab4c47375b45c63e6524b91186604e4e97", func := "loop.example/g00193/laws.FnExactStepBoth", spec := "fnExactStepBoth", inPlace := ["internal/abi.NoEscape", "internal/bytealg.MakeNoZero"], apart := false }
def FnExactStepBothSaid : Prop := fnExactStepBothRow.holds Try.pinned (OpenSpec.ofChange fnExactStepBothSpec)

/-- ITS FALSE NEIGHBOUR: 'it returns false'. Refute it at one input. -/
def fnExactStepBothWrong : ChangeSpec := { name := "fnExactStepBoth", fn := fun _ => fun
  | [d1, d2] => { results := [.lit (.bool false)], args := [d1, d2] }
  | _ => none }
def FnExactStepBothWrongFalsely : Prop := fnExactStepBothRow.holds Try.pinned (OpenSpec.ofChange fnExactStepBothWrong)

/-- 'laws.FnExactSealData': WHATEVER THE INPUT: true; the input reads as it did. -/
def fnExactSealDataSpec : ChangeSpec := { name := "fnExactSealData", fn := fun _ => fun
  | [d1, d2, d3, d4] => { results := [.lit (.bool true)], args := [d1, d2, d3, d4] }
  | _ => none }
def fnExactSealDataRow : OpenClaim := { program := "ytfgdejabocealaa", sum := "125a8c8ab92318ea248bf043bb506fab4c47375b45c63e6524b91186604e4e97", func := "loop.example/g00193/laws.FnExactSealData", spec := "fnExactSealData", inPlace := ["internal/abi.NoEscape", "internal/bytealg.MakeNoZero"], apart := false }
def FnExactSealDataSaid : Prop := fnExactSealDataRow.holds Try.pinned (OpenSpec.ofChange fnExactSealDataSpec)

/-- ITS FALSE NEIGHBOUR: 'it returns false'. Refute it at one input. -/
def fnExactSealDataWrong : ChangeSpec := { name := "fnExactSealData", fn := fun _ => fun
  | [d1, d2, d3, d4] => { results := [.lit (.bool false)], args := [d1, d2, d3, d4] }
  | _ => none }
def FnExactSealDataWrongFalsely : Prop := fnExactSealDataRow.holds Try.pinned (OpenSpec.ofChange fnExactSealDataWrong)

/-- 'laws.FnSlots': WHATEVER THE INPUT: true; the input reads as it did. -/
def fnSlotsSpec : ChangeSpec := { name := "fnSlots", fn := fun _ => fun
  | [d] => { results := [.lit (.bool true)], args := [d] }
  | _ => none }
def fnSlotsRow : OpenClaim := { program := "ytfgdejabocealaa", sum := "125a8c8ab92318ea248bf043bb506fab4c47375b45c63e6524b91186604e4e97", func := "loop.example/g00193/laws.FnSlots", spec := "fnSlots", inPlace := ["internal/abi.NoEscape", "internal/bytealg.MakeNoZero"], apart := false }
def FnSlotsSaid : Prop := fnSlotsRow.holds Try.pinned (OpenSpec.ofChange fnSlotsSpec)

/-- ITS FALSE NEIGHBOUR: 'it returns false'. Refute it at one input. -/
def fnSlotsWrong : ChangeSpec := { name := "fnSlots", fn := fun _ => fun
  | [d] => { results := [.lit (.bool false)], args := [d] }
  | _ => none }
def FnSlotsWrongFalsely : Prop := fnSlotsRow.holds Try.pinned (OpenSpec.ofChange fnSlotsWrong)

/-- 'laws.FnLame': WHATEVER THE INPUT: true; the input reads as it did. -/
def fnLameSpec : ChangeSpec := { name := "fnLame", fn := fun _ => fun
  | [d] => { results := [.lit (.bool true)], args := [d] }
  | _ => none }
def fnLameRow : OpenClaim := { program := "ytfgdejabocealaa", sum := "125a8c8ab92318ea248bf043bb506fab4c47375b45c63e6524b91186604e4e97", func := "loop.example/g00193/laws.FnLame", spec := "fnLame", inPlace := ["internal/abi.NoEscape", "internal/bytealg.MakeNoZero"], unfollowed := true, recurses := true, apart := false }
def FnLameSaid : Prop := fnLameRow.holds Try.pinned (OpenSpec.ofChange fnLameSpec)

/-- ITS FALSE NEIGHBOUR: 'it returns false'. Refute it at one input. -/
def fnLameWrong : ChangeSpec := { name := "fnLame", fn := fun _ => fun
  | [d] => { results := [.lit (.bool false)], args := [d] }
  | _ => none }
def FnLameWrongFalsely : Prop := fnLameRow.holds Try.pinned (OpenSpec.ofChange fnLameWrong)

/- THE SECOND FORM. 'bulk': how many values and letters a reading holds, each counted each time it is reached (what is shared counts as often as it is met; a slice's spare places count too). A statement '..UptoSaid' is the law's where the arguments, and the package variables that the reading takes, are together of bulk at most 1048576: NARROWER than '..Said'. Prove '..Said' where nothing that the law and all that it calls make is longer than what came in: it says more and counts as full. Else prove '..UptoSaid'. A law counts once. -/
mutual
def uptoBulk {H : Type} : DataW H → Nat
  | .lit (.string bytes) => bytes.length + 1
  | .lit _ => 1
  | .nil => 1
  | .ptr d => uptoBulk d + 1
  | .slice elems spare => uptoBulkAll elems + uptoBulkAll spare + 1
  | .agg parts => uptoBulkAll parts + 1
  | .iface _ d => uptoBulk d + 1
  | .map entries => uptoBulkEntries entries + 1
  | .held _ => 1
def uptoBulkAll {H : Type} : List (DataW H) → Nat
  | [] => 0
  | d :: r => uptoBulk d + uptoBulkAll r
def uptoBulkEntries {H : Type} : List (Lit × DataW H) → Nat
  | [] => 0
  | x :: r => uptoBulkEntry x + uptoBulkEntries r
def uptoBulkEntry {H : Type} : Lit × DataW H → Nat
  | (.string bytes, d) => bytes.length + uptoBulk d + 1
  | (_, d) => uptoBulk d + 1
 end
def uptoSmall : (H : Type) → List (DataW H) → Bool := fun _ ds => decide (uptoBulkAll ds ≤ 1048576)
def OpenSpec.upto (s : _root_.Go.ChangeSpec) : _root_.Go.OpenSpec := { _root_.Go.OpenSpec.ofChange s with cond := some uptoSmall }

/-- 'laws.FnExactPairSlots', WHERE WHAT IT READS IS OF BULK AT MOST 1048576: true; the input reads as it did. -/
def fnExactPairSlotsUptoRow : OpenClaim := { program := "ytfgdejabocealaa", sum := "125a8c8ab92318ea248bf043bb506fab4c47375b45c63e6524b91186604e4e97", func := "loop.example/g00193/laws.FnExactPairSlots", spec := "fnExactPairSlots", inPlace := ["internal/abi.NoEscape", "internal/bytealg.MakeNoZero"], apart := false, narrowed := true }
def FnExactPairSlotsUptoSaid : Prop := fnExactPairSlotsUptoRow.holds Try.pinned (OpenSpec.upto fnExactPairSlotsSpec)

/-- 'laws.FnExactStepBoth', WHERE WHAT IT READS IS OF BULK AT MOST 1048576: true; the input reads as it did. -/
def fnExactStepBothUptoRow : OpenClaim := { program := "ytfgdejabocealaa", sum := "125a8c8ab92318ea248bf043bb506fab4c47375b45c63e6524b91186604e4e97", func := "loop.example/g00193/laws.FnExactStepBoth", spec := "fnExactStepBoth", inPlace := ["internal/abi.NoEscape", "internal/bytealg.MakeNoZero"], apart := false, narrowed := true }
def FnExactStepBothUptoSaid : Prop := fnExactStepBothUptoRow.holds Try.pinned (OpenSpec.upto fnExactStepBothSpec)

/-- 'laws.FnExactSealData', WHERE WHAT IT READS IS OF BULK AT MOST 1048576: true; the input reads as it did. -/
def fnExactSealDataUptoRow : OpenClaim := { program := "ytfgdejabocealaa", sum := "125a8c8ab92318ea248bf043bb506fab4c47375b45c63e6524b91186604e4e97", func := "loop.example/g00193/laws.FnExactSealData", spec := "fnExactSealData", inPlace := ["internal/abi.NoEscape", "internal/bytealg.MakeNoZero"], apart := false, narrowed := true }
def FnExactSealDataUptoSaid : Prop := fnExactSealDataUptoRow.holds Try.pinned (OpenSpec.upto fnExactSealDataSpec)

/-- 'laws.FnSlots', WHERE WHAT IT READS IS OF BULK AT MOST 1048576: true; the input reads as it did. -/
def fnSlotsUptoRow : OpenClaim := { program := "ytfgdejabocealaa", sum := "125a8c8ab92318ea248bf043bb506fab4c47375b45c63e6524b91186604e4e97", func := "loop.example/g00193/laws.FnSlots", spec := "fnSlots", inPlace := ["internal/abi.NoEscape", "internal/bytealg.MakeNoZero"], apart := false, narrowed := true }
def FnSlotsUptoSaid : Prop := fnSlotsUptoRow.holds Try.pinned (OpenSpec.upto fnSlotsSpec)

/-- 'laws.FnLame', WHERE WHAT IT READS IS OF BULK AT MOST 1048576: true; the input reads as it did. -/
def fnLameUptoRow : OpenClaim := { program := "ytfgdejabocealaa", sum := "125a8c8ab92318ea248bf043bb506fab4c47375b45c63e6524b91186604e4e97", func := "loop.example/g00193/laws.FnLame", spec := "fnLame", inPlace := ["internal/abi.NoEscape", "internal/bytealg.MakeNoZero"], unfollowed := true, recurses := true, apart := false, narrowed := true }
def FnLameUptoSaid : Prop := fnLameUptoRow.holds Try.pinned (OpenSpec.upto fnLameSpec)

end Rows
end Go.Proofs.Ytfgdejabocealaa
