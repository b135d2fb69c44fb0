/-
  No cell of these rows narrows 'for every input' (looked for: loops, veiled, ifaces, maps, wideKeys, modest, calm, conditions, laid).
  DERIVED. THE GIVEN ROWS OF THIS SEAT. 7 by the template 'for every input the law returns true; each argument reads behind the call as it read before'; 0 by the template 'total and deterministic' (their statements: YtnfllchbpechlaaGreatTotals.lean).
  GIVEN WITH THE SEED: the statements are not yours to turn. If you find one false, say at which input.
  Laid BY PROGRAM, IN A SANDBOX (cutbox-rows.mjs): the forced cells as the released guide's own fill.sh prints them over the translation eb00ede33ea9da80… (all of the seat's roots in one cut). By AI agents, Wed Nov 11 2026. No macro, syntax, notation, axiom, sorry.
-/
import Derived.Test.YtnfllchbpechlaaGreatChecked
import GoSem.Claim
import GoSem.ClaimJoined
import GoSem.ClaimMapViews
import Derived.JoinedTies
import Derived.KernelRfl
namespace Go.Proofs.YtnfllchbpechlaaGreat
/- THE CELL 'sum', in the pinned program and in every row, IS THE sha256 OF THE DUMP (.gsa) THAT YtnfllchbpechlaaGreatProg.lean LOADS. Nothing in Lean hashes anything: it is a label: what it is worth is what the hold of that sum in a sandbox is worth. -/
noncomputable def Tryz.pinned : Pinned := { name := "ytnfllchbpechlaagreat", sum := "eb00ede33ea9da8059659580398b8362efb1f8d039288dc7493a4b64b29012d8", checked := Tryz.checked }
namespace Rows
def none {H : Type} : Left H := { results := [], args := [] }

/-- 'laws.FnHubs': WHATEVER THE INPUT: true; the input reads as it did. -/
def fnHubsSpec : ChangeSpec := { name := "fnHubs", fn := fun _ => fun
  | [d] => { results := [.lit (.bool true)], args := [d] }
  | _ => none }
def fnHubsRow : OpenClaim := { program := "ytnfllchbpechlaagreat", sum := "eb00ede33ea9da8059659580398b8362efb1f8d039288dc7493a4b64b29012d8", func := "loop.example/g00193/laws.FnHubs", spec := "fnHubs", inPlace := ["slices.overlaps[loop.example/g00193/impl.Lease]", "slices.overlaps[loop.example/g00193/impl.Route]", "internal/abi.NoEscape", "internal/bytealg.MakeNoZero"], unfollowed := true, recurses := true, apart := false }
def FnHubsSaid : Prop := fnHubsRow.holds Tryz.pinned (OpenSpec.ofChange fnHubsSpec)

/-- ITS FALSE NEIGHBOUR: 'it returns false'. Refute it at one input. -/
def fnHubsWrong : ChangeSpec := { name := "fnHubs", fn := fun _ => fun
  | [d] => { results := [.lit (.bool false)], args := [d] }
  | _ => none }
def FnHubsWrongFalsely : Prop := fnHubsRow.holds Tryz.pinned (OpenSpec.ofChange fnHubsWrong)

/-- 'laws.FnExactAddNet': WHATEVER THE INPUT: true; the input reads as it did. -/
def fnExactAddNetSpec : ChangeSpec := { name := "fnExactAddNet", fn := fun _ => fun
  | [d1, d2, d3] => { results := [.lit (.bool true)], args := [d1, d2, d3] }
  | _ => none }
def fnExactAddNetRow : OpenClaim := { program := "ytnfllchbpechlaagreat", sum := "eb00ede33ea9da8059659580398b8362efb1f8d039288dc7493a4b64b29012d8", func := "loop.example/g00193/laws.FnExactAddNet", spec := "fnExactAddNet", inPlace := ["slices.overlaps[loop.example/g00193/impl.Route]"], unfollowed := true, recurses := true, apart := false }
def FnExactAddNetSaid : Prop := fnExactAddNetRow.holds Tryz.pinned (OpenSpec.ofChange fnExactAddNetSpec)

/-- ITS FALSE NEIGHBOUR: 'it returns false'. Refute it at one input. -/
def fnExactAddNetWrong : ChangeSpec := { name := "fnExactAddNet", fn := fun _ => fun
  | [d1, d2, d3] => { results := [.lit (.bool false)], args := [d1, d2, d3] }
  | _ => none }
def FnExactAddNetWrongFalsely : Prop := fnExactAddNetRow.holds Tryz.pinned (OpenSpec.ofChange fnExactAddNetWrong)

/-- 'laws.FnExactLeave': WHATEVER THE INPUT: true; the input reads as it did. -/
def fnExactLeaveSpec : ChangeSpec := { name := "fnExactLeave", fn := fun _ => fun
  | [d1, d2] => { results := [.lit (.bool true)], args := [d1, d2] }
  | _ => none }
def fnExactLeaveRow : OpenClaim := { program := "ytnfllchbpechlaagreat", sum := "eb00ede33ea9da8059659580398b8362efb1f8d039288dc7493a4b64b29012d8", func := "loop.example/g00193/laws.FnExactLeave", spec := "fnExactLeave", unfollowed := true, recurses := true, apart := false }
def FnExactLeaveSaid : Prop := fnExactLeaveRow.holds Tryz.pinned (OpenSpec.ofChange fnExactLeaveSpec)

/-- ITS FALSE NEIGHBOUR: 'it returns false'. Refute it at one input. -/
def fnExactLeaveWrong : ChangeSpec := { name := "fnExactLeave", fn := fun _ => fun
  | [d1, d2] => { results := [.lit (.bool false)], args := [d1, d2] }
  | _ => none }
def FnExactLeaveWrongFalsely : Prop := fnExactLeaveRow.holds Tryz.pinned (OpenSpec.ofChange fnExactLeaveWrong)

/-- 'laws.FnExactSendInner': WHATEVER THE INPUT: true; the input reads as it did. -/
def fnExactSendInnerSpec : ChangeSpec := { name := "fnExactSendInner", fn := fun _ => fun
  | [d1, d2, d3, d4] => { results := [.lit (.bool true)], args := [d1, d2, d3, d4] }
  | _ => none }
def fnExactSendInnerRow : OpenClaim := { program := "ytnfllchbpechlaagreat", sum := "eb00ede33ea9da8059659580398b8362efb1f8d039288dc7493a4b64b29012d8", func := "loop.example/g00193/laws.FnExactSendInner", spec := "fnExactSendInner", inPlace := ["internal/abi.NoEscape", "internal/bytealg.MakeNoZero"], apart := false }
def FnExactSendInnerSaid : Prop := fnExactSendInnerRow.holds Tryz.pinned (OpenSpec.ofChange fnExactSendInnerSpec)

/-- ITS FALSE NEIGHBOUR: 'it returns false'. Refute it at one input. -/
def fnExactSendInnerWrong : ChangeSpec := { name := "fnExactSendInner", fn := fun _ => fun
  | [d1, d2, d3, d4] => { results := [.lit (.bool false)], args := [d1, d2, d3, d4] }
  | _ => none }
def FnExactSendInnerWrongFalsely : Prop := fnExactSendInnerRow.holds Tryz.pinned (OpenSpec.ofChange fnExactSendInnerWrong)

/-- 'laws.FnExactTakeData': WHATEVER THE INPUT: true; the input reads as it did. -/
def fnExactTakeDataSpec : ChangeSpec := { name := "fnExactTakeData", fn := fun _ => fun
  | [d1, d2, d3] => { results := [.lit (.bool true)], args := [d1, d2, d3] }
  | _ => none }
def fnExactTakeDataRow : OpenClaim := { program := "ytnfllchbpechlaagreat", sum := "eb00ede33ea9da8059659580398b8362efb1f8d039288dc7493a4b64b29012d8", func := "loop.example/g00193/laws.FnExactTakeData", spec := "fnExactTakeData", inPlace := ["internal/abi.NoEscape", "internal/bytealg.MakeNoZero"], unfollowed := true, recurses := true, apart := false }
def FnExactTakeDataSaid : Prop := fnExactTakeDataRow.holds Tryz.pinned (OpenSpec.ofChange fnExactTakeDataSpec)

/-- ITS FALSE NEIGHBOUR: 'it returns false'. Refute it at one input. -/
def fnExactTakeDataWrong : ChangeSpec := { name := "fnExactTakeData", fn := fun _ => fun
  | [d1, d2, d3] => { results := [.lit (.bool false)], args := [d1, d2, d3] }
  | _ => none }
def FnExactTakeDataWrongFalsely : Prop := fnExactTakeDataRow.holds Tryz.pinned (OpenSpec.ofChange fnExactTakeDataWrong)

/-- 'laws.FnExactJoin': WHATEVER THE INPUT: true; the input reads as it did. -/
def fnExactJoinSpec : ChangeSpec := { name := "fnExactJoin", fn := fun _ => fun
  | [d1, d2, d3, d4] => { results := [.lit (.bool true)], args := [d1, d2, d3, d4] }
  | _ => none }
def fnExactJoinRow : OpenClaim := { program := "ytnfllchbpechlaagreat", sum := "eb00ede33ea9da8059659580398b8362efb1f8d039288dc7493a4b64b29012d8", func := "loop.example/g00193/laws.FnExactJoin", spec := "fnExactJoin", inPlace := ["slices.overlaps[loop.example/g00193/impl.Lease]", "slices.overlaps[loop.example/g00193/impl.Route]", "internal/abi.NoEscape", "internal/bytealg.MakeNoZero"], unfollowed := true, recurses := true, apart := false }
def FnExactJoinSaid : Prop := fnExactJoinRow.holds Tryz.pinned (OpenSpec.ofChange fnExactJoinSpec)

/-- ITS FALSE NEIGHBOUR: 'it returns false'. Refute it at one input. -/
def fnExactJoinWrong : ChangeSpec := { name := "fnExactJoin", fn := fun _ => fun
  | [d1, d2, d3, d4] => { results := [.lit (.bool false)], args := [d1, d2, d3, d4] }
  | _ => none }
def FnExactJoinWrongFalsely : Prop := fnExactJoinRow.holds Tryz.pinned (OpenSpec.ofChange fnExactJoinWrong)

/-- 'laws.FnLinks': WHATEVER THE INPUT: true; the input reads as it did. -/
def fnLinksSpec : ChangeSpec := { name := "fnLinks", fn := fun _ => fun
  | [d] => { results := [.lit (.bool true)], args := [d] }
  | _ => none }
def fnLinksRow : OpenClaim := { program := "ytnfllchbpechlaagreat", sum := "eb00ede33ea9da8059659580398b8362efb1f8d039288dc7493a4b64b29012d8", func := "loop.example/g00193/laws.FnLinks", spec := "fnLinks", inPlace := ["internal/abi.NoEscape", "internal/bytealg.MakeNoZero", "slices.overlaps[loop.example/g00193/impl.Route]"], unfollowed := true, recurses := true, apart := false }
def FnLinksSaid : Prop := fnLinksRow.holds Tryz.pinned (OpenSpec.ofChange fnLinksSpec)

/-- ITS FALSE NEIGHBOUR: 'it returns false'. Refute it at one input. -/
def fnLinksWrong : ChangeSpec := { name := "fnLinks", fn := fun _ => fun
  | [d] => { results := [.lit (.bool false)], args := [d] }
  | _ => none }
def FnLinksWrongFalsely : Prop := fnLinksRow.holds Tryz.pinned (OpenSpec.ofChange fnLinksWrong)

/- THE SECOND FORM. 'bulk': how many values and letters a reading holds, each counted each time it is reached (what is shared counts as often as it is met; a slice's spare places count too). A statement '..UptoSaid' is the law's where the arguments, and the package variables that the reading takes, are together of bulk at most 1048576: NARROWER than '..Said'. Prove '..Said' where nothing that the law and all that it calls make is longer than what came in: it says more and counts as full. Else prove '..UptoSaid'. A law counts once. -/
mutual
def uptoBulk {H : Type} : DataW H → Nat
  | .lit (.string bytes) => bytes.length + 1
  | .lit _ => 1
  | .nil => 1
  | .ptr d => uptoBulk d + 1
  | .slice elems spare => uptoBulkAll elems + uptoBulkAll spare + 1
  | .agg parts => uptoBulkAll parts + 1
  | .iface _ d => uptoBulk d + 1
  | .map entries => uptoBulkEntries entries + 1
  | .held _ => 1
def uptoBulkAll {H : Type} : List (DataW H) → Nat
  | [] => 0
  | d :: r => uptoBulk d + uptoBulkAll r
def uptoBulkEntries {H : Type} : List (Lit × DataW H) → Nat
  | [] => 0
  | x :: r => uptoBulkEntry x + uptoBulkEntries r
def uptoBulkEntry {H : Type} : Lit × DataW H → Nat
  | (.string bytes, d) => bytes.length + uptoBulk d + 1
  | (_, d) => uptoBulk d + 1
 end
def uptoSmall : (H : Type) → List (DataW H) → Bool := fun _ ds => decide (uptoBulkAll ds ≤ 1048576)
def OpenSpec.upto (s : _root_.Go.ChangeSpec) : _root_.Go.OpenSpec := { _root_.Go.OpenSpec.ofChange s with cond := some uptoSmall }

/-- 'laws.FnHubs', WHERE WHAT IT READS IS OF BULK AT MOST 1048576: true; the input reads as it did. -/
def fnHubsUptoRow : OpenClaim := { program := "ytnfllchbpechlaagreat", sum := "eb00ede33ea9da8059659580398b8362efb1f8d039288dc7493a4b64b29012d8", func := "loop.example/g00193/laws.FnHubs", spec := "fnHubs", inPlace := ["slices.overlaps[loop.example/g00193/impl.Lease]", "slices.overlaps[loop.example/g00193/impl.Route]", "internal/abi.NoEscape", "internal/bytealg.MakeNoZero"], unfollowed := true, recurses := true, apart := false, narrowed := true }
def FnHubsUptoSaid : Prop := fnHubsUptoRow.holds Tryz.pinned (OpenSpec.upto fnHubsSpec)

/-- 'laws.FnExactAddNet', WHERE WHAT IT READS IS OF BULK AT MOST 1048576: true; the input reads as it did. -/
def fnExactAddNetUptoRow : OpenClaim := { program := "ytnfllchbpechlaagreat", sum := "eb00ede33ea9da8059659580398b8362efb1f8d039288dc7493a4b64b29012d8", func := "loop.example/g00193/laws.FnExactAddNet", spec := "fnExactAddNet", inPlace := ["slices.overlaps[loop.example/g00193/impl.Route]"], unfollowed := true, recurses := true, apart := false, narrowed := true }
def FnExactAddNetUptoSaid : Prop := fnExactAddNetUptoRow.holds Tryz.pinned (OpenSpec.upto fnExactAddNetSpec)

/-- 'laws.FnExactLeave', WHERE WHAT IT READS IS OF BULK AT MOST 1048576: true; the input reads as it did. -/
def fnExactLeaveUptoRow : OpenClaim := { program := "ytnfllchbpechlaagreat", sum := "eb00ede33ea9da8059659580398b8362efb1f8d039288dc7493a4b64b29012d8", func := "loop.example/g00193/laws.FnExactLeave", spec := "fnExactLeave", unfollowed := true, recurses := true, apart := false, narrowed := true }
def FnExactLeaveUptoSaid : Prop := fnExactLeaveUptoRow.holds Tryz.pinned (OpenSpec.upto fnExactLeaveSpec)

/-- 'laws.FnExactSendInner', WHERE WHAT IT READS IS OF BULK AT MOST 1048576: true; the input reads as it did. -/
def fnExactSendInnerUptoRow : OpenClaim := { program := "ytnfllchbpechlaagreat", sum := "eb00ede33ea9da8059659580398b8362efb1f8d039288dc7493a4b64b29012d8", func := "loop.example/g00193/laws.FnExactSendInner", spec := "fnExactSendInner", inPlace := ["internal/abi.NoEscape", "internal/bytealg.MakeNoZero"], apart := false, narrowed := true }
def FnExactSendInnerUptoSaid : Prop := fnExactSendInnerUptoRow.holds Tryz.pinned (OpenSpec.upto fnExactSendInnerSpec)

/-- 'laws.FnExactTakeData', WHERE WHAT IT READS IS OF BULK AT MOST 1048576: true; the input reads as it did. -/
def fnExactTakeDataUptoRow : OpenClaim := { program := "ytnfllchbpechlaagreat", sum := "eb00ede33ea9da8059659580398b8362efb1f8d039288dc7493a4b64b29012d8", func := "loop.example/g00193/laws.FnExactTakeData", spec := "fnExactTakeData", inPlace := ["internal/abi.NoEscape", "internal/bytealg.MakeNoZero"], unfollowed := true, recurses := true, apart := false, narrowed := true }
def FnExactTakeDataUptoSaid : Prop := fnExactTakeDataUptoRow.holds Tryz.pinned (OpenSpec.upto fnExactTakeDataSpec)

/-- 'laws.FnExactJoin', WHERE WHAT IT READS IS OF BULK AT MOST 1048576: true; the input reads as it did. -/
def fnExactJoinUptoRow : OpenClaim := { program := "ytnfllchbpechlaagreat", sum := "eb00ede33ea9da8059659580398b8362efb1f8d039288dc7493a4b64b29012d8", func := "loop.example/g00193/laws.FnExactJoin", spec := "fnExactJoin", inPlace := ["slices.overlaps[loop.example/g00193/impl.Lease]", "slices.overlaps[loop.example/g00193/impl.Route]", "internal/abi.NoEscape", "internal/bytealg.MakeNoZero"], unfollowed := true, recurses := true, apart := false, narrowed := true }
def FnExactJoinUptoSaid : Prop := fnExactJoinUptoRow.holds Tryz.pinned (OpenSpec.upto fnExactJoinSpec)

/-- 'laws.FnLinks', WHERE WHAT IT READS IS OF BULK AT MOST 1048576: true; the input reads as it did. -/
def fnLinksUptoRow : OpenClaim := { program := "ytnfllchbpechlaagreat", sum := "eb00ede33ea9da8059659580398b8362efb1f8d039288dc7493a4b64b29012d8", func := "loop.example/g00193/laws.FnLinks", spec := "fnLinks", inPlace := ["internal/abi.NoEscape", "internal/bytealg.MakeNoZero", "slices.overlaps[loop.example/g00193/impl.Route]"], unfollowed := true, recurses := true, apart := false, narrowed := true }
def FnLinksUptoSaid : Prop := fnLinksUptoRow.holds Tryz.pinned (OpenSpec.upto fnLinksSpec)

end Rows
end Go.Proofs.YtnfllchbpechlaaGreat
