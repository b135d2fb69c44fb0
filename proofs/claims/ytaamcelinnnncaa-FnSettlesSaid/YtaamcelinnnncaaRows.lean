/-
  No cell of these rows narrows 'for every input' (looked for: loops, veiled, ifaces, maps, wideKeys, modest, calm, conditions, laid).
  DERIVED. THE GIVEN ROWS OF THIS SEAT. 8 by the template 'for every input the law returns true; each argument reads behind the call as it read before'; 0 by the template 'total and deterministic' (their statements: YtaamcelinnnncaaTotals.lean).
  GIVEN WITH THE SEED: the statements are not yours to turn. If you find one false, say at which input.
  Laid BY PROGRAM, IN A SANDBOX (cutbox-rows.mjs): the forced cells as the released guide's own fill.sh prints them over the translation 5136c74b12e3b729… (all of the seat's roots in one cut). By AI agents, Wed Nov 11 2026. No macro, syntax, notation, axiom, sorry.
-/
import Derived.Test.YtaamcelinnnncaaChecked
import GoSem.Claim
import GoSem.ClaimJoined
import GoSem.ClaimMapViews
import Derived.JoinedTies
import Derived.KernelRfl
namespace Go.Proofs.Ytaamcelinnnncaa
/- THE CELL 'sum', in the pinned program and in every row, IS THE sha256 OF THE DUMP (.gsa) THAT YtaamcelinnnncaaProg.lean LOADS. Nothing in Lean hashes anything: it is a label: what it is worth is what the hold of that sum in a sandbox is worth. -/
noncomputable def Try.pinned : Pinned := { name := "ytaamcelinnnncaa", sum := "5136c74b12e3b729103968e843d00d82e9afc479643ae6411019e4444e0eff06", checked := Try.checked }
namespace Rows
def none {H : Type} : Left H := { results := [], args := [] }

/-- 'laws.FnPieces': WHATEVER THE INPUT: true; the input reads as it did. -/
def fnPiecesSpec : ChangeSpec := { name := "fnPieces", fn := fun _ => fun
  | [d] => { results := [.lit (.bool true)], args := [d] }
  | _ => none }
def fnPiecesRow : OpenClaim := { program := "ytaamcelinnnncaa", sum := "5136c74b12e3b729103968e843d00d82e9afc479643ae6411019e4444e0eff06", func := "loop.example/g00193/laws.FnPieces", spec := "fnPieces", inPlace := ["internal/abi.NoEscape", "internal/bytealg.MakeNoZero"], unfollowed := true, recurses := true, apart := false }
def FnPiecesSaid : Prop := fnPiecesRow.holds Try.pinned (OpenSpec.ofChange fnPiecesSpec)

/-- ITS FALSE NEIGHBOUR: 'it returns false'. Refute it at one input. -/
def fnPiecesWrong : ChangeSpec := { name := "fnPieces", fn := fun _ => fun
  | [d] => { results := [.lit (.bool false)], args := [d] }
  | _ => none }
def FnPiecesWrongFalsely : Prop := fnPiecesRow.holds Try.pinned (OpenSpec.ofChange fnPiecesWrong)

/-- 'laws.FnExactTidyShelf': WHATEVER THE INPUT: true; the input reads as it did. -/
def fnExactTidyShelfSpec : ChangeSpec := { name := "fnExactTidyShelf", fn := fun _ => fun
  | [d1, d2] => { results := [.lit (.bool true)], args := [d1, d2] }
  | _ => none }
def fnExactTidyShelfRow : OpenClaim := { program := "ytaamcelinnnncaa", sum := "5136c74b12e3b729103968e843d00d82e9afc479643ae6411019e4444e0eff06", func := "loop.example/g00193/laws.FnExactTidyShelf", spec := "fnExactTidyShelf", unfollowed := true, recurses := true, apart := false }
def FnExactTidyShelfSaid : Prop := fnExactTidyShelfRow.holds Try.pinned (OpenSpec.ofChange fnExactTidyShelfSpec)

/-- ITS FALSE NEIGHBOUR: 'it returns false'. Refute it at one input. -/
def fnExactTidyShelfWrong : ChangeSpec := { name := "fnExactTidyShelf", fn := fun _ => fun
  | [d1, d2] => { results := [.lit (.bool false)], args := [d1, d2] }
  | _ => none }
def FnExactTidyShelfWrongFalsely : Prop := fnExactTidyShelfRow.holds Try.pinned (OpenSpec.ofChange fnExactTidyShelfWrong)

/-- 'laws.FnShelves': WHATEVER THE INPUT: true; the input reads as it did. -/
def fnShelvesSpec : ChangeSpec := { name := "fnShelves", fn := fun _ => fun
  | [d] => { results := [.lit (.bool true)], args := [d] }
  | _ => none }
def fnShelvesRow : OpenClaim := { program := "ytaamcelinnnncaa", sum := "5136c74b12e3b729103968e843d00d82e9afc479643ae6411019e4444e0eff06", func := "loop.example/g00193/laws.FnShelves", spec := "fnShelves", inPlace := ["internal/abi.NoEscape", "internal/bytealg.MakeNoZero"], unfollowed := true, recurses := true, apart := false }
def FnShelvesSaid : Prop := fnShelvesRow.holds Try.pinned (OpenSpec.ofChange fnShelvesSpec)

/-- ITS FALSE NEIGHBOUR: 'it returns false'. Refute it at one input. -/
def fnShelvesWrong : ChangeSpec := { name := "fnShelves", fn := fun _ => fun
  | [d] => { results := [.lit (.bool false)], args := [d] }
  | _ => none }
def FnShelvesWrongFalsely : Prop := fnShelvesRow.holds Try.pinned (OpenSpec.ofChange fnShelvesWrong)

/-- 'laws.FnExactAddPart': WHATEVER THE INPUT: true; the input reads as it did. -/
def fnExactAddPartSpec : ChangeSpec := { name := "fnExactAddPart", fn := fun _ => fun
  | [d1, d2, d3, d4] => { results := [.lit (.bool true)], args := [d1, d2, d3, d4] }
  | _ => none }
def fnExactAddPartRow : OpenClaim := { program := "ytaamcelinnnncaa", sum := "5136c74b12e3b729103968e843d00d82e9afc479643ae6411019e4444e0eff06", func := "loop.example/g00193/laws.FnExactAddPart", spec := "fnExactAddPart", inPlace := ["internal/abi.NoEscape", "internal/bytealg.MakeNoZero"], unfollowed := true, recurses := true, apart := false }
def FnExactAddPartSaid : Prop := fnExactAddPartRow.holds Try.pinned (OpenSpec.ofChange fnExactAddPartSpec)

/-- ITS FALSE NEIGHBOUR: 'it returns false'. Refute it at one input. -/
def fnExactAddPartWrong : ChangeSpec := { name := "fnExactAddPart", fn := fun _ => fun
  | [d1, d2, d3, d4] => { results := [.lit (.bool false)], args := [d1, d2, d3, d4] }
  | _ => none }
def FnExactAddPartWrongFalsely : Prop := fnExactAddPartRow.holds Try.pinned (OpenSpec.ofChange fnExactAddPartWrong)

/-- 'laws.FnSettles': WHATEVER THE INPUT: true; the input reads as it did. -/
def fnSettlesSpec : ChangeSpec := { name := "fnSettles", fn := fun _ => fun
  | [d] => { results := [.lit (.bool true)], args := [d] }
  | _ => none }
def fnSettlesRow : OpenClaim := { program := "ytaamcelinnnncaa", sum := "5136c74b12e3b729103968e843d00d82e9afc479643ae6411019e4444e0eff06", func := "loop.example/g00193/laws.FnSettles", spec := "fnSettles", inPlace := ["slices.overlaps[loop.example/g00193/impl.Early]"], unfollowed := true, recurses := true, apart := false }
def FnSettlesSaid : Prop := fnSettlesRow.holds Try.pinned (OpenSpec.ofChange fnSettlesSpec)

/-- ITS FALSE NEIGHBOUR: 'it returns false'. Refute it at one input. -/
def fnSettlesWrong : ChangeSpec := { name := "fnSettles", fn := fun _ => fun
  | [d] => { results := [.lit (.bool false)], args := [d] }
  | _ => none }
def FnSettlesWrongFalsely : Prop := fnSettlesRow.holds Try.pinned (OpenSpec.ofChange fnSettlesWrong)

/-- 'laws.FnTalks': WHATEVER THE INPUT: true; the input reads as it did. -/
def fnTalksSpec : ChangeSpec := { name := "fnTalks", fn := fun _ => fun
  | [d] => { results := [.lit (.bool true)], args := [d] }
  | _ => none }
def fnTalksRow : OpenClaim := { program := "ytaamcelinnnncaa", sum := "5136c74b12e3b729103968e843d00d82e9afc479643ae6411019e4444e0eff06", func := "loop.example/g00193/laws.FnTalks", spec := "fnTalks", inPlace := ["slices.overlaps[loop.example/g00193/impl.Early]"], unfollowed := true, recurses := true, apart := false }
def FnTalksSaid : Prop := fnTalksRow.holds Try.pinned (OpenSpec.ofChange fnTalksSpec)

/-- ITS FALSE NEIGHBOUR: 'it returns false'. Refute it at one input. -/
def fnTalksWrong : ChangeSpec := { name := "fnTalks", fn := fun _ => fun
  | [d] => { results := [.lit (.bool false)], args := [d] }
  | _ => none }
def FnTalksWrongFalsely : Prop := fnTalksRow.holds Try.pinned (OpenSpec.ofChange fnTalksWrong)

/-- 'laws.FnExactRunTalk': WHATEVER THE INPUT: true; the input reads as it did. -/
def fnExactRunTalkSpec : ChangeSpec := { name := "fnExactRunTalk", fn := fun _ => fun
  | [d1, d2, d3] => { results := [.lit (.bool true)], args := [d1, d2, d3] }
  | _ => none }
def fnExactRunTalkRow : OpenClaim := { program := "ytaamcelinnnncaa", sum := "5136c74b12e3b729103968e843d00d82e9afc479643ae6411019e4444e0eff06", func := "loop.example/g00193/laws.FnExactRunTalk", spec := "fnExactRunTalk", inPlace := ["slices.overlaps[loop.example/g00193/impl.Early]"], unfollowed := true, recurses := true, apart := false }
def FnExactRunTalkSaid : Prop := fnExactRunTalkRow.holds Try.pinned (OpenSpec.ofChange fnExactRunTalkSpec)

/-- ITS FALSE NEIGHBOUR: 'it returns false'. Refute it at one input. -/
def fnExactRunTalkWrong : ChangeSpec := { name := "fnExactRunTalk", fn := fun _ => fun
  | [d1, d2, d3] => { results := [.lit (.bool false)], args := [d1, d2, d3] }
  | _ => none }
def FnExactRunTalkWrongFalsely : Prop := fnExactRunTalkRow.holds Try.pinned (OpenSpec.ofChange fnExactRunTalkWrong)

/-- 'laws.FnExactSettle': WHATEVER THE INPUT: true; the input reads as it did. -/
def fnExactSettleSpec : ChangeSpec := { name := "fnExactSettle", fn := fun _ => fun
  | [d1, d2] => { results := [.lit (.bool true)], args := [d1, d2] }
  | _ => none }
def fnExactSettleRow : OpenClaim := { program := "ytaamcelinnnncaa", sum := "5136c74b12e3b729103968e843d00d82e9afc479643ae6411019e4444e0eff06", func := "loop.example/g00193/laws.FnExactSettle", spec := "fnExactSettle", inPlace := ["slices.overlaps[loop.example/g00193/impl.Early]"], unfollowed := true, recurses := true, apart := false }
def FnExactSettleSaid : Prop := fnExactSettleRow.holds Try.pinned (OpenSpec.ofChange fnExactSettleSpec)

/-- ITS FALSE NEIGHBOUR: 'it returns false'. Refute it at one input. -/
def fnExactSettleWrong : ChangeSpec := { name := "fnExactSettle", fn := fun _ => fun
  | [d1, d2] => { results := [.lit (.bool false)], args := [d1, d2] }
  | _ => none }
def FnExactSettleWrongFalsely : Prop := fnExactSettleRow.holds Try.pinned (OpenSpec.ofChange fnExactSettleWrong)

/- THE SECOND FORM. 'bulk': how many values and letters a reading holds, each counted each time it is reached (what is shared counts as often as it is met; a slice's spare places count too). A statement '..UptoSaid' is the law's where the arguments, and the package variables that the reading takes, are together of bulk at most 1048576: NARROWER than '..Said'. Prove '..Said' where nothing that the law and all that it calls make is longer than what came in: it says more and counts as full. Else prove '..UptoSaid'. A law counts once. -/
mutual
def uptoBulk {H : Type} : DataW H → Nat
  | .lit (.string bytes) => bytes.length + 1
  | .lit _ => 1
  | .nil => 1
  | .ptr d => uptoBulk d + 1
  | .slice elems spare => uptoBulkAll elems + uptoBulkAll spare + 1
  | .agg parts => uptoBulkAll parts + 1
  | .iface _ d => uptoBulk d + 1
  | .map entries => uptoBulkEntries entries + 1
  | .held _ => 1
def uptoBulkAll {H : Type} : List (DataW H) → Nat
  | [] => 0
  | d :: r => uptoBulk d + uptoBulkAll r
def uptoBulkEntries {H : Type} : List (Lit × DataW H) → Nat
  | [] => 0
  | x :: r => uptoBulkEntry x + uptoBulkEntries r
def uptoBulkEntry {H : Type} : Lit × DataW H → Nat
  | (.string bytes, d) => bytes.length + uptoBulk d + 1
  | (_, d) => uptoBulk d + 1
 end
def uptoSmall : (H : Type) → List (DataW H) → Bool := fun _ ds => decide (uptoBulkAll ds ≤ 1048576)
def OpenSpec.upto (s : _root_.Go.ChangeSpec) : _root_.Go.OpenSpec := { _root_.Go.OpenSpec.ofChange s with cond := some uptoSmall }

/-- 'laws.FnPieces', WHERE WHAT IT READS IS OF BULK AT MOST 1048576: true; the input reads as it did. -/
def fnPiecesUptoRow : OpenClaim := { program := "ytaamcelinnnncaa", sum := "5136c74b12e3b729103968e843d00d82e9afc479643ae6411019e4444e0eff06", func := "loop.example/g00193/laws.FnPieces", spec := "fnPieces", inPlace := ["internal/abi.NoEscape", "internal/bytealg.MakeNoZero"], unfollowed := true, recurses := true, apart := false, narrowed := true }
def FnPiecesUptoSaid : Prop := fnPiecesUptoRow.holds Try.pinned (OpenSpec.upto fnPiecesSpec)

/-- 'laws.FnExactTidyShelf', WHERE WHAT IT READS IS OF BULK AT MOST 1048576: true; the input reads as it did. -/
def fnExactTidyShelfUptoRow : OpenClaim := { program := "ytaamcelinnnncaa", sum := "5136c74b12e3b729103968e843d00d82e9afc479643ae6411019e4444e0eff06", func := "loop.example/g00193/laws.FnExactTidyShelf", spec := "fnExactTidyShelf", unfollowed := true, recurses := true, apart := false, narrowed := true }
def FnExactTidyShelfUptoSaid : Prop := fnExactTidyShelfUptoRow.holds Try.pinned (OpenSpec.upto fnExactTidyShelfSpec)

/-- 'laws.FnShelves', WHERE WHAT IT READS IS OF BULK AT MOST 1048576: true; the input reads as it did. -/
def fnShelvesUptoRow : OpenClaim := { program := "ytaamcelinnnncaa", sum := "5136c74b12e3b729103968e843d00d82e9afc479643ae6411019e4444e0eff06", func := "loop.example/g00193/laws.FnShelves", spec := "fnShelves", inPlace := ["internal/abi.NoEscape", "internal/bytealg.MakeNoZero"], unfollowed := true, recurses := true, apart := false, narrowed := true }
def FnShelvesUptoSaid : Prop := fnShelvesUptoRow.holds Try.pinned (OpenSpec.upto fnShelvesSpec)

/-- 'laws.FnExactAddPart', WHERE WHAT IT READS IS OF BULK AT MOST 1048576: true; the input reads as it did. -/
def fnExactAddPartUptoRow : OpenClaim := { program := "ytaamcelinnnncaa", sum := "5136c74b12e3b729103968e843d00d82e9afc479643ae6411019e4444e0eff06", func := "loop.example/g00193/laws.FnExactAddPart", spec := "fnExactAddPart", inPlace := ["internal/abi.NoEscape", "internal/bytealg.MakeNoZero"], unfollowed := true, recurses := true, apart := false, narrowed := true }
def FnExactAddPartUptoSaid : Prop := fnExactAddPartUptoRow.holds Try.pinned (OpenSpec.upto fnExactAddPartSpec)

/-- 'laws.FnSettles', WHERE WHAT IT READS IS OF BULK AT MOST 1048576: true; the input reads as it did. -/
def fnSettlesUptoRow : OpenClaim := { program := "ytaamcelinnnncaa", sum := "5136c74b12e3b729103968e843d00d82e9afc479643ae6411019e4444e0eff06", func := "loop.example/g00193/laws.FnSettles", spec := "fnSettles", inPlace := ["slices.overlaps[loop.example/g00193/impl.Early]"], unfollowed := true, recurses := true, apart := false, narrowed := true }
def FnSettlesUptoSaid : Prop := fnSettlesUptoRow.holds Try.pinned (OpenSpec.upto fnSettlesSpec)

/-- 'laws.FnTalks', WHERE WHAT IT READS IS OF BULK AT MOST 1048576: true; the input reads as it did. -/
def fnTalksUptoRow : OpenClaim := { program := "ytaamcelinnnncaa", sum := "5136c74b12e3b729103968e843d00d82e9afc479643ae6411019e4444e0eff06", func := "loop.example/g00193/laws.FnTalks", spec := "fnTalks", inPlace := ["slices.overlaps[loop.example/g00193/impl.Early]"], unfollowed := true, recurses := true, apart := false, narrowed := true }
def FnTalksUptoSaid : Prop := fnTalksUptoRow.holds Try.pinned (OpenSpec.upto fnTalksSpec)

/-- 'laws.FnExactRunTalk', WHERE WHAT IT READS IS OF BULK AT MOST 1048576: true; the input reads as it did. -/
def fnExactRunTalkUptoRow : OpenClaim := { program := "ytaamcelinnnncaa", sum := "5136c74b12e3b729103968e843d00d82e9afc479643ae6411019e4444e0eff06", func := "loop.example/g00193/laws.FnExactRunTalk", spec := "fnExactRunTalk", inPlace := ["slices.overlaps[loop.example/g00193/impl.Early]"], unfollowed := true, recurses := true, apart := false, narrowed := true }
def FnExactRunTalkUptoSaid : Prop := fnExactRunTalkUptoRow.holds Try.pinned (OpenSpec.upto fnExactRunTalkSpec)

/-- 'laws.FnExactSettle', WHERE WHAT IT READS IS OF BULK AT MOST 1048576: true; the input reads as it did. -/
def fnExactSettleUptoRow : OpenClaim := { program := "ytaamcelinnnncaa", sum := "5136c74b12e3b729103968e843d00d82e9afc479643ae6411019e4444e0eff06", func := "loop.example/g00193/laws.FnExactSettle", spec := "fnExactSettle", inPlace := ["slices.overlaps[loop.example/g00193/impl.Early]"], unfollowed := true, recurses := true, apart := false, narrowed := true }
def FnExactSettleUptoSaid : Prop := fnExactSettleUptoRow.holds Try.pinned (OpenSpec.upto fnExactSettleSpec)

end Rows
end Go.Proofs.Ytaamcelinnnncaa
