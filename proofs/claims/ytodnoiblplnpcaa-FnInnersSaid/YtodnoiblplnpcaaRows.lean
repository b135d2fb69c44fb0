/-
  No cell of these rows narrows 'for every input' (looked for: loops, veiled, ifaces, maps, wideKeys, modest, calm, conditions, laid).
  DERIVED. THE GIVEN ROWS OF THIS SEAT. 12 by the template 'for every input the law returns true; each argument reads behind the call as it read before'; 0 by the template 'total and deterministic' (their statements: YtodnoiblplnpcaaTotals.lean).
  GIVEN WITH THE SEED: the statements are not yours to turn. If you find one false, say at which input.
  Laid BY PROGRAM, IN A SANDBOX (cutbox-rows.mjs): the forced cells as the released guide's own fill.sh prints them over the translation 08e8ff4c3588739e… (all of the seat's roots in one cut). By AI agents, Wed Nov 11 2026. No macro, syntax, notation, axiom, sorry.
-/
import Derived.Test.YtodnoiblplnpcaaChecked
import GoSem.Claim
import GoSem.ClaimJoined
import GoSem.ClaimMapViews
import Derived.JoinedTies
import Derived.KernelRfl
namespace Go.Proofs.Ytodnoiblplnpcaa
/- THE CELL 'sum', in the pinned program and in every row, IS THE sha256 OF THE DUMP (.gsa) THAT YtodnoiblplnpcaaProg.lean LOADS. Nothing in Lean hashes anything: it is a label: what it is worth is what the hold of that sum in a sandbox is worth. -/
noncomputable def Try.pinned : Pinned := { name := "ytodnoiblplnpcaa", sum := "08e8ff4c3588739e70268ce7628fee08dfa2b816de7157e27672a84c800c86c1", checked := Try.checked }
namespace Rows
def none {H : Type} : Left H := { results := [], args := [] }

/-- 'laws.FnExactReadPart': WHATEVER THE INPUT: true; the input reads as it did. -/
def fnExactReadPartSpec : ChangeSpec := { name := "fnExactReadPart", fn := fun _ => fun
  | [d] => { results := [.lit (.bool true)], args := [d] }
  | _ => none }
def fnExactReadPartRow : OpenClaim := { program := "ytodnoiblplnpcaa", sum := "08e8ff4c3588739e70268ce7628fee08dfa2b816de7157e27672a84c800c86c1", func := "loop.example/g00193/laws.FnExactReadPart", spec := "fnExactReadPart", apart := false }
def FnExactReadPartSaid : Prop := fnExactReadPartRow.holds Try.pinned (OpenSpec.ofChange fnExactReadPartSpec)

/-- ITS FALSE NEIGHBOUR: 'it returns false'. Refute it at one input. -/
def fnExactReadPartWrong : ChangeSpec := { name := "fnExactReadPart", fn := fun _ => fun
  | [d] => { results := [.lit (.bool false)], args := [d] }
  | _ => none }
def FnExactReadPartWrongFalsely : Prop := fnExactReadPartRow.holds Try.pinned (OpenSpec.ofChange fnExactReadPartWrong)

/-- 'laws.FnExactInnerOk': WHATEVER THE INPUT: true; the input reads as it did. -/
def fnExactInnerOkSpec : ChangeSpec := { name := "fnExactInnerOk", fn := fun _ => fun
  | [d] => { results := [.lit (.bool true)], args := [d] }
  | _ => none }
def fnExactInnerOkRow : OpenClaim := { program := "ytodnoiblplnpcaa", sum := "08e8ff4c3588739e70268ce7628fee08dfa2b816de7157e27672a84c800c86c1", func := "loop.example/g00193/laws.FnExactInnerOk", spec := "fnExactInnerOk", apart := false }
def FnExactInnerOkSaid : Prop := fnExactInnerOkRow.holds Try.pinned (OpenSpec.ofChange fnExactInnerOkSpec)

/-- ITS FALSE NEIGHBOUR: 'it returns false'. Refute it at one input. -/
def fnExactInnerOkWrong : ChangeSpec := { name := "fnExactInnerOk", fn := fun _ => fun
  | [d] => { results := [.lit (.bool false)], args := [d] }
  | _ => none }
def FnExactInnerOkWrongFalsely : Prop := fnExactInnerOkRow.holds Try.pinned (OpenSpec.ofChange fnExactInnerOkWrong)

/-- 'laws.FnExactReadInner': WHATEVER THE INPUT: true; the input reads as it did. -/
def fnExactReadInnerSpec : ChangeSpec := { name := "fnExactReadInner", fn := fun _ => fun
  | [d] => { results := [.lit (.bool true)], args := [d] }
  | _ => none }
def fnExactReadInnerRow : OpenClaim := { program := "ytodnoiblplnpcaa", sum := "08e8ff4c3588739e70268ce7628fee08dfa2b816de7157e27672a84c800c86c1", func := "loop.example/g00193/laws.FnExactReadInner", spec := "fnExactReadInner", apart := false }
def FnExactReadInnerSaid : Prop := fnExactReadInnerRow.holds Try.pinned (OpenSpec.ofChange fnExactReadInnerSpec)

/-- ITS FALSE NEIGHBOUR: 'it returns false'. Refute it at one input. -/
def fnExactReadInnerWrong : ChangeSpec := { name := "fnExactReadInner", fn := fun _ => fun
  | [d] => { results := [.lit (.bool false)], args := [d] }
  | _ => none }
def FnExactReadInnerWrongFalsely : Prop := fnExactReadInnerRow.holds Try.pinned (OpenSpec.ofChange fnExactReadInnerWrong)

/-- 'laws.FnExactInnerText': WHATEVER THE INPUT: true; the input reads as it did. -/
def fnExactInnerTextSpec : ChangeSpec := { name := "fnExactInnerText", fn := fun _ => fun
  | [d] => { results := [.lit (.bool true)], args := [d] }
  | _ => none }
def fnExactInnerTextRow : OpenClaim := { program := "ytodnoiblplnpcaa", sum := "08e8ff4c3588739e70268ce7628fee08dfa2b816de7157e27672a84c800c86c1", func := "loop.example/g00193/laws.FnExactInnerText", spec := "fnExactInnerText", apart := false }
def FnExactInnerTextSaid : Prop := fnExactInnerTextRow.holds Try.pinned (OpenSpec.ofChange fnExactInnerTextSpec)

/-- ITS FALSE NEIGHBOUR: 'it returns false'. Refute it at one input. -/
def fnExactInnerTextWrong : ChangeSpec := { name := "fnExactInnerText", fn := fun _ => fun
  | [d] => { results := [.lit (.bool false)], args := [d] }
  | _ => none }
def FnExactInnerTextWrongFalsely : Prop := fnExactInnerTextRow.holds Try.pinned (OpenSpec.ofChange fnExactInnerTextWrong)

/-- 'laws.FnExactHappenOk': WHATEVER THE INPUT: true; the input reads as it did. -/
def fnExactHappenOkSpec : ChangeSpec := { name := "fnExactHappenOk", fn := fun _ => fun
  | [d] => { results := [.lit (.bool true)], args := [d] }
  | _ => none }
def fnExactHappenOkRow : OpenClaim := { program := "ytodnoiblplnpcaa", sum := "08e8ff4c3588739e70268ce7628fee08dfa2b816de7157e27672a84c800c86c1", func := "loop.example/g00193/laws.FnExactHappenOk", spec := "fnExactHappenOk", apart := false }
def FnExactHappenOkSaid : Prop := fnExactHappenOkRow.holds Try.pinned (OpenSpec.ofChange fnExactHappenOkSpec)

/-- ITS FALSE NEIGHBOUR: 'it returns false'. Refute it at one input. -/
def fnExactHappenOkWrong : ChangeSpec := { name := "fnExactHappenOk", fn := fun _ => fun
  | [d] => { results := [.lit (.bool false)], args := [d] }
  | _ => none }
def FnExactHappenOkWrongFalsely : Prop := fnExactHappenOkRow.holds Try.pinned (OpenSpec.ofChange fnExactHappenOkWrong)

/-- 'laws.FnExactSplit': WHATEVER THE INPUT: true; the input reads as it did. -/
def fnExactSplitSpec : ChangeSpec := { name := "fnExactSplit", fn := fun _ => fun
  | [d1, d2, d3] => { results := [.lit (.bool true)], args := [d1, d2, d3] }
  | _ => none }
def fnExactSplitRow : OpenClaim := { program := "ytodnoiblplnpcaa", sum := "08e8ff4c3588739e70268ce7628fee08dfa2b816de7157e27672a84c800c86c1", func := "loop.example/g00193/laws.FnExactSplit", spec := "fnExactSplit", apart := false }
def FnExactSplitSaid : Prop := fnExactSplitRow.holds Try.pinned (OpenSpec.ofChange fnExactSplitSpec)

/-- ITS FALSE NEIGHBOUR: 'it returns false'. Refute it at one input. -/
def fnExactSplitWrong : ChangeSpec := { name := "fnExactSplit", fn := fun _ => fun
  | [d1, d2, d3] => { results := [.lit (.bool false)], args := [d1, d2, d3] }
  | _ => none }
def FnExactSplitWrongFalsely : Prop := fnExactSplitRow.holds Try.pinned (OpenSpec.ofChange fnExactSplitWrong)

/-- 'laws.FnExactCountOf': WHATEVER THE INPUT: true; the input reads as it did. -/
def fnExactCountOfSpec : ChangeSpec := { name := "fnExactCountOf", fn := fun _ => fun
  | [d1, d2] => { results := [.lit (.bool true)], args := [d1, d2] }
  | _ => none }
def fnExactCountOfRow : OpenClaim := { program := "ytodnoiblplnpcaa", sum := "08e8ff4c3588739e70268ce7628fee08dfa2b816de7157e27672a84c800c86c1", func := "loop.example/g00193/laws.FnExactCountOf", spec := "fnExactCountOf", apart := false }
def FnExactCountOfSaid : Prop := fnExactCountOfRow.holds Try.pinned (OpenSpec.ofChange fnExactCountOfSpec)

/-- ITS FALSE NEIGHBOUR: 'it returns false'. Refute it at one input. -/
def fnExactCountOfWrong : ChangeSpec := { name := "fnExactCountOf", fn := fun _ => fun
  | [d1, d2] => { results := [.lit (.bool false)], args := [d1, d2] }
  | _ => none }
def FnExactCountOfWrongFalsely : Prop := fnExactCountOfRow.holds Try.pinned (OpenSpec.ofChange fnExactCountOfWrong)

/-- 'laws.FnInners': WHATEVER THE INPUT: true; the input reads as it did. -/
def fnInnersSpec : ChangeSpec := { name := "fnInners", fn := fun _ => fun
  | [d] => { results := [.lit (.bool true)], args := [d] }
  | _ => none }
def fnInnersRow : OpenClaim := { program := "ytodnoiblplnpcaa", sum := "08e8ff4c3588739e70268ce7628fee08dfa2b816de7157e27672a84c800c86c1", func := "loop.example/g00193/laws.FnInners", spec := "fnInners", apart := false }
def FnInnersSaid : Prop := fnInnersRow.holds Try.pinned (OpenSpec.ofChange fnInnersSpec)

/-- ITS FALSE NEIGHBOUR: 'it returns false'. Refute it at one input. -/
def fnInnersWrong : ChangeSpec := { name := "fnInners", fn := fun _ => fun
  | [d] => { results := [.lit (.bool false)], args := [d] }
  | _ => none }
def FnInnersWrongFalsely : Prop := fnInnersRow.holds Try.pinned (OpenSpec.ofChange fnInnersWrong)

/-- 'laws.FnExactShelfOk': WHATEVER THE INPUT: true; the input reads as it did. -/
def fnExactShelfOkSpec : ChangeSpec := { name := "fnExactShelfOk", fn := fun _ => fun
  | [d] => { results := [.lit (.bool true)], args := [d] }
  | _ => none }
def fnExactShelfOkRow : OpenClaim := { program := "ytodnoiblplnpcaa", sum := "08e8ff4c3588739e70268ce7628fee08dfa2b816de7157e27672a84c800c86c1", func := "loop.example/g00193/laws.FnExactShelfOk", spec := "fnExactShelfOk", unfollowed := true, recurses := true, apart := false }
def FnExactShelfOkSaid : Prop := fnExactShelfOkRow.holds Try.pinned (OpenSpec.ofChange fnExactShelfOkSpec)

/-- ITS FALSE NEIGHBOUR: 'it returns false'. Refute it at one input. -/
def fnExactShelfOkWrong : ChangeSpec := { name := "fnExactShelfOk", fn := fun _ => fun
  | [d] => { results := [.lit (.bool false)], args := [d] }
  | _ => none }
def FnExactShelfOkWrongFalsely : Prop := fnExactShelfOkRow.holds Try.pinned (OpenSpec.ofChange fnExactShelfOkWrong)

/-- 'laws.FnExactInstall': WHATEVER THE INPUT: true; the input reads as it did. -/
def fnExactInstallSpec : ChangeSpec := { name := "fnExactInstall", fn := fun _ => fun
  | [d1, d2, d3, d4] => { results := [.lit (.bool true)], args := [d1, d2, d3, d4] }
  | _ => none }
def fnExactInstallRow : OpenClaim := { program := "ytodnoiblplnpcaa", sum := "08e8ff4c3588739e70268ce7628fee08dfa2b816de7157e27672a84c800c86c1", func := "loop.example/g00193/laws.FnExactInstall", spec := "fnExactInstall", apart := false }
def FnExactInstallSaid : Prop := fnExactInstallRow.holds Try.pinned (OpenSpec.ofChange fnExactInstallSpec)

/-- ITS FALSE NEIGHBOUR: 'it returns false'. Refute it at one input. -/
def fnExactInstallWrong : ChangeSpec := { name := "fnExactInstall", fn := fun _ => fun
  | [d1, d2, d3, d4] => { results := [.lit (.bool false)], args := [d1, d2, d3, d4] }
  | _ => none }
def FnExactInstallWrongFalsely : Prop := fnExactInstallRow.holds Try.pinned (OpenSpec.ofChange fnExactInstallWrong)

/-- 'laws.FnPieces': WHATEVER THE INPUT: true; the input reads as it did. -/
def fnPiecesSpec : ChangeSpec := { name := "fnPieces", fn := fun _ => fun
  | [d] => { results := [.lit (.bool true)], args := [d] }
  | _ => none }
def fnPiecesRow : OpenClaim := { program := "ytodnoiblplnpcaa", sum := "08e8ff4c3588739e70268ce7628fee08dfa2b816de7157e27672a84c800c86c1", func := "loop.example/g00193/laws.FnPieces", spec := "fnPieces", inPlace := ["internal/abi.NoEscape", "internal/bytealg.MakeNoZero"], unfollowed := true, recurses := true, apart := false }
def FnPiecesSaid : Prop := fnPiecesRow.holds Try.pinned (OpenSpec.ofChange fnPiecesSpec)

/-- ITS FALSE NEIGHBOUR: 'it returns false'. Refute it at one input. -/
def fnPiecesWrong : ChangeSpec := { name := "fnPieces", fn := fun _ => fun
  | [d] => { results := [.lit (.bool false)], args := [d] }
  | _ => none }
def FnPiecesWrongFalsely : Prop := fnPiecesRow.holds Try.pinned (OpenSpec.ofChange fnPiecesWrong)

/-- 'laws.FnExactReadPacket': WHATEVER THE INPUT: true; the input reads as it did. -/
def fnExactReadPacketSpec : ChangeSpec := { name := "fnExactReadPacket", fn := fun _ => fun
  | [d] => { results := [.lit (.bool true)], args := [d] }
  | _ => none }
def fnExactReadPacketRow : OpenClaim := { program := "ytodnoiblplnpcaa", sum := "08e8ff4c3588739e70268ce7628fee08dfa2b816de7157e27672a84c800c86c1", func := "loop.example/g00193/laws.FnExactReadPacket", spec := "fnExactReadPacket", apart := false }
def FnExactReadPacketSaid : Prop := fnExactReadPacketRow.holds Try.pinned (OpenSpec.ofChange fnExactReadPacketSpec)

/-- ITS FALSE NEIGHBOUR: 'it returns false'. Refute it at one input. -/
def fnExactReadPacketWrong : ChangeSpec := { name := "fnExactReadPacket", fn := fun _ => fun
  | [d] => { results := [.lit (.bool false)], args := [d] }
  | _ => none }
def FnExactReadPacketWrongFalsely : Prop := fnExactReadPacketRow.holds Try.pinned (OpenSpec.ofChange fnExactReadPacketWrong)

/- THE SECOND FORM. 'bulk': how many values and letters a reading holds, each counted each time it is reached (what is shared counts as often as it is met; a slice's spare places count too). A statement '..UptoSaid' is the law's where the arguments, and the package variables that the reading takes, are together of bulk at most 1048576: NARROWER than '..Said'. Prove '..Said' where nothing that the law and all that it calls make is longer than what came in: it says more and counts as full. Else prove '..UptoSaid'. A law counts once. -/
mutual
def uptoBulk {H : Type} : DataW H → Nat
  | .lit (.string bytes) => bytes.length + 1
  | .lit _ => 1
  | .nil => 1
  | .ptr d => uptoBulk d + 1
  | .slice elems spare => uptoBulkAll elems + uptoBulkAll spare + 1
  | .agg parts => uptoBulkAll parts + 1
  | .iface _ d => uptoBulk d + 1
  | .map entries => uptoBulkEntries entries + 1
  | .held _ => 1
def uptoBulkAll {H : Type} : List (DataW H) → Nat
  | [] => 0
  | d :: r => uptoBulk d + uptoBulkAll r
def uptoBulkEntries {H : Type} : List (Lit × DataW H) → Nat
  | [] => 0
  | x :: r => uptoBulkEntry x + uptoBulkEntries r
def uptoBulkEntry {H : Type} : Lit × DataW H → Nat
  | (.string bytes, d) => bytes.length + uptoBulk d + 1
  | (_, d) => uptoBulk d + 1
 end
def uptoSmall : (H : Type) → List (DataW H) → Bool := fun _ ds => decide (uptoBulkAll ds ≤ 1048576)
def OpenSpec.upto (s : _root_.Go.ChangeSpec) : _root_.Go.OpenSpec := { _root_.Go.OpenSpec.ofChange s with cond := some uptoSmall }

/-- 'laws.FnExactReadPart', WHERE WHAT IT READS IS OF BULK AT MOST 1048576: true; the input reads as it did. -/
def fnExactReadPartUptoRow : OpenClaim := { program := "ytodnoiblplnpcaa", sum := "08e8ff4c3588739e70268ce7628fee08dfa2b816de7157e27672a84c800c86c1", func := "loop.example/g00193/laws.FnExactReadPart", spec := "fnExactReadPart", apart := false, narrowed := true }
def FnExactReadPartUptoSaid : Prop := fnExactReadPartUptoRow.holds Try.pinned (OpenSpec.upto fnExactReadPartSpec)

/-- 'laws.FnExactInnerOk', WHERE WHAT IT READS IS OF BULK AT MOST 1048576: true; the input reads as it did. -/
def fnExactInnerOkUptoRow : OpenClaim := { program := "ytodnoiblplnpcaa", sum := "08e8ff4c3588739e70268ce7628fee08dfa2b816de7157e27672a84c800c86c1", func := "loop.example/g00193/laws.FnExactInnerOk", spec := "fnExactInnerOk", apart := false, narrowed := true }
def FnExactInnerOkUptoSaid : Prop := fnExactInnerOkUptoRow.holds Try.pinned (OpenSpec.upto fnExactInnerOkSpec)

/-- 'laws.FnExactReadInner', WHERE WHAT IT READS IS OF BULK AT MOST 1048576: true; the input reads as it did. -/
def fnExactReadInnerUptoRow : OpenClaim := { program := "ytodnoiblplnpcaa", sum := "08e8ff4c3588739e70268ce7628fee08dfa2b816de7157e27672a84c800c86c1", func := "loop.example/g00193/laws.FnExactReadInner", spec := "fnExactReadInner", apart := false, narrowed := true }
def FnExactReadInnerUptoSaid : Prop := fnExactReadInnerUptoRow.holds Try.pinned (OpenSpec.upto fnExactReadInnerSpec)

/-- 'laws.FnExactInnerText', WHERE WHAT IT READS IS OF BULK AT MOST 1048576: true; the input reads as it did. -/
def fnExactInnerTextUptoRow : OpenClaim := { program := "ytodnoiblplnpcaa", sum := "08e8ff4c3588739e70268ce7628fee08dfa2b816de7157e27672a84c800c86c1", func := "loop.example/g00193/laws.FnExactInnerText", spec := "fnExactInnerText", apart := false, narrowed := true }
def FnExactInnerTextUptoSaid : Prop := fnExactInnerTextUptoRow.holds Try.pinned (OpenSpec.upto fnExactInnerTextSpec)

/-- 'laws.FnExactHappenOk', WHERE WHAT IT READS IS OF BULK AT MOST 1048576: true; the input reads as it did. -/
def fnExactHappenOkUptoRow : OpenClaim := { program := "ytodnoiblplnpcaa", sum := "08e8ff4c3588739e70268ce7628fee08dfa2b816de7157e27672a84c800c86c1", func := "loop.example/g00193/laws.FnExactHappenOk", spec := "fnExactHappenOk", apart := false, narrowed := true }
def FnExactHappenOkUptoSaid : Prop := fnExactHappenOkUptoRow.holds Try.pinned (OpenSpec.upto fnExactHappenOkSpec)

/-- 'laws.FnExactSplit', WHERE WHAT IT READS IS OF BULK AT MOST 1048576: true; the input reads as it did. -/
def fnExactSplitUptoRow : OpenClaim := { program := "ytodnoiblplnpcaa", sum := "08e8ff4c3588739e70268ce7628fee08dfa2b816de7157e27672a84c800c86c1", func := "loop.example/g00193/laws.FnExactSplit", spec := "fnExactSplit", apart := false, narrowed := true }
def FnExactSplitUptoSaid : Prop := fnExactSplitUptoRow.holds Try.pinned (OpenSpec.upto fnExactSplitSpec)

/-- 'laws.FnExactCountOf', WHERE WHAT IT READS IS OF BULK AT MOST 1048576: true; the input reads as it did. -/
def fnExactCountOfUptoRow : OpenClaim := { program := "ytodnoiblplnpcaa", sum := "08e8ff4c3588739e70268ce7628fee08dfa2b816de7157e27672a84c800c86c1", func := "loop.example/g00193/laws.FnExactCountOf", spec := "fnExactCountOf", apart := false, narrowed := true }
def FnExactCountOfUptoSaid : Prop := fnExactCountOfUptoRow.holds Try.pinned (OpenSpec.upto fnExactCountOfSpec)

/-- 'laws.FnInners', WHERE WHAT IT READS IS OF BULK AT MOST 1048576: true; the input reads as it did. -/
def fnInnersUptoRow : OpenClaim := { program := "ytodnoiblplnpcaa", sum := "08e8ff4c3588739e70268ce7628fee08dfa2b816de7157e27672a84c800c86c1", func := "loop.example/g00193/laws.FnInners", spec := "fnInners", apart := false, narrowed := true }
def FnInnersUptoSaid : Prop := fnInnersUptoRow.holds Try.pinned (OpenSpec.upto fnInnersSpec)

/-- 'laws.FnExactShelfOk', WHERE WHAT IT READS IS OF BULK AT MOST 1048576: true; the input reads as it did. -/
def fnExactShelfOkUptoRow : OpenClaim := { program := "ytodnoiblplnpcaa", sum := "08e8ff4c3588739e70268ce7628fee08dfa2b816de7157e27672a84c800c86c1", func := "loop.example/g00193/laws.FnExactShelfOk", spec := "fnExactShelfOk", unfollowed := true, recurses := true, apart := false, narrowed := true }
def FnExactShelfOkUptoSaid : Prop := fnExactShelfOkUptoRow.holds Try.pinned (OpenSpec.upto fnExactShelfOkSpec)

/-- 'laws.FnExactInstall', WHERE WHAT IT READS IS OF BULK AT MOST 1048576: true; the input reads as it did. -/
def fnExactInstallUptoRow : OpenClaim := { program := "ytodnoiblplnpcaa", sum := "08e8ff4c3588739e70268ce7628fee08dfa2b816de7157e27672a84c800c86c1", func := "loop.example/g00193/laws.FnExactInstall", spec := "fnExactInstall", apart := false, narrowed := true }
def FnExactInstallUptoSaid : Prop := fnExactInstallUptoRow.holds Try.pinned (OpenSpec.upto fnExactInstallSpec)

/-- 'laws.FnPieces', WHERE WHAT IT READS IS OF BULK AT MOST 1048576: true; the input reads as it did. -/
def fnPiecesUptoRow : OpenClaim := { program := "ytodnoiblplnpcaa", sum := "08e8ff4c3588739e70268ce7628fee08dfa2b816de7157e27672a84c800c86c1", func := "loop.example/g00193/laws.FnPieces", spec := "fnPieces", inPlace := ["internal/abi.NoEscape", "internal/bytealg.MakeNoZero"], unfollowed := true, recurses := true, apart := false, narrowed := true }
def FnPiecesUptoSaid : Prop := fnPiecesUptoRow.holds Try.pinned (OpenSpec.upto fnPiecesSpec)

/-- 'laws.FnExactReadPacket', WHERE WHAT IT READS IS OF BULK AT MOST 1048576: true; the input reads as it did. -/
def fnExactReadPacketUptoRow : OpenClaim := { program := "ytodnoiblplnpcaa", sum := "08e8ff4c3588739e70268ce7628fee08dfa2b816de7157e27672a84c800c86c1", func := "loop.example/g00193/laws.FnExactReadPacket", spec := "fnExactReadPacket", apart := false, narrowed := true }
def FnExactReadPacketUptoSaid : Prop := fnExactReadPacketUptoRow.holds Try.pinned (OpenSpec.upto fnExactReadPacketSpec)

end Rows
end Go.Proofs.Ytodnoiblplnpcaa
