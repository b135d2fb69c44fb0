import Derived.Test.YtfgdejabocealaaProg
import Derived.Test.YtfgdejabocealaaChecked
import Derived.Test.YtfgdejabocealaaShelf
import Derived.Test.YtfgdejabocealaaEngA
import Derived.Test.YtfgdejabocealaaEngB
import Derived.Test.YtfgdejabocealaaEngC
import Derived.KernelRfl
/- What functions of the program compute, as plain functions, and that their calls do so (part 0). Conditions: the plain function answers. -/
set_option linter.unusedVariables false
namespace Go.Proofs.Ytfgdejabocealaa
open Go Go.Eng Go.Proofs
/-- A continuation under a name: the ways of a branch meet in it. -/
def jn {A R : Type} (f : A) (g : A → R) : R := g f
theorem jn_one {A R : Type} (c : Prop) [Decidable c] (f : A → R) (a b : A) : jn f (fun j => if c then j a else j b) = f (if c then a else b) := by unfold jn; by_cases h : c <;> simp [h]
theorem jn_two {A B R : Type} (c : Prop) [Decidable c] (f : A → B → R) (a b : A) (a' b' : B) : jn f (fun j => if c then j a a' else j b b') = f (if c then a else b) (if c then a' else b') := by unfold jn; by_cases h : c <;> simp [h]
abbrev wi64 (n : Int) : Int := IntKind.i64.wrap n
abbrev wu8 (n : Int) : Int := IntKind.u8.wrap n
abbrev wu16 (n : Int) : Int := IntKind.u16.wrap n
abbrev wu32 (n : Int) : Int := IntKind.u32.wrap n
abbrev wu64 (n : Int) : Int := IntKind.u64.wrap n
def TTab : TT := [(3, ⟨false, 1, [.int .i64 0], [], .int .i64, []⟩),
  (4, ⟨false, 1, [.bool false], [], .bool, []⟩),
  (5, ⟨false, 1, [.int .u8 0], [], .int .u8, []⟩),
  (9, ⟨false, 1, [.str ⟨#[]⟩], [], .str, []⟩),
  (22, ⟨false, 1, [.nils], [], .slice 3 (.int .i64), []⟩),
  (24, ⟨true, 6, [.int .i64 0, .str ⟨#[]⟩, .str ⟨#[]⟩, .int .i64 0, .nils, .int .i64 0], [(0, 3), (1, 9), (2, 9), (3, 3), (4, 22), (5, 3)], .other, []⟩),
  (26, ⟨true, 12, [.int .i64 0, .str ⟨#[]⟩, .str ⟨#[]⟩, .int .i64 0, .nils, .int .i64 0, .int .i64 0, .str ⟨#[]⟩, .str ⟨#[]⟩, .int .i64 0, .nils, .int .i64 0], [(0, 24), (6, 24)], .other, []⟩),
  (32, ⟨true, 6, [.int .i64 0, .str ⟨#[]⟩, .str ⟨#[]⟩, .int .i64 0, .nils, .int .i64 0], [(0, 3), (1, 9), (2, 9), (3, 3), (4, 22), (5, 3)], .other, []⟩),
  (34, ⟨true, 12, [.int .i64 0, .str ⟨#[]⟩, .str ⟨#[]⟩, .int .i64 0, .nils, .int .i64 0, .int .i64 0, .str ⟨#[]⟩, .str ⟨#[]⟩, .int .i64 0, .nils, .int .i64 0], [(0, 32), (6, 32)], .other, []⟩),
  (41, ⟨true, 7, [.int .i64 0, .int .i64 0, .int .i64 0, .int .i64 0, .int .i64 0, .nils, .str ⟨#[]⟩], [(0, 3), (1, 3), (2, 3), (3, 3), (4, 3), (5, 22), (6, 9)], .other, []⟩),
  (47, ⟨false, 1, [.nils], [], .slice 5 (.int .u8), []⟩),
  (58, ⟨false, 1, [.nils], [], .slice 9 .str, []⟩),
  (71, ⟨false, 1, [.dead], [], .other, []⟩),
  (81, ⟨true, 3, [.str ⟨#[]⟩, .str ⟨#[]⟩, .int .i64 0], [(0, 9), (1, 9), (2, 3)], .other, [.str, .str, (.int .i64)]⟩),
  (99, ⟨true, 3, [.nils, .int .i64 0, .int .i64 0], [(0, 47), (1, 3), (2, 3)], .other, []⟩),
  (100, ⟨false, 1, [.int .u64 0], [], .int .u64, []⟩),
  (102, ⟨false, 1, [.nils], [], .slice 111 (.int .u32), []⟩),
  (111, ⟨false, 1, [.int .u32 0], [], .int .u32, []⟩),
  (117, ⟨true, 64, [.int .i64 0, .int .i64 0, .int .i64 0, .int .i64 0, .int .i64 0, .int .i64 0, .int .i64 0, .int .i64 0, .int .i64 0, .int .i64 0, .int .i64 0, .int .i64 0, .int .i64 0, .int .i64 0, .int .i64 0, .int .i64 0, .int .i64 0, .int .i64 0, .int .i64 0, .int .i64 0, .int .i64 0, .int .i64 0, .int .i64 0, .int .i64 0, .int .i64 0, .int .i64 0, .int .i64 0, .int .i64 0, .int .i64 0, .int .i64 0, .int .i64 0, .int .i64 0, .int .i64 0, .int .i64 0, .int .i64 0, .int .i64 0, .int .i64 0, .int .i64 0, .int .i64 0, .int .i64 0, .int .i64 0, .int .i64 0, .int .i64 0, .int .i64 0, .int .i64 0, .int .i64 0, .int .i64 0, .int .i64 0, .int .i64 0, .int .i64 0, .int .i64 0, .int .i64 0, .int .i64 0, .int .i64 0, .int .i64 0, .int .i64 0, .int .i64 0, .int .i64 0, .int .i64 0, .int .i64 0, .int .i64 0, .int .i64 0, .int .i64 0, .int .i64 0], [], .arr 3 64, []⟩),
  (141, ⟨false, 1, [.int .u64 0], [], .int .u64, []⟩),
  (158, ⟨false, 1, [.int .u64 0], [], .int .u64, []⟩)]
theorem tok : TOk Try.prog TTab := tok_ok (by kernel_rfl) (by kernel_rfl)

end Go.Proofs.Ytfgdejabocealaa
