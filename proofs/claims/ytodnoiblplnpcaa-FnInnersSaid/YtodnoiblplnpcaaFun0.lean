import Derived.Test.YtodnoiblplnpcaaProg
import Derived.Test.YtodnoiblplnpcaaChecked
import Derived.Test.YtodnoiblplnpcaaEngA
import Derived.Test.YtodnoiblplnpcaaEngB
import Derived.KernelRfl
/- What functions of the program compute, as plain functions, and that their calls do so (part 0). Conditions: the plain function answers. -/
set_option linter.unusedVariables false
namespace Go.Proofs.Ytodnoiblplnpcaa
open Go Go.Eng Go.Proofs
/-- A continuation under a name: the ways of a branch meet in it. -/
def jn {A R : Type} (f : A) (g : A → R) : R := g f
theorem jn_one {A R : Type} (c : Prop) [Decidable c] (f : A → R) (a b : A) : jn f (fun j => if c then j a else j b) = f (if c then a else b) := by unfold jn; by_cases h : c <;> simp [h]
theorem jn_two {A B R : Type} (c : Prop) [Decidable c] (f : A → B → R) (a b : A) (a' b' : B) : jn f (fun j => if c then j a a' else j b b') = f (if c then a else b) (if c then a' else b') := by unfold jn; by_cases h : c <;> simp [h]
abbrev wi64 (n : Int) : Int := IntKind.i64.wrap n
abbrev wu8 (n : Int) : Int := IntKind.u8.wrap n
abbrev wu16 (n : Int) : Int := IntKind.u16.wrap n
abbrev wu32 (n : Int) : Int := IntKind.u32.wrap n
abbrev wu64 (n : Int) : Int := IntKind.u64.wrap n
def TTab : TT := [(3, ⟨false, 1, [.int .i64 0], [], .int .i64, []⟩),
  (4, ⟨false, 1, [.bool false], [], .bool, []⟩),
  (5, ⟨false, 1, [.int .u8 0], [], .int .u8, []⟩),
  (9, ⟨false, 1, [.str ⟨#[]⟩], [], .str, []⟩),
  (26, ⟨true, 3, [.int .i64 0, .int .i64 0, .str ⟨#[]⟩], [(0, 3), (1, 3), (2, 9)], .other, [(.int .i64), (.int .i64), .str]⟩),
  (29, ⟨true, 3, [.int .i64 0, .int .i64 0, .str ⟨#[]⟩], [(0, 3), (1, 3), (2, 9)], .other, [(.int .i64), (.int .i64), .str]⟩),
  (38, ⟨true, 2, [.int .i64 0, .int .i64 0], [(0, 3), (1, 3)], .other, [(.int .i64), (.int .i64)]⟩),
  (40, ⟨true, 7, [.int .i64 0, .int .i64 0, .int .i64 0, .int .i64 0, .str ⟨#[]⟩, .int .i64 0, .int .i64 0], [(0, 3), (1, 3), (2, 3), (3, 3), (4, 9), (5, 38)], .other, []⟩),
  (43, ⟨true, 2, [.int .i64 0, .int .i64 0], [(0, 3), (1, 3)], .other, [(.int .i64), (.int .i64)]⟩),
  (45, ⟨true, 7, [.int .i64 0, .int .i64 0, .int .i64 0, .int .i64 0, .str ⟨#[]⟩, .int .i64 0, .int .i64 0], [(0, 3), (1, 3), (2, 3), (3, 3), (4, 9), (5, 43)], .other, []⟩),
  (48, ⟨false, 1, [.nils], [], .slice 9 .str, []⟩),
  (54, ⟨false, 1, [.nils], [], .slice 111 (.pair (.int .i64) (.pair (.int .i64) (.pair (.int .i64) .str))), []⟩),
  (57, ⟨false, 1, [.nils], [], .slice 113 (.pair (.int .i64) (.pair (.int .i64) (.pair (.int .i64) .str))), []⟩),
  (61, ⟨false, 1, [.nils], [], .slice 5 (.int .u8), []⟩),
  (65, ⟨false, 1, [.nils], [], .slice 164 (.pair (.int .i64) (.pair (.int .i64) (.pair (.int .i64) (.pair (.list .str) (.pair (.list .bool) (.int .i64)))))), []⟩),
  (67, ⟨true, 1, [.nils], [(0, 65)], .other, []⟩),
  (70, ⟨false, 1, [.nils], [], .slice 126 (.pair (.int .i64) (.pair (.int .i64) (.pair (.int .i64) (.pair (.list .str) (.pair (.list .bool) (.int .i64)))))), []⟩),
  (72, ⟨true, 1, [.nils], [(0, 70)], .other, []⟩),
  (76, ⟨false, 1, [.nils], [], .slice 3 (.int .i64), []⟩),
  (78, ⟨true, 6, [.int .i64 0, .str ⟨#[]⟩, .str ⟨#[]⟩, .int .i64 0, .nils, .int .i64 0], [(0, 3), (1, 9), (2, 9), (3, 3), (4, 76), (5, 3)], .other, []⟩),
  (80, ⟨true, 12, [.int .i64 0, .str ⟨#[]⟩, .str ⟨#[]⟩, .int .i64 0, .nils, .int .i64 0, .int .i64 0, .str ⟨#[]⟩, .str ⟨#[]⟩, .int .i64 0, .nils, .int .i64 0], [(0, 78), (6, 78)], .other, []⟩),
  (82, ⟨true, 6, [.int .i64 0, .str ⟨#[]⟩, .str ⟨#[]⟩, .int .i64 0, .nils, .int .i64 0], [(0, 3), (1, 9), (2, 9), (3, 3), (4, 76), (5, 3)], .other, []⟩),
  (84, ⟨true, 12, [.int .i64 0, .str ⟨#[]⟩, .str ⟨#[]⟩, .int .i64 0, .nils, .int .i64 0, .int .i64 0, .str ⟨#[]⟩, .str ⟨#[]⟩, .int .i64 0, .nils, .int .i64 0], [(0, 82), (6, 82)], .other, []⟩),
  (97, ⟨true, 7, [.int .i64 0, .int .i64 0, .int .i64 0, .int .i64 0, .int .i64 0, .nils, .str ⟨#[]⟩], [(0, 3), (1, 3), (2, 3), (3, 3), (4, 3), (5, 76), (6, 9)], .other, []⟩),
  (111, ⟨true, 4, [.int .i64 0, .int .i64 0, .int .i64 0, .str ⟨#[]⟩], [(0, 3), (1, 26)], .other, []⟩),
  (113, ⟨true, 4, [.int .i64 0, .int .i64 0, .int .i64 0, .str ⟨#[]⟩], [(0, 3), (1, 29)], .other, []⟩),
  (123, ⟨false, 1, [.dead], [], .other, []⟩),
  (124, ⟨false, 1, [.nils], [], .slice 4 .bool, []⟩),
  (126, ⟨true, 6, [.int .i64 0, .int .i64 0, .int .i64 0, .nils, .nils, .int .i64 0], [(0, 3), (1, 3), (2, 3), (3, 48), (4, 124), (5, 3)], .other, []⟩),
  (147, ⟨true, 3, [.str ⟨#[]⟩, .int .i64 0, .bool false], [(0, 9), (1, 3), (2, 4)], .other, [.str, (.int .i64), .bool]⟩),
  (152, ⟨true, 3, [.str ⟨#[]⟩, .int .i64 0, .bool false], [(0, 9), (1, 3), (2, 4)], .other, [.str, (.int .i64), .bool]⟩),
  (162, ⟨true, 3, [.nils, .int .i64 0, .int .i64 0], [(0, 61), (1, 3), (2, 3)], .other, []⟩),
  (164, ⟨true, 6, [.int .i64 0, .int .i64 0, .int .i64 0, .nils, .nils, .int .i64 0], [(0, 3), (1, 3), (2, 3), (3, 48), (4, 124), (5, 3)], .other, []⟩),
  (182, ⟨false, 1, [.int .u32 0], [], .int .u32, []⟩)]
theorem tok : TOk Try.prog TTab := tok_ok (by kernel_rfl) (by kernel_rfl)

end Go.Proofs.Ytodnoiblplnpcaa
