import Derived.Test.YtdcfekhjhopbfaaProg
import Derived.Test.YtdcfekhjhopbfaaChecked
import Derived.Test.YtdcfekhjhopbfaaEngA
import Derived.Test.YtdcfekhjhopbfaaEngB
import Derived.KernelRfl
/- What functions of the program compute, as plain functions, and that their calls do so (part 0). Conditions: the plain function answers. -/
set_option linter.unusedVariables false
namespace Go.Proofs.Ytdcfekhjhopbfaa
open Go Go.Eng Go.Proofs
/-- A continuation under a name: the ways of a branch meet in it. -/
def jn {A R : Type} (f : A) (g : A → R) : R := g f
theorem jn_one {A R : Type} (c : Prop) [Decidable c] (f : A → R) (a b : A) : jn f (fun j => if c then j a else j b) = f (if c then a else b) := by unfold jn; by_cases h : c <;> simp [h]
theorem jn_two {A B R : Type} (c : Prop) [Decidable c] (f : A → B → R) (a b : A) (a' b' : B) : jn f (fun j => if c then j a a' else j b b') = f (if c then a else b) (if c then a' else b') := by unfold jn; by_cases h : c <;> simp [h]
abbrev wi64 (n : Int) : Int := IntKind.i64.wrap n
abbrev wu8 (n : Int) : Int := IntKind.u8.wrap n
abbrev wu16 (n : Int) : Int := IntKind.u16.wrap n
abbrev wu32 (n : Int) : Int := IntKind.u32.wrap n
abbrev wu64 (n : Int) : Int := IntKind.u64.wrap n
def TTab : TT := [(3, ⟨false, 1, [.int .i64 0], [], .int .i64, []⟩),
  (4, ⟨false, 1, [.bool false], [], .bool, []⟩),
  (5, ⟨false, 1, [.int .u8 0], [], .int .u8, []⟩),
  (9, ⟨false, 1, [.str ⟨#[]⟩], [], .str, []⟩),
  (23, ⟨true, 2, [.int .i64 0, .int .i64 0], [(0, 3), (1, 3)], .other, [(.int .i64), (.int .i64)]⟩),
  (24, ⟨true, 2, [.int .i64 0, .int .i64 0], [(0, 3), (1, 3)], .other, [(.int .i64), (.int .i64)]⟩),
  (25, ⟨false, 1, [.nils], [], .slice 70 (.pair (.int .i64) (.pair (.int .i64) (.int .i64))), []⟩),
  (26, ⟨false, 1, [.nils], [], .slice 67 (.pair (.int .i64) (.int .i64)), []⟩),
  (28, ⟨true, 4, [.int .i64 0, .int .i64 0, .nils, .nils], [(0, 24), (2, 25), (3, 26)], .other, []⟩),
  (29, ⟨false, 1, [.nils], [], .slice 78 (.pair (.pair (.int .i64) (.int .i64)) (.int .i64)), []⟩),
  (30, ⟨false, 1, [.nils], [], .slice 88 (.pair (.int .i64) (.pair (.int .i64) (.pair (.pair (.pair (.int .i64) (.pair .str (.pair .str (.pair (.int .i64) (.pair (.list (.int .i64)) (.int .i64)))))) (.pair (.int .i64) (.pair .str (.pair .str (.pair (.int .i64) (.pair (.list (.int .i64)) (.int .i64))))))) (.pair (.list (.pair (.int .i64) (.pair (.int .i64) (.pair (.int .i64) (.pair (.list .str) (.pair (.list .bool) (.int .i64))))))) (.int .i64))))), []⟩),
  (32, ⟨true, 6, [.int .i64 0, .int .i64 0, .nils, .nils, .nils, .nils], [(0, 28), (4, 29), (5, 30)], .other, []⟩),
  (39, ⟨false, 1, [.nils], [], .slice 3 (.int .i64), []⟩),
  (40, ⟨false, 1, [.nils], [], .slice 97 (.pair (.int .i64) (.pair (.int .i64) (.pair .bool (.pair (.int .i64) (.pair (.int .i64) (.pair (.int .i64) (.pair (.int .i64) (.pair (.int .i64) (.pair (.list (.int .i64)) .str))))))))), []⟩),
  (41, ⟨false, 1, [.nils], [], .slice 102 (.pair (.int .i64) (.pair (.int .i64) (.pair (.int .i64) .str))), []⟩),
  (42, ⟨false, 1, [.nils], [], .slice 105 (.pair (.int .i64) (.pair .bool (.pair (.int .i64) (.int .i64)))), []⟩),
  (44, ⟨true, 15, [.int .i64 0, .int .i64 0, .nils, .nils, .nils, .nils, .nils, .nils, .int .i64 0, .nils, .int .i64 0, .nils, .nils, .int .i64 0, .nils], [(0, 32), (6, 30), (7, 39), (8, 3), (9, 40), (10, 3), (11, 41), (12, 41), (13, 3), (14, 42)], .other, []⟩),
  (67, ⟨true, 2, [.int .i64 0, .int .i64 0], [(0, 3), (1, 3)], .other, [(.int .i64), (.int .i64)]⟩),
  (70, ⟨true, 3, [.int .i64 0, .int .i64 0, .int .i64 0], [(0, 3), (1, 3), (2, 3)], .other, [(.int .i64), (.int .i64), (.int .i64)]⟩),
  (78, ⟨true, 3, [.int .i64 0, .int .i64 0, .int .i64 0], [(0, 24), (2, 3)], .other, []⟩),
  (81, ⟨true, 6, [.int .i64 0, .str ⟨#[]⟩, .str ⟨#[]⟩, .int .i64 0, .nils, .int .i64 0], [(0, 3), (1, 9), (2, 9), (3, 3), (4, 39), (5, 3)], .other, []⟩),
  (83, ⟨true, 12, [.int .i64 0, .str ⟨#[]⟩, .str ⟨#[]⟩, .int .i64 0, .nils, .int .i64 0, .int .i64 0, .str ⟨#[]⟩, .str ⟨#[]⟩, .int .i64 0, .nils, .int .i64 0], [(0, 81), (6, 81)], .other, []⟩),
  (84, ⟨false, 1, [.nils], [], .slice 117 (.pair (.int .i64) (.pair (.int .i64) (.pair (.int .i64) (.pair (.list .str) (.pair (.list .bool) (.int .i64)))))), []⟩),
  (86, ⟨true, 1, [.nils], [(0, 84)], .other, []⟩),
  (88, ⟨true, 16, [.int .i64 0, .int .i64 0, .int .i64 0, .str ⟨#[]⟩, .str ⟨#[]⟩, .int .i64 0, .nils, .int .i64 0, .int .i64 0, .str ⟨#[]⟩, .str ⟨#[]⟩, .int .i64 0, .nils, .int .i64 0, .nils, .int .i64 0], [(0, 3), (1, 3), (2, 83), (14, 86), (15, 3)], .other, []⟩),
  (95, ⟨true, 7, [.int .i64 0, .int .i64 0, .int .i64 0, .int .i64 0, .int .i64 0, .nils, .str ⟨#[]⟩], [(0, 3), (1, 3), (2, 3), (3, 3), (4, 3), (5, 39), (6, 9)], .other, []⟩),
  (97, ⟨true, 10, [.int .i64 0, .int .i64 0, .bool false, .int .i64 0, .int .i64 0, .int .i64 0, .int .i64 0, .int .i64 0, .nils, .str ⟨#[]⟩], [(0, 3), (1, 3), (2, 4), (3, 95)], .other, []⟩),
  (100, ⟨true, 3, [.int .i64 0, .int .i64 0, .str ⟨#[]⟩], [(0, 3), (1, 3), (2, 9)], .other, [(.int .i64), (.int .i64), .str]⟩),
  (102, ⟨true, 4, [.int .i64 0, .int .i64 0, .int .i64 0, .str ⟨#[]⟩], [(0, 3), (1, 100)], .other, []⟩),
  (105, ⟨true, 4, [.int .i64 0, .bool false, .int .i64 0, .int .i64 0], [(0, 3), (1, 4), (2, 3), (3, 3)], .other, [(.int .i64), .bool, (.int .i64), (.int .i64)]⟩),
  (108, ⟨false, 1, [.dead], [], .other, []⟩),
  (113, ⟨false, 1, [.nils], [], .slice 5 (.int .u8), []⟩),
  (114, ⟨false, 1, [.nils], [], .slice 9 .str, []⟩),
  (115, ⟨false, 1, [.nils], [], .slice 4 .bool, []⟩),
  (117, ⟨true, 6, [.int .i64 0, .int .i64 0, .int .i64 0, .nils, .nils, .int .i64 0], [(0, 3), (1, 3), (2, 3), (3, 114), (4, 115), (5, 3)], .other, []⟩)]
theorem tok : TOk Try.prog TTab := tok_ok (by kernel_rfl) (by kernel_rfl)

end Go.Proofs.Ytdcfekhjhopbfaa
