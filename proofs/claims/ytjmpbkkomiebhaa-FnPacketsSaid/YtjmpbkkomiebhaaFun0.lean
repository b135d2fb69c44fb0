import Derived.Test.YtjmpbkkomiebhaaProg
import Derived.Test.YtjmpbkkomiebhaaChecked
import Derived.Test.YtjmpbkkomiebhaaEngA
import Derived.Test.YtjmpbkkomiebhaaEngB
import Derived.Test.YtjmpbkkomiebhaaEngC
import Derived.KernelRfl
/- What functions of the program compute, as plain functions, and that their calls do so (part 0). Conditions: the plain function answers. -/
set_option linter.unusedVariables false
namespace Go.Proofs.Ytjmpbkkomiebhaa
open Go Go.Eng Go.Proofs
/-- A continuation under a name: the ways of a branch meet in it. -/
def jn {A R : Type} (f : A) (g : A → R) : R := g f
theorem jn_one {A R : Type} (c : Prop) [Decidable c] (f : A → R) (a b : A) : jn f (fun j => if c then j a else j b) = f (if c then a else b) := by unfold jn; by_cases h : c <;> simp [h]
theorem jn_two {A B R : Type} (c : Prop) [Decidable c] (f : A → B → R) (a b : A) (a' b' : B) : jn f (fun j => if c then j a a' else j b b') = f (if c then a else b) (if c then a' else b') := by unfold jn; by_cases h : c <;> simp [h]
abbrev wi64 (n : Int) : Int := IntKind.i64.wrap n
abbrev wu8 (n : Int) : Int := IntKind.u8.wrap n
abbrev wu16 (n : Int) : Int := IntKind.u16.wrap n
abbrev wu32 (n : Int) : Int := IntKind.u32.wrap n
abbrev wu64 (n : Int) : Int := IntKind.u64.wrap n
def TTab : TT := [(3, ⟨false, 1, [.int .i64 0], [], .int .i64, []⟩),
  (4, ⟨false, 1, [.bool false], [], .bool, []⟩),
  (5, ⟨false, 1, [.int .u8 0], [], .int .u8, []⟩),
  (9, ⟨false, 1, [.str ⟨#[]⟩], [], .str, []⟩),
  (22, ⟨false, 1, [.nils], [], .slice 5 (.int .u8), []⟩),
  (26, ⟨false, 1, [.nils], [], .slice 9 .str, []⟩),
  (30, ⟨false, 1, [.nils], [], .slice 3 (.int .i64), []⟩),
  (32, ⟨false, 1, [.nils], [], .slice 53 (.pair (.int .i64) (.pair (.int .i64) (.pair (.int .i64) (.pair (.list .str) (.pair (.list .bool) (.int .i64)))))), []⟩),
  (34, ⟨true, 1, [.nils], [(0, 32)], .other, []⟩),
  (40, ⟨false, 1, [.nils], [], .slice 193 (.pair (.int .i64) (.pair (.int .i64) (.pair (.int .i64) (.pair (.list .str) (.pair (.list .bool) (.int .i64)))))), []⟩),
  (42, ⟨true, 1, [.nils], [(0, 40)], .other, []⟩),
  (51, ⟨false, 1, [.nils], [], .slice 4 .bool, []⟩),
  (53, ⟨true, 6, [.int .i64 0, .int .i64 0, .int .i64 0, .nils, .nils, .int .i64 0], [(0, 3), (1, 3), (2, 3), (3, 26), (4, 51), (5, 3)], .other, []⟩),
  (61, ⟨true, 7, [.int .i64 0, .int .i64 0, .int .i64 0, .int .i64 0, .int .i64 0, .nils, .str ⟨#[]⟩], [(0, 3), (1, 3), (2, 3), (3, 3), (4, 3), (5, 30), (6, 9)], .other, []⟩),
  (73, ⟨false, 1, [.nils], [], .slice 146 (.pair (.int .i64) (.pair (.int .i64) (.int .i64))), []⟩),
  (76, ⟨false, 1, [.nils], [], .slice 86 (.pair (.int .i64) (.pair (.int .i64) (.pair (.int .i64) (.pair (.list .str) (.pair (.list (.pair (.int .i64) (.pair .str (.pair (.int .i64) (.int .i64))))) (.pair (.int .i64) (.pair (.list (.pair (.int .i64) .str)) (.pair (.list (.int .i64)) (.list .str))))))))), []⟩),
  (77, ⟨false, 1, [.nils], [], .slice 61 (.pair (.int .i64) (.pair (.int .i64) (.pair (.int .i64) (.pair (.int .i64) (.pair (.int .i64) (.pair (.list (.int .i64)) .str)))))), []⟩),
  (79, ⟨true, 3, [.nils, .int .i64 0, .nils], [(0, 76), (1, 3), (2, 77)], .other, []⟩),
  (83, ⟨false, 1, [.nils], [], .slice 160 (.pair (.int .i64) (.pair .str (.pair (.int .i64) (.int .i64)))), []⟩),
  (84, ⟨false, 1, [.nils], [], .slice 162 (.pair (.int .i64) .str), []⟩),
  (86, ⟨true, 9, [.int .i64 0, .int .i64 0, .int .i64 0, .nils, .nils, .int .i64 0, .nils, .nils, .nils], [(0, 3), (1, 3), (2, 3), (3, 26), (4, 83), (5, 3), (6, 84), (7, 30), (8, 26)], .other, []⟩),
  (89, ⟨false, 1, [.nils], [], .slice 165 (.pair (.int .i64) (.pair (.int .i64) (.int .i64))), []⟩),
  (99, ⟨false, 1, [.nils], [], .slice 220 (.pair (.int .i64) (.pair (.int .i64) (.pair (.int .i64) (.pair (.list .str) (.pair (.list (.pair (.int .i64) (.pair .str (.pair (.int .i64) (.int .i64))))) (.pair (.int .i64) (.pair (.list (.pair (.int .i64) .str)) (.pair (.list (.int .i64)) (.list .str))))))))), []⟩),
  (100, ⟨false, 1, [.nils], [], .slice 222 (.pair (.int .i64) (.pair (.int .i64) (.pair (.int .i64) (.pair (.int .i64) (.pair (.int .i64) (.pair (.list (.int .i64)) .str)))))), []⟩),
  (102, ⟨true, 3, [.nils, .int .i64 0, .nils], [(0, 99), (1, 3), (2, 100)], .other, []⟩),
  (114, ⟨false, 1, [.dead], [], .other, []⟩),
  (120, ⟨false, 1, [.dead], [], .other, []⟩),
  (132, ⟨true, 3, [.str ⟨#[]⟩, .int .i64 0, .bool false], [(0, 9), (1, 3), (2, 4)], .other, [.str, (.int .i64), .bool]⟩),
  (136, ⟨true, 3, [.str ⟨#[]⟩, .int .i64 0, .bool false], [(0, 9), (1, 3), (2, 4)], .other, [.str, (.int .i64), .bool]⟩),
  (146, ⟨true, 3, [.int .i64 0, .int .i64 0, .int .i64 0], [(0, 3), (1, 3), (2, 3)], .other, [(.int .i64), (.int .i64), (.int .i64)]⟩),
  (148, ⟨false, 1, [.nils], [], .slice 26 (.list .str), []⟩),
  (160, ⟨true, 4, [.int .i64 0, .str ⟨#[]⟩, .int .i64 0, .int .i64 0], [(0, 3), (1, 9), (2, 3), (3, 3)], .other, [(.int .i64), .str, (.int .i64), (.int .i64)]⟩),
  (162, ⟨true, 2, [.int .i64 0, .str ⟨#[]⟩], [(0, 3), (1, 9)], .other, [(.int .i64), .str]⟩),
  (165, ⟨true, 3, [.int .i64 0, .int .i64 0, .int .i64 0], [(0, 3), (1, 3), (2, 3)], .other, [(.int .i64), (.int .i64), (.int .i64)]⟩),
  (177, ⟨true, 3, [.nils, .int .i64 0, .int .i64 0], [(0, 22), (1, 3), (2, 3)], .other, []⟩),
  (181, ⟨false, 1, [.int .u64 0], [], .int .u64, []⟩),
  (193, ⟨true, 6, [.int .i64 0, .int .i64 0, .int .i64 0, .nils, .nils, .int .i64 0], [(0, 3), (1, 3), (2, 3), (3, 26), (4, 51), (5, 3)], .other, []⟩),
  (201, ⟨false, 1, [.int .u32 0], [], .int .u32, []⟩),
  (217, ⟨false, 1, [.nils], [], .slice 269 (.pair (.int .i64) (.pair .str (.pair (.int .i64) (.int .i64)))), []⟩),
  (218, ⟨false, 1, [.nils], [], .slice 271 (.pair (.int .i64) .str), []⟩),
  (220, ⟨true, 9, [.int .i64 0, .int .i64 0, .int .i64 0, .nils, .nils, .int .i64 0, .nils, .nils, .nils], [(0, 3), (1, 3), (2, 3), (3, 26), (4, 217), (5, 3), (6, 218), (7, 30), (8, 26)], .other, []⟩),
  (222, ⟨true, 7, [.int .i64 0, .int .i64 0, .int .i64 0, .int .i64 0, .int .i64 0, .nils, .str ⟨#[]⟩], [(0, 3), (1, 3), (2, 3), (3, 3), (4, 3), (5, 30), (6, 9)], .other, []⟩),
  (239, ⟨false, 1, [.int .u64 0], [], .int .u64, []⟩),
  (258, ⟨false, 1, [.int .u64 0], [], .int .u64, []⟩),
  (269, ⟨true, 4, [.int .i64 0, .str ⟨#[]⟩, .int .i64 0, .int .i64 0], [(0, 3), (1, 9), (2, 3), (3, 3)], .other, [(.int .i64), .str, (.int .i64), (.int .i64)]⟩),
  (271, ⟨true, 2, [.int .i64 0, .str ⟨#[]⟩], [(0, 3), (1, 9)], .other, [(.int .i64), .str]⟩)]
theorem tok : TOk Try.prog TTab := tok_ok (by kernel_rfl) (by kernel_rfl)

end Go.Proofs.Ytjmpbkkomiebhaa
