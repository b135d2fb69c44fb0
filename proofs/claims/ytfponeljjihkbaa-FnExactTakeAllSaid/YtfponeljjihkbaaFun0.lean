import Derived.Test.YtfponeljjihkbaaProg
import Derived.Test.YtfponeljjihkbaaChecked
import Derived.Test.YtfponeljjihkbaaEngA
import Derived.Test.YtfponeljjihkbaaEngB
import Derived.KernelRfl
/- What functions of the program compute, as plain functions, and that their calls do so (part 0). Conditions: the plain function answers. -/
set_option linter.unusedVariables false
namespace Go.Proofs.Ytfponeljjihkbaa
open Go Go.Eng Go.Proofs
/-- A continuation under a name: the ways of a branch meet in it. -/
def jn {A R : Type} (f : A) (g : A → R) : R := g f
theorem jn_one {A R : Type} (c : Prop) [Decidable c] (f : A → R) (a b : A) : jn f (fun j => if c then j a else j b) = f (if c then a else b) := by unfold jn; by_cases h : c <;> simp [h]
theorem jn_two {A B R : Type} (c : Prop) [Decidable c] (f : A → B → R) (a b : A) (a' b' : B) : jn f (fun j => if c then j a a' else j b b') = f (if c then a else b) (if c then a' else b') := by unfold jn; by_cases h : c <;> simp [h]
abbrev wi64 (n : Int) : Int := IntKind.i64.wrap n
abbrev wu8 (n : Int) : Int := IntKind.u8.wrap n
abbrev wu16 (n : Int) : Int := IntKind.u16.wrap n
abbrev wu32 (n : Int) : Int := IntKind.u32.wrap n
abbrev wu64 (n : Int) : Int := IntKind.u64.wrap n
def TTab : TT := [(3, ⟨false, 1, [.int .i64 0], [], .int .i64, []⟩),
  (4, ⟨false, 1, [.bool false], [], .bool, []⟩),
  (5, ⟨false, 1, [.int .u8 0], [], .int .u8, []⟩),
  (9, ⟨false, 1, [.str ⟨#[]⟩], [], .str, []⟩),
  (22, ⟨false, 1, [.nils], [], .slice 3 (.int .i64), []⟩),
  (30, ⟨true, 6, [.int .i64 0, .str ⟨#[]⟩, .str ⟨#[]⟩, .int .i64 0, .nils, .int .i64 0], [(0, 3), (1, 9), (2, 9), (3, 3), (4, 22), (5, 3)], .other, []⟩),
  (32, ⟨true, 12, [.int .i64 0, .str ⟨#[]⟩, .str ⟨#[]⟩, .int .i64 0, .nils, .int .i64 0, .int .i64 0, .str ⟨#[]⟩, .str ⟨#[]⟩, .int .i64 0, .nils, .int .i64 0], [(0, 30), (6, 30)], .other, []⟩),
  (38, ⟨true, 6, [.int .i64 0, .str ⟨#[]⟩, .str ⟨#[]⟩, .int .i64 0, .nils, .int .i64 0], [(0, 3), (1, 9), (2, 9), (3, 3), (4, 22), (5, 3)], .other, []⟩),
  (40, ⟨true, 12, [.int .i64 0, .str ⟨#[]⟩, .str ⟨#[]⟩, .int .i64 0, .nils, .int .i64 0, .int .i64 0, .str ⟨#[]⟩, .str ⟨#[]⟩, .int .i64 0, .nils, .int .i64 0], [(0, 38), (6, 38)], .other, []⟩),
  (47, ⟨true, 2, [.int .i64 0, .int .i64 0], [(0, 3), (1, 3)], .other, [(.int .i64), (.int .i64)]⟩),
  (48, ⟨false, 1, [.nils], [], .slice 231 (.pair (.int .i64) (.pair (.int .i64) (.int .i64))), []⟩),
  (49, ⟨false, 1, [.nils], [], .slice 235 (.pair (.int .i64) (.int .i64)), []⟩),
  (51, ⟨true, 4, [.int .i64 0, .int .i64 0, .nils, .nils], [(0, 47), (2, 48), (3, 49)], .other, []⟩),
  (52, ⟨false, 1, [.nils], [], .slice 174 (.pair (.pair (.int .i64) (.int .i64)) (.int .i64)), []⟩),
  (53, ⟨false, 1, [.nils], [], .slice 164 (.pair (.int .i64) (.pair (.int .i64) (.pair (.pair (.pair (.int .i64) (.pair .str (.pair .str (.pair (.int .i64) (.pair (.list (.int .i64)) (.int .i64)))))) (.pair (.int .i64) (.pair .str (.pair .str (.pair (.int .i64) (.pair (.list (.int .i64)) (.int .i64))))))) (.pair (.list (.pair (.int .i64) (.pair (.int .i64) (.pair (.int .i64) (.pair (.list .str) (.pair (.list .bool) (.int .i64))))))) (.int .i64))))), []⟩),
  (55, ⟨true, 6, [.int .i64 0, .int .i64 0, .nils, .nils, .nils, .nils], [(0, 51), (4, 52), (5, 53)], .other, []⟩),
  (57, ⟨true, 3, [.int .i64 0, .int .i64 0, .str ⟨#[]⟩], [(0, 3), (1, 3), (2, 9)], .other, [(.int .i64), (.int .i64), .str]⟩),
  (61, ⟨true, 2, [.int .i64 0, .int .i64 0], [(0, 3), (1, 3)], .other, [(.int .i64), (.int .i64)]⟩),
  (62, ⟨false, 1, [.nils], [], .slice 229 (.pair (.int .i64) (.pair (.int .i64) (.int .i64))), []⟩),
  (63, ⟨false, 1, [.nils], [], .slice 233 (.pair (.int .i64) (.int .i64)), []⟩),
  (65, ⟨true, 4, [.int .i64 0, .int .i64 0, .nils, .nils], [(0, 61), (2, 62), (3, 63)], .other, []⟩),
  (66, ⟨false, 1, [.nils], [], .slice 168 (.pair (.pair (.int .i64) (.int .i64)) (.int .i64)), []⟩),
  (67, ⟨false, 1, [.nils], [], .slice 144 (.pair (.int .i64) (.pair (.int .i64) (.pair (.pair (.pair (.int .i64) (.pair .str (.pair .str (.pair (.int .i64) (.pair (.list (.int .i64)) (.int .i64)))))) (.pair (.int .i64) (.pair .str (.pair .str (.pair (.int .i64) (.pair (.list (.int .i64)) (.int .i64))))))) (.pair (.list (.pair (.int .i64) (.pair (.int .i64) (.pair (.int .i64) (.pair (.list .str) (.pair (.list .bool) (.int .i64))))))) (.int .i64))))), []⟩),
  (69, ⟨true, 6, [.int .i64 0, .int .i64 0, .nils, .nils, .nils, .nils], [(0, 65), (4, 66), (5, 67)], .other, []⟩),
  (71, ⟨true, 3, [.int .i64 0, .int .i64 0, .str ⟨#[]⟩], [(0, 3), (1, 3), (2, 9)], .other, [(.int .i64), (.int .i64), .str]⟩),
  (78, ⟨true, 7, [.int .i64 0, .int .i64 0, .int .i64 0, .int .i64 0, .int .i64 0, .nils, .str ⟨#[]⟩], [(0, 3), (1, 3), (2, 3), (3, 3), (4, 3), (5, 22), (6, 9)], .other, []⟩),
  (84, ⟨false, 1, [.nils], [], .slice 188 (.pair (.int .i64) (.pair (.int .i64) (.pair .bool (.pair (.int .i64) (.pair (.int .i64) (.pair (.int .i64) (.pair (.int .i64) (.pair (.int .i64) (.pair (.list (.int .i64)) .str))))))))), []⟩),
  (85, ⟨false, 1, [.nils], [], .slice 191 (.pair (.int .i64) (.pair (.int .i64) (.pair (.int .i64) .str))), []⟩),
  (86, ⟨false, 1, [.nils], [], .slice 197 (.pair (.int .i64) (.pair .bool (.pair (.int .i64) (.int .i64)))), []⟩),
  (88, ⟨true, 15, [.int .i64 0, .int .i64 0, .nils, .nils, .nils, .nils, .nils, .nils, .int .i64 0, .nils, .int .i64 0, .nils, .nils, .int .i64 0, .nils], [(0, 55), (6, 53), (7, 22), (8, 3), (9, 84), (10, 3), (11, 85), (12, 85), (13, 3), (14, 86)], .other, []⟩),
  (91, ⟨false, 1, [.nils], [], .slice 193 (.pair (.int .i64) (.pair (.int .i64) (.pair .bool (.pair (.int .i64) (.pair (.int .i64) (.pair (.int .i64) (.pair (.int .i64) (.pair (.int .i64) (.pair (.list (.int .i64)) .str))))))))), []⟩),
  (92, ⟨false, 1, [.nils], [], .slice 138 (.pair (.int .i64) (.pair (.int .i64) (.pair (.int .i64) .str))), []⟩),
  (93, ⟨false, 1, [.nils], [], .slice 129 (.pair (.int .i64) (.pair .bool (.pair (.int .i64) (.int .i64)))), []⟩),
  (95, ⟨true, 15, [.int .i64 0, .int .i64 0, .nils, .nils, .nils, .nils, .nils, .nils, .int .i64 0, .nils, .int .i64 0, .nils, .nils, .int .i64 0, .nils], [(0, 69), (6, 67), (7, 22), (8, 3), (9, 91), (10, 3), (11, 92), (12, 92), (13, 3), (14, 93)], .other, []⟩),
  (101, ⟨false, 1, [.dead], [], .other, []⟩),
  (129, ⟨true, 4, [.int .i64 0, .bool false, .int .i64 0, .int .i64 0], [(0, 3), (1, 4), (2, 3), (3, 3)], .other, [(.int .i64), .bool, (.int .i64), (.int .i64)]⟩),
  (138, ⟨true, 4, [.int .i64 0, .int .i64 0, .int .i64 0, .str ⟨#[]⟩], [(0, 3), (1, 71)], .other, []⟩),
  (140, ⟨false, 1, [.nils], [], .slice 289 (.pair (.int .i64) (.pair (.int .i64) (.pair (.int .i64) (.pair (.list .str) (.pair (.list .bool) (.int .i64)))))), []⟩),
  (142, ⟨true, 1, [.nils], [(0, 140)], .other, []⟩),
  (144, ⟨true, 16, [.int .i64 0, .int .i64 0, .int .i64 0, .str ⟨#[]⟩, .str ⟨#[]⟩, .int .i64 0, .nils, .int .i64 0, .int .i64 0, .str ⟨#[]⟩, .str ⟨#[]⟩, .int .i64 0, .nils, .int .i64 0, .nils, .int .i64 0], [(0, 3), (1, 3), (2, 32), (14, 142), (15, 3)], .other, []⟩),
  (147, ⟨false, 1, [.int .u64 0], [], .int .u64, []⟩),
  (151, ⟨true, 3, [.str ⟨#[]⟩, .str ⟨#[]⟩, .int .i64 0], [(0, 9), (1, 9), (2, 3)], .other, [.str, .str, (.int .i64)]⟩),
  (160, ⟨false, 1, [.nils], [], .slice 288 (.pair (.int .i64) (.pair (.int .i64) (.pair (.int .i64) (.pair (.list .str) (.pair (.list .bool) (.int .i64)))))), []⟩),
  (162, ⟨true, 1, [.nils], [(0, 160)], .other, []⟩),
  (164, ⟨true, 16, [.int .i64 0, .int .i64 0, .int .i64 0, .str ⟨#[]⟩, .str ⟨#[]⟩, .int .i64 0, .nils, .int .i64 0, .int .i64 0, .str ⟨#[]⟩, .str ⟨#[]⟩, .int .i64 0, .nils, .int .i64 0, .nils, .int .i64 0], [(0, 3), (1, 3), (2, 40), (14, 162), (15, 3)], .other, []⟩),
  (168, ⟨true, 3, [.int .i64 0, .int .i64 0, .int .i64 0], [(0, 61), (2, 3)], .other, []⟩),
  (174, ⟨true, 3, [.int .i64 0, .int .i64 0, .int .i64 0], [(0, 47), (2, 3)], .other, []⟩),
  (186, ⟨true, 7, [.int .i64 0, .int .i64 0, .int .i64 0, .int .i64 0, .int .i64 0, .nils, .str ⟨#[]⟩], [(0, 3), (1, 3), (2, 3), (3, 3), (4, 3), (5, 22), (6, 9)], .other, []⟩),
  (188, ⟨true, 10, [.int .i64 0, .int .i64 0, .bool false, .int .i64 0, .int .i64 0, .int .i64 0, .int .i64 0, .int .i64 0, .nils, .str ⟨#[]⟩], [(0, 3), (1, 3), (2, 4), (3, 186)], .other, []⟩),
  (191, ⟨true, 4, [.int .i64 0, .int .i64 0, .int .i64 0, .str ⟨#[]⟩], [(0, 3), (1, 57)], .other, []⟩),
  (193, ⟨true, 10, [.int .i64 0, .int .i64 0, .bool false, .int .i64 0, .int .i64 0, .int .i64 0, .int .i64 0, .int .i64 0, .nils, .str ⟨#[]⟩], [(0, 3), (1, 3), (2, 4), (3, 78)], .other, []⟩),
  (197, ⟨true, 4, [.int .i64 0, .bool false, .int .i64 0, .int .i64 0], [(0, 3), (1, 4), (2, 3), (3, 3)], .other, [(.int .i64), .bool, (.int .i64), (.int .i64)]⟩),
  (202, ⟨false, 1, [.dead], [], .other, []⟩),
  (213, ⟨false, 1, [.int .u32 0], [], .int .u32, []⟩),
  (215, ⟨false, 1, [.int .u64 0], [], .int .u64, []⟩),
  (217, ⟨false, 1, [.nils], [], .slice 5 (.int .u8), []⟩),
  (218, ⟨false, 1, [.nils], [], .slice 213 (.int .u32), []⟩),
  (229, ⟨true, 3, [.int .i64 0, .int .i64 0, .int .i64 0], [(0, 3), (1, 3), (2, 3)], .other, [(.int .i64), (.int .i64), (.int .i64)]⟩),
  (231, ⟨true, 3, [.int .i64 0, .int .i64 0, .int .i64 0], [(0, 3), (1, 3), (2, 3)], .other, [(.int .i64), (.int .i64), (.int .i64)]⟩),
  (233, ⟨true, 2, [.int .i64 0, .int .i64 0], [(0, 3), (1, 3)], .other, [(.int .i64), (.int .i64)]⟩),
  (235, ⟨true, 2, [.int .i64 0, .int .i64 0], [(0, 3), (1, 3)], .other, [(.int .i64), (.int .i64)]⟩),
  (245, ⟨false, 1, [.int .u64 0], [], .int .u64, []⟩),
  (285, ⟨false, 1, [.nils], [], .slice 9 .str, []⟩),
  (286, ⟨false, 1, [.nils], [], .slice 4 .bool, []⟩),
  (288, ⟨true, 6, [.int .i64 0, .int .i64 0, .int .i64 0, .nils, .nils, .int .i64 0], [(0, 3), (1, 3), (2, 3), (3, 285), (4, 286), (5, 3)], .other, []⟩),
  (289, ⟨true, 6, [.int .i64 0, .int .i64 0, .int .i64 0, .nils, .nils, .int .i64 0], [(0, 3), (1, 3), (2, 3), (3, 285), (4, 286), (5, 3)], .other, []⟩)]
theorem tok : TOk Try.prog TTab := tok_ok (by kernel_rfl) (by kernel_rfl)

end Go.Proofs.Ytfponeljjihkbaa
