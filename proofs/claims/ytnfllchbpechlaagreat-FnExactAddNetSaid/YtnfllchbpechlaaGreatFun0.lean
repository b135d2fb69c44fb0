import Derived.Test.YtnfllchbpechlaaGreatProg
import Derived.Test.YtnfllchbpechlaaGreatChecked
import Derived.Test.YtnfllchbpechlaaGreatEngA
import Derived.Test.YtnfllchbpechlaaGreatEngB
import Derived.Test.YtnfllchbpechlaaGreatEngC
import Derived.Test.YtnfllchbpechlaaGreatEngD
import Derived.KernelRfl
/- What functions of the program compute, as plain functions, and that their calls do so (part 0). Conditions: the plain function answers. -/
set_option linter.unusedVariables false
namespace Go.Proofs.YtnfllchbpechlaaGreat
open Go Go.Eng Go.Proofs
/-- A continuation under a name: the ways of a branch meet in it. -/
def jn {A R : Type} (f : A) (g : A → R) : R := g f
theorem jn_one {A R : Type} (c : Prop) [Decidable c] (f : A → R) (a b : A) : jn f (fun j => if c then j a else j b) = f (if c then a else b) := by unfold jn; by_cases h : c <;> simp [h]
theorem jn_two {A B R : Type} (c : Prop) [Decidable c] (f : A → B → R) (a b : A) (a' b' : B) : jn f (fun j => if c then j a a' else j b b') = f (if c then a else b) (if c then a' else b') := by unfold jn; by_cases h : c <;> simp [h]
/-- No name stands for anything of note. -/
instance theNames : Names := ⟨fun _ => .slice none 0 0, fun _ => rfl, rfl⟩
abbrev wi64 (n : Int) : Int := IntKind.i64.wrap n
abbrev wu8 (n : Int) : Int := IntKind.u8.wrap n
abbrev wu16 (n : Int) : Int := IntKind.u16.wrap n
abbrev wu32 (n : Int) : Int := IntKind.u32.wrap n
abbrev wu64 (n : Int) : Int := IntKind.u64.wrap n
def TTab : TT := [(3, ⟨false, 1, [.int .i64 0], [], .int .i64, []⟩),
  (4, ⟨false, 1, [.bool false], [], .bool, []⟩),
  (5, ⟨false, 1, [.int .u8 0], [], .int .u8, []⟩),
  (9, ⟨false, 1, [.str ⟨#[]⟩], [], .str, []⟩),
  (22, ⟨false, 1, [.nils], [], .slice 5 (.int .u8), []⟩),
  (25, ⟨true, 2, [.int .i64 0, .int .i64 0], [(0, 3), (1, 3)], .other, [(.int .i64), (.int .i64)]⟩),
  (26, ⟨false, 1, [.nils], [], .slice 135 (.pair (.int .i64) (.pair (.int .i64) (.int .i64))), []⟩),
  (27, ⟨false, 1, [.nils], [], .slice 252 (.pair (.int .i64) (.int .i64)), []⟩),
  (29, ⟨true, 4, [.int .i64 0, .int .i64 0, .nils, .nils], [(0, 25), (2, 26), (3, 27)], .other, []⟩),
  (30, ⟨false, 1, [.nils], [], .slice 53 (.pair (.pair (.int .i64) (.int .i64)) (.int .i64)), []⟩),
  (31, ⟨false, 1, [.nils], [], .slice 45 (.pair (.int .i64) (.pair (.int .i64) (.pair (.pair (.pair (.int .i64) (.pair .str (.pair .str (.pair (.int .i64) (.pair (.list (.int .i64)) (.int .i64)))))) (.pair (.int .i64) (.pair .str (.pair .str (.pair (.int .i64) (.pair (.list (.int .i64)) (.int .i64))))))) (.pair (.list (.pair (.int .i64) (.pair (.int .i64) (.pair (.int .i64) (.pair (.list .str) (.pair (.list .bool) (.int .i64))))))) (.int .i64))))), []⟩),
  (33, ⟨true, 6, [.int .i64 0, .int .i64 0, .nils, .nils, .nils, .nils], [(0, 29), (4, 30), (5, 31)], .other, []⟩),
  (35, ⟨false, 1, [.nils], [], .slice 3 (.int .i64), []⟩),
  (38, ⟨true, 6, [.int .i64 0, .str ⟨#[]⟩, .str ⟨#[]⟩, .int .i64 0, .nils, .int .i64 0], [(0, 3), (1, 9), (2, 9), (3, 3), (4, 35), (5, 3)], .other, []⟩),
  (40, ⟨true, 12, [.int .i64 0, .str ⟨#[]⟩, .str ⟨#[]⟩, .int .i64 0, .nils, .int .i64 0, .int .i64 0, .str ⟨#[]⟩, .str ⟨#[]⟩, .int .i64 0, .nils, .int .i64 0], [(0, 38), (6, 38)], .other, []⟩),
  (41, ⟨false, 1, [.nils], [], .slice 229 (.pair (.int .i64) (.pair (.int .i64) (.pair (.int .i64) (.pair (.list .str) (.pair (.list .bool) (.int .i64)))))), []⟩),
  (43, ⟨true, 1, [.nils], [(0, 41)], .other, []⟩),
  (45, ⟨true, 16, [.int .i64 0, .int .i64 0, .int .i64 0, .str ⟨#[]⟩, .str ⟨#[]⟩, .int .i64 0, .nils, .int .i64 0, .int .i64 0, .str ⟨#[]⟩, .str ⟨#[]⟩, .int .i64 0, .nils, .int .i64 0, .nils, .int .i64 0], [(0, 3), (1, 3), (2, 40), (14, 43), (15, 3)], .other, []⟩),
  (49, ⟨true, 3, [.int .i64 0, .int .i64 0, .str ⟨#[]⟩], [(0, 3), (1, 3), (2, 9)], .other, [(.int .i64), (.int .i64), .str]⟩),
  (53, ⟨true, 3, [.int .i64 0, .int .i64 0, .int .i64 0], [(0, 25), (2, 3)], .other, []⟩),
  (57, ⟨true, 2, [.int .i64 0, .int .i64 0], [(0, 3), (1, 3)], .other, [(.int .i64), (.int .i64)]⟩),
  (58, ⟨false, 1, [.nils], [], .slice 266 (.pair (.int .i64) (.pair (.int .i64) (.int .i64))), []⟩),
  (59, ⟨false, 1, [.nils], [], .slice 268 (.pair (.int .i64) (.int .i64)), []⟩),
  (61, ⟨true, 4, [.int .i64 0, .int .i64 0, .nils, .nils], [(0, 57), (2, 58), (3, 59)], .other, []⟩),
  (62, ⟨false, 1, [.nils], [], .slice 201 (.pair (.pair (.int .i64) (.int .i64)) (.int .i64)), []⟩),
  (63, ⟨false, 1, [.nils], [], .slice 81 (.pair (.int .i64) (.pair (.int .i64) (.pair (.pair (.pair (.int .i64) (.pair .str (.pair .str (.pair (.int .i64) (.pair (.list (.int .i64)) (.int .i64)))))) (.pair (.int .i64) (.pair .str (.pair .str (.pair (.int .i64) (.pair (.list (.int .i64)) (.int .i64))))))) (.pair (.list (.pair (.int .i64) (.pair (.int .i64) (.pair (.int .i64) (.pair (.list .str) (.pair (.list .bool) (.int .i64))))))) (.int .i64))))), []⟩),
  (65, ⟨true, 6, [.int .i64 0, .int .i64 0, .nils, .nils, .nils, .nils], [(0, 61), (4, 62), (5, 63)], .other, []⟩),
  (74, ⟨true, 6, [.int .i64 0, .str ⟨#[]⟩, .str ⟨#[]⟩, .int .i64 0, .nils, .int .i64 0], [(0, 3), (1, 9), (2, 9), (3, 3), (4, 35), (5, 3)], .other, []⟩),
  (76, ⟨true, 12, [.int .i64 0, .str ⟨#[]⟩, .str ⟨#[]⟩, .int .i64 0, .nils, .int .i64 0, .int .i64 0, .str ⟨#[]⟩, .str ⟨#[]⟩, .int .i64 0, .nils, .int .i64 0], [(0, 74), (6, 74)], .other, []⟩),
  (77, ⟨false, 1, [.nils], [], .slice 274 (.pair (.int .i64) (.pair (.int .i64) (.pair (.int .i64) (.pair (.list .str) (.pair (.list .bool) (.int .i64)))))), []⟩),
  (79, ⟨true, 1, [.nils], [(0, 77)], .other, []⟩),
  (81, ⟨true, 16, [.int .i64 0, .int .i64 0, .int .i64 0, .str ⟨#[]⟩, .str ⟨#[]⟩, .int .i64 0, .nils, .int .i64 0, .int .i64 0, .str ⟨#[]⟩, .str ⟨#[]⟩, .int .i64 0, .nils, .int .i64 0, .nils, .int .i64 0], [(0, 3), (1, 3), (2, 76), (14, 79), (15, 3)], .other, []⟩),
  (82, ⟨true, 3, [.int .i64 0, .int .i64 0, .str ⟨#[]⟩], [(0, 3), (1, 3), (2, 9)], .other, [(.int .i64), (.int .i64), .str]⟩),
  (85, ⟨false, 1, [.nils], [], .slice 100 (.pair (.int .i64) (.pair (.int .i64) (.pair (.int .i64) (.pair (.int .i64) (.pair (.int .i64) (.pair (.list (.int .i64)) .str)))))), []⟩),
  (96, ⟨true, 7, [.int .i64 0, .int .i64 0, .int .i64 0, .int .i64 0, .int .i64 0, .nils, .str ⟨#[]⟩], [(0, 3), (1, 3), (2, 3), (3, 3), (4, 3), (5, 35), (6, 9)], .other, []⟩),
  (100, ⟨true, 7, [.int .i64 0, .int .i64 0, .int .i64 0, .int .i64 0, .int .i64 0, .nils, .str ⟨#[]⟩], [(0, 3), (1, 3), (2, 3), (3, 3), (4, 3), (5, 35), (6, 9)], .other, []⟩),
  (107, ⟨false, 1, [.nils], [], .slice 9 .str, []⟩),
  (129, ⟨false, 1, [.dead], [], .other, []⟩),
  (135, ⟨true, 3, [.int .i64 0, .int .i64 0, .int .i64 0], [(0, 3), (1, 3), (2, 3)], .other, [(.int .i64), (.int .i64), (.int .i64)]⟩),
  (178, ⟨true, 3, [.nils, .int .i64 0, .int .i64 0], [(0, 22), (1, 3), (2, 3)], .other, []⟩),
  (179, ⟨false, 1, [.int .u64 0], [], .int .u64, []⟩),
  (183, ⟨false, 1, [.dead], [], .other, []⟩),
  (193, ⟨false, 1, [.dead], [], .other, []⟩),
  (201, ⟨true, 3, [.int .i64 0, .int .i64 0, .int .i64 0], [(0, 57), (2, 3)], .other, []⟩),
  (227, ⟨false, 1, [.nils], [], .slice 4 .bool, []⟩),
  (229, ⟨true, 6, [.int .i64 0, .int .i64 0, .int .i64 0, .nils, .nils, .int .i64 0], [(0, 3), (1, 3), (2, 3), (3, 107), (4, 227), (5, 3)], .other, []⟩),
  (230, ⟨false, 1, [.dead], [], .other, []⟩),
  (242, ⟨true, 3, [.str ⟨#[]⟩, .str ⟨#[]⟩, .int .i64 0], [(0, 9), (1, 9), (2, 3)], .other, [.str, .str, (.int .i64)]⟩),
  (250, ⟨false, 1, [.dead], [], .other, []⟩),
  (252, ⟨true, 2, [.int .i64 0, .int .i64 0], [(0, 3), (1, 3)], .other, [(.int .i64), (.int .i64)]⟩),
  (260, ⟨false, 1, [.nils], [], .slice 31 (.list (.pair (.int .i64) (.pair (.int .i64) (.pair (.pair (.pair (.int .i64) (.pair .str (.pair .str (.pair (.int .i64) (.pair (.list (.int .i64)) (.int .i64)))))) (.pair (.int .i64) (.pair .str (.pair .str (.pair (.int .i64) (.pair (.list (.int .i64)) (.int .i64))))))) (.pair (.list (.pair (.int .i64) (.pair (.int .i64) (.pair (.int .i64) (.pair (.list .str) (.pair (.list .bool) (.int .i64))))))) (.int .i64)))))), []⟩),
  (266, ⟨true, 3, [.int .i64 0, .int .i64 0, .int .i64 0], [(0, 3), (1, 3), (2, 3)], .other, [(.int .i64), (.int .i64), (.int .i64)]⟩),
  (268, ⟨true, 2, [.int .i64 0, .int .i64 0], [(0, 3), (1, 3)], .other, [(.int .i64), (.int .i64)]⟩),
  (274, ⟨true, 6, [.int .i64 0, .int .i64 0, .int .i64 0, .nils, .nils, .int .i64 0], [(0, 3), (1, 3), (2, 3), (3, 107), (4, 227), (5, 3)], .other, []⟩),
  (295, ⟨false, 1, [.nils], [], .slice 311 (.int .u32), []⟩),
  (311, ⟨false, 1, [.int .u32 0], [], .int .u32, []⟩),
  (316, ⟨true, 64, [.int .i64 0, .int .i64 0, .int .i64 0, .int .i64 0, .int .i64 0, .int .i64 0, .int .i64 0, .int .i64 0, .int .i64 0, .int .i64 0, .int .i64 0, .int .i64 0, .int .i64 0, .int .i64 0, .int .i64 0, .int .i64 0, .int .i64 0, .int .i64 0, .int .i64 0, .int .i64 0, .int .i64 0, .int .i64 0, .int .i64 0, .int .i64 0, .int .i64 0, .int .i64 0, .int .i64 0, .int .i64 0, .int .i64 0, .int .i64 0, .int .i64 0, .int .i64 0, .int .i64 0, .int .i64 0, .int .i64 0, .int .i64 0, .int .i64 0, .int .i64 0, .int .i64 0, .int .i64 0, .int .i64 0, .int .i64 0, .int .i64 0, .int .i64 0, .int .i64 0, .int .i64 0, .int .i64 0, .int .i64 0, .int .i64 0, .int .i64 0, .int .i64 0, .int .i64 0, .int .i64 0, .int .i64 0, .int .i64 0, .int .i64 0, .int .i64 0, .int .i64 0, .int .i64 0, .int .i64 0, .int .i64 0, .int .i64 0, .int .i64 0, .int .i64 0], [], .arr 3 64, []⟩),
  (332, ⟨false, 1, [.int .u64 0], [], .int .u64, []⟩),
  (345, ⟨false, 1, [.int .u64 0], [], .int .u64, []⟩)]
theorem tok : TOk Tryz.prog TTab := tok_ok (by kernel_rfl) (by kernel_rfl)
def TTabO : TT := [(3, ⟨false, 1, [.int .i64 0], [], .int .i64, []⟩),
  (4, ⟨false, 1, [.bool false], [], .bool, []⟩),
  (5, ⟨false, 1, [.int .u8 0], [], .int .u8, []⟩),
  (9, ⟨false, 1, [.str ⟨#[]⟩], [], .str, []⟩),
  (22, ⟨false, 1, [.nils], [], .slice 5 (.int .u8), []⟩),
  (25, ⟨true, 2, [.int .i64 0, .int .i64 0], [(0, 3), (1, 3)], .other, [(.int .i64), (.int .i64)]⟩),
  (26, ⟨false, 1, [.nils], [], .slice 135 (.pair (.int .i64) (.pair (.int .i64) (.int .i64))), []⟩),
  (27, ⟨false, 1, [.nils], [], .slice 252 (.pair (.int .i64) (.int .i64)), []⟩),
  (29, ⟨true, 4, [.int .i64 0, .int .i64 0, .nils, .nils], [(0, 25), (2, 26), (3, 27)], .other, []⟩),
  (30, ⟨false, 1, [.nils], [], .slice 53 (.pair (.pair (.int .i64) (.int .i64)) (.int .i64)), []⟩),
  (31, ⟨false, 1, [.nils], [], .slice 45 (.pair (.int .i64) (.pair (.int .i64) (.pair (.pair (.pair (.int .i64) (.pair .str (.pair .str (.pair (.int .i64) (.pair (.ols 3 (.int .i64)) (.int .i64)))))) (.pair (.int .i64) (.pair .str (.pair .str (.pair (.int .i64) (.pair (.ols 3 (.int .i64)) (.int .i64))))))) (.pair (.ols 229 (.pair (.int .i64) (.pair (.int .i64) (.pair (.int .i64) (.pair (.ols 9 .str) (.pair (.ols 4 .bool) (.int .i64))))))) (.int .i64))))), []⟩),
  (33, ⟨true, 6, [.int .i64 0, .int .i64 0, .nils, .nils, .nils, .nils], [(0, 29), (4, 30), (5, 31)], .other, []⟩),
  (35, ⟨false, 1, [.nils], [], .slice 3 (.int .i64), []⟩),
  (38, ⟨true, 6, [.int .i64 0, .str ⟨#[]⟩, .str ⟨#[]⟩, .int .i64 0, .nils, .int .i64 0], [(0, 3), (1, 9), (2, 9), (3, 3), (4, 35), (5, 3)], .other, []⟩),
  (40, ⟨true, 12, [.int .i64 0, .str ⟨#[]⟩, .str ⟨#[]⟩, .int .i64 0, .nils, .int .i64 0, .int .i64 0, .str ⟨#[]⟩, .str ⟨#[]⟩, .int .i64 0, .nils, .int .i64 0], [(0, 38), (6, 38)], .other, []⟩),
  (41, ⟨false, 1, [.nils], [], .slice 229 (.pair (.int .i64) (.pair (.int .i64) (.pair (.int .i64) (.pair (.ols 9 .str) (.pair (.ols 4 .bool) (.int .i64)))))), []⟩),
  (43, ⟨true, 1, [.nils], [(0, 41)], .other, []⟩),
  (45, ⟨true, 16, [.int .i64 0, .int .i64 0, .int .i64 0, .str ⟨#[]⟩, .str ⟨#[]⟩, .int .i64 0, .nils, .int .i64 0, .int .i64 0, .str ⟨#[]⟩, .str ⟨#[]⟩, .int .i64 0, .nils, .int .i64 0, .nils, .int .i64 0], [(0, 3), (1, 3), (2, 40), (14, 43), (15, 3)], .other, []⟩),
  (49, ⟨true, 3, [.int .i64 0, .int .i64 0, .str ⟨#[]⟩], [(0, 3), (1, 3), (2, 9)], .other, [(.int .i64), (.int .i64), .str]⟩),
  (53, ⟨true, 3, [.int .i64 0, .int .i64 0, .int .i64 0], [(0, 25), (2, 3)], .other, []⟩),
  (57, ⟨true, 2, [.int .i64 0, .int .i64 0], [(0, 3), (1, 3)], .other, [(.int .i64), (.int .i64)]⟩),
  (58, ⟨false, 1, [.nils], [], .slice 266 (.pair (.int .i64) (.pair (.int .i64) (.int .i64))), []⟩),
  (59, ⟨false, 1, [.nils], [], .slice 268 (.pair (.int .i64) (.int .i64)), []⟩),
  (61, ⟨true, 4, [.int .i64 0, .int .i64 0, .nils, .nils], [(0, 57), (2, 58), (3, 59)], .other, []⟩),
  (62, ⟨false, 1, [.nils], [], .slice 201 (.pair (.pair (.int .i64) (.int .i64)) (.int .i64)), []⟩),
  (63, ⟨false, 1, [.nils], [], .slice 81 (.pair (.int .i64) (.pair (.int .i64) (.pair (.pair (.pair (.int .i64) (.pair .str (.pair .str (.pair (.int .i64) (.pair (.ols 3 (.int .i64)) (.int .i64)))))) (.pair (.int .i64) (.pair .str (.pair .str (.pair (.int .i64) (.pair (.ols 3 (.int .i64)) (.int .i64))))))) (.pair (.ols 274 (.pair (.int .i64) (.pair (.int .i64) (.pair (.int .i64) (.pair (.ols 9 .str) (.pair (.ols 4 .bool) (.int .i64))))))) (.int .i64))))), []⟩),
  (65, ⟨true, 6, [.int .i64 0, .int .i64 0, .nils, .nils, .nils, .nils], [(0, 61), (4, 62), (5, 63)], .other, []⟩),
  (74, ⟨true, 6, [.int .i64 0, .str ⟨#[]⟩, .str ⟨#[]⟩, .int .i64 0, .nils, .int .i64 0], [(0, 3), (1, 9), (2, 9), (3, 3), (4, 35), (5, 3)], .other, []⟩),
  (76, ⟨true, 12, [.int .i64 0, .str ⟨#[]⟩, .str ⟨#[]⟩, .int .i64 0, .nils, .int .i64 0, .int .i64 0, .str ⟨#[]⟩, .str ⟨#[]⟩, .int .i64 0, .nils, .int .i64 0], [(0, 74), (6, 74)], .other, []⟩),
  (77, ⟨false, 1, [.nils], [], .slice 274 (.pair (.int .i64) (.pair (.int .i64) (.pair (.int .i64) (.pair (.ols 9 .str) (.pair (.ols 4 .bool) (.int .i64)))))), []⟩),
  (79, ⟨true, 1, [.nils], [(0, 77)], .other, []⟩),
  (81, ⟨true, 16, [.int .i64 0, .int .i64 0, .int .i64 0, .str ⟨#[]⟩, .str ⟨#[]⟩, .int .i64 0, .nils, .int .i64 0, .int .i64 0, .str ⟨#[]⟩, .str ⟨#[]⟩, .int .i64 0, .nils, .int .i64 0, .nils, .int .i64 0], [(0, 3), (1, 3), (2, 76), (14, 79), (15, 3)], .other, []⟩),
  (82, ⟨true, 3, [.int .i64 0, .int .i64 0, .str ⟨#[]⟩], [(0, 3), (1, 3), (2, 9)], .other, [(.int .i64), (.int .i64), .str]⟩),
  (85, ⟨false, 1, [.nils], [], .slice 100 (.pair (.int .i64) (.pair (.int .i64) (.pair (.int .i64) (.pair (.int .i64) (.pair (.int .i64) (.pair (.ols 3 (.int .i64)) .str)))))), []⟩),
  (96, ⟨true, 7, [.int .i64 0, .int .i64 0, .int .i64 0, .int .i64 0, .int .i64 0, .nils, .str ⟨#[]⟩], [(0, 3), (1, 3), (2, 3), (3, 3), (4, 3), (5, 35), (6, 9)], .other, []⟩),
  (100, ⟨true, 7, [.int .i64 0, .int .i64 0, .int .i64 0, .int .i64 0, .int .i64 0, .nils, .str ⟨#[]⟩], [(0, 3), (1, 3), (2, 3), (3, 3), (4, 3), (5, 35), (6, 9)], .other, []⟩),
  (107, ⟨false, 1, [.nils], [], .slice 9 .str, []⟩),
  (129, ⟨false, 1, [.dead], [], .other, []⟩),
  (135, ⟨true, 3, [.int .i64 0, .int .i64 0, .int .i64 0], [(0, 3), (1, 3), (2, 3)], .other, [(.int .i64), (.int .i64), (.int .i64)]⟩),
  (178, ⟨true, 3, [.nils, .int .i64 0, .int .i64 0], [(0, 22), (1, 3), (2, 3)], .other, []⟩),
  (179, ⟨false, 1, [.int .u64 0], [], .int .u64, []⟩),
  (183, ⟨false, 1, [.dead], [], .other, []⟩),
  (193, ⟨false, 1, [.dead], [], .other, []⟩),
  (201, ⟨true, 3, [.int .i64 0, .int .i64 0, .int .i64 0], [(0, 57), (2, 3)], .other, []⟩),
  (227, ⟨false, 1, [.nils], [], .slice 4 .bool, []⟩),
  (229, ⟨true, 6, [.int .i64 0, .int .i64 0, .int .i64 0, .nils, .nils, .int .i64 0], [(0, 3), (1, 3), (2, 3), (3, 107), (4, 227), (5, 3)], .other, []⟩),
  (230, ⟨false, 1, [.dead], [], .other, []⟩),
  (242, ⟨true, 3, [.str ⟨#[]⟩, .str ⟨#[]⟩, .int .i64 0], [(0, 9), (1, 9), (2, 3)], .other, [.str, .str, (.int .i64)]⟩),
  (250, ⟨false, 1, [.dead], [], .other, []⟩),
  (252, ⟨true, 2, [.int .i64 0, .int .i64 0], [(0, 3), (1, 3)], .other, [(.int .i64), (.int .i64)]⟩),
  (260, ⟨false, 1, [.nils], [], .slice 31 (.ols 45 (.pair (.int .i64) (.pair (.int .i64) (.pair (.pair (.pair (.int .i64) (.pair .str (.pair .str (.pair (.int .i64) (.pair (.ols 3 (.int .i64)) (.int .i64)))))) (.pair (.int .i64) (.pair .str (.pair .str (.pair (.int .i64) (.pair (.ols 3 (.int .i64)) (.int .i64))))))) (.pair (.ols 229 (.pair (.int .i64) (.pair (.int .i64) (.pair (.int .i64) (.pair (.ols 9 .str) (.pair (.ols 4 .bool) (.int .i64))))))) (.int .i64)))))), []⟩),
  (266, ⟨true, 3, [.int .i64 0, .int .i64 0, .int .i64 0], [(0, 3), (1, 3), (2, 3)], .other, [(.int .i64), (.int .i64), (.int .i64)]⟩),
  (268, ⟨true, 2, [.int .i64 0, .int .i64 0], [(0, 3), (1, 3)], .other, [(.int .i64), (.int .i64)]⟩),
  (274, ⟨true, 6, [.int .i64 0, .int .i64 0, .int .i64 0, .nils, .nils, .int .i64 0], [(0, 3), (1, 3), (2, 3), (3, 107), (4, 227), (5, 3)], .other, []⟩),
  (295, ⟨false, 1, [.nils], [], .slice 311 (.int .u32), []⟩),
  (311, ⟨false, 1, [.int .u32 0], [], .int .u32, []⟩),
  (316, ⟨true, 64, [.int .i64 0, .int .i64 0, .int .i64 0, .int .i64 0, .int .i64 0, .int .i64 0, .int .i64 0, .int .i64 0, .int .i64 0, .int .i64 0, .int .i64 0, .int .i64 0, .int .i64 0, .int .i64 0, .int .i64 0, .int .i64 0, .int .i64 0, .int .i64 0, .int .i64 0, .int .i64 0, .int .i64 0, .int .i64 0, .int .i64 0, .int .i64 0, .int .i64 0, .int .i64 0, .int .i64 0, .int .i64 0, .int .i64 0, .int .i64 0, .int .i64 0, .int .i64 0, .int .i64 0, .int .i64 0, .int .i64 0, .int .i64 0, .int .i64 0, .int .i64 0, .int .i64 0, .int .i64 0, .int .i64 0, .int .i64 0, .int .i64 0, .int .i64 0, .int .i64 0, .int .i64 0, .int .i64 0, .int .i64 0, .int .i64 0, .int .i64 0, .int .i64 0, .int .i64 0, .int .i64 0, .int .i64 0, .int .i64 0, .int .i64 0, .int .i64 0, .int .i64 0, .int .i64 0, .int .i64 0, .int .i64 0, .int .i64 0, .int .i64 0, .int .i64 0], [], .arr 3 64, []⟩),
  (332, ⟨false, 1, [.int .u64 0], [], .int .u64, []⟩),
  (345, ⟨false, 1, [.int .u64 0], [], .int .u64, []⟩)]
theorem tokO : TOk Tryz.prog TTabO := tok_ok (by kernel_rfl) (by kernel_rfl)

end Go.Proofs.YtnfllchbpechlaaGreat
