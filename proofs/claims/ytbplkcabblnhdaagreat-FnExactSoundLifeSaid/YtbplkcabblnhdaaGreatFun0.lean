import Derived.Test.YtbplkcabblnhdaaGreatProg
import Derived.Test.YtbplkcabblnhdaaGreatChecked
import Derived.Test.YtbplkcabblnhdaaGreatEngA
import Derived.Test.YtbplkcabblnhdaaGreatEngB
import Derived.KernelRfl
/- What functions of the program compute, as plain functions, and that their calls do so (part 0). Conditions: the plain function answers. -/
set_option linter.unusedVariables false
namespace Go.Proofs.YtbplkcabblnhdaaGreat
open Go Go.Eng Go.Proofs
/-- A continuation under a name: the ways of a branch meet in it. -/
def jn {A R : Type} (f : A) (g : A → R) : R := g f
theorem jn_one {A R : Type} (c : Prop) [Decidable c] (f : A → R) (a b : A) : jn f (fun j => if c then j a else j b) = f (if c then a else b) := by unfold jn; by_cases h : c <;> simp [h]
theorem jn_two {A B R : Type} (c : Prop) [Decidable c] (f : A → B → R) (a b : A) (a' b' : B) : jn f (fun j => if c then j a a' else j b b') = f (if c then a else b) (if c then a' else b') := by unfold jn; by_cases h : c <;> simp [h]
abbrev wi64 (n : Int) : Int := IntKind.i64.wrap n
abbrev wu8 (n : Int) : Int := IntKind.u8.wrap n
abbrev wu16 (n : Int) : Int := IntKind.u16.wrap n
abbrev wu32 (n : Int) : Int := IntKind.u32.wrap n
abbrev wu64 (n : Int) : Int := IntKind.u64.wrap n
def TTab : TT := [(3, ⟨false, 1, [.int .i64 0], [], .int .i64, []⟩),
  (4, ⟨false, 1, [.bool false], [], .bool, []⟩),
  (9, ⟨false, 1, [.str ⟨#[]⟩], [], .str, []⟩),
  (23, ⟨true, 2, [.int .i64 0, .int .i64 0], [(0, 3), (1, 3)], .other, [(.int .i64), (.int .i64)]⟩),
  (24, ⟨false, 1, [.nils], [], .slice 172 (.pair (.int .i64) (.pair (.int .i64) (.int .i64))), []⟩),
  (25, ⟨false, 1, [.nils], [], .slice 174 (.pair (.int .i64) (.int .i64)), []⟩),
  (27, ⟨true, 4, [.int .i64 0, .int .i64 0, .nils, .nils], [(0, 23), (2, 24), (3, 25)], .other, []⟩),
  (28, ⟨false, 1, [.nils], [], .slice 125 (.pair (.pair (.int .i64) (.int .i64)) (.int .i64)), []⟩),
  (29, ⟨false, 1, [.nils], [], .slice 112 (.pair (.int .i64) (.pair (.int .i64) (.pair (.pair (.pair (.int .i64) (.pair .str (.pair .str (.pair (.int .i64) (.pair (.list (.int .i64)) (.int .i64)))))) (.pair (.int .i64) (.pair .str (.pair .str (.pair (.int .i64) (.pair (.list (.int .i64)) (.int .i64))))))) (.pair (.list (.pair (.int .i64) (.pair (.int .i64) (.pair (.int .i64) (.pair (.list .str) (.pair (.list .bool) (.int .i64))))))) (.int .i64))))), []⟩),
  (31, ⟨true, 6, [.int .i64 0, .int .i64 0, .nils, .nils, .nils, .nils], [(0, 27), (4, 28), (5, 29)], .other, []⟩),
  (34, ⟨true, 2, [.int .i64 0, .int .i64 0], [(0, 3), (1, 3)], .other, [(.int .i64), (.int .i64)]⟩),
  (35, ⟨false, 1, [.nils], [], .slice 118 (.pair (.int .i64) (.pair (.int .i64) (.int .i64))), []⟩),
  (36, ⟨false, 1, [.nils], [], .slice 115 (.pair (.int .i64) (.int .i64)), []⟩),
  (38, ⟨true, 4, [.int .i64 0, .int .i64 0, .nils, .nils], [(0, 34), (2, 35), (3, 36)], .other, []⟩),
  (39, ⟨false, 1, [.nils], [], .slice 80 (.pair (.pair (.int .i64) (.int .i64)) (.int .i64)), []⟩),
  (40, ⟨false, 1, [.nils], [], .slice 75 (.pair (.int .i64) (.pair (.int .i64) (.pair (.pair (.pair (.int .i64) (.pair .str (.pair .str (.pair (.int .i64) (.pair (.list (.int .i64)) (.int .i64)))))) (.pair (.int .i64) (.pair .str (.pair .str (.pair (.int .i64) (.pair (.list (.int .i64)) (.int .i64))))))) (.pair (.list (.pair (.int .i64) (.pair (.int .i64) (.pair (.int .i64) (.pair (.list .str) (.pair (.list .bool) (.int .i64))))))) (.int .i64))))), []⟩),
  (42, ⟨true, 6, [.int .i64 0, .int .i64 0, .nils, .nils, .nils, .nils], [(0, 38), (4, 39), (5, 40)], .other, []⟩),
  (46, ⟨false, 1, [.nils], [], .slice 3 (.int .i64), []⟩),
  (47, ⟨false, 1, [.nils], [], .slice 146 (.pair (.int .i64) (.pair (.int .i64) (.pair .bool (.pair (.int .i64) (.pair (.int .i64) (.pair (.int .i64) (.pair (.int .i64) (.pair (.int .i64) (.pair (.list (.int .i64)) .str))))))))), []⟩),
  (48, ⟨false, 1, [.nils], [], .slice 151 (.pair (.int .i64) (.pair (.int .i64) (.pair (.int .i64) .str))), []⟩),
  (49, ⟨false, 1, [.nils], [], .slice 164 (.pair (.int .i64) (.pair .bool (.pair (.int .i64) (.int .i64)))), []⟩),
  (51, ⟨true, 15, [.int .i64 0, .int .i64 0, .nils, .nils, .nils, .nils, .nils, .nils, .int .i64 0, .nils, .int .i64 0, .nils, .nils, .int .i64 0, .nils], [(0, 31), (6, 29), (7, 46), (8, 3), (9, 47), (10, 3), (11, 48), (12, 48), (13, 3), (14, 49)], .other, []⟩),
  (54, ⟨false, 1, [.nils], [], .slice 160 (.pair (.int .i64) (.pair (.int .i64) (.pair .bool (.pair (.int .i64) (.pair (.int .i64) (.pair (.int .i64) (.pair (.int .i64) (.pair (.int .i64) (.pair (.list (.int .i64)) .str))))))))), []⟩),
  (55, ⟨false, 1, [.nils], [], .slice 155 (.pair (.int .i64) (.pair (.int .i64) (.pair (.int .i64) .str))), []⟩),
  (56, ⟨false, 1, [.nils], [], .slice 157 (.pair (.int .i64) (.pair .bool (.pair (.int .i64) (.int .i64)))), []⟩),
  (58, ⟨true, 15, [.int .i64 0, .int .i64 0, .nils, .nils, .nils, .nils, .nils, .nils, .int .i64 0, .nils, .int .i64 0, .nils, .nils, .int .i64 0, .nils], [(0, 42), (6, 40), (7, 46), (8, 3), (9, 54), (10, 3), (11, 55), (12, 55), (13, 3), (14, 56)], .other, []⟩),
  (68, ⟨true, 6, [.int .i64 0, .str ⟨#[]⟩, .str ⟨#[]⟩, .int .i64 0, .nils, .int .i64 0], [(0, 3), (1, 9), (2, 9), (3, 3), (4, 46), (5, 3)], .other, []⟩),
  (70, ⟨true, 12, [.int .i64 0, .str ⟨#[]⟩, .str ⟨#[]⟩, .int .i64 0, .nils, .int .i64 0, .int .i64 0, .str ⟨#[]⟩, .str ⟨#[]⟩, .int .i64 0, .nils, .int .i64 0], [(0, 68), (6, 68)], .other, []⟩),
  (71, ⟨false, 1, [.nils], [], .slice 131 (.pair (.int .i64) (.pair (.int .i64) (.pair (.int .i64) (.pair (.list .str) (.pair (.list .bool) (.int .i64)))))), []⟩),
  (73, ⟨true, 1, [.nils], [(0, 71)], .other, []⟩),
  (75, ⟨true, 16, [.int .i64 0, .int .i64 0, .int .i64 0, .str ⟨#[]⟩, .str ⟨#[]⟩, .int .i64 0, .nils, .int .i64 0, .int .i64 0, .str ⟨#[]⟩, .str ⟨#[]⟩, .int .i64 0, .nils, .int .i64 0, .nils, .int .i64 0], [(0, 3), (1, 3), (2, 70), (14, 73), (15, 3)], .other, []⟩),
  (76, ⟨false, 1, [.dead], [], .other, []⟩),
  (80, ⟨true, 3, [.int .i64 0, .int .i64 0, .int .i64 0], [(0, 34), (2, 3)], .other, []⟩),
  (105, ⟨true, 6, [.int .i64 0, .str ⟨#[]⟩, .str ⟨#[]⟩, .int .i64 0, .nils, .int .i64 0], [(0, 3), (1, 9), (2, 9), (3, 3), (4, 46), (5, 3)], .other, []⟩),
  (107, ⟨true, 12, [.int .i64 0, .str ⟨#[]⟩, .str ⟨#[]⟩, .int .i64 0, .nils, .int .i64 0, .int .i64 0, .str ⟨#[]⟩, .str ⟨#[]⟩, .int .i64 0, .nils, .int .i64 0], [(0, 105), (6, 105)], .other, []⟩),
  (108, ⟨false, 1, [.nils], [], .slice 200 (.pair (.int .i64) (.pair (.int .i64) (.pair (.int .i64) (.pair (.list .str) (.pair (.list .bool) (.int .i64)))))), []⟩),
  (110, ⟨true, 1, [.nils], [(0, 108)], .other, []⟩),
  (112, ⟨true, 16, [.int .i64 0, .int .i64 0, .int .i64 0, .str ⟨#[]⟩, .str ⟨#[]⟩, .int .i64 0, .nils, .int .i64 0, .int .i64 0, .str ⟨#[]⟩, .str ⟨#[]⟩, .int .i64 0, .nils, .int .i64 0, .nils, .int .i64 0], [(0, 3), (1, 3), (2, 107), (14, 110), (15, 3)], .other, []⟩),
  (115, ⟨true, 2, [.int .i64 0, .int .i64 0], [(0, 3), (1, 3)], .other, [(.int .i64), (.int .i64)]⟩),
  (118, ⟨true, 3, [.int .i64 0, .int .i64 0, .int .i64 0], [(0, 3), (1, 3), (2, 3)], .other, [(.int .i64), (.int .i64), (.int .i64)]⟩),
  (125, ⟨true, 3, [.int .i64 0, .int .i64 0, .int .i64 0], [(0, 23), (2, 3)], .other, []⟩),
  (128, ⟨false, 1, [.nils], [], .slice 9 .str, []⟩),
  (129, ⟨false, 1, [.nils], [], .slice 4 .bool, []⟩),
  (131, ⟨true, 6, [.int .i64 0, .int .i64 0, .int .i64 0, .nils, .nils, .int .i64 0], [(0, 3), (1, 3), (2, 3), (3, 128), (4, 129), (5, 3)], .other, []⟩),
  (132, ⟨false, 1, [.dead], [], .other, []⟩),
  (144, ⟨true, 7, [.int .i64 0, .int .i64 0, .int .i64 0, .int .i64 0, .int .i64 0, .nils, .str ⟨#[]⟩], [(0, 3), (1, 3), (2, 3), (3, 3), (4, 3), (5, 46), (6, 9)], .other, []⟩),
  (146, ⟨true, 10, [.int .i64 0, .int .i64 0, .bool false, .int .i64 0, .int .i64 0, .int .i64 0, .int .i64 0, .int .i64 0, .nils, .str ⟨#[]⟩], [(0, 3), (1, 3), (2, 4), (3, 144)], .other, []⟩),
  (149, ⟨true, 3, [.int .i64 0, .int .i64 0, .str ⟨#[]⟩], [(0, 3), (1, 3), (2, 9)], .other, [(.int .i64), (.int .i64), .str]⟩),
  (151, ⟨true, 4, [.int .i64 0, .int .i64 0, .int .i64 0, .str ⟨#[]⟩], [(0, 3), (1, 149)], .other, []⟩),
  (153, ⟨true, 3, [.int .i64 0, .int .i64 0, .str ⟨#[]⟩], [(0, 3), (1, 3), (2, 9)], .other, [(.int .i64), (.int .i64), .str]⟩),
  (155, ⟨true, 4, [.int .i64 0, .int .i64 0, .int .i64 0, .str ⟨#[]⟩], [(0, 3), (1, 153)], .other, []⟩),
  (157, ⟨true, 4, [.int .i64 0, .bool false, .int .i64 0, .int .i64 0], [(0, 3), (1, 4), (2, 3), (3, 3)], .other, [(.int .i64), .bool, (.int .i64), (.int .i64)]⟩),
  (158, ⟨true, 7, [.int .i64 0, .int .i64 0, .int .i64 0, .int .i64 0, .int .i64 0, .nils, .str ⟨#[]⟩], [(0, 3), (1, 3), (2, 3), (3, 3), (4, 3), (5, 46), (6, 9)], .other, []⟩),
  (160, ⟨true, 10, [.int .i64 0, .int .i64 0, .bool false, .int .i64 0, .int .i64 0, .int .i64 0, .int .i64 0, .int .i64 0, .nils, .str ⟨#[]⟩], [(0, 3), (1, 3), (2, 4), (3, 158)], .other, []⟩),
  (164, ⟨true, 4, [.int .i64 0, .bool false, .int .i64 0, .int .i64 0], [(0, 3), (1, 4), (2, 3), (3, 3)], .other, [(.int .i64), .bool, (.int .i64), (.int .i64)]⟩),
  (172, ⟨true, 3, [.int .i64 0, .int .i64 0, .int .i64 0], [(0, 3), (1, 3), (2, 3)], .other, [(.int .i64), (.int .i64), (.int .i64)]⟩),
  (174, ⟨true, 2, [.int .i64 0, .int .i64 0], [(0, 3), (1, 3)], .other, [(.int .i64), (.int .i64)]⟩),
  (180, ⟨false, 1, [.dead], [], .other, []⟩),
  (200, ⟨true, 6, [.int .i64 0, .int .i64 0, .int .i64 0, .nils, .nils, .int .i64 0], [(0, 3), (1, 3), (2, 3), (3, 128), (4, 129), (5, 3)], .other, []⟩)]
theorem tok : TOk Tryz.prog TTab := tok_ok (by kernel_rfl) (by kernel_rfl)

end Go.Proofs.YtbplkcabblnhdaaGreat
