import Derived.Test.YtfgdejabocealaaGreatProg
import Derived.Test.YtfgdejabocealaaGreatChecked
import Derived.Test.YtfgdejabocealaaGreatShelf
import Derived.Test.YtfgdejabocealaaGreatEngA
import Derived.Test.YtfgdejabocealaaGreatEngB
import Derived.Test.YtfgdejabocealaaGreatEngC
import Derived.KernelRfl
/- What functions of the program compute, as plain functions, and that their calls do so (part 0). Conditions: the plain function answers. -/
set_option linter.unusedVariables false
namespace Go.Proofs.YtfgdejabocealaaGreat
open Go Go.Eng Go.Proofs
/-- A continuation under a name: the ways of a branch meet in it. -/
def jn {A R : Type} (f : A) (g : A → R) : R := g f
theorem jn_one {A R : Type} (c : Prop) [Decidable c] (f : A → R) (a b : A) : jn f (fun j => if c then j a else j b) = f (if c then a else b) := by unfold jn; by_cases h : c <;> simp [h]
theorem jn_two {A B R : Type} (c : Prop) [Decidable c] (f : A → B → R) (a b : A) (a' b' : B) : jn f (fun j => if c then j a a' else j b b') = f (if c then a else b) (if c then a' else b') := by unfold jn; by_cases h : c <;> simp [h]
abbrev wi64 (n : Int) : Int := IntKind.i64.wrap n
abbrev wu8 (n : Int) : Int := IntKind.u8.wrap n
abbrev wu16 (n : Int) : Int := IntKind.u16.wrap n
abbrev wu32 (n : Int) : Int := IntKind.u32.wrap n
abbrev wu64 (n : Int) : Int := IntKind.u64.wrap n
def TTab : TT := [(3, ⟨false, 1, [.int .i64 0], [], .int .i64, []⟩),
  (4, ⟨false, 1, [.bool false], [], .bool, []⟩),
  (5, ⟨false, 1, [.int .u8 0], [], .int .u8, []⟩),
  (9, ⟨false, 1, [.str ⟨#[]⟩], [], .str, []⟩),
  (22, ⟨false, 1, [.nils], [], .slice 3 (.int .i64), []⟩),
  (24, ⟨true, 6, [.int .i64 0, .str ⟨#[]⟩, .str ⟨#[]⟩, .int .i64 0, .nils, .int .i64 0], [(0, 3), (1, 9), (2, 9), (3, 3), (4, 22), (5, 3)], .other, []⟩),
  (26, ⟨true, 12, [.int .i64 0, .str ⟨#[]⟩, .str ⟨#[]⟩, .int .i64 0, .nils, .int .i64 0, .int .i64 0, .str ⟨#[]⟩, .str ⟨#[]⟩, .int .i64 0, .nils, .int .i64 0], [(0, 24), (6, 24)], .other, []⟩),
  (28, ⟨true, 7, [.int .i64 0, .int .i64 0, .int .i64 0, .int .i64 0, .int .i64 0, .nils, .str ⟨#[]⟩], [(0, 3), (1, 3), (2, 3), (3, 3), (4, 3), (5, 22), (6, 9)], .other, []⟩),
  (31, ⟨true, 6, [.int .i64 0, .str ⟨#[]⟩, .str ⟨#[]⟩, .int .i64 0, .nils, .int .i64 0], [(0, 3), (1, 9), (2, 9), (3, 3), (4, 22), (5, 3)], .other, []⟩),
  (33, ⟨true, 12, [.int .i64 0, .str ⟨#[]⟩, .str ⟨#[]⟩, .int .i64 0, .nils, .int .i64 0, .int .i64 0, .str ⟨#[]⟩, .str ⟨#[]⟩, .int .i64 0, .nils, .int .i64 0], [(0, 31), (6, 31)], .other, []⟩),
  (37, ⟨true, 7, [.int .i64 0, .int .i64 0, .int .i64 0, .int .i64 0, .int .i64 0, .nils, .str ⟨#[]⟩], [(0, 3), (1, 3), (2, 3), (3, 3), (4, 3), (5, 22), (6, 9)], .other, []⟩),
  (44, ⟨false, 1, [.nils], [], .slice 5 (.int .u8), []⟩),
  (46, ⟨false, 1, [.nils], [], .slice 9 .str, []⟩),
  (58, ⟨true, 2, [.int .i64 0, .int .i64 0], [(0, 3), (1, 3)], .other, [(.int .i64), (.int .i64)]⟩),
  (59, ⟨false, 1, [.nils], [], .slice 164 (.pair (.int .i64) (.pair (.int .i64) (.int .i64))), []⟩),
  (60, ⟨false, 1, [.nils], [], .slice 253 (.pair (.int .i64) (.int .i64)), []⟩),
  (62, ⟨true, 4, [.int .i64 0, .int .i64 0, .nils, .nils], [(0, 58), (2, 59), (3, 60)], .other, []⟩),
  (63, ⟨false, 1, [.nils], [], .slice 81 (.pair (.pair (.int .i64) (.int .i64)) (.int .i64)), []⟩),
  (64, ⟨false, 1, [.nils], [], .slice 73 (.pair (.int .i64) (.pair (.int .i64) (.pair (.pair (.pair (.int .i64) (.pair .str (.pair .str (.pair (.int .i64) (.pair (.list (.int .i64)) (.int .i64)))))) (.pair (.int .i64) (.pair .str (.pair .str (.pair (.int .i64) (.pair (.list (.int .i64)) (.int .i64))))))) (.pair (.list (.pair (.int .i64) (.pair (.int .i64) (.pair (.int .i64) (.pair (.list .str) (.pair (.list .bool) (.int .i64))))))) (.int .i64))))), []⟩),
  (66, ⟨true, 6, [.int .i64 0, .int .i64 0, .nils, .nils, .nils, .nils], [(0, 62), (4, 63), (5, 64)], .other, []⟩),
  (69, ⟨false, 1, [.nils], [], .slice 271 (.pair (.int .i64) (.pair (.int .i64) (.pair (.int .i64) (.pair (.list .str) (.pair (.list .bool) (.int .i64)))))), []⟩),
  (71, ⟨true, 1, [.nils], [(0, 69)], .other, []⟩),
  (73, ⟨true, 16, [.int .i64 0, .int .i64 0, .int .i64 0, .str ⟨#[]⟩, .str ⟨#[]⟩, .int .i64 0, .nils, .int .i64 0, .int .i64 0, .str ⟨#[]⟩, .str ⟨#[]⟩, .int .i64 0, .nils, .int .i64 0, .nils, .int .i64 0], [(0, 3), (1, 3), (2, 33), (14, 71), (15, 3)], .other, []⟩),
  (77, ⟨true, 3, [.int .i64 0, .int .i64 0, .str ⟨#[]⟩], [(0, 3), (1, 3), (2, 9)], .other, [(.int .i64), (.int .i64), .str]⟩),
  (81, ⟨true, 3, [.int .i64 0, .int .i64 0, .int .i64 0], [(0, 58), (2, 3)], .other, []⟩),
  (85, ⟨true, 2, [.int .i64 0, .int .i64 0], [(0, 3), (1, 3)], .other, [(.int .i64), (.int .i64)]⟩),
  (86, ⟨false, 1, [.nils], [], .slice 264 (.pair (.int .i64) (.pair (.int .i64) (.int .i64))), []⟩),
  (87, ⟨false, 1, [.nils], [], .slice 266 (.pair (.int .i64) (.int .i64)), []⟩),
  (89, ⟨true, 4, [.int .i64 0, .int .i64 0, .nils, .nils], [(0, 85), (2, 86), (3, 87)], .other, []⟩),
  (90, ⟨false, 1, [.nils], [], .slice 220 (.pair (.pair (.int .i64) (.int .i64)) (.int .i64)), []⟩),
  (91, ⟨false, 1, [.nils], [], .slice 106 (.pair (.int .i64) (.pair (.int .i64) (.pair (.pair (.pair (.int .i64) (.pair .str (.pair .str (.pair (.int .i64) (.pair (.list (.int .i64)) (.int .i64)))))) (.pair (.int .i64) (.pair .str (.pair .str (.pair (.int .i64) (.pair (.list (.int .i64)) (.int .i64))))))) (.pair (.list (.pair (.int .i64) (.pair (.int .i64) (.pair (.int .i64) (.pair (.list .str) (.pair (.list .bool) (.int .i64))))))) (.int .i64))))), []⟩),
  (93, ⟨true, 6, [.int .i64 0, .int .i64 0, .nils, .nils, .nils, .nils], [(0, 89), (4, 90), (5, 91)], .other, []⟩),
  (102, ⟨false, 1, [.nils], [], .slice 275 (.pair (.int .i64) (.pair (.int .i64) (.pair (.int .i64) (.pair (.list .str) (.pair (.list .bool) (.int .i64)))))), []⟩),
  (104, ⟨true, 1, [.nils], [(0, 102)], .other, []⟩),
  (106, ⟨true, 16, [.int .i64 0, .int .i64 0, .int .i64 0, .str ⟨#[]⟩, .str ⟨#[]⟩, .int .i64 0, .nils, .int .i64 0, .int .i64 0, .str ⟨#[]⟩, .str ⟨#[]⟩, .int .i64 0, .nils, .int .i64 0, .nils, .int .i64 0], [(0, 3), (1, 3), (2, 26), (14, 104), (15, 3)], .other, []⟩),
  (107, ⟨true, 3, [.int .i64 0, .int .i64 0, .str ⟨#[]⟩], [(0, 3), (1, 3), (2, 9)], .other, [(.int .i64), (.int .i64), .str]⟩),
  (110, ⟨false, 1, [.nils], [], .slice 37 (.pair (.int .i64) (.pair (.int .i64) (.pair (.int .i64) (.pair (.int .i64) (.pair (.int .i64) (.pair (.list (.int .i64)) .str)))))), []⟩),
  (142, ⟨false, 1, [.dead], [], .other, []⟩),
  (158, ⟨false, 1, [.dead], [], .other, []⟩),
  (164, ⟨true, 3, [.int .i64 0, .int .i64 0, .int .i64 0], [(0, 3), (1, 3), (2, 3)], .other, [(.int .i64), (.int .i64), (.int .i64)]⟩),
  (187, ⟨true, 3, [.nils, .int .i64 0, .int .i64 0], [(0, 44), (1, 3), (2, 3)], .other, []⟩),
  (193, ⟨true, 3, [.str ⟨#[]⟩, .str ⟨#[]⟩, .int .i64 0], [(0, 9), (1, 9), (2, 3)], .other, [.str, .str, (.int .i64)]⟩),
  (198, ⟨false, 1, [.int .u64 0], [], .int .u64, []⟩),
  (212, ⟨false, 1, [.dead], [], .other, []⟩),
  (220, ⟨true, 3, [.int .i64 0, .int .i64 0, .int .i64 0], [(0, 85), (2, 3)], .other, []⟩),
  (241, ⟨false, 1, [.nils], [], .slice 297 (.int .u32), []⟩),
  (251, ⟨false, 1, [.dead], [], .other, []⟩),
  (253, ⟨true, 2, [.int .i64 0, .int .i64 0], [(0, 3), (1, 3)], .other, [(.int .i64), (.int .i64)]⟩),
  (258, ⟨false, 1, [.nils], [], .slice 64 (.list (.pair (.int .i64) (.pair (.int .i64) (.pair (.pair (.pair (.int .i64) (.pair .str (.pair .str (.pair (.int .i64) (.pair (.list (.int .i64)) (.int .i64)))))) (.pair (.int .i64) (.pair .str (.pair .str (.pair (.int .i64) (.pair (.list (.int .i64)) (.int .i64))))))) (.pair (.list (.pair (.int .i64) (.pair (.int .i64) (.pair (.int .i64) (.pair (.list .str) (.pair (.list .bool) (.int .i64))))))) (.int .i64)))))), []⟩),
  (264, ⟨true, 3, [.int .i64 0, .int .i64 0, .int .i64 0], [(0, 3), (1, 3), (2, 3)], .other, [(.int .i64), (.int .i64), (.int .i64)]⟩),
  (266, ⟨true, 2, [.int .i64 0, .int .i64 0], [(0, 3), (1, 3)], .other, [(.int .i64), (.int .i64)]⟩),
  (269, ⟨false, 1, [.nils], [], .slice 4 .bool, []⟩),
  (271, ⟨true, 6, [.int .i64 0, .int .i64 0, .int .i64 0, .nils, .nils, .int .i64 0], [(0, 3), (1, 3), (2, 3), (3, 46), (4, 269), (5, 3)], .other, []⟩),
  (275, ⟨true, 6, [.int .i64 0, .int .i64 0, .int .i64 0, .nils, .nils, .int .i64 0], [(0, 3), (1, 3), (2, 3), (3, 46), (4, 269), (5, 3)], .other, []⟩),
  (282, ⟨true, 64, [.int .i64 0, .int .i64 0, .int .i64 0, .int .i64 0, .int .i64 0, .int .i64 0, .int .i64 0, .int .i64 0, .int .i64 0, .int .i64 0, .int .i64 0, .int .i64 0, .int .i64 0, .int .i64 0, .int .i64 0, .int .i64 0, .int .i64 0, .int .i64 0, .int .i64 0, .int .i64 0, .int .i64 0, .int .i64 0, .int .i64 0, .int .i64 0, .int .i64 0, .int .i64 0, .int .i64 0, .int .i64 0, .int .i64 0, .int .i64 0, .int .i64 0, .int .i64 0, .int .i64 0, .int .i64 0, .int .i64 0, .int .i64 0, .int .i64 0, .int .i64 0, .int .i64 0, .int .i64 0, .int .i64 0, .int .i64 0, .int .i64 0, .int .i64 0, .int .i64 0, .int .i64 0, .int .i64 0, .int .i64 0, .int .i64 0, .int .i64 0, .int .i64 0, .int .i64 0, .int .i64 0, .int .i64 0, .int .i64 0, .int .i64 0, .int .i64 0, .int .i64 0, .int .i64 0, .int .i64 0, .int .i64 0, .int .i64 0, .int .i64 0, .int .i64 0], [], .arr 3 64, []⟩),
  (297, ⟨false, 1, [.int .u32 0], [], .int .u32, []⟩),
  (314, ⟨false, 1, [.int .u64 0], [], .int .u64, []⟩),
  (324, ⟨false, 1, [.int .u64 0], [], .int .u64, []⟩)]
theorem tok : TOk Tryz.prog TTab := tok_ok (by kernel_rfl) (by kernel_rfl)

end Go.Proofs.YtfgdejabocealaaGreat
