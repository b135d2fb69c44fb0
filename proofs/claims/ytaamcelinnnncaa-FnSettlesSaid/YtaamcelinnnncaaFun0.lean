import Derived.Test.YtaamcelinnnncaaProg
import Derived.Test.YtaamcelinnnncaaChecked
import Derived.Test.YtaamcelinnnncaaEngA
import Derived.Test.YtaamcelinnnncaaEngB
import Derived.Test.YtaamcelinnnncaaEngC
import Derived.Test.YtaamcelinnnncaaEngD
import Derived.KernelRfl
/- What functions of the program compute, as plain functions, and that their calls do so (part 0). Conditions: the plain function answers. -/
set_option linter.unusedVariables false
namespace Go.Proofs.Ytaamcelinnnncaa
open Go Go.Eng Go.Proofs
/-- A continuation under a name: the ways of a branch meet in it. -/
def jn {A R : Type} (f : A) (g : A → R) : R := g f
theorem jn_one {A R : Type} (c : Prop) [Decidable c] (f : A → R) (a b : A) : jn f (fun j => if c then j a else j b) = f (if c then a else b) := by unfold jn; by_cases h : c <;> simp [h]
theorem jn_two {A B R : Type} (c : Prop) [Decidable c] (f : A → B → R) (a b : A) (a' b' : B) : jn f (fun j => if c then j a a' else j b b') = f (if c then a else b) (if c then a' else b') := by unfold jn; by_cases h : c <;> simp [h]
/-- No name stands for anything of note. -/
instance theNames : Names := ⟨fun _ => .slice none 0 0, fun _ => rfl, rfl, fun _ => False, fun _ => True, fun _ _ _ _ => trivial⟩
theorem es_nil [Names] {P : Program} : ∀ x ∈ ([] : List Entry), EntryOk P x := fun _ h => nomatch h
theorem es_cons [Names] {P : Program} {e : Entry} {es : List Entry} (h : EntryOk P e) (hs : ∀ x ∈ es, EntryOk P x) : ∀ x ∈ e :: es, EntryOk P x := fun x hx => by
  rcases List.mem_cons.1 hx with rfl | hx
  · exact h
  · exact hs x hx
abbrev wi64 (n : Int) : Int := IntKind.i64.wrap n
abbrev wu8 (n : Int) : Int := IntKind.u8.wrap n
abbrev wu16 (n : Int) : Int := IntKind.u16.wrap n
abbrev wu32 (n : Int) : Int := IntKind.u32.wrap n
abbrev wu64 (n : Int) : Int := IntKind.u64.wrap n
def TTab : TT := [(3, ⟨false, 1, [.int .i64 0], [], .int .i64, []⟩),
  (4, ⟨false, 1, [.bool false], [], .bool, []⟩),
  (5, ⟨false, 1, [.int .u8 0], [], .int .u8, []⟩),
  (9, ⟨false, 1, [.str ⟨#[]⟩], [], .str, []⟩),
  (22, ⟨false, 1, [.nils], [], .slice 5 (.int .u8), []⟩),
  (26, ⟨false, 1, [.nils], [], .slice 9 .str, []⟩),
  (30, ⟨false, 1, [.nils], [], .slice 3 (.int .i64), []⟩),
  (32, ⟨false, 1, [.nils], [], .slice 53 (.pair (.int .i64) (.pair (.int .i64) (.pair (.int .i64) (.pair (.list .str) (.pair (.list .bool) (.int .i64)))))), []⟩),
  (34, ⟨true, 1, [.nils], [(0, 32)], .other, []⟩),
  (40, ⟨false, 1, [.nils], [], .slice 162 (.pair (.int .i64) (.pair (.int .i64) (.pair (.int .i64) (.pair (.list .str) (.pair (.list .bool) (.int .i64)))))), []⟩),
  (42, ⟨true, 1, [.nils], [(0, 40)], .other, []⟩),
  (51, ⟨false, 1, [.nils], [], .slice 4 .bool, []⟩),
  (53, ⟨true, 6, [.int .i64 0, .int .i64 0, .int .i64 0, .nils, .nils, .int .i64 0], [(0, 3), (1, 3), (2, 3), (3, 26), (4, 51), (5, 3)], .other, []⟩),
  (55, ⟨false, 1, [.nils], [], .slice 112 (.pair (.int .i64) (.pair (.int .i64) (.int .i64))), []⟩),
  (58, ⟨false, 1, [.nils], [], .slice 68 (.pair (.int .i64) (.pair (.int .i64) (.pair (.int .i64) (.pair (.list .str) (.pair (.list (.pair (.int .i64) (.pair .str (.pair (.int .i64) (.int .i64))))) (.pair (.int .i64) (.pair (.list (.pair (.int .i64) .str)) (.pair (.list (.int .i64)) (.list .str))))))))), []⟩),
  (59, ⟨false, 1, [.nils], [], .slice 122 (.pair (.int .i64) (.pair (.int .i64) (.pair (.int .i64) (.pair (.int .i64) (.pair (.int .i64) (.pair (.list (.int .i64)) .str)))))), []⟩),
  (61, ⟨true, 3, [.nils, .int .i64 0, .nils], [(0, 58), (1, 3), (2, 59)], .other, []⟩),
  (65, ⟨false, 1, [.nils], [], .slice 129 (.pair (.int .i64) (.pair .str (.pair (.int .i64) (.int .i64)))), []⟩),
  (66, ⟨false, 1, [.nils], [], .slice 131 (.pair (.int .i64) .str), []⟩),
  (68, ⟨true, 9, [.int .i64 0, .int .i64 0, .int .i64 0, .nils, .nils, .int .i64 0, .nils, .nils, .nils], [(0, 3), (1, 3), (2, 3), (3, 26), (4, 65), (5, 3), (6, 66), (7, 30), (8, 26)], .other, []⟩),
  (71, ⟨false, 1, [.nils], [], .slice 134 (.pair (.int .i64) (.pair (.int .i64) (.int .i64))), []⟩),
  (81, ⟨false, 1, [.nils], [], .slice 181 (.pair (.int .i64) (.pair (.int .i64) (.pair (.int .i64) (.pair (.list .str) (.pair (.list (.pair (.int .i64) (.pair .str (.pair (.int .i64) (.int .i64))))) (.pair (.int .i64) (.pair (.list (.pair (.int .i64) .str)) (.pair (.list (.int .i64)) (.list .str))))))))), []⟩),
  (82, ⟨false, 1, [.nils], [], .slice 183 (.pair (.int .i64) (.pair (.int .i64) (.pair (.int .i64) (.pair (.int .i64) (.pair (.int .i64) (.pair (.list (.int .i64)) .str)))))), []⟩),
  (84, ⟨true, 3, [.nils, .int .i64 0, .nils], [(0, 81), (1, 3), (2, 82)], .other, []⟩),
  (102, ⟨false, 1, [.dead], [], .other, []⟩),
  (112, ⟨true, 3, [.int .i64 0, .int .i64 0, .int .i64 0], [(0, 3), (1, 3), (2, 3)], .other, [(.int .i64), (.int .i64), (.int .i64)]⟩),
  (114, ⟨false, 1, [.nils], [], .slice 26 (.list .str), []⟩),
  (122, ⟨true, 7, [.int .i64 0, .int .i64 0, .int .i64 0, .int .i64 0, .int .i64 0, .nils, .str ⟨#[]⟩], [(0, 3), (1, 3), (2, 3), (3, 3), (4, 3), (5, 30), (6, 9)], .other, []⟩),
  (129, ⟨true, 4, [.int .i64 0, .str ⟨#[]⟩, .int .i64 0, .int .i64 0], [(0, 3), (1, 9), (2, 3), (3, 3)], .other, [(.int .i64), .str, (.int .i64), (.int .i64)]⟩),
  (131, ⟨true, 2, [.int .i64 0, .str ⟨#[]⟩], [(0, 3), (1, 9)], .other, [(.int .i64), .str]⟩),
  (134, ⟨true, 3, [.int .i64 0, .int .i64 0, .int .i64 0], [(0, 3), (1, 3), (2, 3)], .other, [(.int .i64), (.int .i64), (.int .i64)]⟩),
  (146, ⟨true, 3, [.nils, .int .i64 0, .int .i64 0], [(0, 22), (1, 3), (2, 3)], .other, []⟩),
  (162, ⟨true, 6, [.int .i64 0, .int .i64 0, .int .i64 0, .nils, .nils, .int .i64 0], [(0, 3), (1, 3), (2, 3), (3, 26), (4, 51), (5, 3)], .other, []⟩),
  (178, ⟨false, 1, [.nils], [], .slice 214 (.pair (.int .i64) (.pair .str (.pair (.int .i64) (.int .i64)))), []⟩),
  (179, ⟨false, 1, [.nils], [], .slice 216 (.pair (.int .i64) .str), []⟩),
  (181, ⟨true, 9, [.int .i64 0, .int .i64 0, .int .i64 0, .nils, .nils, .int .i64 0, .nils, .nils, .nils], [(0, 3), (1, 3), (2, 3), (3, 26), (4, 178), (5, 3), (6, 179), (7, 30), (8, 26)], .other, []⟩),
  (183, ⟨true, 7, [.int .i64 0, .int .i64 0, .int .i64 0, .int .i64 0, .int .i64 0, .nils, .str ⟨#[]⟩], [(0, 3), (1, 3), (2, 3), (3, 3), (4, 3), (5, 30), (6, 9)], .other, []⟩),
  (194, ⟨false, 1, [.dead], [], .other, []⟩),
  (214, ⟨true, 4, [.int .i64 0, .str ⟨#[]⟩, .int .i64 0, .int .i64 0], [(0, 3), (1, 9), (2, 3), (3, 3)], .other, [(.int .i64), .str, (.int .i64), (.int .i64)]⟩),
  (216, ⟨true, 2, [.int .i64 0, .str ⟨#[]⟩], [(0, 3), (1, 9)], .other, [(.int .i64), .str]⟩)]
theorem tok : TOk Try.prog TTab := tok_ok (by kernel_rfl) (by kernel_rfl)
def TTabO : TT := [(3, ⟨false, 1, [.int .i64 0], [], .int .i64, []⟩),
  (4, ⟨false, 1, [.bool false], [], .bool, []⟩),
  (5, ⟨false, 1, [.int .u8 0], [], .int .u8, []⟩),
  (9, ⟨false, 1, [.str ⟨#[]⟩], [], .str, []⟩),
  (22, ⟨false, 1, [.nils], [], .slice 5 (.int .u8), []⟩),
  (26, ⟨false, 1, [.nils], [], .slice 9 .str, []⟩),
  (30, ⟨false, 1, [.nils], [], .slice 3 (.int .i64), []⟩),
  (32, ⟨false, 1, [.nils], [], .slice 53 (.pair (.int .i64) (.pair (.int .i64) (.pair (.int .i64) (.pair (.ols 9 .str) (.pair (.ols 4 .bool) (.int .i64)))))), []⟩),
  (34, ⟨true, 1, [.nils], [(0, 32)], .other, []⟩),
  (40, ⟨false, 1, [.nils], [], .slice 162 (.pair (.int .i64) (.pair (.int .i64) (.pair (.int .i64) (.pair (.ols 9 .str) (.pair (.ols 4 .bool) (.int .i64)))))), []⟩),
  (42, ⟨true, 1, [.nils], [(0, 40)], .other, []⟩),
  (51, ⟨false, 1, [.nils], [], .slice 4 .bool, []⟩),
  (53, ⟨true, 6, [.int .i64 0, .int .i64 0, .int .i64 0, .nils, .nils, .int .i64 0], [(0, 3), (1, 3), (2, 3), (3, 26), (4, 51), (5, 3)], .other, []⟩),
  (55, ⟨false, 1, [.nils], [], .slice 112 (.pair (.int .i64) (.pair (.int .i64) (.int .i64))), []⟩),
  (58, ⟨false, 1, [.nils], [], .slice 68 (.pair (.int .i64) (.pair (.int .i64) (.pair (.int .i64) (.pair (.ols 9 .str) (.pair (.ols 129 (.pair (.int .i64) (.pair .str (.pair (.int .i64) (.int .i64))))) (.pair (.int .i64) (.pair (.ols 131 (.pair (.int .i64) .str)) (.pair (.ols 3 (.int .i64)) (.ols 9 .str))))))))), []⟩),
  (59, ⟨false, 1, [.nils], [], .slice 122 (.pair (.int .i64) (.pair (.int .i64) (.pair (.int .i64) (.pair (.int .i64) (.pair (.int .i64) (.pair (.ols 3 (.int .i64)) .str)))))), []⟩),
  (61, ⟨true, 3, [.nils, .int .i64 0, .nils], [(0, 58), (1, 3), (2, 59)], .other, []⟩),
  (65, ⟨false, 1, [.nils], [], .slice 129 (.pair (.int .i64) (.pair .str (.pair (.int .i64) (.int .i64)))), []⟩),
  (66, ⟨false, 1, [.nils], [], .slice 131 (.pair (.int .i64) .str), []⟩),
  (68, ⟨true, 9, [.int .i64 0, .int .i64 0, .int .i64 0, .nils, .nils, .int .i64 0, .nils, .nils, .nils], [(0, 3), (1, 3), (2, 3), (3, 26), (4, 65), (5, 3), (6, 66), (7, 30), (8, 26)], .other, []⟩),
  (71, ⟨false, 1, [.nils], [], .slice 134 (.pair (.int .i64) (.pair (.int .i64) (.int .i64))), []⟩),
  (81, ⟨false, 1, [.nils], [], .slice 181 (.pair (.int .i64) (.pair (.int .i64) (.pair (.int .i64) (.pair (.ols 9 .str) (.pair (.ols 214 (.pair (.int .i64) (.pair .str (.pair (.int .i64) (.int .i64))))) (.pair (.int .i64) (.pair (.ols 216 (.pair (.int .i64) .str)) (.pair (.ols 3 (.int .i64)) (.ols 9 .str))))))))), []⟩),
  (82, ⟨false, 1, [.nils], [], .slice 183 (.pair (.int .i64) (.pair (.int .i64) (.pair (.int .i64) (.pair (.int .i64) (.pair (.int .i64) (.pair (.ols 3 (.int .i64)) .str)))))), []⟩),
  (84, ⟨true, 3, [.nils, .int .i64 0, .nils], [(0, 81), (1, 3), (2, 82)], .other, []⟩),
  (102, ⟨false, 1, [.dead], [], .other, []⟩),
  (112, ⟨true, 3, [.int .i64 0, .int .i64 0, .int .i64 0], [(0, 3), (1, 3), (2, 3)], .other, [(.int .i64), (.int .i64), (.int .i64)]⟩),
  (114, ⟨false, 1, [.nils], [], .slice 26 (.list .str), []⟩),
  (122, ⟨true, 7, [.int .i64 0, .int .i64 0, .int .i64 0, .int .i64 0, .int .i64 0, .nils, .str ⟨#[]⟩], [(0, 3), (1, 3), (2, 3), (3, 3), (4, 3), (5, 30), (6, 9)], .other, []⟩),
  (129, ⟨true, 4, [.int .i64 0, .str ⟨#[]⟩, .int .i64 0, .int .i64 0], [(0, 3), (1, 9), (2, 3), (3, 3)], .other, [(.int .i64), .str, (.int .i64), (.int .i64)]⟩),
  (131, ⟨true, 2, [.int .i64 0, .str ⟨#[]⟩], [(0, 3), (1, 9)], .other, [(.int .i64), .str]⟩),
  (134, ⟨true, 3, [.int .i64 0, .int .i64 0, .int .i64 0], [(0, 3), (1, 3), (2, 3)], .other, [(.int .i64), (.int .i64), (.int .i64)]⟩),
  (146, ⟨true, 3, [.nils, .int .i64 0, .int .i64 0], [(0, 22), (1, 3), (2, 3)], .other, []⟩),
  (162, ⟨true, 6, [.int .i64 0, .int .i64 0, .int .i64 0, .nils, .nils, .int .i64 0], [(0, 3), (1, 3), (2, 3), (3, 26), (4, 51), (5, 3)], .other, []⟩),
  (178, ⟨false, 1, [.nils], [], .slice 214 (.pair (.int .i64) (.pair .str (.pair (.int .i64) (.int .i64)))), []⟩),
  (179, ⟨false, 1, [.nils], [], .slice 216 (.pair (.int .i64) .str), []⟩),
  (181, ⟨true, 9, [.int .i64 0, .int .i64 0, .int .i64 0, .nils, .nils, .int .i64 0, .nils, .nils, .nils], [(0, 3), (1, 3), (2, 3), (3, 26), (4, 178), (5, 3), (6, 179), (7, 30), (8, 26)], .other, []⟩),
  (183, ⟨true, 7, [.int .i64 0, .int .i64 0, .int .i64 0, .int .i64 0, .int .i64 0, .nils, .str ⟨#[]⟩], [(0, 3), (1, 3), (2, 3), (3, 3), (4, 3), (5, 30), (6, 9)], .other, []⟩),
  (194, ⟨false, 1, [.dead], [], .other, []⟩),
  (214, ⟨true, 4, [.int .i64 0, .str ⟨#[]⟩, .int .i64 0, .int .i64 0], [(0, 3), (1, 9), (2, 3), (3, 3)], .other, [(.int .i64), .str, (.int .i64), (.int .i64)]⟩),
  (216, ⟨true, 2, [.int .i64 0, .str ⟨#[]⟩], [(0, 3), (1, 9)], .other, [(.int .i64), .str]⟩)]
theorem tokO : TOk Try.prog TTabO := tok_ok (by kernel_rfl) (by kernel_rfl)
def TTabN : TT := [(3, ⟨false, 1, [.int .i64 0], [], .int .i64, []⟩),
  (4, ⟨false, 1, [.bool false], [], .bool, []⟩),
  (5, ⟨false, 1, [.int .u8 0], [], .int .u8, []⟩),
  (9, ⟨false, 1, [.str ⟨#[]⟩], [], .str, []⟩),
  (22, ⟨false, 1, [.nils], [], .slice 5 (.int .u8), []⟩),
  (26, ⟨false, 1, [.nils], [], .slice 9 .str, []⟩),
  (30, ⟨false, 1, [.nils], [], .slice 3 (.int .i64), []⟩),
  (32, ⟨false, 1, [.nils], [], .slice 53 (.pair (.int .i64) (.pair (.int .i64) (.pair (.int .i64) (.pair .nm (.pair .nm (.int .i64)))))), []⟩),
  (34, ⟨true, 1, [.nils], [(0, 32)], .other, []⟩),
  (40, ⟨false, 1, [.nils], [], .slice 162 (.pair (.int .i64) (.pair (.int .i64) (.pair (.int .i64) (.pair .nm (.pair .nm (.int .i64)))))), []⟩),
  (42, ⟨true, 1, [.nils], [(0, 40)], .other, []⟩),
  (51, ⟨false, 1, [.nils], [], .slice 4 .bool, []⟩),
  (53, ⟨true, 6, [.int .i64 0, .int .i64 0, .int .i64 0, .nils, .nils, .int .i64 0], [(0, 3), (1, 3), (2, 3), (3, 26), (4, 51), (5, 3)], .other, []⟩),
  (55, ⟨false, 1, [.nils], [], .slice 112 (.pair (.int .i64) (.pair (.int .i64) (.int .i64))), []⟩),
  (58, ⟨false, 1, [.nils], [], .slice 68 (.pair (.int .i64) (.pair (.int .i64) (.pair (.int .i64) (.pair .nm (.pair .nm (.pair (.int .i64) (.pair .nm (.pair .nm .nm)))))))), []⟩),
  (59, ⟨false, 1, [.nils], [], .slice 122 (.pair (.int .i64) (.pair (.int .i64) (.pair (.int .i64) (.pair (.int .i64) (.pair (.int .i64) (.pair .nm .str)))))), []⟩),
  (61, ⟨true, 3, [.nils, .int .i64 0, .nils], [(0, 58), (1, 3), (2, 59)], .other, []⟩),
  (65, ⟨false, 1, [.nils], [], .slice 129 (.pair (.int .i64) (.pair .str (.pair (.int .i64) (.int .i64)))), []⟩),
  (66, ⟨false, 1, [.nils], [], .slice 131 (.pair (.int .i64) .str), []⟩),
  (68, ⟨true, 9, [.int .i64 0, .int .i64 0, .int .i64 0, .nils, .nils, .int .i64 0, .nils, .nils, .nils], [(0, 3), (1, 3), (2, 3), (3, 26), (4, 65), (5, 3), (6, 66), (7, 30), (8, 26)], .other, []⟩),
  (71, ⟨false, 1, [.nils], [], .slice 134 (.pair (.int .i64) (.pair (.int .i64) (.int .i64))), []⟩),
  (81, ⟨false, 1, [.nils], [], .slice 181 (.pair (.int .i64) (.pair (.int .i64) (.pair (.int .i64) (.pair .nm (.pair .nm (.pair (.int .i64) (.pair .nm (.pair .nm .nm)))))))), []⟩),
  (82, ⟨false, 1, [.nils], [], .slice 183 (.pair (.int .i64) (.pair (.int .i64) (.pair (.int .i64) (.pair (.int .i64) (.pair (.int .i64) (.pair .nm .str)))))), []⟩),
  (84, ⟨true, 3, [.nils, .int .i64 0, .nils], [(0, 81), (1, 3), (2, 82)], .other, []⟩),
  (102, ⟨false, 1, [.dead], [], .other, []⟩),
  (112, ⟨true, 3, [.int .i64 0, .int .i64 0, .int .i64 0], [(0, 3), (1, 3), (2, 3)], .other, [(.int .i64), (.int .i64), (.int .i64)]⟩),
  (114, ⟨false, 1, [.nils], [], .slice 26 (.list .str), []⟩),
  (122, ⟨true, 7, [.int .i64 0, .int .i64 0, .int .i64 0, .int .i64 0, .int .i64 0, .nils, .str ⟨#[]⟩], [(0, 3), (1, 3), (2, 3), (3, 3), (4, 3), (5, 30), (6, 9)], .other, []⟩),
  (129, ⟨true, 4, [.int .i64 0, .str ⟨#[]⟩, .int .i64 0, .int .i64 0], [(0, 3), (1, 9), (2, 3), (3, 3)], .other, [(.int .i64), .str, (.int .i64), (.int .i64)]⟩),
  (131, ⟨true, 2, [.int .i64 0, .str ⟨#[]⟩], [(0, 3), (1, 9)], .other, [(.int .i64), .str]⟩),
  (134, ⟨true, 3, [.int .i64 0, .int .i64 0, .int .i64 0], [(0, 3), (1, 3), (2, 3)], .other, [(.int .i64), (.int .i64), (.int .i64)]⟩),
  (146, ⟨true, 3, [.nils, .int .i64 0, .int .i64 0], [(0, 22), (1, 3), (2, 3)], .other, []⟩),
  (162, ⟨true, 6, [.int .i64 0, .int .i64 0, .int .i64 0, .nils, .nils, .int .i64 0], [(0, 3), (1, 3), (2, 3), (3, 26), (4, 51), (5, 3)], .other, []⟩),
  (178, ⟨false, 1, [.nils], [], .slice 214 (.pair (.int .i64) (.pair .str (.pair (.int .i64) (.int .i64)))), []⟩),
  (179, ⟨false, 1, [.nils], [], .slice 216 (.pair (.int .i64) .str), []⟩),
  (181, ⟨true, 9, [.int .i64 0, .int .i64 0, .int .i64 0, .nils, .nils, .int .i64 0, .nils, .nils, .nils], [(0, 3), (1, 3), (2, 3), (3, 26), (4, 178), (5, 3), (6, 179), (7, 30), (8, 26)], .other, []⟩),
  (183, ⟨true, 7, [.int .i64 0, .int .i64 0, .int .i64 0, .int .i64 0, .int .i64 0, .nils, .str ⟨#[]⟩], [(0, 3), (1, 3), (2, 3), (3, 3), (4, 3), (5, 30), (6, 9)], .other, []⟩),
  (194, ⟨false, 1, [.dead], [], .other, []⟩),
  (214, ⟨true, 4, [.int .i64 0, .str ⟨#[]⟩, .int .i64 0, .int .i64 0], [(0, 3), (1, 9), (2, 3), (3, 3)], .other, [(.int .i64), .str, (.int .i64), (.int .i64)]⟩),
  (216, ⟨true, 2, [.int .i64 0, .str ⟨#[]⟩], [(0, 3), (1, 9)], .other, [(.int .i64), .str]⟩)]
theorem tokN : TOk Try.prog TTabN := tok_ok (by kernel_rfl) (by kernel_rfl)

end Go.Proofs.Ytaamcelinnnncaa
