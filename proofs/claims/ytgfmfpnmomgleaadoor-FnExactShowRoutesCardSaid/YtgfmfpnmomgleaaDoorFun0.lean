import Derived.Test.YtgfmfpnmomgleaaDoorProg
import Derived.Test.YtgfmfpnmomgleaaDoorChecked
import Derived.Test.YtgfmfpnmomgleaaDoorShelf
import Derived.Test.YtgfmfpnmomgleaaDoorEngA
import Derived.Test.YtgfmfpnmomgleaaDoorEngB
import Derived.Test.YtgfmfpnmomgleaaDoorEngC
import Derived.KernelRfl
/- What functions of the program compute, as plain functions, and that their calls do so (part 0). Conditions: the plain function answers. -/
set_option linter.unusedVariables false
namespace Go.Proofs.YtgfmfpnmomgleaaDoor
open Go Go.Eng Go.Proofs
/-- A continuation under a name: the ways of a branch meet in it. -/
def jn {A R : Type} (f : A) (g : A → R) : R := g f
theorem jn_one {A R : Type} (c : Prop) [Decidable c] (f : A → R) (a b : A) : jn f (fun j => if c then j a else j b) = f (if c then a else b) := by unfold jn; by_cases h : c <;> simp [h]
theorem jn_two {A B R : Type} (c : Prop) [Decidable c] (f : A → B → R) (a b : A) (a' b' : B) : jn f (fun j => if c then j a a' else j b b') = f (if c then a else b) (if c then a' else b') := by unfold jn; by_cases h : c <;> simp [h]
/-- The table that the program's package reads. -/
class NamesT extends Names where
  tab : ∀ w, gen w → Lib.TabIs Tryd.prog w "internal/strconv.uint64pow10" .u64 Lib.pow10Tab
instance theNames : NamesT := { nu := fun _ => .slice none 0 0, one := fun _ => rfl, zero := rfl, gb := tabGb Tryd.prog "internal/strconv.uint64pow10", gen := fun w => Lib.TabIs Tryd.prog w "internal/strconv.uint64pow10" .u64 Lib.pow10Tab, keep := tab_keep, tab := fun _ h => h }
abbrev wi64 (n : Int) : Int := IntKind.i64.wrap n
abbrev wu8 (n : Int) : Int := IntKind.u8.wrap n
abbrev wu16 (n : Int) : Int := IntKind.u16.wrap n
abbrev wu32 (n : Int) : Int := IntKind.u32.wrap n
abbrev wu64 (n : Int) : Int := IntKind.u64.wrap n
def TTab : TT := [(2, ⟨false, 1, [.int .i64 0], [], .int .i64, []⟩),
  (3, ⟨false, 1, [.int .i64 0], [], .int .i64, []⟩),
  (4, ⟨false, 1, [.bool false], [], .bool, []⟩),
  (5, ⟨false, 1, [.int .u8 0], [], .int .u8, []⟩),
  (9, ⟨false, 1, [.str ⟨#[]⟩], [], .str, []⟩),
  (22, ⟨false, 1, [.nils], [], .slice 40 (.pair (.pair (.int .i64) (.int .i64)) (.int .i64)), []⟩),
  (25, ⟨false, 1, [.nils], [], .slice 35 (.pair (.pair (.int .i64) (.int .i64)) (.int .i64)), []⟩),
  (33, ⟨true, 2, [.int .i64 0, .int .i64 0], [(0, 3), (1, 3)], .other, [(.int .i64), (.int .i64)]⟩),
  (35, ⟨true, 3, [.int .i64 0, .int .i64 0, .int .i64 0], [(0, 33), (2, 3)], .other, []⟩),
  (38, ⟨true, 2, [.int .i64 0, .int .i64 0], [(0, 3), (1, 3)], .other, [(.int .i64), (.int .i64)]⟩),
  (40, ⟨true, 3, [.int .i64 0, .int .i64 0, .int .i64 0], [(0, 38), (2, 3)], .other, []⟩),
  (46, ⟨false, 1, [.nils], [], .slice 5 (.int .u8), []⟩),
  (54, ⟨false, 1, [.nils], [], .slice 3 (.int .i64), []⟩),
  (56, ⟨true, 24, [.int .u8 0, .int .u8 0, .int .u8 0, .int .u8 0, .int .u8 0, .int .u8 0, .int .u8 0, .int .u8 0, .int .u8 0, .int .u8 0, .int .u8 0, .int .u8 0, .int .u8 0, .int .u8 0, .int .u8 0, .int .u8 0, .int .u8 0, .int .u8 0, .int .u8 0, .int .u8 0, .int .u8 0, .int .u8 0, .int .u8 0, .int .u8 0], [], .arr 5 24, []⟩),
  (57, ⟨false, 1, [.int .u64 0], [], .int .u64, []⟩),
  (63, ⟨true, 20, [.int .u64 0, .int .u64 0, .int .u64 0, .int .u64 0, .int .u64 0, .int .u64 0, .int .u64 0, .int .u64 0, .int .u64 0, .int .u64 0, .int .u64 0, .int .u64 0, .int .u64 0, .int .u64 0, .int .u64 0, .int .u64 0, .int .u64 0, .int .u64 0, .int .u64 0, .int .u64 0], [], .arr 57 20, []⟩),
  (64, ⟨false, 1, [.int .u32 0], [], .int .u32, []⟩),
  (68, ⟨true, 32, [.int .u8 0, .int .u8 0, .int .u8 0, .int .u8 0, .int .u8 0, .int .u8 0, .int .u8 0, .int .u8 0, .int .u8 0, .int .u8 0, .int .u8 0, .int .u8 0, .int .u8 0, .int .u8 0, .int .u8 0, .int .u8 0, .int .u8 0, .int .u8 0, .int .u8 0, .int .u8 0, .int .u8 0, .int .u8 0, .int .u8 0, .int .u8 0, .int .u8 0, .int .u8 0, .int .u8 0, .int .u8 0, .int .u8 0, .int .u8 0, .int .u8 0, .int .u8 0], [], .arr 5 32, []⟩),
  (69, ⟨true, 64, [.int .u8 0, .int .u8 0, .int .u8 0, .int .u8 0, .int .u8 0, .int .u8 0, .int .u8 0, .int .u8 0, .int .u8 0, .int .u8 0, .int .u8 0, .int .u8 0, .int .u8 0, .int .u8 0, .int .u8 0, .int .u8 0, .int .u8 0, .int .u8 0, .int .u8 0, .int .u8 0, .int .u8 0, .int .u8 0, .int .u8 0, .int .u8 0, .int .u8 0, .int .u8 0, .int .u8 0, .int .u8 0, .int .u8 0, .int .u8 0, .int .u8 0, .int .u8 0, .int .u8 0, .int .u8 0, .int .u8 0, .int .u8 0, .int .u8 0, .int .u8 0, .int .u8 0, .int .u8 0, .int .u8 0, .int .u8 0, .int .u8 0, .int .u8 0, .int .u8 0, .int .u8 0, .int .u8 0, .int .u8 0, .int .u8 0, .int .u8 0, .int .u8 0, .int .u8 0, .int .u8 0, .int .u8 0, .int .u8 0, .int .u8 0, .int .u8 0, .int .u8 0, .int .u8 0, .int .u8 0, .int .u8 0, .int .u8 0, .int .u8 0, .int .u8 0], [], .arr 5 64, []⟩)]
theorem tok : TOk Tryd.prog TTab := tok_ok (by kernel_rfl) (by kernel_rfl)
def TTabO : TT := [(2, ⟨false, 1, [.int .i64 0], [], .int .i64, []⟩),
  (3, ⟨false, 1, [.int .i64 0], [], .int .i64, []⟩),
  (4, ⟨false, 1, [.bool false], [], .bool, []⟩),
  (5, ⟨false, 1, [.int .u8 0], [], .int .u8, []⟩),
  (9, ⟨false, 1, [.str ⟨#[]⟩], [], .str, []⟩),
  (22, ⟨false, 1, [.nils], [], .slice 40 (.pair (.pair (.int .i64) (.int .i64)) (.int .i64)), []⟩),
  (25, ⟨false, 1, [.nils], [], .slice 35 (.pair (.pair (.int .i64) (.int .i64)) (.int .i64)), []⟩),
  (33, ⟨true, 2, [.int .i64 0, .int .i64 0], [(0, 3), (1, 3)], .other, [(.int .i64), (.int .i64)]⟩),
  (35, ⟨true, 3, [.int .i64 0, .int .i64 0, .int .i64 0], [(0, 33), (2, 3)], .other, []⟩),
  (38, ⟨true, 2, [.int .i64 0, .int .i64 0], [(0, 3), (1, 3)], .other, [(.int .i64), (.int .i64)]⟩),
  (40, ⟨true, 3, [.int .i64 0, .int .i64 0, .int .i64 0], [(0, 38), (2, 3)], .other, []⟩),
  (46, ⟨false, 1, [.nils], [], .slice 5 (.int .u8), []⟩),
  (54, ⟨false, 1, [.nils], [], .slice 3 (.int .i64), []⟩),
  (56, ⟨true, 24, [.int .u8 0, .int .u8 0, .int .u8 0, .int .u8 0, .int .u8 0, .int .u8 0, .int .u8 0, .int .u8 0, .int .u8 0, .int .u8 0, .int .u8 0, .int .u8 0, .int .u8 0, .int .u8 0, .int .u8 0, .int .u8 0, .int .u8 0, .int .u8 0, .int .u8 0, .int .u8 0, .int .u8 0, .int .u8 0, .int .u8 0, .int .u8 0], [], .arr 5 24, []⟩),
  (57, ⟨false, 1, [.int .u64 0], [], .int .u64, []⟩),
  (63, ⟨true, 20, [.int .u64 0, .int .u64 0, .int .u64 0, .int .u64 0, .int .u64 0, .int .u64 0, .int .u64 0, .int .u64 0, .int .u64 0, .int .u64 0, .int .u64 0, .int .u64 0, .int .u64 0, .int .u64 0, .int .u64 0, .int .u64 0, .int .u64 0, .int .u64 0, .int .u64 0, .int .u64 0], [], .arr 57 20, []⟩),
  (64, ⟨false, 1, [.int .u32 0], [], .int .u32, []⟩),
  (68, ⟨true, 32, [.int .u8 0, .int .u8 0, .int .u8 0, .int .u8 0, .int .u8 0, .int .u8 0, .int .u8 0, .int .u8 0, .int .u8 0, .int .u8 0, .int .u8 0, .int .u8 0, .int .u8 0, .int .u8 0, .int .u8 0, .int .u8 0, .int .u8 0, .int .u8 0, .int .u8 0, .int .u8 0, .int .u8 0, .int .u8 0, .int .u8 0, .int .u8 0, .int .u8 0, .int .u8 0, .int .u8 0, .int .u8 0, .int .u8 0, .int .u8 0, .int .u8 0, .int .u8 0], [], .arr 5 32, []⟩),
  (69, ⟨true, 64, [.int .u8 0, .int .u8 0, .int .u8 0, .int .u8 0, .int .u8 0, .int .u8 0, .int .u8 0, .int .u8 0, .int .u8 0, .int .u8 0, .int .u8 0, .int .u8 0, .int .u8 0, .int .u8 0, .int .u8 0, .int .u8 0, .int .u8 0, .int .u8 0, .int .u8 0, .int .u8 0, .int .u8 0, .int .u8 0, .int .u8 0, .int .u8 0, .int .u8 0, .int .u8 0, .int .u8 0, .int .u8 0, .int .u8 0, .int .u8 0, .int .u8 0, .int .u8 0, .int .u8 0, .int .u8 0, .int .u8 0, .int .u8 0, .int .u8 0, .int .u8 0, .int .u8 0, .int .u8 0, .int .u8 0, .int .u8 0, .int .u8 0, .int .u8 0, .int .u8 0, .int .u8 0, .int .u8 0, .int .u8 0, .int .u8 0, .int .u8 0, .int .u8 0, .int .u8 0, .int .u8 0, .int .u8 0, .int .u8 0, .int .u8 0, .int .u8 0, .int .u8 0, .int .u8 0, .int .u8 0, .int .u8 0, .int .u8 0, .int .u8 0, .int .u8 0], [], .arr 5 64, []⟩)]
theorem tokO : TOk Tryd.prog TTabO := tok_ok (by kernel_rfl) (by kernel_rfl)

end Go.Proofs.YtgfmfpnmomgleaaDoor
