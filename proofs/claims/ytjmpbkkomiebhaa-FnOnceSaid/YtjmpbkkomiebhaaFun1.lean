import Derived.Test.YtjmpbkkomiebhaaFun0
/- What functions of the program compute, as plain functions, and that their calls do so (part 1). Conditions: the plain function answers. -/
set_option linter.unusedVariables false
namespace Go.Proofs.Ytjmpbkkomiebhaa
open Go Go.Eng Go.Proofs
def w_big (k : Nat) (x : List (Int) × Unit) : Option (Bool × Unit × Unit) :=
some ((decide ((1048576 : Int) < (List.length x.1 : Int))), ((), ()))
theorem t_w_big (k : Nat) (x) : evF TTab k [] [] Try.f14 (.cons (.il true (.int .u8)) .nil) .bool x = w_big k x := by kernel_rfl
theorem e_w_big (k : Nat) : EntryOk Try.prog ⟨14, 0, (.cons (.il true (.int .u8)) .nil), .bool, w_big k⟩ := entry_ok tok (by simp) (by kernel_rfl) (fn := Try.f14) (k := k) (es := []) (loops := []) (by kernel_rfl) (by kernel_rfl) (fun x r h => (t_w_big k x).trans h)
def s_l01New (k : Nat) (x : List (Int) × Unit) : Option ((List (Int) × Int × Int × Unit) × Unit × Unit) :=
(whileK (fun (rec0 : (List (Int) × Int × Int × Unit) → Option _) (y0 : List (Int) × Int × Int × Unit) =>
(if (decide (y0.2.2.1 < (List.length y0.1 : Int))) = true then
(if (decide (y0.2.2.1 < (4000 : Int))) = true then
(if 0 ≤ y0.2.2.1 ∧ y0.2.2.1 < (List.length y0.1 : Int) then
(rec0 (y0.1, ((bitsI .and .i64 (wi64 ((wi64 ((wi64 (y0.2.1 * (131 : Int))) + (wi64 ((Ty.rd (t := (.int .u8)) y0.1 y0.2.2.1))))) + (7 : Int))) (1073741823 : Int)), ((wi64 (y0.2.2.1 + (1 : Int))), ()))))
else none)
else
((fun (z1 : List (Int) × Int × Unit) =>
some ((z1.1, ((0 : Int), (z1.2.1, ()))), ((), ()))) (y0.1, (y0.2.1, ()))))
else
((fun (z1 : List (Int) × Int × Unit) =>
some ((z1.1, ((0 : Int), (z1.2.1, ()))), ((), ()))) (y0.1, (y0.2.1, ()))))) k (x.1, ((wi64 ((36201 : Int) + (List.length x.1 : Int))), ((0 : Int), ()))))
theorem t_s_l01New (k : Nat) (x) : evF TTab k [] [(0, ⟨[0, 3, 4], (.cons (.il true (.int .u8)) (.cons (.int .i64) (.cons (.int .i64) .nil)))⟩, ⟨[0, 3], (.cons (.il true (.int .u8)) (.cons (.int .i64) .nil))⟩)] Try.f74 (.cons (.il true (.int .u8)) .nil) (.ptr (.cons (.il true (.int .u8)) (.cons (.int .i64) (.cons (.int .i64) .nil)))) x = s_l01New k x := by kernel_rfl
theorem e_s_l01New (k : Nat) : EntryOk Try.prog ⟨74, 0, (.cons (.il true (.int .u8)) .nil), (.ptr (.cons (.il true (.int .u8)) (.cons (.int .i64) (.cons (.int .i64) .nil)))), s_l01New k⟩ := entry_ok tok (by simp) (by kernel_rfl) (fn := Try.f74) (k := k) (es := []) (loops := [(0, ⟨[0, 3, 4], (.cons (.il true (.int .u8)) (.cons (.int .i64) (.cons (.int .i64) .nil)))⟩, ⟨[0, 3], (.cons (.il true (.int .u8)) (.cons (.int .i64) .nil))⟩)]) (by kernel_rfl) (by kernel_rfl) (fun x r h => (t_s_l01New k x).trans h)
def s_l01Byte (k : Nat) (x : (List (Int) × Int × Int × Unit) × Unit) : Option (Int × (List (Int) × Int × Int × Unit) × Unit) :=
(if (decide (x.1.2.1 < (List.length x.1.1 : Int))) = true then
(if 0 ≤ x.1.2.1 ∧ x.1.2.1 < (List.length x.1.1 : Int) then
some ((bitsI .and .i64 (wi64 ((bitsI .and .i64 (bitsI .xor .i64 (Int.fdiv (wi64 ((wi64 (x.1.2.2.1 * (6364136223846793005 : Int))) + (1442695040888963407 : Int))) (2 ^ (min (Int.toNat (33 : Int)) (IntKind.bits .i64)))) (Int.fdiv (wi64 ((wi64 (x.1.2.2.1 * (6364136223846793005 : Int))) + (1442695040888963407 : Int))) (2 ^ (min (Int.toNat (45 : Int)) (IntKind.bits .i64))))) (255 : Int)) + (wi64 ((Ty.rd (t := (.int .u8)) x.1.1 x.1.2.1))))) (255 : Int)), ((x.1.1, ((wi64 (x.1.2.1 + (1 : Int))), ((wi64 ((wi64 (x.1.2.2.1 * (6364136223846793005 : Int))) + (1442695040888963407 : Int))), ()))), ()))
else none)
else
some ((bitsI .and .i64 (bitsI .xor .i64 (Int.fdiv (wi64 ((wi64 (x.1.2.2.1 * (6364136223846793005 : Int))) + (1442695040888963407 : Int))) (2 ^ (min (Int.toNat (33 : Int)) (IntKind.bits .i64)))) (Int.fdiv (wi64 ((wi64 (x.1.2.2.1 * (6364136223846793005 : Int))) + (1442695040888963407 : Int))) (2 ^ (min (Int.toNat (45 : Int)) (IntKind.bits .i64))))) (255 : Int)), ((x.1.1, (x.1.2.1, ((wi64 ((wi64 (x.1.2.2.1 * (6364136223846793005 : Int))) + (1442695040888963407 : Int))), ()))), ())))
theorem t_s_l01Byte (k : Nat) (x) : evF TTab k [] [] Try.f81 (.cons (.ptr (.cons (.il true (.int .u8)) (.cons (.int .i64) (.cons (.int .i64) .nil)))) .nil) (.int .i64) x = s_l01Byte k x := by kernel_rfl
theorem e_s_l01Byte (k : Nat) : EntryOk Try.prog ⟨81, 0, (.cons (.ptr (.cons (.il true (.int .u8)) (.cons (.int .i64) (.cons (.int .i64) .nil)))) .nil), (.int .i64), s_l01Byte k⟩ := entry_ok tok (by simp) (by kernel_rfl) (fn := Try.f81) (k := k) (es := []) (loops := []) (by kernel_rfl) (by kernel_rfl) (fun x r h => (t_s_l01Byte k x).trans h)
def s_l01Below (k : Nat) (x : (List (Int) × Int × Int × Unit) × Int × Unit) : Option (Int × (List (Int) × Int × Int × Unit) × Unit × Unit) :=
(if (decide (x.2.1 ≤ (0 : Int))) = true then
some ((0 : Int), ((x.1.1, (x.1.2.1, (x.1.2.2.1, ()))), ((), ())))
else
(if (decide (x.2.1 ≤ (256 : Int))) = true then
((s_l01Byte k ((x.1.1, (x.1.2.1, (x.1.2.2.1, ()))), ())).bind fun p1 =>
(if x.2.1 = 0 then
none
else
some ((Int.tmod p1.1 x.2.1), ((p1.2.1.1, (p1.2.1.2.1, (p1.2.1.2.2.1, ()))), ((), ())))))
else
((s_l01Byte k ((x.1.1, (x.1.2.1, (x.1.2.2.1, ()))), ())).bind fun p2 =>
((s_l01Byte k ((p2.2.1.1, (p2.2.1.2.1, (p2.2.1.2.2.1, ()))), ())).bind fun p3 =>
((s_l01Byte k ((p3.2.1.1, (p3.2.1.2.1, (p3.2.1.2.2.1, ()))), ())).bind fun p4 =>
((s_l01Byte k ((p4.2.1.1, (p4.2.1.2.1, (p4.2.1.2.2.1, ()))), ())).bind fun p5 =>
(if x.2.1 = 0 then
none
else
some ((Int.tmod (wi64 ((wi64 ((wi64 ((wi64 (p2.1 * (16777216 : Int))) + (wi64 (p3.1 * (65536 : Int))))) + (wi64 (p4.1 * (256 : Int))))) + p5.1)) x.2.1), ((p5.2.1.1, (p5.2.1.2.1, (p5.2.1.2.2.1, ()))), ((), ()))))))))))
theorem t_s_l01Below (k : Nat) (x) : evF TTab k [⟨81, 0, (.cons (.ptr (.cons (.il true (.int .u8)) (.cons (.int .i64) (.cons (.int .i64) .nil)))) .nil), (.int .i64), s_l01Byte k⟩] [] Try.f76 (.cons (.ptr (.cons (.il true (.int .u8)) (.cons (.int .i64) (.cons (.int .i64) .nil)))) (.cons (.int .i64) .nil)) (.int .i64) x = s_l01Below k x := by kernel_rfl
theorem e_s_l01Below (k : Nat) : EntryOk Try.prog ⟨76, 0, (.cons (.ptr (.cons (.il true (.int .u8)) (.cons (.int .i64) (.cons (.int .i64) .nil)))) (.cons (.int .i64) .nil)), (.int .i64), s_l01Below k⟩ := entry_ok tok (by intro e he; simp only [List.mem_cons, List.not_mem_nil, or_false] at he; rcases he with rfl <;> first | exact e_s_l01Byte k) (by kernel_rfl) (fn := Try.f76) (k := k) (es := [⟨81, 0, (.cons (.ptr (.cons (.il true (.int .u8)) (.cons (.int .i64) (.cons (.int .i64) .nil)))) .nil), (.int .i64), s_l01Byte k⟩]) (loops := []) (by kernel_rfl) (by kernel_rfl) (fun x r h => (t_s_l01Below k x).trans h)
def i_within (k : Nat) (x : Int × Int × Int × Unit) : Option (Bool × Unit × Unit × Unit × Unit) :=
(if (decide (x.2.1 ≤ x.1)) = true then
some ((decide (x.1 ≤ x.2.2.1)), ((), ((), ((), ()))))
else
some (false, ((), ((), ((), ())))))
theorem t_i_within (k : Nat) (x) : evF TTab k [] [] Try.f77 (.cons (.int .i64) (.cons (.int .i64) (.cons (.int .i64) .nil))) .bool x = i_within k x := by kernel_rfl
theorem e_i_within (k : Nat) : EntryOk Try.prog ⟨77, 0, (.cons (.int .i64) (.cons (.int .i64) (.cons (.int .i64) .nil))), .bool, i_within k⟩ := entry_ok tok (by simp) (by kernel_rfl) (fn := Try.f77) (k := k) (es := []) (loops := []) (by kernel_rfl) (by kernel_rfl) (fun x r h => (t_i_within k x).trans h)
def s_l01In (k : Nat) (x : Int × Int × Int × Unit) : Option (Bool × Unit × Unit × Unit × Unit) :=
(if (decide (x.2.1 ≤ x.1)) = true then
some ((decide (x.1 ≤ x.2.2.1)), ((), ((), ((), ()))))
else
some (false, ((), ((), ((), ())))))
theorem t_s_l01In (k : Nat) (x) : evF TTab k [] [] Try.f79 (.cons (.int .i64) (.cons (.int .i64) (.cons (.int .i64) .nil))) .bool x = s_l01In k x := by kernel_rfl
theorem e_s_l01In (k : Nat) : EntryOk Try.prog ⟨79, 0, (.cons (.int .i64) (.cons (.int .i64) (.cons (.int .i64) .nil))), .bool, s_l01In k⟩ := entry_ok tok (by simp) (by kernel_rfl) (fn := Try.f79) (k := k) (es := []) (loops := []) (by kernel_rfl) (by kernel_rfl) (fun x r h => (t_s_l01In k x).trans h)
def s_DrawTakeAll (k : Nat) (x : List (Int) × Unit) : Option (List (Int) × Unit × Unit) :=
((s_l01New k (x.1, ())).bind fun p1 =>
(whileK (fun (rec0 : ((List (Int) × Int × Int × Unit) × List (Int) × Int × Unit) → Option _) (y0 : (List (Int) × Int × Int × Unit) × List (Int) × Int × Unit) =>
((s_l01Below k ((y0.1.1, (y0.1.2.1, (y0.1.2.2.1, ()))), ((20 : Int), ()))).bind fun p2 =>
(if (decide (y0.2.2.1 < p2.1)) = true then
((s_l01Below k ((p2.2.1.1, (p2.2.1.2.1, (p2.2.1.2.2.1, ()))), ((16 : Int), ()))).bind fun p3 =>
(if List.length y0.2.1 + List.length ([p3.1] : List (Int)) ≤ capMax then
(rec0 ((p3.2.1.1, (p3.2.1.2.1, (p3.2.1.2.2.1, ()))), ((y0.2.1 ++ ([p3.1] : List (Int))), ((wi64 (y0.2.2.1 + (1 : Int))), ()))))
else none))
else
((fun (z1 : List (Int) × Unit) =>
some (z1.1, ((), ()))) (y0.2.1, ()))))) k ((p1.1.1, (p1.1.2.1, (p1.1.2.2.1, ()))), (([] : List (Int)), ((0 : Int), ())))))
theorem t_s_DrawTakeAll (k : Nat) (x) : evF TTab k [⟨74, 0, (.cons (.il true (.int .u8)) .nil), (.ptr (.cons (.il true (.int .u8)) (.cons (.int .i64) (.cons (.int .i64) .nil)))), s_l01New k⟩, ⟨76, 0, (.cons (.ptr (.cons (.il true (.int .u8)) (.cons (.int .i64) (.cons (.int .i64) .nil)))) (.cons (.int .i64) .nil)), (.int .i64), s_l01Below k⟩] [(0, ⟨[3, 4, 5], (.cons (.ptr (.cons (.il true (.int .u8)) (.cons (.int .i64) (.cons (.int .i64) .nil)))) (.cons (.own false 3 (.int .i64)) (.cons (.int .i64) .nil)))⟩, ⟨[4], (.cons (.own false 3 (.int .i64)) .nil)⟩)] Try.f101 (.cons (.il true (.int .u8)) .nil) (.own false 3 (.int .i64)) x = s_DrawTakeAll k x := by kernel_rfl
theorem e_s_DrawTakeAll (k : Nat) : EntryOk Try.prog ⟨101, 0, (.cons (.il true (.int .u8)) .nil), (.own false 3 (.int .i64)), s_DrawTakeAll k⟩ := entry_ok tok (by intro e he; simp only [List.mem_cons, List.not_mem_nil, or_false] at he; rcases he with rfl | rfl <;> first | exact e_s_l01New k | exact e_s_l01Below k) (by kernel_rfl) (fn := Try.f101) (k := k) (es := [⟨74, 0, (.cons (.il true (.int .u8)) .nil), (.ptr (.cons (.il true (.int .u8)) (.cons (.int .i64) (.cons (.int .i64) .nil)))), s_l01New k⟩, ⟨76, 0, (.cons (.ptr (.cons (.il true (.int .u8)) (.cons (.int .i64) (.cons (.int .i64) .nil)))) (.cons (.int .i64) .nil)), (.int .i64), s_l01Below k⟩]) (loops := [(0, ⟨[3, 4, 5], (.cons (.ptr (.cons (.il true (.int .u8)) (.cons (.int .i64) (.cons (.int .i64) .nil)))) (.cons (.own false 3 (.int .i64)) (.cons (.int .i64) .nil)))⟩, ⟨[4], (.cons (.own false 3 (.int .i64)) .nil)⟩)]) (by kernel_rfl) (by kernel_rfl) (fun x r h => (t_s_DrawTakeAll k x).trans h)
def s_DrawNumbers (k : Nat) (x : List (Int) × Unit) : Option (List (Int) × Unit × Unit) :=
((s_DrawTakeAll k (x.1, ())).bind fun p1 =>
some (p1.1, ((), ())))
theorem t_s_DrawNumbers (k : Nat) (x) : evF TTab k [⟨101, 0, (.cons (.il true (.int .u8)) .nil), (.own false 3 (.int .i64)), s_DrawTakeAll k⟩] [] Try.f32 (.cons (.il true (.int .u8)) .nil) (.own false 3 (.int .i64)) x = s_DrawNumbers k x := by kernel_rfl
theorem e_s_DrawNumbers (k : Nat) : EntryOk Try.prog ⟨32, 0, (.cons (.il true (.int .u8)) .nil), (.own false 3 (.int .i64)), s_DrawNumbers k⟩ := entry_ok tok (by intro e he; simp only [List.mem_cons, List.not_mem_nil, or_false] at he; rcases he with rfl <;> first | exact e_s_DrawTakeAll k) (by kernel_rfl) (fn := Try.f32) (k := k) (es := [⟨101, 0, (.cons (.il true (.int .u8)) .nil), (.own false 3 (.int .i64)), s_DrawTakeAll k⟩]) (loops := []) (by kernel_rfl) (by kernel_rfl) (fun x r h => (t_s_DrawNumbers k x).trans h)
def i_SeenOk (k : Nat) (x : List (Int) × Unit) : Option (Bool × Unit × Unit) :=
(whileK (fun (rec0 : (List (Int) × List (Int) × Int × Int × Unit) → Option _) (y0 : List (Int) × List (Int) × Int × Int × Unit) =>
(if (decide (y0.2.2.2.1 < y0.2.2.1)) = true then
(if 0 ≤ y0.2.2.2.1 ∧ y0.2.2.2.1 < (List.length y0.2.1 : Int) then
((i_within k ((Ty.rd (t := (.int .i64)) y0.2.1 y0.2.2.2.1), ((1 : Int), ((1000000000 : Int), ())))).bind fun p1 =>
(if (!p1.1) = false then
(if (decide ((0 : Int) < y0.2.2.2.1)) = true then
(if 0 ≤ (wi64 (y0.2.2.2.1 - (1 : Int))) ∧ (wi64 (y0.2.2.2.1 - (1 : Int))) < (List.length y0.1 : Int) then
(if (decide ((Ty.rd (t := (.int .i64)) y0.1 (wi64 (y0.2.2.2.1 - (1 : Int)))) ≤ (Ty.rd (t := (.int .i64)) y0.2.1 y0.2.2.2.1))) = false then
(if 0 ≤ (0 : Int) ∧ (0 : Int) < (List.length y0.1 : Int) then
(if (decide ((Ty.rd (t := (.int .i64)) y0.2.1 y0.2.2.2.1) ≤ (wi64 ((Ty.rd (t := (.int .i64)) y0.1 (0 : Int)) - (6 : Int))))) = true then
some (false, ((), ()))
else
(rec0 (y0.1, (y0.2.1, (y0.2.2.1, ((wi64 (y0.2.2.2.1 + (1 : Int))), ()))))))
else none)
else
some (false, ((), ())))
else none)
else
(if 0 ≤ (0 : Int) ∧ (0 : Int) < (List.length y0.1 : Int) then
(if (decide ((Ty.rd (t := (.int .i64)) y0.2.1 y0.2.2.2.1) ≤ (wi64 ((Ty.rd (t := (.int .i64)) y0.1 (0 : Int)) - (6 : Int))))) = true then
some (false, ((), ()))
else
(rec0 (y0.1, (y0.2.1, (y0.2.2.1, ((wi64 (y0.2.2.2.1 + (1 : Int))), ()))))))
else none))
else
some (false, ((), ()))))
else none)
else
((fun (z1 : List (Int) × Unit) =>
some ((decide ((List.length z1.1 : Int) ≤ (6 : Int))), ((), ()))) (y0.1, ())))) k (x.1, (x.1, ((List.length x.1 : Int), ((0 : Int), ())))))
theorem t_i_SeenOk (k : Nat) (x) : evF TTab k [⟨77, 0, (.cons (.int .i64) (.cons (.int .i64) (.cons (.int .i64) .nil))), .bool, i_within k⟩] [(0, ⟨[0, 5, 6, 7], (.cons (.il true (.int .i64)) (.cons (.il true (.int .i64)) (.cons (.int .i64) (.cons (.int .i64) .nil))))⟩, ⟨[0], (.cons (.il true (.int .i64)) .nil)⟩)] Try.f39 (.cons (.il true (.int .i64)) .nil) .bool x = i_SeenOk k x := by kernel_rfl
theorem e_i_SeenOk (k : Nat) : EntryOk Try.prog ⟨39, 0, (.cons (.il true (.int .i64)) .nil), .bool, i_SeenOk k⟩ := entry_ok tok (by intro e he; simp only [List.mem_cons, List.not_mem_nil, or_false] at he; rcases he with rfl <;> first | exact e_i_within k) (by kernel_rfl) (fn := Try.f39) (k := k) (es := [⟨77, 0, (.cons (.int .i64) (.cons (.int .i64) (.cons (.int .i64) .nil))), .bool, i_within k⟩]) (loops := [(0, ⟨[0, 5, 6, 7], (.cons (.il true (.int .i64)) (.cons (.il true (.int .i64)) (.cons (.int .i64) (.cons (.int .i64) .nil))))⟩, ⟨[0], (.cons (.il true (.int .i64)) .nil)⟩)]) (by kernel_rfl) (by kernel_rfl) (fun x r h => (t_i_SeenOk k x).trans h)
def x_slices_Index_int_int (k : Nat) (x : List (Int) × Int × Unit) : Option (Int × Unit × Unit × Unit) :=
(whileK (fun (rec0 : (List (Int) × Int × Int × Int × Unit) → Option _) (y0 : List (Int) × Int × Int × Int × Unit) =>
(if (decide (y0.2.2.2.1 < y0.2.2.1)) = true then
(if 0 ≤ y0.2.2.2.1 ∧ y0.2.2.2.1 < (List.length y0.1 : Int) then
(if (decide (y0.2.1 = (Ty.rd (t := (.int .i64)) y0.1 y0.2.2.2.1))) = true then
some (y0.2.2.2.1, ((), ((), ())))
else
(rec0 (y0.1, (y0.2.1, (y0.2.2.1, ((wi64 (y0.2.2.2.1 + (1 : Int))), ()))))))
else none)
else
((fun (z1 : Unit) =>
some ((-1 : Int), ((), ((), ())))) ()))) k (x.1, (x.2.1, ((List.length x.1 : Int), ((0 : Int), ())))))
theorem t_x_slices_Index_int_int (k : Nat) (x) : evF TTab k [] [(0, ⟨[0, 1, 7, 8], (.cons (.il true (.int .i64)) (.cons (.int .i64) (.cons (.int .i64) (.cons (.int .i64) .nil))))⟩, ⟨[], .nil⟩)] Try.f177 (.cons (.il true (.int .i64)) (.cons (.int .i64) .nil)) (.int .i64) x = x_slices_Index_int_int k x := by kernel_rfl
theorem e_x_slices_Index_int_int (k : Nat) : EntryOk Try.prog ⟨177, 0, (.cons (.il true (.int .i64)) (.cons (.int .i64) .nil)), (.int .i64), x_slices_Index_int_int k⟩ := entry_ok tok (by simp) (by kernel_rfl) (fn := Try.f177) (k := k) (es := []) (loops := [(0, ⟨[0, 1, 7, 8], (.cons (.il true (.int .i64)) (.cons (.int .i64) (.cons (.int .i64) (.cons (.int .i64) .nil))))⟩, ⟨[], .nil⟩)]) (by kernel_rfl) (by kernel_rfl) (fun x r h => (t_x_slices_Index_int_int k x).trans h)
def x_slices_Contains_int_int (k : Nat) (x : List (Int) × Int × Unit) : Option (Bool × Unit × Unit × Unit) :=
((x_slices_Index_int_int k (x.1, (x.2.1, ()))).bind fun p1 =>
some ((decide ((0 : Int) ≤ p1.1)), ((), ((), ()))))
theorem t_x_slices_Contains_int_int (k : Nat) (x) : evF TTab k [⟨177, 0, (.cons (.il true (.int .i64)) (.cons (.int .i64) .nil)), (.int .i64), x_slices_Index_int_int k⟩] [] Try.f104 (.cons (.il true (.int .i64)) (.cons (.int .i64) .nil)) .bool x = x_slices_Contains_int_int k x := by kernel_rfl
theorem e_x_slices_Contains_int_int (k : Nat) : EntryOk Try.prog ⟨104, 0, (.cons (.il true (.int .i64)) (.cons (.int .i64) .nil)), .bool, x_slices_Contains_int_int k⟩ := entry_ok tok (by intro e he; simp only [List.mem_cons, List.not_mem_nil, or_false] at he; rcases he with rfl <;> first | exact e_x_slices_Index_int_int k) (by kernel_rfl) (fn := Try.f104) (k := k) (es := [⟨177, 0, (.cons (.il true (.int .i64)) (.cons (.int .i64) .nil)), (.int .i64), x_slices_Index_int_int k⟩]) (loops := []) (by kernel_rfl) (by kernel_rfl) (fun x r h => (t_x_slices_Contains_int_int k x).trans h)
def i_IsFresh (k : Nat) (x : List (Int) × Int × Unit) : Option (Bool × Unit × Unit × Unit) :=
((i_SeenOk k (x.1, ())).bind fun p1 =>
(if (!p1.1) = false then
((i_within k (x.2.1, ((1 : Int), ((1000000000 : Int), ())))).bind fun p2 =>
(if (!p2.1) = false then
((x_slices_Contains_int_int k (x.1, (x.2.1, ()))).bind fun p3 =>
(if p3.1 = true then
some (false, ((), ((), ())))
else
(if (decide ((List.length x.1 : Int) = (0 : Int))) = false then
(if 0 ≤ (0 : Int) ∧ (0 : Int) < (List.length x.1 : Int) then
some ((decide ((wi64 ((Ty.rd (t := (.int .i64)) x.1 (0 : Int)) - (6 : Int))) < x.2.1)), ((), ((), ())))
else none)
else
some (true, ((), ((), ()))))))
else
some (false, ((), ((), ())))))
else
some (false, ((), ((), ())))))
theorem t_i_IsFresh (k : Nat) (x) : evF TTab k [⟨39, 0, (.cons (.il true (.int .i64)) .nil), .bool, i_SeenOk k⟩, ⟨77, 0, (.cons (.int .i64) (.cons (.int .i64) (.cons (.int .i64) .nil))), .bool, i_within k⟩, ⟨104, 0, (.cons (.il true (.int .i64)) (.cons (.int .i64) .nil)), .bool, x_slices_Contains_int_int k⟩] [] Try.f37 (.cons (.il true (.int .i64)) (.cons (.int .i64) .nil)) .bool x = i_IsFresh k x := by kernel_rfl
theorem e_i_IsFresh (k : Nat) : EntryOk Try.prog ⟨37, 0, (.cons (.il true (.int .i64)) (.cons (.int .i64) .nil)), .bool, i_IsFresh k⟩ := entry_ok tok (by intro e he; simp only [List.mem_cons, List.not_mem_nil, or_false] at he; rcases he with rfl | rfl | rfl <;> first | exact e_i_SeenOk k | exact e_i_within k | exact e_x_slices_Contains_int_int k) (by kernel_rfl) (fn := Try.f37) (k := k) (es := [⟨39, 0, (.cons (.il true (.int .i64)) .nil), .bool, i_SeenOk k⟩, ⟨77, 0, (.cons (.int .i64) (.cons (.int .i64) (.cons (.int .i64) .nil))), .bool, i_within k⟩, ⟨104, 0, (.cons (.il true (.int .i64)) (.cons (.int .i64) .nil)), .bool, x_slices_Contains_int_int k⟩]) (loops := []) (by kernel_rfl) (by kernel_rfl) (fun x r h => (t_i_IsFresh k x).trans h)
def i_copyInts (k : Nat) (x : List (Int) × Unit) : Option (List (Int) × Unit × Unit) :=
(if List.length ([] : List (Int)) + List.length x.1 ≤ capMax then
some ((([] : List (Int)) ++ x.1), ((), ()))
else none)
theorem t_i_copyInts (k : Nat) (x) : evF TTab k [] [] Try.f105 (.cons (.il true (.int .i64)) .nil) (.own false 3 (.int .i64)) x = i_copyInts k x := by kernel_rfl
theorem e_i_copyInts (k : Nat) : EntryOk Try.prog ⟨105, 0, (.cons (.il true (.int .i64)) .nil), (.own false 3 (.int .i64)), i_copyInts k⟩ := entry_ok tok (by simp) (by kernel_rfl) (fn := Try.f105) (k := k) (es := []) (loops := []) (by kernel_rfl) (by kernel_rfl) (fun x r h => (t_i_copyInts k x).trans h)
def x_cmp_isNaN_int (k : Nat) (x : Int × Unit) : Option (Bool × Unit × Unit) :=
some ((!decide (x.1 = x.1)), ((), ()))
theorem t_x_cmp_isNaN_int (k : Nat) (x) : evF TTab k [] [] Try.f249 (.cons (.int .i64) .nil) .bool x = x_cmp_isNaN_int k x := by kernel_rfl
theorem e_x_cmp_isNaN_int (k : Nat) : EntryOk Try.prog ⟨249, 0, (.cons (.int .i64) .nil), .bool, x_cmp_isNaN_int k⟩ := entry_ok tok (by simp) (by kernel_rfl) (fn := Try.f249) (k := k) (es := []) (loops := []) (by kernel_rfl) (by kernel_rfl) (fun x r h => (t_x_cmp_isNaN_int k x).trans h)
def x_cmp_Less_int (k : Nat) (x : Int × Int × Unit) : Option (Bool × Unit × Unit × Unit) :=
((x_cmp_isNaN_int k (x.1, ())).bind fun p1 =>
(if p1.1 = true then
((x_cmp_isNaN_int k (x.2.1, ())).bind fun p2 =>
(if (!p2.1) = false then
some ((decide (x.1 < x.2.1)), ((), ((), ())))
else
some (true, ((), ((), ())))))
else
some ((decide (x.1 < x.2.1)), ((), ((), ())))))
theorem t_x_cmp_Less_int (k : Nat) (x) : evF TTab k [⟨249, 0, (.cons (.int .i64) .nil), .bool, x_cmp_isNaN_int k⟩] [] Try.f219 (.cons (.int .i64) (.cons (.int .i64) .nil)) .bool x = x_cmp_Less_int k x := by kernel_rfl
theorem e_x_cmp_Less_int (k : Nat) : EntryOk Try.prog ⟨219, 0, (.cons (.int .i64) (.cons (.int .i64) .nil)), .bool, x_cmp_Less_int k⟩ := entry_ok tok (by intro e he; simp only [List.mem_cons, List.not_mem_nil, or_false] at he; rcases he with rfl <;> first | exact e_x_cmp_isNaN_int k) (by kernel_rfl) (fn := Try.f219) (k := k) (es := [⟨249, 0, (.cons (.int .i64) .nil), .bool, x_cmp_isNaN_int k⟩]) (loops := []) (by kernel_rfl) (by kernel_rfl) (fun x r h => (t_x_cmp_Less_int k x).trans h)
def x_slices_insertionSortOrdered_int (k : Nat) (x : List (Int) × Int × Int × Unit) : Option (Unit × List (Int) × Unit × Unit × Unit) :=
(whileK (fun (rec0 : (List (Int) × Int × Int × Int × Unit) → Option _) (y0 : List (Int) × Int × Int × Int × Unit) =>
(if (decide (y0.2.2.2.1 < y0.2.2.1)) = true then
(whileK (fun (rec2 : (List (Int) × Int × Int × Int × Int × Unit) → Option _) (y2 : List (Int) × Int × Int × Int × Int × Unit) =>
(if (decide (y2.2.1 < y2.2.2.2.2.1)) = true then
(if 0 ≤ y2.2.2.2.2.1 ∧ y2.2.2.2.2.1 < (List.length y2.1 : Int) then
(if 0 ≤ (wi64 (y2.2.2.2.2.1 - (1 : Int))) ∧ (wi64 (y2.2.2.2.2.1 - (1 : Int))) < (List.length y2.1 : Int) then
((x_cmp_Less_int k ((Ty.rd (t := (.int .i64)) y2.1 y2.2.2.2.2.1), ((Ty.rd (t := (.int .i64)) y2.1 (wi64 (y2.2.2.2.2.1 - (1 : Int)))), ()))).bind fun p1 =>
(if p1.1 = true then
(if 0 ≤ (wi64 (y2.2.2.2.2.1 - (1 : Int))) ∧ (wi64 (y2.2.2.2.2.1 - (1 : Int))) < (List.length y2.1 : Int) then
(if 0 ≤ y2.2.2.2.2.1 ∧ y2.2.2.2.2.1 < (List.length y2.1 : Int) then
(if 0 ≤ y2.2.2.2.2.1 ∧ y2.2.2.2.2.1 < (List.length y2.1 : Int) then
(if 0 ≤ (wi64 (y2.2.2.2.2.1 - (1 : Int))) ∧ (wi64 (y2.2.2.2.2.1 - (1 : Int))) < (List.length (List.set y2.1 (Int.toNat y2.2.2.2.2.1) (Ty.rd (t := (.int .i64)) y2.1 (wi64 (y2.2.2.2.2.1 - (1 : Int))))) : Int) then
(rec2 ((List.set (List.set y2.1 (Int.toNat y2.2.2.2.2.1) (Ty.rd (t := (.int .i64)) y2.1 (wi64 (y2.2.2.2.2.1 - (1 : Int))))) (Int.toNat (wi64 (y2.2.2.2.2.1 - (1 : Int)))) (Ty.rd (t := (.int .i64)) y2.1 y2.2.2.2.2.1)), (y2.2.1, (y2.2.2.1, (y2.2.2.2.1, ((wi64 (y2.2.2.2.2.1 - (1 : Int))), ()))))))
else none)
else none)
else none)
else none)
else
((fun (z1 : List (Int) × Int × Int × Int × Unit) =>
(rec0 (z1.1, (z1.2.1, (z1.2.2.1, ((wi64 (z1.2.2.2.1 + (1 : Int))), ())))))) (y2.1, (y2.2.1, (y2.2.2.1, (y2.2.2.2.1, ())))))))
else none)
else none)
else
((fun (z1 : List (Int) × Int × Int × Int × Unit) =>
(rec0 (z1.1, (z1.2.1, (z1.2.2.1, ((wi64 (z1.2.2.2.1 + (1 : Int))), ())))))) (y2.1, (y2.2.1, (y2.2.2.1, (y2.2.2.2.1, ()))))))) k (y0.1, (y0.2.1, (y0.2.2.1, (y0.2.2.2.1, (y0.2.2.2.1, ()))))))
else
((fun (z2 : List (Int) × Unit) =>
some ((), (z2.1, ((), ((), ()))))) (y0.1, ())))) k (x.1, (x.2.1, (x.2.2.1, ((wi64 (x.2.1 + (1 : Int))), ())))))
theorem t_x_slices_insertionSortOrdered_int (k : Nat) (x) : evF TTab k [⟨219, 0, (.cons (.int .i64) (.cons (.int .i64) .nil)), .bool, x_cmp_Less_int k⟩] [(0, ⟨[0, 1, 2, 6], (.cons (.own false 3 (.int .i64)) (.cons (.int .i64) (.cons (.int .i64) (.cons (.int .i64) .nil))))⟩, ⟨[0], (.cons (.own false 3 (.int .i64)) .nil)⟩), (2, ⟨[0, 1, 2, 6, 7], (.cons (.own false 3 (.int .i64)) (.cons (.int .i64) (.cons (.int .i64) (.cons (.int .i64) (.cons (.int .i64) .nil)))))⟩, ⟨[0, 1, 2, 6], (.cons (.own false 3 (.int .i64)) (.cons (.int .i64) (.cons (.int .i64) (.cons (.int .i64) .nil))))⟩)] Try.f213 (.cons (.mut false 3 (.int .i64)) (.cons (.int .i64) (.cons (.int .i64) .nil))) (.tup .nil) x = x_slices_insertionSortOrdered_int k x := by kernel_rfl
theorem e_x_slices_insertionSortOrdered_int (k : Nat) : EntryOk Try.prog ⟨213, 0, (.cons (.mut false 3 (.int .i64)) (.cons (.int .i64) (.cons (.int .i64) .nil))), (.tup .nil), x_slices_insertionSortOrdered_int k⟩ := entry_ok tok (by intro e he; simp only [List.mem_cons, List.not_mem_nil, or_false] at he; rcases he with rfl <;> first | exact e_x_cmp_Less_int k) (by kernel_rfl) (fn := Try.f213) (k := k) (es := [⟨219, 0, (.cons (.int .i64) (.cons (.int .i64) .nil)), .bool, x_cmp_Less_int k⟩]) (loops := [(0, ⟨[0, 1, 2, 6], (.cons (.own false 3 (.int .i64)) (.cons (.int .i64) (.cons (.int .i64) (.cons (.int .i64) .nil))))⟩, ⟨[0], (.cons (.own false 3 (.int .i64)) .nil)⟩), (2, ⟨[0, 1, 2, 6, 7], (.cons (.own false 3 (.int .i64)) (.cons (.int .i64) (.cons (.int .i64) (.cons (.int .i64) (.cons (.int .i64) .nil)))))⟩, ⟨[0, 1, 2, 6], (.cons (.own false 3 (.int .i64)) (.cons (.int .i64) (.cons (.int .i64) (.cons (.int .i64) .nil))))⟩)]) (by kernel_rfl) (by kernel_rfl) (fun x r h => (t_x_slices_insertionSortOrdered_int k x).trans h)
def x_bits_Len64 (k : Nat) (x : Int × Unit) : Option (Int × Unit × Unit) :=
(jn (fun (j4v0 : Int) (j4v1 : Int) =>
(jn (fun (j6v0 : Int) (j6v1 : Int) =>
(jn (fun (j7v0 : Int) (j7v1 : Int) =>
(if 0 ≤ (wu8 (j7v0)) ∧ (wu8 (j7v0)) < (ByteArray.size (⟨#[0, 1, 2, 2, 3, 3, 3, 3, 4, 4, 4, 4, 4, 4, 4, 4, 5, 5, 5, 5, 5, 5, 5, 5, 5, 5, 5, 5, 5, 5, 5, 5, 6, 6, 6, 6, 6, 6, 6, 6, 6, 6, 6, 6, 6, 6, 6, 6, 6, 6, 6, 6, 6, 6, 6, 6, 6, 6, 6, 6, 6, 6, 6, 6, 7, 7, 7, 7, 7, 7, 7, 7, 7, 7, 7, 7, 7, 7, 7, 7, 7, 7, 7, 7, 7, 7, 7, 7, 7, 7, 7, 7, 7, 7, 7, 7, 7, 7, 7, 7, 7, 7, 7, 7, 7, 7, 7, 7, 7, 7, 7, 7, 7, 7, 7, 7, 7, 7, 7, 7, 7, 7, 7, 7, 7, 7, 7, 7, 8, 8, 8, 8, 8, 8, 8, 8, 8, 8, 8, 8, 8, 8, 8, 8, 8, 8, 8, 8, 8, 8, 8, 8, 8, 8, 8, 8, 8, 8, 8, 8, 8, 8, 8, 8, 8, 8, 8, 8, 8, 8, 8, 8, 8, 8, 8, 8, 8, 8, 8, 8, 8, 8, 8, 8, 8, 8, 8, 8, 8, 8, 8, 8, 8, 8, 8, 8, 8, 8, 8, 8, 8, 8, 8, 8, 8, 8, 8, 8, 8, 8, 8, 8, 8, 8, 8, 8, 8, 8, 8, 8, 8, 8, 8, 8, 8, 8, 8, 8, 8, 8, 8, 8, 8, 8, 8, 8, 8, 8, 8, 8, 8, 8, 8, 8, 8, 8, 8, 8, 8, 8, 8, 8, 8, 8, 8, 8]⟩ : ByteArray) : Int) then
some ((wi64 (j7v1 + (wi64 ((bt (⟨#[0, 1, 2, 2, 3, 3, 3, 3, 4, 4, 4, 4, 4, 4, 4, 4, 5, 5, 5, 5, 5, 5, 5, 5, 5, 5, 5, 5, 5, 5, 5, 5, 6, 6, 6, 6, 6, 6, 6, 6, 6, 6, 6, 6, 6, 6, 6, 6, 6, 6, 6, 6, 6, 6, 6, 6, 6, 6, 6, 6, 6, 6, 6, 6, 7, 7, 7, 7, 7, 7, 7, 7, 7, 7, 7, 7, 7, 7, 7, 7, 7, 7, 7, 7, 7, 7, 7, 7, 7, 7, 7, 7, 7, 7, 7, 7, 7, 7, 7, 7, 7, 7, 7, 7, 7, 7, 7, 7, 7, 7, 7, 7, 7, 7, 7, 7, 7, 7, 7, 7, 7, 7, 7, 7, 7, 7, 7, 7, 8, 8, 8, 8, 8, 8, 8, 8, 8, 8, 8, 8, 8, 8, 8, 8, 8, 8, 8, 8, 8, 8, 8, 8, 8, 8, 8, 8, 8, 8, 8, 8, 8, 8, 8, 8, 8, 8, 8, 8, 8, 8, 8, 8, 8, 8, 8, 8, 8, 8, 8, 8, 8, 8, 8, 8, 8, 8, 8, 8, 8, 8, 8, 8, 8, 8, 8, 8, 8, 8, 8, 8, 8, 8, 8, 8, 8, 8, 8, 8, 8, 8, 8, 8, 8, 8, 8, 8, 8, 8, 8, 8, 8, 8, 8, 8, 8, 8, 8, 8, 8, 8, 8, 8, 8, 8, 8, 8, 8, 8, 8, 8, 8, 8, 8, 8, 8, 8, 8, 8, 8, 8, 8, 8, 8, 8, 8, 8]⟩ : ByteArray) (wu8 (j7v0))))))), ((), ()))
else none)) (fun (j7 : Int → Int → Option _) =>
(if (decide ((256 : Int) ≤ j6v0)) = true then
(j7 (Int.fdiv j6v0 (2 ^ (min (Int.toNat (8 : Int)) (IntKind.bits .u64)))) (wi64 (j6v1 + (8 : Int))))
else
(j7 j6v0 j6v1))))) (fun (j6 : Int → Int → Option _) =>
(if (decide ((65536 : Int) ≤ j4v0)) = true then
(j6 (Int.fdiv j4v0 (2 ^ (min (Int.toNat (16 : Int)) (IntKind.bits .u64)))) (wi64 (j4v1 + (16 : Int))))
else
(j6 j4v0 j4v1))))) (fun (j4 : Int → Int → Option _) =>
(if (decide ((4294967296 : Int) ≤ x.1)) = true then
(j4 (Int.fdiv x.1 (2 ^ (min (Int.toNat (32 : Int)) (IntKind.bits .u64)))) (32 : Int))
else
(j4 x.1 (0 : Int)))))
theorem t_x_bits_Len64 (k : Nat) (x) : evF TTab k [] [] Try.f223 (.cons (.int .u64) .nil) (.int .i64) x = x_bits_Len64 k x := by kernel_rfl
theorem e_x_bits_Len64 (k : Nat) : EntryOk Try.prog ⟨223, 0, (.cons (.int .u64) .nil), (.int .i64), x_bits_Len64 k⟩ := entry_ok tok (by simp) (by kernel_rfl) (fn := Try.f223) (k := k) (es := []) (loops := []) (by kernel_rfl) (by kernel_rfl) (fun x r h => (t_x_bits_Len64 k x).trans h)
def x_bits_Len (k : Nat) (x : Int × Unit) : Option (Int × Unit × Unit) :=
((x_bits_Len64 k (x.1, ())).bind fun p1 =>
some (p1.1, ((), ())))
theorem t_x_bits_Len (k : Nat) (x) : evF TTab k [⟨223, 0, (.cons (.int .u64) .nil), (.int .i64), x_bits_Len64 k⟩] [] Try.f179 (.cons (.int .u64) .nil) (.int .i64) x = x_bits_Len k x := by kernel_rfl
theorem e_x_bits_Len (k : Nat) : EntryOk Try.prog ⟨179, 0, (.cons (.int .u64) .nil), (.int .i64), x_bits_Len k⟩ := entry_ok tok (by intro e he; simp only [List.mem_cons, List.not_mem_nil, or_false] at he; rcases he with rfl <;> first | exact e_x_bits_Len64 k) (by kernel_rfl) (fn := Try.f179) (k := k) (es := [⟨223, 0, (.cons (.int .u64) .nil), (.int .i64), x_bits_Len64 k⟩]) (loops := []) (by kernel_rfl) (by kernel_rfl) (fun x r h => (t_x_bits_Len k x).trans h)
def x_slices_pdqsortOrdered_int (k : Nat) (x : List (Int) × Int × Int × Int × Unit) : Option (Unit × List (Int) × Unit × Unit × Unit × Unit) :=
(whileK (fun (rec0 : (List (Int) × Int × Int × Int × Bool × Bool × Unit) → Option _) (y0 : List (Int) × Int × Int × Int × Bool × Bool × Unit) =>
(if (decide ((wi64 (y0.2.2.1 - y0.2.1)) ≤ (12 : Int))) = true then
((x_slices_insertionSortOrdered_int k (y0.1, (y0.2.1, (y0.2.2.1, ())))).bind fun p1 =>
some ((), (p1.2.1, ((), ((), ((), ()))))))
else
(if (decide (y0.2.2.2.1 = (0 : Int))) = true then
none
else
(if (!y0.2.2.2.2.1) = true then
none
else
none)))) k (x.1, (x.2.1, (x.2.2.1, (x.2.2.2.1, (true, (true, ())))))))
theorem t_x_slices_pdqsortOrdered_int (k : Nat) (x) : evF TTab k [⟨213, 0, (.cons (.mut false 3 (.int .i64)) (.cons (.int .i64) (.cons (.int .i64) .nil))), (.tup .nil), x_slices_insertionSortOrdered_int k⟩] [(0, ⟨[0, 1, 2, 3, 8, 9], (.cons (.own false 3 (.int .i64)) (.cons (.int .i64) (.cons (.int .i64) (.cons (.int .i64) (.cons .bool (.cons .bool .nil))))))⟩, ⟨[], .nil⟩)] Try.f178 (.cons (.mut false 3 (.int .i64)) (.cons (.int .i64) (.cons (.int .i64) (.cons (.int .i64) .nil)))) (.tup .nil) x = x_slices_pdqsortOrdered_int k x := by kernel_rfl
theorem e_x_slices_pdqsortOrdered_int (k : Nat) : EntryOk Try.prog ⟨178, 0, (.cons (.mut false 3 (.int .i64)) (.cons (.int .i64) (.cons (.int .i64) (.cons (.int .i64) .nil)))), (.tup .nil), x_slices_pdqsortOrdered_int k⟩ := entry_ok tok (by intro e he; simp only [List.mem_cons, List.not_mem_nil, or_false] at he; rcases he with rfl <;> first | exact e_x_slices_insertionSortOrdered_int k) (by kernel_rfl) (fn := Try.f178) (k := k) (es := [⟨213, 0, (.cons (.mut false 3 (.int .i64)) (.cons (.int .i64) (.cons (.int .i64) .nil))), (.tup .nil), x_slices_insertionSortOrdered_int k⟩]) (loops := [(0, ⟨[0, 1, 2, 3, 8, 9], (.cons (.own false 3 (.int .i64)) (.cons (.int .i64) (.cons (.int .i64) (.cons (.int .i64) (.cons .bool (.cons .bool .nil))))))⟩, ⟨[], .nil⟩)]) (by kernel_rfl) (by kernel_rfl) (fun x r h => (t_x_slices_pdqsortOrdered_int k x).trans h)
def x_slices_Sort_int_int (k : Nat) (x : List (Int) × Unit) : Option (Unit × List (Int) × Unit) :=
((x_bits_Len k ((wu64 ((List.length x.1 : Int))), ())).bind fun p1 =>
((x_slices_pdqsortOrdered_int k (x.1, ((0 : Int), ((List.length x.1 : Int), (p1.1, ()))))).bind fun p2 =>
some ((), (p2.2.1, ()))))
theorem t_x_slices_Sort_int_int (k : Nat) (x) : evF TTab k [⟨178, 0, (.cons (.mut false 3 (.int .i64)) (.cons (.int .i64) (.cons (.int .i64) (.cons (.int .i64) .nil)))), (.tup .nil), x_slices_pdqsortOrdered_int k⟩, ⟨179, 0, (.cons (.int .u64) .nil), (.int .i64), x_bits_Len k⟩] [] Try.f106 (.cons (.mut false 3 (.int .i64)) .nil) (.tup .nil) x = x_slices_Sort_int_int k x := by kernel_rfl
theorem e_x_slices_Sort_int_int (k : Nat) : EntryOk Try.prog ⟨106, 0, (.cons (.mut false 3 (.int .i64)) .nil), (.tup .nil), x_slices_Sort_int_int k⟩ := entry_ok tok (by intro e he; simp only [List.mem_cons, List.not_mem_nil, or_false] at he; rcases he with rfl | rfl <;> first | exact e_x_slices_pdqsortOrdered_int k | exact e_x_bits_Len k) (by kernel_rfl) (fn := Try.f106) (k := k) (es := [⟨178, 0, (.cons (.mut false 3 (.int .i64)) (.cons (.int .i64) (.cons (.int .i64) (.cons (.int .i64) .nil)))), (.tup .nil), x_slices_pdqsortOrdered_int k⟩, ⟨179, 0, (.cons (.int .u64) .nil), (.int .i64), x_bits_Len k⟩]) (loops := []) (by kernel_rfl) (by kernel_rfl) (fun x r h => (t_x_slices_Sort_int_int k x).trans h)
def x_slices_Reverse_int_int (k : Nat) (x : List (Int) × Unit) : Option (Unit × List (Int) × Unit) :=
(whileK (fun (rec0 : (List (Int) × Int × Int × Unit) → Option _) (y0 : List (Int) × Int × Int × Unit) =>
(if (decide (y0.2.1 < y0.2.2.1)) = true then
(if 0 ≤ y0.2.2.1 ∧ y0.2.2.1 < (List.length y0.1 : Int) then
(if 0 ≤ y0.2.1 ∧ y0.2.1 < (List.length y0.1 : Int) then
(if 0 ≤ y0.2.1 ∧ y0.2.1 < (List.length y0.1 : Int) then
(if 0 ≤ y0.2.2.1 ∧ y0.2.2.1 < (List.length (List.set y0.1 (Int.toNat y0.2.1) (Ty.rd (t := (.int .i64)) y0.1 y0.2.2.1)) : Int) then
(rec0 ((List.set (List.set y0.1 (Int.toNat y0.2.1) (Ty.rd (t := (.int .i64)) y0.1 y0.2.2.1)) (Int.toNat y0.2.2.1) (Ty.rd (t := (.int .i64)) y0.1 y0.2.1)), ((wi64 (y0.2.1 + (1 : Int))), ((wi64 (y0.2.2.1 - (1 : Int))), ()))))
else none)
else none)
else none)
else none)
else
((fun (z1 : List (Int) × Unit) =>
some ((), (z1.1, ()))) (y0.1, ())))) k (x.1, ((0 : Int), ((wi64 ((List.length x.1 : Int) - (1 : Int))), ()))))
theorem t_x_slices_Reverse_int_int (k : Nat) (x) : evF TTab k [] [(0, ⟨[0, 2, 3], (.cons (.own false 3 (.int .i64)) (.cons (.int .i64) (.cons (.int .i64) .nil)))⟩, ⟨[0], (.cons (.own false 3 (.int .i64)) .nil)⟩)] Try.f107 (.cons (.mut false 3 (.int .i64)) .nil) (.tup .nil) x = x_slices_Reverse_int_int k x := by kernel_rfl
theorem e_x_slices_Reverse_int_int (k : Nat) : EntryOk Try.prog ⟨107, 0, (.cons (.mut false 3 (.int .i64)) .nil), (.tup .nil), x_slices_Reverse_int_int k⟩ := entry_ok tok (by simp) (by kernel_rfl) (fn := Try.f107) (k := k) (es := []) (loops := [(0, ⟨[0, 2, 3], (.cons (.own false 3 (.int .i64)) (.cons (.int .i64) (.cons (.int .i64) .nil)))⟩, ⟨[0], (.cons (.own false 3 (.int .i64)) .nil)⟩)]) (by kernel_rfl) (by kernel_rfl) (fun x r h => (t_x_slices_Reverse_int_int k x).trans h)
def i_NoteSeen_1 (k : Nat) (x : Int × (Int × Unit) × Unit) : Option (Bool × Unit × (Int × Unit) × Unit) :=
some ((decide (x.1 ≤ (wi64 (x.2.1.1 - (6 : Int))))), ((), ((x.2.1.1, ()), ())))
theorem t_i_NoteSeen_1 (k : Nat) (x) : evF TTab k [] [] Try.f109 (.cons (.int .i64) (.cons (.ptr (.cons (.int .i64) .nil)) .nil)) .bool x = i_NoteSeen_1 k x := by kernel_rfl
theorem e_i_NoteSeen_1 (k : Nat) : EntryOk Try.prog ⟨109, 0, (.cons (.int .i64) (.cons (.ptr (.cons (.int .i64) .nil)) .nil)), .bool, i_NoteSeen_1 k⟩ := entry_ok tok (by simp) (by kernel_rfl) (fn := Try.f109) (k := k) (es := []) (loops := []) (by kernel_rfl) (by kernel_rfl) (fun x r h => (t_i_NoteSeen_1 k x).trans h)
def x_slices_IndexFunc_int_int_of_i_NoteSeen_1 (k : Nat) (x : List (Int) × ((Int × Unit) × Unit) × Unit) : Option (Int × Unit × ((Int × Unit) × Unit) × Unit) :=
(whileK (fun (rec0 : (List (Int) × ((Int × Unit) × Unit) × Int × Int × Unit) → Option _) (y0 : List (Int) × ((Int × Unit) × Unit) × Int × Int × Unit) =>
(if (decide (y0.2.2.2.1 < y0.2.2.1)) = true then
(if 0 ≤ y0.2.2.2.1 ∧ y0.2.2.2.1 < (List.length y0.1 : Int) then
((i_NoteSeen_1 k ((Ty.rd (t := (.int .i64)) y0.1 y0.2.2.2.1), ((y0.2.1.1.1, ()), ()))).bind fun p1 =>
(if p1.1 = true then
some (y0.2.2.2.1, ((), (((p1.2.2.1.1, ()), ()), ())))
else
(rec0 (y0.1, (((p1.2.2.1.1, ()), ()), (y0.2.2.1, ((wi64 (y0.2.2.2.1 + (1 : Int))), ())))))))
else none)
else
((fun (z1 : ((Int × Unit) × Unit) × Unit) =>
some ((-1 : Int), ((), (((z1.1.1.1, ()), ()), ())))) (((y0.2.1.1.1, ()), ()), ())))) k (x.1, (((x.2.1.1.1, ()), ()), ((List.length x.1 : Int), ((0 : Int), ())))))
theorem t_x_slices_IndexFunc_int_int_of_i_NoteSeen_1 (k : Nat) (x) : evF TTab k [⟨109, 0, (.cons (.int .i64) (.cons (.ptr (.cons (.int .i64) .nil)) .nil)), .bool, i_NoteSeen_1 k⟩] [(0, ⟨[0, 1, 7, 8], (.cons (.il true (.int .i64)) (.cons (.fn 109 (.cons (.ptr (.cons (.int .i64) .nil)) .nil)) (.cons (.int .i64) (.cons (.int .i64) .nil))))⟩, ⟨[1], (.cons (.fn 109 (.cons (.ptr (.cons (.int .i64) .nil)) .nil)) .nil)⟩)] Try.f180 (.cons (.il true (.int .i64)) (.cons (.fn 109 (.cons (.ptr (.cons (.int .i64) .nil)) .nil)) .nil)) (.int .i64) x = x_slices_IndexFunc_int_int_of_i_NoteSeen_1 k x := by kernel_rfl
theorem e_x_slices_IndexFunc_int_int_of_i_NoteSeen_1 (k : Nat) : EntryOk Try.prog ⟨180, 110, (.cons (.il true (.int .i64)) (.cons (.fn 109 (.cons (.ptr (.cons (.int .i64) .nil)) .nil)) .nil)), (.int .i64), x_slices_IndexFunc_int_int_of_i_NoteSeen_1 k⟩ := entry_ok tok (by intro e he; simp only [List.mem_cons, List.not_mem_nil, or_false] at he; rcases he with rfl <;> first | exact e_i_NoteSeen_1 k) (by kernel_rfl) (fn := Try.f180) (k := k) (es := [⟨109, 0, (.cons (.int .i64) (.cons (.ptr (.cons (.int .i64) .nil)) .nil)), .bool, i_NoteSeen_1 k⟩]) (loops := [(0, ⟨[0, 1, 7, 8], (.cons (.il true (.int .i64)) (.cons (.fn 109 (.cons (.ptr (.cons (.int .i64) .nil)) .nil)) (.cons (.int .i64) (.cons (.int .i64) .nil))))⟩, ⟨[1], (.cons (.fn 109 (.cons (.ptr (.cons (.int .i64) .nil)) .nil)) .nil)⟩)]) (by kernel_rfl) (by kernel_rfl) (fun x r h => (t_x_slices_IndexFunc_int_int_of_i_NoteSeen_1 k x).trans h)
def x_slices_DeleteFunc_int_int_of_i_NoteSeen_1 (k : Nat) (x : List (Int) × ((Int × Unit) × Unit) × Unit) : Option (List (Int) × Unit × ((Int × Unit) × Unit) × Unit) :=
((x_slices_IndexFunc_int_int_of_i_NoteSeen_1 k (x.1, (((x.2.1.1.1, ()), ()), ()))).bind fun p1 =>
(if (decide (p1.1 = (-1 : Int))) = true then
some (x.1, ((), (((p1.2.2.1.1.1, ()), ()), ())))
else
(whileK (fun (rec0 : (List (Int) × ((Int × Unit) × Unit) × Int × Int × Unit) → Option _) (y0 : List (Int) × ((Int × Unit) × Unit) × Int × Int × Unit) =>
(if (decide (y0.2.2.2.1 < (List.length y0.1 : Int))) = true then
(if 0 ≤ y0.2.2.2.1 ∧ y0.2.2.2.1 < (List.length y0.1 : Int) then
((i_NoteSeen_1 k ((Ty.rd (t := (.int .i64)) y0.1 y0.2.2.2.1), ((y0.2.1.1.1, ()), ()))).bind fun p2 =>
(if (!p2.1) = true then
(if 0 ≤ y0.2.2.1 ∧ y0.2.2.1 < (List.length y0.1 : Int) then
(rec0 ((List.set y0.1 (Int.toNat y0.2.2.1) (Ty.rd (t := (.int .i64)) y0.1 y0.2.2.2.1)), (((p2.2.2.1.1, ()), ()), ((wi64 (y0.2.2.1 + (1 : Int))), ((wi64 (y0.2.2.2.1 + (1 : Int))), ())))))
else none)
else
(rec0 (y0.1, (((p2.2.2.1.1, ()), ()), (y0.2.2.1, ((wi64 (y0.2.2.2.1 + (1 : Int))), ())))))))
else none)
else
((fun (z1 : List (Int) × ((Int × Unit) × Unit) × Int × Unit) =>
(if 0 ≤ z1.2.2.1 ∧ z1.2.2.1 ≤ (List.length z1.1 : Int) then
(if 0 ≤ z1.2.2.1 ∧ z1.2.2.1 ≤ (List.length (List.take (Int.toNat z1.2.2.1) z1.1 ++ (List.replicate (Int.toNat ((List.length z1.1 : Int) - z1.2.2.1)) (0 : Int) ++ List.drop (Int.toNat (List.length z1.1 : Int)) z1.1)) : Int) then
some ((List.take (Int.toNat z1.2.2.1) (List.take (Int.toNat z1.2.2.1) z1.1 ++ (List.replicate (Int.toNat ((List.length z1.1 : Int) - z1.2.2.1)) (0 : Int) ++ List.drop (Int.toNat (List.length z1.1 : Int)) z1.1))), ((), (((z1.2.1.1.1, ()), ()), ())))
else none)
else none)) (y0.1, (((y0.2.1.1.1, ()), ()), (y0.2.2.1, ())))))) k (x.1, (((p1.2.2.1.1.1, ()), ()), (p1.1, ((wi64 (p1.1 + (1 : Int))), ())))))))
theorem t_x_slices_DeleteFunc_int_int_of_i_NoteSeen_1 (k : Nat) (x) : evF TTab k [⟨109, 0, (.cons (.int .i64) (.cons (.ptr (.cons (.int .i64) .nil)) .nil)), .bool, i_NoteSeen_1 k⟩, ⟨180, 110, (.cons (.il true (.int .i64)) (.cons (.fn 109 (.cons (.ptr (.cons (.int .i64) .nil)) .nil)) .nil)), (.int .i64), x_slices_IndexFunc_int_int_of_i_NoteSeen_1 k⟩] [(0, ⟨[0, 1, 5, 6], (.cons (.own false 3 (.int .i64)) (.cons (.fn 109 (.cons (.ptr (.cons (.int .i64) .nil)) .nil)) (.cons (.int .i64) (.cons (.int .i64) .nil))))⟩, ⟨[0, 1, 5], (.cons (.own false 3 (.int .i64)) (.cons (.fn 109 (.cons (.ptr (.cons (.int .i64) .nil)) .nil)) (.cons (.int .i64) .nil)))⟩)] Try.f108 (.cons (.own false 3 (.int .i64)) (.cons (.fn 109 (.cons (.ptr (.cons (.int .i64) .nil)) .nil)) .nil)) (.own false 3 (.int .i64)) x = x_slices_DeleteFunc_int_int_of_i_NoteSeen_1 k x := by kernel_rfl
theorem e_x_slices_DeleteFunc_int_int_of_i_NoteSeen_1 (k : Nat) : EntryOk Try.prog ⟨108, 110, (.cons (.own false 3 (.int .i64)) (.cons (.fn 109 (.cons (.ptr (.cons (.int .i64) .nil)) .nil)) .nil)), (.own false 3 (.int .i64)), x_slices_DeleteFunc_int_int_of_i_NoteSeen_1 k⟩ := entry_ok tok (by intro e he; simp only [List.mem_cons, List.not_mem_nil, or_false] at he; rcases he with rfl | rfl <;> first | exact e_i_NoteSeen_1 k | exact e_x_slices_IndexFunc_int_int_of_i_NoteSeen_1 k) (by kernel_rfl) (fn := Try.f108) (k := k) (es := [⟨109, 0, (.cons (.int .i64) (.cons (.ptr (.cons (.int .i64) .nil)) .nil)), .bool, i_NoteSeen_1 k⟩, ⟨180, 110, (.cons (.il true (.int .i64)) (.cons (.fn 109 (.cons (.ptr (.cons (.int .i64) .nil)) .nil)) .nil)), (.int .i64), x_slices_IndexFunc_int_int_of_i_NoteSeen_1 k⟩]) (loops := [(0, ⟨[0, 1, 5, 6], (.cons (.own false 3 (.int .i64)) (.cons (.fn 109 (.cons (.ptr (.cons (.int .i64) .nil)) .nil)) (.cons (.int .i64) (.cons (.int .i64) .nil))))⟩, ⟨[0, 1, 5], (.cons (.own false 3 (.int .i64)) (.cons (.fn 109 (.cons (.ptr (.cons (.int .i64) .nil)) .nil)) (.cons (.int .i64) .nil)))⟩)]) (by kernel_rfl) (by kernel_rfl) (fun x r h => (t_x_slices_DeleteFunc_int_int_of_i_NoteSeen_1 k x).trans h)
def i_NoteSeen (k : Nat) (x : List (Int) × Int × Unit) : Option (List (Int) × Unit × Unit × Unit) :=
((i_IsFresh k (x.1, (x.2.1, ()))).bind fun p1 =>
(if (!p1.1) = true then
((i_copyInts k (x.1, ())).bind fun p2 =>
some (p2.1, ((), ((), ()))))
else
((i_copyInts k (x.1, ())).bind fun p3 =>
(if List.length p3.1 + List.length ([x.2.1] : List (Int)) ≤ capMax then
((x_slices_Sort_int_int k ((p3.1 ++ ([x.2.1] : List (Int))), ())).bind fun p4 =>
((x_slices_Reverse_int_int k (p4.2.1, ())).bind fun p5 =>
(if 0 ≤ (0 : Int) ∧ (0 : Int) < (List.length p5.2.1 : Int) then
((x_slices_DeleteFunc_int_int_of_i_NoteSeen_1 k (p5.2.1, ((((Ty.rd (t := (.int .i64)) p5.2.1 (0 : Int)), ()), ()), ()))).bind fun p6 =>
some (p6.1, ((), ((), ()))))
else none)))
else none))))
theorem t_i_NoteSeen (k : Nat) (x) : evF TTab k [⟨37, 0, (.cons (.il true (.int .i64)) (.cons (.int .i64) .nil)), .bool, i_IsFresh k⟩, ⟨105, 0, (.cons (.il true (.int .i64)) .nil), (.own false 3 (.int .i64)), i_copyInts k⟩, ⟨106, 0, (.cons (.mut false 3 (.int .i64)) .nil), (.tup .nil), x_slices_Sort_int_int k⟩, ⟨107, 0, (.cons (.mut false 3 (.int .i64)) .nil), (.tup .nil), x_slices_Reverse_int_int k⟩, ⟨108, 110, (.cons (.own false 3 (.int .i64)) (.cons (.fn 109 (.cons (.ptr (.cons (.int .i64) .nil)) .nil)) .nil)), (.own false 3 (.int .i64)), x_slices_DeleteFunc_int_int_of_i_NoteSeen_1 k⟩] [] Try.f38 (.cons (.il true (.int .i64)) (.cons (.int .i64) .nil)) (.own false 3 (.int .i64)) x = i_NoteSeen k x := by kernel_rfl
theorem e_i_NoteSeen (k : Nat) : EntryOk Try.prog ⟨38, 0, (.cons (.il true (.int .i64)) (.cons (.int .i64) .nil)), (.own false 3 (.int .i64)), i_NoteSeen k⟩ := entry_ok tok (by intro e he; simp only [List.mem_cons, List.not_mem_nil, or_false] at he; rcases he with rfl | rfl | rfl | rfl | rfl <;> first | exact e_i_IsFresh k | exact e_i_copyInts k | exact e_x_slices_Sort_int_int k | exact e_x_slices_Reverse_int_int k | exact e_x_slices_DeleteFunc_int_int_of_i_NoteSeen_1 k) (by kernel_rfl) (fn := Try.f38) (k := k) (es := [⟨37, 0, (.cons (.il true (.int .i64)) (.cons (.int .i64) .nil)), .bool, i_IsFresh k⟩, ⟨105, 0, (.cons (.il true (.int .i64)) .nil), (.own false 3 (.int .i64)), i_copyInts k⟩, ⟨106, 0, (.cons (.mut false 3 (.int .i64)) .nil), (.tup .nil), x_slices_Sort_int_int k⟩, ⟨107, 0, (.cons (.mut false 3 (.int .i64)) .nil), (.tup .nil), x_slices_Reverse_int_int k⟩, ⟨108, 110, (.cons (.own false 3 (.int .i64)) (.cons (.fn 109 (.cons (.ptr (.cons (.int .i64) .nil)) .nil)) .nil)), (.own false 3 (.int .i64)), x_slices_DeleteFunc_int_int_of_i_NoteSeen_1 k⟩]) (loops := []) (by kernel_rfl) (by kernel_rfl) (fun x r h => (t_i_NoteSeen k x).trans h)
def i_TakeAll (k : Nat) (x : List (Int) × Unit) : Option (List (Int) × Unit × Unit) :=
(whileK (fun (rec0 : (List (Int) × List (Int) × List (Int) × Int × Int × Unit) → Option _) (y0 : List (Int) × List (Int) × List (Int) × Int × Int × Unit) =>
(if (decide (y0.2.2.2.2.1 < y0.2.2.2.1)) = true then
(if 0 ≤ y0.2.2.2.2.1 ∧ y0.2.2.2.2.1 < (List.length y0.2.2.1 : Int) then
((i_IsFresh k (y0.2.1, ((Ty.rd (t := (.int .i64)) y0.2.2.1 y0.2.2.2.2.1), ()))).bind fun p1 =>
(if p1.1 = true then
((i_NoteSeen k (y0.2.1, ((Ty.rd (t := (.int .i64)) y0.2.2.1 y0.2.2.2.2.1), ()))).bind fun p2 =>
(if List.length y0.1 + List.length ([(Ty.rd (t := (.int .i64)) y0.2.2.1 y0.2.2.2.2.1)] : List (Int)) ≤ capMax then
(rec0 ((y0.1 ++ ([(Ty.rd (t := (.int .i64)) y0.2.2.1 y0.2.2.2.2.1)] : List (Int))), (p2.1, (y0.2.2.1, (y0.2.2.2.1, ((wi64 (y0.2.2.2.2.1 + (1 : Int))), ()))))))
else none))
else
(rec0 (y0.1, (y0.2.1, (y0.2.2.1, (y0.2.2.2.1, ((wi64 (y0.2.2.2.2.1 + (1 : Int))), ()))))))))
else none)
else
((fun (z1 : List (Int) × Unit) =>
some (z1.1, ((), ()))) (y0.1, ())))) k (([] : List (Int)), (([] : List (Int)), (x.1, ((List.length x.1 : Int), ((0 : Int), ()))))))
theorem t_i_TakeAll (k : Nat) (x) : evF TTab k [⟨37, 0, (.cons (.il true (.int .i64)) (.cons (.int .i64) .nil)), .bool, i_IsFresh k⟩, ⟨38, 0, (.cons (.il true (.int .i64)) (.cons (.int .i64) .nil)), (.own false 3 (.int .i64)), i_NoteSeen k⟩] [(0, ⟨[3, 4, 9, 10, 11], (.cons (.own false 3 (.int .i64)) (.cons (.own false 3 (.int .i64)) (.cons (.il true (.int .i64)) (.cons (.int .i64) (.cons (.int .i64) .nil)))))⟩, ⟨[3], (.cons (.own false 3 (.int .i64)) .nil)⟩)] Try.f33 (.cons (.il true (.int .i64)) .nil) (.own false 3 (.int .i64)) x = i_TakeAll k x := by kernel_rfl
theorem e_i_TakeAll (k : Nat) : EntryOk Try.prog ⟨33, 0, (.cons (.il true (.int .i64)) .nil), (.own false 3 (.int .i64)), i_TakeAll k⟩ := entry_ok tok (by intro e he; simp only [List.mem_cons, List.not_mem_nil, or_false] at he; rcases he with rfl | rfl <;> first | exact e_i_IsFresh k | exact e_i_NoteSeen k) (by kernel_rfl) (fn := Try.f33) (k := k) (es := [⟨37, 0, (.cons (.il true (.int .i64)) (.cons (.int .i64) .nil)), .bool, i_IsFresh k⟩, ⟨38, 0, (.cons (.il true (.int .i64)) (.cons (.int .i64) .nil)), (.own false 3 (.int .i64)), i_NoteSeen k⟩]) (loops := [(0, ⟨[3, 4, 9, 10, 11], (.cons (.own false 3 (.int .i64)) (.cons (.own false 3 (.int .i64)) (.cons (.il true (.int .i64)) (.cons (.int .i64) (.cons (.int .i64) .nil)))))⟩, ⟨[3], (.cons (.own false 3 (.int .i64)) .nil)⟩)]) (by kernel_rfl) (by kernel_rfl) (fun x r h => (t_i_TakeAll k x).trans h)
def w_sameInts (k : Nat) (x : List (Int) × List (Int) × Unit) : Option (Bool × Unit × Unit × Unit) :=
(if (!decide ((List.length x.1 : Int) = (List.length x.2.1 : Int))) = true then
some (false, ((), ((), ())))
else
(whileK (fun (rec0 : (List (Int) × List (Int) × Int × Unit) → Option _) (y0 : List (Int) × List (Int) × Int × Unit) =>
(if (decide (y0.2.2.1 < (List.length y0.1 : Int))) = true then
(if 0 ≤ y0.2.2.1 ∧ y0.2.2.1 < (List.length y0.1 : Int) then
(if 0 ≤ y0.2.2.1 ∧ y0.2.2.1 < (List.length y0.2.1 : Int) then
(if (!decide ((Ty.rd (t := (.int .i64)) y0.1 y0.2.2.1) = (Ty.rd (t := (.int .i64)) y0.2.1 y0.2.2.1))) = true then
some (false, ((), ((), ())))
else
(rec0 (y0.1, (y0.2.1, ((wi64 (y0.2.2.1 + (1 : Int))), ())))))
else none)
else none)
else
((fun (z1 : Unit) =>
some (true, ((), ((), ())))) ()))) k (x.1, (x.2.1, ((0 : Int), ())))))
theorem t_w_sameInts (k : Nat) (x) : evF TTab k [] [(0, ⟨[0, 1, 5], (.cons (.il true (.int .i64)) (.cons (.il true (.int .i64)) (.cons (.int .i64) .nil)))⟩, ⟨[], .nil⟩)] Try.f34 (.cons (.il true (.int .i64)) (.cons (.il true (.int .i64)) .nil)) .bool x = w_sameInts k x := by kernel_rfl
theorem e_w_sameInts (k : Nat) : EntryOk Try.prog ⟨34, 0, (.cons (.il true (.int .i64)) (.cons (.il true (.int .i64)) .nil)), .bool, w_sameInts k⟩ := entry_ok tok (by simp) (by kernel_rfl) (fn := Try.f34) (k := k) (es := []) (loops := [(0, ⟨[0, 1, 5], (.cons (.il true (.int .i64)) (.cons (.il true (.int .i64)) (.cons (.int .i64) .nil)))⟩, ⟨[], .nil⟩)]) (by kernel_rfl) (by kernel_rfl) (fun x r h => (t_w_sameInts k x).trans h)
def s_SeenOk (k : Nat) (x : List (Int) × Unit) : Option (Bool × Unit × Unit) :=
(whileK (fun (rec0 : (List (Int) × Int × Unit) → Option _) (y0 : List (Int) × Int × Unit) =>
(if (decide (y0.2.1 < (List.length y0.1 : Int))) = true then
(if 0 ≤ y0.2.1 ∧ y0.2.1 < (List.length y0.1 : Int) then
((s_l01In k ((Ty.rd (t := (.int .i64)) y0.1 y0.2.1), ((1 : Int), ((1000000000 : Int), ())))).bind fun p1 =>
(if (!p1.1) = false then
(if (decide ((0 : Int) < y0.2.1)) = true then
(if 0 ≤ (wi64 (y0.2.1 - (1 : Int))) ∧ (wi64 (y0.2.1 - (1 : Int))) < (List.length y0.1 : Int) then
(if 0 ≤ y0.2.1 ∧ y0.2.1 < (List.length y0.1 : Int) then
(if (decide ((Ty.rd (t := (.int .i64)) y0.1 (wi64 (y0.2.1 - (1 : Int)))) ≤ (Ty.rd (t := (.int .i64)) y0.1 y0.2.1))) = false then
(if 0 ≤ y0.2.1 ∧ y0.2.1 < (List.length y0.1 : Int) then
(if 0 ≤ (0 : Int) ∧ (0 : Int) < (List.length y0.1 : Int) then
(if (decide ((Ty.rd (t := (.int .i64)) y0.1 y0.2.1) ≤ (wi64 ((Ty.rd (t := (.int .i64)) y0.1 (0 : Int)) - (6 : Int))))) = true then
some (false, ((), ()))
else
(rec0 (y0.1, ((wi64 (y0.2.1 + (1 : Int))), ()))))
else none)
else none)
else
some (false, ((), ())))
else none)
else none)
else
(if 0 ≤ y0.2.1 ∧ y0.2.1 < (List.length y0.1 : Int) then
(if 0 ≤ (0 : Int) ∧ (0 : Int) < (List.length y0.1 : Int) then
(if (decide ((Ty.rd (t := (.int .i64)) y0.1 y0.2.1) ≤ (wi64 ((Ty.rd (t := (.int .i64)) y0.1 (0 : Int)) - (6 : Int))))) = true then
some (false, ((), ()))
else
(rec0 (y0.1, ((wi64 (y0.2.1 + (1 : Int))), ()))))
else none)
else none))
else
some (false, ((), ()))))
else none)
else
((fun (z1 : List (Int) × Unit) =>
some ((decide ((List.length z1.1 : Int) ≤ (6 : Int))), ((), ()))) (y0.1, ())))) k (x.1, ((0 : Int), ())))
theorem t_s_SeenOk (k : Nat) (x) : evF TTab k [⟨79, 0, (.cons (.int .i64) (.cons (.int .i64) (.cons (.int .i64) .nil))), .bool, s_l01In k⟩] [(0, ⟨[0, 3], (.cons (.il true (.int .i64)) (.cons (.int .i64) .nil))⟩, ⟨[0], (.cons (.il true (.int .i64)) .nil)⟩)] Try.f175 (.cons (.il true (.int .i64)) .nil) .bool x = s_SeenOk k x := by kernel_rfl
theorem e_s_SeenOk (k : Nat) : EntryOk Try.prog ⟨175, 0, (.cons (.il true (.int .i64)) .nil), .bool, s_SeenOk k⟩ := entry_ok tok (by intro e he; simp only [List.mem_cons, List.not_mem_nil, or_false] at he; rcases he with rfl <;> first | exact e_s_l01In k) (by kernel_rfl) (fn := Try.f175) (k := k) (es := [⟨79, 0, (.cons (.int .i64) (.cons (.int .i64) (.cons (.int .i64) .nil))), .bool, s_l01In k⟩]) (loops := [(0, ⟨[0, 3], (.cons (.il true (.int .i64)) (.cons (.int .i64) .nil))⟩, ⟨[0], (.cons (.il true (.int .i64)) .nil)⟩)]) (by kernel_rfl) (by kernel_rfl) (fun x r h => (t_s_SeenOk k x).trans h)
def s_l13In (k : Nat) (x : List (Int) × Int × Unit) : Option (Bool × Unit × Unit × Unit) :=
(whileK (fun (rec0 : (List (Int) × Int × Int × Unit) → Option _) (y0 : List (Int) × Int × Int × Unit) =>
(if (decide (y0.2.2.1 < (List.length y0.1 : Int))) = true then
(if 0 ≤ y0.2.2.1 ∧ y0.2.2.1 < (List.length y0.1 : Int) then
(if (decide ((Ty.rd (t := (.int .i64)) y0.1 y0.2.2.1) = y0.2.1)) = true then
some (true, ((), ((), ())))
else
(rec0 (y0.1, (y0.2.1, ((wi64 (y0.2.2.1 + (1 : Int))), ())))))
else none)
else
((fun (z1 : Unit) =>
some (false, ((), ((), ())))) ()))) k (x.1, (x.2.1, ((0 : Int), ()))))
theorem t_s_l13In (k : Nat) (x) : evF TTab k [] [(0, ⟨[0, 1, 5], (.cons (.il true (.int .i64)) (.cons (.int .i64) (.cons (.int .i64) .nil)))⟩, ⟨[], .nil⟩)] Try.f176 (.cons (.il true (.int .i64)) (.cons (.int .i64) .nil)) .bool x = s_l13In k x := by kernel_rfl
theorem e_s_l13In (k : Nat) : EntryOk Try.prog ⟨176, 0, (.cons (.il true (.int .i64)) (.cons (.int .i64) .nil)), .bool, s_l13In k⟩ := entry_ok tok (by simp) (by kernel_rfl) (fn := Try.f176) (k := k) (es := []) (loops := [(0, ⟨[0, 1, 5], (.cons (.il true (.int .i64)) (.cons (.int .i64) (.cons (.int .i64) .nil)))⟩, ⟨[], .nil⟩)]) (by kernel_rfl) (by kernel_rfl) (fun x r h => (t_s_l13In k x).trans h)
def s_IsFresh (k : Nat) (x : List (Int) × Int × Unit) : Option (Bool × Unit × Unit × Unit) :=
((s_SeenOk k (x.1, ())).bind fun p1 =>
(if (!p1.1) = false then
((s_l01In k (x.2.1, ((1 : Int), ((1000000000 : Int), ())))).bind fun p2 =>
(if (!p2.1) = false then
((s_l13In k (x.1, (x.2.1, ()))).bind fun p3 =>
(if p3.1 = true then
some (false, ((), ((), ())))
else
(if (decide ((List.length x.1 : Int) = (0 : Int))) = false then
(if 0 ≤ (0 : Int) ∧ (0 : Int) < (List.length x.1 : Int) then
some ((decide ((wi64 ((Ty.rd (t := (.int .i64)) x.1 (0 : Int)) - (6 : Int))) < x.2.1)), ((), ((), ())))
else none)
else
some (true, ((), ((), ()))))))
else
some (false, ((), ((), ())))))
else
some (false, ((), ((), ())))))
theorem t_s_IsFresh (k : Nat) (x) : evF TTab k [⟨79, 0, (.cons (.int .i64) (.cons (.int .i64) (.cons (.int .i64) .nil))), .bool, s_l01In k⟩, ⟨175, 0, (.cons (.il true (.int .i64)) .nil), .bool, s_SeenOk k⟩, ⟨176, 0, (.cons (.il true (.int .i64)) (.cons (.int .i64) .nil)), .bool, s_l13In k⟩] [] Try.f102 (.cons (.il true (.int .i64)) (.cons (.int .i64) .nil)) .bool x = s_IsFresh k x := by kernel_rfl
theorem e_s_IsFresh (k : Nat) : EntryOk Try.prog ⟨102, 0, (.cons (.il true (.int .i64)) (.cons (.int .i64) .nil)), .bool, s_IsFresh k⟩ := entry_ok tok (by intro e he; simp only [List.mem_cons, List.not_mem_nil, or_false] at he; rcases he with rfl | rfl | rfl <;> first | exact e_s_l01In k | exact e_s_SeenOk k | exact e_s_l13In k) (by kernel_rfl) (fn := Try.f102) (k := k) (es := [⟨79, 0, (.cons (.int .i64) (.cons (.int .i64) (.cons (.int .i64) .nil))), .bool, s_l01In k⟩, ⟨175, 0, (.cons (.il true (.int .i64)) .nil), .bool, s_SeenOk k⟩, ⟨176, 0, (.cons (.il true (.int .i64)) (.cons (.int .i64) .nil)), .bool, s_l13In k⟩]) (loops := []) (by kernel_rfl) (by kernel_rfl) (fun x r h => (t_s_IsFresh k x).trans h)
def s_NoteSeen (k : Nat) (x : List (Int) × Int × Unit) : Option (List (Int) × Unit × Unit × Unit) :=
((s_IsFresh k (x.1, (x.2.1, ()))).bind fun p1 =>
(if (!p1.1) = true then
(if List.length ([] : List (Int)) + List.length x.1 ≤ capMax then
some ((([] : List (Int)) ++ x.1), ((), ((), ())))
else none)
else
(whileK (fun (rec0 : (List (Int) × Int × List (Int) × Int × Unit) → Option _) (y0 : List (Int) × Int × List (Int) × Int × Unit) =>
(if (decide (y0.2.2.2.1 < (List.length y0.1 : Int))) = true then
(if 0 ≤ y0.2.2.2.1 ∧ y0.2.2.2.1 < (List.length y0.1 : Int) then
(if (decide (y0.2.1 < (Ty.rd (t := (.int .i64)) y0.1 y0.2.2.2.1))) = true then
(if 0 ≤ y0.2.2.2.1 ∧ y0.2.2.2.1 < (List.length y0.1 : Int) then
(if List.length y0.2.2.1 + List.length ([(Ty.rd (t := (.int .i64)) y0.1 y0.2.2.2.1)] : List (Int)) ≤ capMax then
(rec0 (y0.1, (y0.2.1, ((y0.2.2.1 ++ ([(Ty.rd (t := (.int .i64)) y0.1 y0.2.2.2.1)] : List (Int))), ((wi64 (y0.2.2.2.1 + (1 : Int))), ())))))
else none)
else none)
else
(rec0 (y0.1, (y0.2.1, (y0.2.2.1, ((wi64 (y0.2.2.2.1 + (1 : Int))), ()))))))
else none)
else
((fun (z1 : List (Int) × Int × List (Int) × Unit) =>
(if List.length z1.2.2.1 + List.length ([z1.2.1] : List (Int)) ≤ capMax then
(whileK (fun (rec2 : (List (Int) × Int × List (Int) × Int × Unit) → Option _) (y2 : List (Int) × Int × List (Int) × Int × Unit) =>
(if (decide (y2.2.2.2.1 < (List.length y2.1 : Int))) = true then
(if 0 ≤ y2.2.2.2.1 ∧ y2.2.2.2.1 < (List.length y2.1 : Int) then
(if (decide ((Ty.rd (t := (.int .i64)) y2.1 y2.2.2.2.1) < y2.2.1)) = true then
(if 0 ≤ y2.2.2.2.1 ∧ y2.2.2.2.1 < (List.length y2.1 : Int) then
(if List.length y2.2.2.1 + List.length ([(Ty.rd (t := (.int .i64)) y2.1 y2.2.2.2.1)] : List (Int)) ≤ capMax then
(rec2 (y2.1, (y2.2.1, ((y2.2.2.1 ++ ([(Ty.rd (t := (.int .i64)) y2.1 y2.2.2.2.1)] : List (Int))), ((wi64 (y2.2.2.2.1 + (1 : Int))), ())))))
else none)
else none)
else
(rec2 (y2.1, (y2.2.1, (y2.2.2.1, ((wi64 (y2.2.2.2.1 + (1 : Int))), ()))))))
else none)
else
((fun (z2 : List (Int) × Unit) =>
(whileK (fun (rec4 : (List (Int) × List (Int) × Int × Unit) → Option _) (y4 : List (Int) × List (Int) × Int × Unit) =>
(if (decide (y4.2.2.1 < (List.length y4.1 : Int))) = true then
(if 0 ≤ y4.2.2.1 ∧ y4.2.2.1 < (List.length y4.1 : Int) then
(if 0 ≤ (0 : Int) ∧ (0 : Int) < (List.length y4.1 : Int) then
(if (decide ((wi64 ((Ty.rd (t := (.int .i64)) y4.1 (0 : Int)) - (6 : Int))) < (Ty.rd (t := (.int .i64)) y4.1 y4.2.2.1))) = true then
(if 0 ≤ y4.2.2.1 ∧ y4.2.2.1 < (List.length y4.1 : Int) then
(if List.length y4.2.1 + List.length ([(Ty.rd (t := (.int .i64)) y4.1 y4.2.2.1)] : List (Int)) ≤ capMax then
(rec4 (y4.1, ((y4.2.1 ++ ([(Ty.rd (t := (.int .i64)) y4.1 y4.2.2.1)] : List (Int))), ((wi64 (y4.2.2.1 + (1 : Int))), ()))))
else none)
else none)
else
(rec4 (y4.1, (y4.2.1, ((wi64 (y4.2.2.1 + (1 : Int))), ())))))
else none)
else none)
else
((fun (z3 : List (Int) × Unit) =>
some (z3.1, ((), ((), ())))) (y4.2.1, ())))) k (z2.1, (([] : List (Int)), ((0 : Int), ()))))) (y2.2.2.1, ())))) k (z1.1, (z1.2.1, ((z1.2.2.1 ++ ([z1.2.1] : List (Int))), ((0 : Int), ())))))
else none)) (y0.1, (y0.2.1, (y0.2.2.1, ())))))) k (x.1, (x.2.1, (([] : List (Int)), ((0 : Int), ())))))))
theorem t_s_NoteSeen (k : Nat) (x) : evF TTab k [⟨102, 0, (.cons (.il true (.int .i64)) (.cons (.int .i64) .nil)), .bool, s_IsFresh k⟩] [(0, ⟨[0, 1, 5, 6], (.cons (.il true (.int .i64)) (.cons (.int .i64) (.cons (.own false 3 (.int .i64)) (.cons (.int .i64) .nil))))⟩, ⟨[0, 1, 5], (.cons (.il true (.int .i64)) (.cons (.int .i64) (.cons (.own false 3 (.int .i64)) .nil)))⟩), (2, ⟨[0, 1, 5, 7], (.cons (.il true (.int .i64)) (.cons (.int .i64) (.cons (.own false 3 (.int .i64)) (.cons (.int .i64) .nil))))⟩, ⟨[5], (.cons (.own false 3 (.int .i64)) .nil)⟩), (4, ⟨[5, 8, 9], (.cons (.own false 3 (.int .i64)) (.cons (.own false 3 (.int .i64)) (.cons (.int .i64) .nil)))⟩, ⟨[8], (.cons (.own false 3 (.int .i64)) .nil)⟩)] Try.f103 (.cons (.il true (.int .i64)) (.cons (.int .i64) .nil)) (.own false 3 (.int .i64)) x = s_NoteSeen k x := by kernel_rfl
theorem e_s_NoteSeen (k : Nat) : EntryOk Try.prog ⟨103, 0, (.cons (.il true (.int .i64)) (.cons (.int .i64) .nil)), (.own false 3 (.int .i64)), s_NoteSeen k⟩ := entry_ok tok (by intro e he; simp only [List.mem_cons, List.not_mem_nil, or_false] at he; rcases he with rfl <;> first | exact e_s_IsFresh k) (by kernel_rfl) (fn := Try.f103) (k := k) (es := [⟨102, 0, (.cons (.il true (.int .i64)) (.cons (.int .i64) .nil)), .bool, s_IsFresh k⟩]) (loops := [(0, ⟨[0, 1, 5, 6], (.cons (.il true (.int .i64)) (.cons (.int .i64) (.cons (.own false 3 (.int .i64)) (.cons (.int .i64) .nil))))⟩, ⟨[0, 1, 5], (.cons (.il true (.int .i64)) (.cons (.int .i64) (.cons (.own false 3 (.int .i64)) .nil)))⟩), (2, ⟨[0, 1, 5, 7], (.cons (.il true (.int .i64)) (.cons (.int .i64) (.cons (.own false 3 (.int .i64)) (.cons (.int .i64) .nil))))⟩, ⟨[5], (.cons (.own false 3 (.int .i64)) .nil)⟩), (4, ⟨[5, 8, 9], (.cons (.own false 3 (.int .i64)) (.cons (.own false 3 (.int .i64)) (.cons (.int .i64) .nil)))⟩, ⟨[8], (.cons (.own false 3 (.int .i64)) .nil)⟩)]) (by kernel_rfl) (by kernel_rfl) (fun x r h => (t_s_NoteSeen k x).trans h)
def s_TakeAll (k : Nat) (x : List (Int) × Unit) : Option (List (Int) × Unit × Unit) :=
(whileK (fun (rec0 : (List (Int) × List (Int) × List (Int) × Int × Unit) → Option _) (y0 : List (Int) × List (Int) × List (Int) × Int × Unit) =>
(if (decide (y0.2.2.2.1 < (List.length y0.1 : Int))) = true then
(if 0 ≤ y0.2.2.2.1 ∧ y0.2.2.2.1 < (List.length y0.1 : Int) then
((s_IsFresh k (y0.2.1, ((Ty.rd (t := (.int .i64)) y0.1 y0.2.2.2.1), ()))).bind fun p1 =>
(if p1.1 = true then
(if 0 ≤ y0.2.2.2.1 ∧ y0.2.2.2.1 < (List.length y0.1 : Int) then
(if List.length y0.2.2.1 + List.length ([(Ty.rd (t := (.int .i64)) y0.1 y0.2.2.2.1)] : List (Int)) ≤ capMax then
(if 0 ≤ y0.2.2.2.1 ∧ y0.2.2.2.1 < (List.length y0.1 : Int) then
((s_NoteSeen k (y0.2.1, ((Ty.rd (t := (.int .i64)) y0.1 y0.2.2.2.1), ()))).bind fun p2 =>
(rec0 (y0.1, (p2.1, ((y0.2.2.1 ++ ([(Ty.rd (t := (.int .i64)) y0.1 y0.2.2.2.1)] : List (Int))), ((wi64 (y0.2.2.2.1 + (1 : Int))), ()))))))
else none)
else none)
else none)
else
(rec0 (y0.1, (y0.2.1, (y0.2.2.1, ((wi64 (y0.2.2.2.1 + (1 : Int))), ())))))))
else none)
else
((fun (z1 : List (Int) × Unit) =>
some (z1.1, ((), ()))) (y0.2.2.1, ())))) k (x.1, (([] : List (Int)), (([] : List (Int)), ((0 : Int), ())))))
theorem t_s_TakeAll (k : Nat) (x) : evF TTab k [⟨102, 0, (.cons (.il true (.int .i64)) (.cons (.int .i64) .nil)), .bool, s_IsFresh k⟩, ⟨103, 0, (.cons (.il true (.int .i64)) (.cons (.int .i64) .nil)), (.own false 3 (.int .i64)), s_NoteSeen k⟩] [(0, ⟨[0, 3, 4, 5], (.cons (.il true (.int .i64)) (.cons (.own false 3 (.int .i64)) (.cons (.own false 3 (.int .i64)) (.cons (.int .i64) .nil))))⟩, ⟨[4], (.cons (.own false 3 (.int .i64)) .nil)⟩)] Try.f35 (.cons (.il true (.int .i64)) .nil) (.own false 3 (.int .i64)) x = s_TakeAll k x := by kernel_rfl
theorem e_s_TakeAll (k : Nat) : EntryOk Try.prog ⟨35, 0, (.cons (.il true (.int .i64)) .nil), (.own false 3 (.int .i64)), s_TakeAll k⟩ := entry_ok tok (by intro e he; simp only [List.mem_cons, List.not_mem_nil, or_false] at he; rcases he with rfl | rfl <;> first | exact e_s_IsFresh k | exact e_s_NoteSeen k) (by kernel_rfl) (fn := Try.f35) (k := k) (es := [⟨102, 0, (.cons (.il true (.int .i64)) (.cons (.int .i64) .nil)), .bool, s_IsFresh k⟩, ⟨103, 0, (.cons (.il true (.int .i64)) (.cons (.int .i64) .nil)), (.own false 3 (.int .i64)), s_NoteSeen k⟩]) (loops := [(0, ⟨[0, 3, 4, 5], (.cons (.il true (.int .i64)) (.cons (.own false 3 (.int .i64)) (.cons (.own false 3 (.int .i64)) (.cons (.int .i64) .nil))))⟩, ⟨[4], (.cons (.own false 3 (.int .i64)) .nil)⟩)]) (by kernel_rfl) (by kernel_rfl) (fun x r h => (t_s_TakeAll k x).trans h)
def w_in (k : Nat) (x : List (Int) × Int × Unit) : Option (Bool × Unit × Unit × Unit) :=
(whileK (fun (rec0 : (List (Int) × Int × Int × Unit) → Option _) (y0 : List (Int) × Int × Int × Unit) =>
(if (decide (y0.2.2.1 < (List.length y0.1 : Int))) = true then
(if 0 ≤ y0.2.2.1 ∧ y0.2.2.1 < (List.length y0.1 : Int) then
(if (decide ((Ty.rd (t := (.int .i64)) y0.1 y0.2.2.1) = y0.2.1)) = true then
some (true, ((), ((), ())))
else
(rec0 (y0.1, (y0.2.1, ((wi64 (y0.2.2.1 + (1 : Int))), ())))))
else none)
else
((fun (z1 : Unit) =>
some (false, ((), ((), ())))) ()))) k (x.1, (x.2.1, ((0 : Int), ()))))
theorem t_w_in (k : Nat) (x) : evF TTab k [] [(0, ⟨[0, 1, 5], (.cons (.il true (.int .i64)) (.cons (.int .i64) (.cons (.int .i64) .nil)))⟩, ⟨[], .nil⟩)] Try.f36 (.cons (.il true (.int .i64)) (.cons (.int .i64) .nil)) .bool x = w_in k x := by kernel_rfl
theorem e_w_in (k : Nat) : EntryOk Try.prog ⟨36, 0, (.cons (.il true (.int .i64)) (.cons (.int .i64) .nil)), .bool, w_in k⟩ := entry_ok tok (by simp) (by kernel_rfl) (fn := Try.f36) (k := k) (es := []) (loops := [(0, ⟨[0, 1, 5], (.cons (.il true (.int .i64)) (.cons (.int .i64) (.cons (.int .i64) .nil)))⟩, ⟨[], .nil⟩)]) (by kernel_rfl) (by kernel_rfl) (fun x r h => (t_w_in k x).trans h)
def w_FnOnce (k : Nat) (x : List (Int) × Unit) : Option (Bool × Unit × Unit) :=
((w_big k (x.1, ())).bind fun p1 =>
(if p1.1 = true then
some (true, ((), ()))
else
((s_DrawNumbers k (x.1, ())).bind fun p2 =>
((i_TakeAll k (p2.1, ())).bind fun p3 =>
((s_TakeAll k (p2.1, ())).bind fun p4 =>
((w_sameInts k (p3.1, (p4.1, ()))).bind fun p5 =>
(if (!p5.1) = true then
some (false, ((), ()))
else
(whileK (fun (rec0 : (List (Int) × List (Int) × Int × List (Int) × Int × Unit) → Option _) (y0 : List (Int) × List (Int) × Int × List (Int) × Int × Unit) =>
(if (decide (y0.2.2.2.2.1 < (List.length y0.2.1 : Int))) = true then
(if 0 ≤ y0.2.2.2.2.1 ∧ y0.2.2.2.2.1 ≤ (List.length y0.2.1 : Int) then
(if 0 ≤ y0.2.2.2.2.1 ∧ y0.2.2.2.2.1 < (List.length y0.2.1 : Int) then
((w_in k ((List.drop (Int.toNat (0 : Int)) (List.take (Int.toNat y0.2.2.2.2.1) y0.2.1)), ((Ty.rd (t := (.int .i64)) y0.2.1 y0.2.2.2.2.1), ()))).bind fun p6 =>
(if p6.1 = false then
(if 0 ≤ y0.2.2.2.2.1 ∧ y0.2.2.2.2.1 < (List.length y0.2.1 : Int) then
(if (decide ((Ty.rd (t := (.int .i64)) y0.2.1 y0.2.2.2.2.1) ≤ (wi64 (y0.2.2.1 - (6 : Int))))) = false then
(if 0 ≤ y0.2.2.2.2.1 ∧ y0.2.2.2.2.1 < (List.length y0.2.1 : Int) then
((i_IsFresh k (y0.2.2.2.1, ((Ty.rd (t := (.int .i64)) y0.2.1 y0.2.2.2.2.1), ()))).bind fun p7 =>
(if (!p7.1) = true then
some (false, ((), ()))
else
(if 0 ≤ y0.2.2.2.2.1 ∧ y0.2.2.2.2.1 < (List.length y0.2.1 : Int) then
((i_NoteSeen k (y0.2.2.2.1, ((Ty.rd (t := (.int .i64)) y0.2.1 y0.2.2.2.2.1), ()))).bind fun p8 =>
((i_SeenOk k (p8.1, ())).bind fun p9 =>
(if (!p9.1) = false then
(if 0 ≤ y0.2.2.2.2.1 ∧ y0.2.2.2.2.1 < (List.length y0.2.1 : Int) then
((i_IsFresh k (p8.1, ((Ty.rd (t := (.int .i64)) y0.2.1 y0.2.2.2.2.1), ()))).bind fun p10 =>
(if p10.1 = true then
some (false, ((), ()))
else
(if 0 ≤ y0.2.2.2.2.1 ∧ y0.2.2.2.2.1 < (List.length y0.2.1 : Int) then
(if (decide (y0.2.2.1 < (Ty.rd (t := (.int .i64)) y0.2.1 y0.2.2.2.2.1))) = true then
(if 0 ≤ y0.2.2.2.2.1 ∧ y0.2.2.2.2.1 < (List.length y0.2.1 : Int) then
(rec0 (y0.1, (y0.2.1, ((Ty.rd (t := (.int .i64)) y0.2.1 y0.2.2.2.2.1), (p8.1, ((wi64 (y0.2.2.2.2.1 + (1 : Int))), ()))))))
else none)
else
(rec0 (y0.1, (y0.2.1, (y0.2.2.1, (p8.1, ((wi64 (y0.2.2.2.2.1 + (1 : Int))), ())))))))
else none)))
else none)
else
some (false, ((), ())))))
else none)))
else none)
else
some (false, ((), ())))
else none)
else
some (false, ((), ()))))
else none)
else none)
else
((fun (z1 : List (Int) × Unit) =>
(whileK (fun (rec2 : (List (Int) × List (Int) × Int × Unit) → Option _) (y2 : List (Int) × List (Int) × Int × Unit) =>
(if (decide (y2.2.2.1 < (List.length y2.1 : Int))) = true then
(if List.length y2.2.1 + List.length ([(wi64 (y2.2.2.1 + (1 : Int)))] : List (Int)) ≤ capMax then
(rec2 (y2.1, ((y2.2.1 ++ ([(wi64 (y2.2.2.1 + (1 : Int)))] : List (Int))), ((wi64 (y2.2.2.1 + (1 : Int))), ()))))
else none)
else
((fun (z2 : List (Int) × Unit) =>
((i_TakeAll k (z2.1, ())).bind fun p11 =>
((w_sameInts k (p11.1, (z2.1, ()))).bind fun p12 =>
some (p12.1, ((), ()))))) (y2.2.1, ())))) k (z1.1, (([] : List (Int)), ((0 : Int), ()))))) (y0.1, ())))) k (p2.1, (p3.1, ((0 : Int), (([] : List (Int)), ((0 : Int), ())))))))))))))
theorem t_w_FnOnce (k : Nat) (x) : evF TTab k [⟨14, 0, (.cons (.il true (.int .u8)) .nil), .bool, w_big k⟩, ⟨32, 0, (.cons (.il true (.int .u8)) .nil), (.own false 3 (.int .i64)), s_DrawNumbers k⟩, ⟨33, 0, (.cons (.il true (.int .i64)) .nil), (.own false 3 (.int .i64)), i_TakeAll k⟩, ⟨34, 0, (.cons (.il true (.int .i64)) (.cons (.il true (.int .i64)) .nil)), .bool, w_sameInts k⟩, ⟨35, 0, (.cons (.il true (.int .i64)) .nil), (.own false 3 (.int .i64)), s_TakeAll k⟩, ⟨36, 0, (.cons (.il true (.int .i64)) (.cons (.int .i64) .nil)), .bool, w_in k⟩, ⟨37, 0, (.cons (.il true (.int .i64)) (.cons (.int .i64) .nil)), .bool, i_IsFresh k⟩, ⟨38, 0, (.cons (.il true (.int .i64)) (.cons (.int .i64) .nil)), (.own false 3 (.int .i64)), i_NoteSeen k⟩, ⟨39, 0, (.cons (.il true (.int .i64)) .nil), .bool, i_SeenOk k⟩] [(0, ⟨[3, 4, 5, 6, 7], (.cons (.own false 3 (.int .i64)) (.cons (.own false 3 (.int .i64)) (.cons (.int .i64) (.cons (.own false 3 (.int .i64)) (.cons (.int .i64) .nil)))))⟩, ⟨[3], (.cons (.own false 3 (.int .i64)) .nil)⟩), (2, ⟨[3, 8, 9], (.cons (.own false 3 (.int .i64)) (.cons (.own false 3 (.int .i64)) (.cons (.int .i64) .nil)))⟩, ⟨[8], (.cons (.own false 3 (.int .i64)) .nil)⟩)] Try.f7 (.cons (.il true (.int .u8)) .nil) .bool x = w_FnOnce k x := by kernel_rfl
theorem e_w_FnOnce (k : Nat) : EntryOk Try.prog ⟨7, 0, (.cons (.il true (.int .u8)) .nil), .bool, w_FnOnce k⟩ := entry_ok tok (by intro e he; simp only [List.mem_cons, List.not_mem_nil, or_false] at he; rcases he with rfl | rfl | rfl | rfl | rfl | rfl | rfl | rfl | rfl <;> first | exact e_w_big k | exact e_s_DrawNumbers k | exact e_i_TakeAll k | exact e_w_sameInts k | exact e_s_TakeAll k | exact e_w_in k | exact e_i_IsFresh k | exact e_i_NoteSeen k | exact e_i_SeenOk k) (by kernel_rfl) (fn := Try.f7) (k := k) (es := [⟨14, 0, (.cons (.il true (.int .u8)) .nil), .bool, w_big k⟩, ⟨32, 0, (.cons (.il true (.int .u8)) .nil), (.own false 3 (.int .i64)), s_DrawNumbers k⟩, ⟨33, 0, (.cons (.il true (.int .i64)) .nil), (.own false 3 (.int .i64)), i_TakeAll k⟩, ⟨34, 0, (.cons (.il true (.int .i64)) (.cons (.il true (.int .i64)) .nil)), .bool, w_sameInts k⟩, ⟨35, 0, (.cons (.il true (.int .i64)) .nil), (.own false 3 (.int .i64)), s_TakeAll k⟩, ⟨36, 0, (.cons (.il true (.int .i64)) (.cons (.int .i64) .nil)), .bool, w_in k⟩, ⟨37, 0, (.cons (.il true (.int .i64)) (.cons (.int .i64) .nil)), .bool, i_IsFresh k⟩, ⟨38, 0, (.cons (.il true (.int .i64)) (.cons (.int .i64) .nil)), (.own false 3 (.int .i64)), i_NoteSeen k⟩, ⟨39, 0, (.cons (.il true (.int .i64)) .nil), .bool, i_SeenOk k⟩]) (loops := [(0, ⟨[3, 4, 5, 6, 7], (.cons (.own false 3 (.int .i64)) (.cons (.own false 3 (.int .i64)) (.cons (.int .i64) (.cons (.own false 3 (.int .i64)) (.cons (.int .i64) .nil)))))⟩, ⟨[3], (.cons (.own false 3 (.int .i64)) .nil)⟩), (2, ⟨[3, 8, 9], (.cons (.own false 3 (.int .i64)) (.cons (.own false 3 (.int .i64)) (.cons (.int .i64) .nil)))⟩, ⟨[8], (.cons (.own false 3 (.int .i64)) .nil)⟩)]) (by kernel_rfl) (by kernel_rfl) (fun x r h => (t_w_FnOnce k x).trans h)
end Go.Proofs.Ytjmpbkkomiebhaa
