import Derived.Test.YtfponeljjihkbaaFun0
/- What functions of the program compute, as plain functions, and that their calls do so (part 1). Conditions: the plain function answers. -/
set_option linter.unusedVariables false
namespace Go.Proofs.Ytfponeljjihkbaa
open Go Go.Eng Go.Proofs
def s_l01In (k : Nat) (x : Int × Int × Int × Unit) : Option (Bool × Unit × Unit × Unit × Unit) :=
(if (decide (x.2.1 ≤ x.1)) = true then
some ((decide (x.1 ≤ x.2.2.1)), ((), ((), ((), ()))))
else
some (false, ((), ((), ((), ())))))
theorem t_s_l01In (k : Nat) (x) : evF TTab k [] [] Try.f85 (.cons (.int .i64) (.cons (.int .i64) (.cons (.int .i64) .nil))) .bool x = s_l01In k x := by kernel_rfl
theorem e_s_l01In (k : Nat) : EntryOk Try.prog ⟨85, 0, (.cons (.int .i64) (.cons (.int .i64) (.cons (.int .i64) .nil))), .bool, s_l01In k⟩ := entry_ok tok (by simp) (by kernel_rfl) (fn := Try.f85) (k := k) (es := []) (loops := []) (by kernel_rfl) (by kernel_rfl) (fun x r h => (t_s_l01In k x).trans h)
def w_toIntS (k : Nat) (x : List (Int) × Unit) : Option (List (Int) × Unit × Unit) :=
(if (List.length x.1 : Int) = (List.length x.1 : Int) then
(if 0 ≤ (List.length x.1 : Int) ∧ (List.length x.1 : Int) ≤ (capMax : Int) then
(whileK (fun (rec0 : (List (Int) × List (Int) × Int × Unit) → Option _) (y0 : List (Int) × List (Int) × Int × Unit) =>
(if (decide (y0.2.2.1 < (List.length y0.1 : Int))) = true then
(if 0 ≤ y0.2.2.1 ∧ y0.2.2.1 < (List.length y0.1 : Int) then
(if 0 ≤ y0.2.2.1 ∧ y0.2.2.1 < (List.length y0.2.1 : Int) then
(rec0 (y0.1, ((List.set y0.2.1 (Int.toNat y0.2.2.1) (Ty.rd (t := (.int .i64)) y0.1 y0.2.2.1)), ((wi64 (y0.2.2.1 + (1 : Int))), ()))))
else none)
else none)
else
((fun (z1 : List (Int) × Unit) =>
some (z1.1, ((), ()))) (y0.2.1, ())))) k (x.1, ((List.replicate (Int.toNat (List.length x.1 : Int)) (0 : Int)), ((0 : Int), ()))))
else none)
else none)
theorem t_w_toIntS (k : Nat) (x) : evF TTab k [] [(0, ⟨[0, 3, 4], (.cons (.il true (.int .i64)) (.cons (.own false 3 (.int .i64)) (.cons (.int .i64) .nil)))⟩, ⟨[3], (.cons (.own false 3 (.int .i64)) .nil)⟩)] Try.f14 (.cons (.il true (.int .i64)) .nil) (.own false 3 (.int .i64)) x = w_toIntS k x := by kernel_rfl
theorem e_w_toIntS (k : Nat) : EntryOk Try.prog ⟨14, 0, (.cons (.il true (.int .i64)) .nil), (.own false 3 (.int .i64)), w_toIntS k⟩ := entry_ok tok (by simp) (by kernel_rfl) (fn := Try.f14) (k := k) (es := []) (loops := [(0, ⟨[0, 3, 4], (.cons (.il true (.int .i64)) (.cons (.own false 3 (.int .i64)) (.cons (.int .i64) .nil)))⟩, ⟨[3], (.cons (.own false 3 (.int .i64)) .nil)⟩)]) (by kernel_rfl) (by kernel_rfl) (fun x r h => (t_w_toIntS k x).trans h)
def i_within (k : Nat) (x : Int × Int × Int × Unit) : Option (Bool × Unit × Unit × Unit × Unit) :=
(if (decide (x.2.1 ≤ x.1)) = true then
some ((decide (x.1 ≤ x.2.2.1)), ((), ((), ((), ()))))
else
some (false, ((), ((), ((), ())))))
theorem t_i_within (k : Nat) (x) : evF TTab k [] [] Try.f109 (.cons (.int .i64) (.cons (.int .i64) (.cons (.int .i64) .nil))) .bool x = i_within k x := by kernel_rfl
theorem e_i_within (k : Nat) : EntryOk Try.prog ⟨109, 0, (.cons (.int .i64) (.cons (.int .i64) (.cons (.int .i64) .nil))), .bool, i_within k⟩ := entry_ok tok (by simp) (by kernel_rfl) (fn := Try.f109) (k := k) (es := []) (loops := []) (by kernel_rfl) (by kernel_rfl) (fun x r h => (t_i_within k x).trans h)
def x_cmp_isNaN_int (k : Nat) (x : Int × Unit) : Option (Bool × Unit × Unit) :=
some ((!decide (x.1 = x.1)), ((), ()))
theorem t_x_cmp_isNaN_int (k : Nat) (x) : evF TTab k [] [] Try.f208 (.cons (.int .i64) .nil) .bool x = x_cmp_isNaN_int k x := by kernel_rfl
theorem e_x_cmp_isNaN_int (k : Nat) : EntryOk Try.prog ⟨208, 0, (.cons (.int .i64) .nil), .bool, x_cmp_isNaN_int k⟩ := entry_ok tok (by simp) (by kernel_rfl) (fn := Try.f208) (k := k) (es := []) (loops := []) (by kernel_rfl) (by kernel_rfl) (fun x r h => (t_x_cmp_isNaN_int k x).trans h)
def w_eqIntS (k : Nat) (x : List (Int) × List (Int) × Unit) : Option (Bool × Unit × Unit × Unit) :=
(if (!decide ((List.length x.1 : Int) = (List.length x.2.1 : Int))) = true then
some (false, ((), ((), ())))
else
(whileK (fun (rec0 : (List (Int) × List (Int) × Int × Unit) → Option _) (y0 : List (Int) × List (Int) × Int × Unit) =>
(if (decide (y0.2.2.1 < (List.length y0.1 : Int))) = true then
(if 0 ≤ y0.2.2.1 ∧ y0.2.2.1 < (List.length y0.1 : Int) then
(if 0 ≤ y0.2.2.1 ∧ y0.2.2.1 < (List.length y0.2.1 : Int) then
(if (!decide ((Ty.rd (t := (.int .i64)) y0.1 y0.2.2.1) = (Ty.rd (t := (.int .i64)) y0.2.1 y0.2.2.1))) = true then
some (false, ((), ((), ())))
else
(rec0 (y0.1, (y0.2.1, ((wi64 (y0.2.2.1 + (1 : Int))), ())))))
else none)
else none)
else
((fun (z1 : Unit) =>
some (true, ((), ((), ())))) ()))) k (x.1, (x.2.1, ((0 : Int), ())))))
theorem t_w_eqIntS (k : Nat) (x) : evF TTab k [] [(0, ⟨[0, 1, 5], (.cons (.il true (.int .i64)) (.cons (.il true (.int .i64)) (.cons (.int .i64) .nil)))⟩, ⟨[], .nil⟩)] Try.f16 (.cons (.il true (.int .i64)) (.cons (.il true (.int .i64)) .nil)) .bool x = w_eqIntS k x := by kernel_rfl
theorem e_w_eqIntS (k : Nat) : EntryOk Try.prog ⟨16, 0, (.cons (.il true (.int .i64)) (.cons (.il true (.int .i64)) .nil)), .bool, w_eqIntS k⟩ := entry_ok tok (by simp) (by kernel_rfl) (fn := Try.f16) (k := k) (es := []) (loops := [(0, ⟨[0, 1, 5], (.cons (.il true (.int .i64)) (.cons (.il true (.int .i64)) (.cons (.int .i64) .nil)))⟩, ⟨[], .nil⟩)]) (by kernel_rfl) (by kernel_rfl) (fun x r h => (t_w_eqIntS k x).trans h)
def w_eqSlot (k : Nat) (x : (Int × ByteArray × ByteArray × Int × List (Int) × Int × Unit) × (Int × ByteArray × ByteArray × Int × List (Int) × Int × Unit) × Unit) : Option (Bool × Unit × Unit × Unit) :=
(if (!decide (x.1.1 = x.2.1.1)) = true then
some (false, ((), ((), ())))
else
(if (!decide (x.1.2.1 = x.2.1.2.1)) = true then
some (false, ((), ((), ())))
else
(if (!decide (x.1.2.2.1 = x.2.1.2.2.1)) = true then
some (false, ((), ((), ())))
else
(if (!decide (x.1.2.2.2.1 = x.2.1.2.2.2.1)) = true then
some (false, ((), ((), ())))
else
((w_eqIntS k (x.1.2.2.2.2.1, (x.2.1.2.2.2.2.1, ()))).bind fun p1 =>
(if (!p1.1) = true then
some (false, ((), ((), ())))
else
(if (!decide (x.1.2.2.2.2.2.1 = x.2.1.2.2.2.2.2.1)) = true then
some (false, ((), ((), ())))
else
some (true, ((), ((), ()))))))))))
theorem t_w_eqSlot (k : Nat) (x) : evF TTab k [⟨16, 0, (.cons (.il true (.int .i64)) (.cons (.il true (.int .i64)) .nil)), .bool, w_eqIntS k⟩] [] Try.f64 (.cons (.agg (.cons (.int .i64) (.cons .str (.cons .str (.cons (.int .i64) (.cons (.il true (.int .i64)) (.cons (.int .i64) .nil))))))) (.cons (.agg (.cons (.int .i64) (.cons .str (.cons .str (.cons (.int .i64) (.cons (.il true (.int .i64)) (.cons (.int .i64) .nil))))))) .nil)) .bool x = w_eqSlot k x := by kernel_rfl
theorem e_w_eqSlot (k : Nat) : EntryOk Try.prog ⟨64, 0, (.cons (.agg (.cons (.int .i64) (.cons .str (.cons .str (.cons (.int .i64) (.cons (.il true (.int .i64)) (.cons (.int .i64) .nil))))))) (.cons (.agg (.cons (.int .i64) (.cons .str (.cons .str (.cons (.int .i64) (.cons (.il true (.int .i64)) (.cons (.int .i64) .nil))))))) .nil)), .bool, w_eqSlot k⟩ := entry_ok tok (by intro e he; simp only [List.mem_cons, List.not_mem_nil, or_false] at he; rcases he with rfl <;> first | exact e_w_eqIntS k) (by kernel_rfl) (fn := Try.f64) (k := k) (es := [⟨16, 0, (.cons (.il true (.int .i64)) (.cons (.il true (.int .i64)) .nil)), .bool, w_eqIntS k⟩]) (loops := []) (by kernel_rfl) (by kernel_rfl) (fun x r h => (t_w_eqSlot k x).trans h)
def w_eqSlots (k : Nat) (x : (Int × ByteArray × ByteArray × Int × List (Int) × Int × Int × ByteArray × ByteArray × Int × List (Int) × Int × Unit) × (Int × ByteArray × ByteArray × Int × List (Int) × Int × Int × ByteArray × ByteArray × Int × List (Int) × Int × Unit) × Unit) : Option (Bool × Unit × Unit × Unit) :=
((w_eqSlot k ((x.1.1, (x.1.2.1, (x.1.2.2.1, (x.1.2.2.2.1, (x.1.2.2.2.2.1, (x.1.2.2.2.2.2.1, ())))))), ((x.2.1.1, (x.2.1.2.1, (x.2.1.2.2.1, (x.2.1.2.2.2.1, (x.2.1.2.2.2.2.1, (x.2.1.2.2.2.2.2.1, ())))))), ()))).bind fun p1 =>
(if (!p1.1) = true then
some (false, ((), ((), ())))
else
((w_eqSlot k ((x.1.2.2.2.2.2.2.1, (x.1.2.2.2.2.2.2.2.1, (x.1.2.2.2.2.2.2.2.2.1, (x.1.2.2.2.2.2.2.2.2.2.1, (x.1.2.2.2.2.2.2.2.2.2.2.1, (x.1.2.2.2.2.2.2.2.2.2.2.2.1, ())))))), ((x.2.1.2.2.2.2.2.2.1, (x.2.1.2.2.2.2.2.2.2.1, (x.2.1.2.2.2.2.2.2.2.2.1, (x.2.1.2.2.2.2.2.2.2.2.2.1, (x.2.1.2.2.2.2.2.2.2.2.2.2.1, (x.2.1.2.2.2.2.2.2.2.2.2.2.2.1, ())))))), ()))).bind fun p2 =>
(if (!p2.1) = true then
some (false, ((), ((), ())))
else
some (true, ((), ((), ())))))))
theorem t_w_eqSlots (k : Nat) (x) : evF TTab k [⟨64, 0, (.cons (.agg (.cons (.int .i64) (.cons .str (.cons .str (.cons (.int .i64) (.cons (.il true (.int .i64)) (.cons (.int .i64) .nil))))))) (.cons (.agg (.cons (.int .i64) (.cons .str (.cons .str (.cons (.int .i64) (.cons (.il true (.int .i64)) (.cons (.int .i64) .nil))))))) .nil)), .bool, w_eqSlot k⟩] [] Try.f23 (.cons (.agg (.cons (.int .i64) (.cons .str (.cons .str (.cons (.int .i64) (.cons (.il true (.int .i64)) (.cons (.int .i64) (.cons (.int .i64) (.cons .str (.cons .str (.cons (.int .i64) (.cons (.il true (.int .i64)) (.cons (.int .i64) .nil))))))))))))) (.cons (.agg (.cons (.int .i64) (.cons .str (.cons .str (.cons (.int .i64) (.cons (.il true (.int .i64)) (.cons (.int .i64) (.cons (.int .i64) (.cons .str (.cons .str (.cons (.int .i64) (.cons (.il true (.int .i64)) (.cons (.int .i64) .nil))))))))))))) .nil)) .bool x = w_eqSlots k x := by kernel_rfl
theorem e_w_eqSlots (k : Nat) : EntryOk Try.prog ⟨23, 0, (.cons (.agg (.cons (.int .i64) (.cons .str (.cons .str (.cons (.int .i64) (.cons (.il true (.int .i64)) (.cons (.int .i64) (.cons (.int .i64) (.cons .str (.cons .str (.cons (.int .i64) (.cons (.il true (.int .i64)) (.cons (.int .i64) .nil))))))))))))) (.cons (.agg (.cons (.int .i64) (.cons .str (.cons .str (.cons (.int .i64) (.cons (.il true (.int .i64)) (.cons (.int .i64) (.cons (.int .i64) (.cons .str (.cons .str (.cons (.int .i64) (.cons (.il true (.int .i64)) (.cons (.int .i64) .nil))))))))))))) .nil)), .bool, w_eqSlots k⟩ := entry_ok tok (by intro e he; simp only [List.mem_cons, List.not_mem_nil, or_false] at he; rcases he with rfl <;> first | exact e_w_eqSlot k) (by kernel_rfl) (fn := Try.f23) (k := k) (es := [⟨64, 0, (.cons (.agg (.cons (.int .i64) (.cons .str (.cons .str (.cons (.int .i64) (.cons (.il true (.int .i64)) (.cons (.int .i64) .nil))))))) (.cons (.agg (.cons (.int .i64) (.cons .str (.cons .str (.cons (.int .i64) (.cons (.il true (.int .i64)) (.cons (.int .i64) .nil))))))) .nil)), .bool, w_eqSlot k⟩]) (loops := []) (by kernel_rfl) (by kernel_rfl) (fun x r h => (t_w_eqSlots k x).trans h)
def w_szIntS (k : Nat) (x : List (Int) × Int × Unit) : Option (Int × Unit × Unit × Unit) :=
(if (decide ((wi64 (x.2.1 - (List.length x.1 : Int))) < (0 : Int))) = true then
some ((-1 : Int), ((), ((), ())))
else
some ((wi64 (x.2.1 - (List.length x.1 : Int))), ((), ((), ()))))
theorem t_w_szIntS (k : Nat) (x) : evF TTab k [] [] Try.f92 (.cons (.il true (.int .i64)) (.cons (.int .i64) .nil)) (.int .i64) x = w_szIntS k x := by kernel_rfl
theorem e_w_szIntS (k : Nat) : EntryOk Try.prog ⟨92, 0, (.cons (.il true (.int .i64)) (.cons (.int .i64) .nil)), (.int .i64), w_szIntS k⟩ := entry_ok tok (by simp) (by kernel_rfl) (fn := Try.f92) (k := k) (es := []) (loops := []) (by kernel_rfl) (by kernel_rfl) (fun x r h => (t_w_szIntS k x).trans h)
def w_szSlot (k : Nat) (x : (Int × ByteArray × ByteArray × Int × List (Int) × Int × Unit) × Int × Unit) : Option (Int × Unit × Unit × Unit) :=
(if (decide ((wi64 (x.2.1 - (ByteArray.size x.1.2.1 : Int))) < (0 : Int))) = true then
some ((-1 : Int), ((), ((), ())))
else
(if (decide ((wi64 ((wi64 (x.2.1 - (ByteArray.size x.1.2.1 : Int))) - (ByteArray.size x.1.2.2.1 : Int))) < (0 : Int))) = true then
some ((-1 : Int), ((), ((), ())))
else
((w_szIntS k (x.1.2.2.2.2.1, ((wi64 ((wi64 (x.2.1 - (ByteArray.size x.1.2.1 : Int))) - (ByteArray.size x.1.2.2.1 : Int))), ()))).bind fun p1 =>
(if (decide (p1.1 < (0 : Int))) = true then
some ((-1 : Int), ((), ((), ())))
else
some (p1.1, ((), ((), ())))))))
theorem t_w_szSlot (k : Nat) (x) : evF TTab k [⟨92, 0, (.cons (.il true (.int .i64)) (.cons (.int .i64) .nil)), (.int .i64), w_szIntS k⟩] [] Try.f67 (.cons (.agg (.cons (.int .i64) (.cons .str (.cons .str (.cons (.int .i64) (.cons (.il true (.int .i64)) (.cons (.int .i64) .nil))))))) (.cons (.int .i64) .nil)) (.int .i64) x = w_szSlot k x := by kernel_rfl
theorem e_w_szSlot (k : Nat) : EntryOk Try.prog ⟨67, 0, (.cons (.agg (.cons (.int .i64) (.cons .str (.cons .str (.cons (.int .i64) (.cons (.il true (.int .i64)) (.cons (.int .i64) .nil))))))) (.cons (.int .i64) .nil)), (.int .i64), w_szSlot k⟩ := entry_ok tok (by intro e he; simp only [List.mem_cons, List.not_mem_nil, or_false] at he; rcases he with rfl <;> first | exact e_w_szIntS k) (by kernel_rfl) (fn := Try.f67) (k := k) (es := [⟨92, 0, (.cons (.il true (.int .i64)) (.cons (.int .i64) .nil)), (.int .i64), w_szIntS k⟩]) (loops := []) (by kernel_rfl) (by kernel_rfl) (fun x r h => (t_w_szSlot k x).trans h)
def w_szSlots (k : Nat) (x : (Int × ByteArray × ByteArray × Int × List (Int) × Int × Int × ByteArray × ByteArray × Int × List (Int) × Int × Unit) × Int × Unit) : Option (Int × Unit × Unit × Unit) :=
((w_szSlot k ((x.1.1, (x.1.2.1, (x.1.2.2.1, (x.1.2.2.2.1, (x.1.2.2.2.2.1, (x.1.2.2.2.2.2.1, ())))))), (x.2.1, ()))).bind fun p1 =>
(if (decide (p1.1 < (0 : Int))) = true then
some ((-1 : Int), ((), ((), ())))
else
((w_szSlot k ((x.1.2.2.2.2.2.2.1, (x.1.2.2.2.2.2.2.2.1, (x.1.2.2.2.2.2.2.2.2.1, (x.1.2.2.2.2.2.2.2.2.2.1, (x.1.2.2.2.2.2.2.2.2.2.2.1, (x.1.2.2.2.2.2.2.2.2.2.2.2.1, ())))))), (p1.1, ()))).bind fun p2 =>
(if (decide (p2.1 < (0 : Int))) = true then
some ((-1 : Int), ((), ((), ())))
else
some (p2.1, ((), ((), ())))))))
theorem t_w_szSlots (k : Nat) (x) : evF TTab k [⟨67, 0, (.cons (.agg (.cons (.int .i64) (.cons .str (.cons .str (.cons (.int .i64) (.cons (.il true (.int .i64)) (.cons (.int .i64) .nil))))))) (.cons (.int .i64) .nil)), (.int .i64), w_szSlot k⟩] [] Try.f26 (.cons (.agg (.cons (.int .i64) (.cons .str (.cons .str (.cons (.int .i64) (.cons (.il true (.int .i64)) (.cons (.int .i64) (.cons (.int .i64) (.cons .str (.cons .str (.cons (.int .i64) (.cons (.il true (.int .i64)) (.cons (.int .i64) .nil))))))))))))) (.cons (.int .i64) .nil)) (.int .i64) x = w_szSlots k x := by kernel_rfl
theorem e_w_szSlots (k : Nat) : EntryOk Try.prog ⟨26, 0, (.cons (.agg (.cons (.int .i64) (.cons .str (.cons .str (.cons (.int .i64) (.cons (.il true (.int .i64)) (.cons (.int .i64) (.cons (.int .i64) (.cons .str (.cons .str (.cons (.int .i64) (.cons (.il true (.int .i64)) (.cons (.int .i64) .nil))))))))))))) (.cons (.int .i64) .nil)), (.int .i64), w_szSlots k⟩ := entry_ok tok (by intro e he; simp only [List.mem_cons, List.not_mem_nil, or_false] at he; rcases he with rfl <;> first | exact e_w_szSlot k) (by kernel_rfl) (fn := Try.f26) (k := k) (es := [⟨67, 0, (.cons (.agg (.cons (.int .i64) (.cons .str (.cons .str (.cons (.int .i64) (.cons (.il true (.int .i64)) (.cons (.int .i64) .nil))))))) (.cons (.int .i64) .nil)), (.int .i64), w_szSlot k⟩]) (loops := []) (by kernel_rfl) (by kernel_rfl) (fun x r h => (t_w_szSlots k x).trans h)
def w_toSlot (k : Nat) (x : (Int × ByteArray × ByteArray × Int × List (Int) × Int × Unit) × Unit) : Option ((Int × ByteArray × ByteArray × Int × List (Int) × Int × Unit) × Unit × Unit) :=
((w_toIntS k (x.1.2.2.2.2.1, ())).bind fun p1 =>
some ((x.1.1, (x.1.2.1, (x.1.2.2.1, (x.1.2.2.2.1, (p1.1, (x.1.2.2.2.2.2.1, ())))))), ((), ())))
theorem t_w_toSlot (k : Nat) (x) : evF TTab k [⟨14, 0, (.cons (.il true (.int .i64)) .nil), (.own false 3 (.int .i64)), w_toIntS k⟩] [] Try.f69 (.cons (.agg (.cons (.int .i64) (.cons .str (.cons .str (.cons (.int .i64) (.cons (.il true (.int .i64)) (.cons (.int .i64) .nil))))))) .nil) (.agg (.cons (.int .i64) (.cons .str (.cons .str (.cons (.int .i64) (.cons (.own false 3 (.int .i64)) (.cons (.int .i64) .nil))))))) x = w_toSlot k x := by kernel_rfl
theorem e_w_toSlot (k : Nat) : EntryOk Try.prog ⟨69, 0, (.cons (.agg (.cons (.int .i64) (.cons .str (.cons .str (.cons (.int .i64) (.cons (.il true (.int .i64)) (.cons (.int .i64) .nil))))))) .nil), (.agg (.cons (.int .i64) (.cons .str (.cons .str (.cons (.int .i64) (.cons (.own false 3 (.int .i64)) (.cons (.int .i64) .nil))))))), w_toSlot k⟩ := entry_ok tok (by intro e he; simp only [List.mem_cons, List.not_mem_nil, or_false] at he; rcases he with rfl <;> first | exact e_w_toIntS k) (by kernel_rfl) (fn := Try.f69) (k := k) (es := [⟨14, 0, (.cons (.il true (.int .i64)) .nil), (.own false 3 (.int .i64)), w_toIntS k⟩]) (loops := []) (by kernel_rfl) (by kernel_rfl) (fun x r h => (t_w_toSlot k x).trans h)
def w_toSlots (k : Nat) (x : (Int × ByteArray × ByteArray × Int × List (Int) × Int × Int × ByteArray × ByteArray × Int × List (Int) × Int × Unit) × Unit) : Option ((Int × ByteArray × ByteArray × Int × List (Int) × Int × Int × ByteArray × ByteArray × Int × List (Int) × Int × Unit) × Unit × Unit) :=
((w_toSlot k ((x.1.1, (x.1.2.1, (x.1.2.2.1, (x.1.2.2.2.1, (x.1.2.2.2.2.1, (x.1.2.2.2.2.2.1, ())))))), ())).bind fun p1 =>
((w_toSlot k ((x.1.2.2.2.2.2.2.1, (x.1.2.2.2.2.2.2.2.1, (x.1.2.2.2.2.2.2.2.2.1, (x.1.2.2.2.2.2.2.2.2.2.1, (x.1.2.2.2.2.2.2.2.2.2.2.1, (x.1.2.2.2.2.2.2.2.2.2.2.2.1, ())))))), ())).bind fun p2 =>
some ((p1.1.1, (p1.1.2.1, (p1.1.2.2.1, (p1.1.2.2.2.1, (p1.1.2.2.2.2.1, (p1.1.2.2.2.2.2.1, (p2.1.1, (p2.1.2.1, (p2.1.2.2.1, (p2.1.2.2.2.1, (p2.1.2.2.2.2.1, (p2.1.2.2.2.2.2.1, ())))))))))))), ((), ()))))
theorem t_w_toSlots (k : Nat) (x) : evF TTab k [⟨69, 0, (.cons (.agg (.cons (.int .i64) (.cons .str (.cons .str (.cons (.int .i64) (.cons (.il true (.int .i64)) (.cons (.int .i64) .nil))))))) .nil), (.agg (.cons (.int .i64) (.cons .str (.cons .str (.cons (.int .i64) (.cons (.own false 3 (.int .i64)) (.cons (.int .i64) .nil))))))), w_toSlot k⟩] [] Try.f28 (.cons (.agg (.cons (.int .i64) (.cons .str (.cons .str (.cons (.int .i64) (.cons (.il true (.int .i64)) (.cons (.int .i64) (.cons (.int .i64) (.cons .str (.cons .str (.cons (.int .i64) (.cons (.il true (.int .i64)) (.cons (.int .i64) .nil))))))))))))) .nil) (.agg (.cons (.int .i64) (.cons .str (.cons .str (.cons (.int .i64) (.cons (.own false 3 (.int .i64)) (.cons (.int .i64) (.cons (.int .i64) (.cons .str (.cons .str (.cons (.int .i64) (.cons (.own false 3 (.int .i64)) (.cons (.int .i64) .nil))))))))))))) x = w_toSlots k x := by kernel_rfl
theorem e_w_toSlots (k : Nat) : EntryOk Try.prog ⟨28, 0, (.cons (.agg (.cons (.int .i64) (.cons .str (.cons .str (.cons (.int .i64) (.cons (.il true (.int .i64)) (.cons (.int .i64) (.cons (.int .i64) (.cons .str (.cons .str (.cons (.int .i64) (.cons (.il true (.int .i64)) (.cons (.int .i64) .nil))))))))))))) .nil), (.agg (.cons (.int .i64) (.cons .str (.cons .str (.cons (.int .i64) (.cons (.own false 3 (.int .i64)) (.cons (.int .i64) (.cons (.int .i64) (.cons .str (.cons .str (.cons (.int .i64) (.cons (.own false 3 (.int .i64)) (.cons (.int .i64) .nil))))))))))))), w_toSlots k⟩ := entry_ok tok (by intro e he; simp only [List.mem_cons, List.not_mem_nil, or_false] at he; rcases he with rfl <;> first | exact e_w_toSlot k) (by kernel_rfl) (fn := Try.f28) (k := k) (es := [⟨69, 0, (.cons (.agg (.cons (.int .i64) (.cons .str (.cons .str (.cons (.int .i64) (.cons (.il true (.int .i64)) (.cons (.int .i64) .nil))))))) .nil), (.agg (.cons (.int .i64) (.cons .str (.cons .str (.cons (.int .i64) (.cons (.own false 3 (.int .i64)) (.cons (.int .i64) .nil))))))), w_toSlot k⟩]) (loops := []) (by kernel_rfl) (by kernel_rfl) (fun x r h => (t_w_toSlots k x).trans h)
def w_szLeaseS (k : Nat) (x : (List (Int × Int × Int)) × Int × Unit) : Option (Int × Unit × Unit × Unit) :=
(if (decide ((wi64 (x.2.1 - (List.length x.1 : Int))) < (0 : Int))) = true then
some ((-1 : Int), ((), ((), ())))
else
some ((wi64 (x.2.1 - (List.length x.1 : Int))), ((), ((), ()))))
theorem t_w_szLeaseS (k : Nat) (x) : evF TTab k [] [] Try.f121 (.cons (.il true (.pair (.int .i64) (.pair (.int .i64) (.int .i64)))) (.cons (.int .i64) .nil)) (.int .i64) x = w_szLeaseS k x := by kernel_rfl
theorem e_w_szLeaseS (k : Nat) : EntryOk Try.prog ⟨121, 0, (.cons (.il true (.pair (.int .i64) (.pair (.int .i64) (.int .i64)))) (.cons (.int .i64) .nil)), (.int .i64), w_szLeaseS k⟩ := entry_ok tok (by simp) (by kernel_rfl) (fn := Try.f121) (k := k) (es := []) (loops := []) (by kernel_rfl) (by kernel_rfl) (fun x r h => (t_w_szLeaseS k x).trans h)
def w_szFixedS (k : Nat) (x : (List (Int × Int)) × Int × Unit) : Option (Int × Unit × Unit × Unit) :=
(if (decide ((wi64 (x.2.1 - (List.length x.1 : Int))) < (0 : Int))) = true then
some ((-1 : Int), ((), ((), ())))
else
some ((wi64 (x.2.1 - (List.length x.1 : Int))), ((), ((), ()))))
theorem t_w_szFixedS (k : Nat) (x) : evF TTab k [] [] Try.f122 (.cons (.il true (.pair (.int .i64) (.int .i64))) (.cons (.int .i64) .nil)) (.int .i64) x = w_szFixedS k x := by kernel_rfl
theorem e_w_szFixedS (k : Nat) : EntryOk Try.prog ⟨122, 0, (.cons (.il true (.pair (.int .i64) (.int .i64))) (.cons (.int .i64) .nil)), (.int .i64), w_szFixedS k⟩ := entry_ok tok (by simp) (by kernel_rfl) (fn := Try.f122) (k := k) (es := []) (loops := []) (by kernel_rfl) (by kernel_rfl) (fun x r h => (t_w_szFixedS k x).trans h)
def w_szPool (k : Nat) (x : (Int × Int × (List (Int × Int × Int)) × (List (Int × Int)) × Unit) × Int × Unit) : Option (Int × Unit × Unit × Unit) :=
((w_szLeaseS k (x.1.2.2.1, (x.2.1, ()))).bind fun p1 =>
(if (decide (p1.1 < (0 : Int))) = true then
some ((-1 : Int), ((), ((), ())))
else
((w_szFixedS k (x.1.2.2.2.1, (p1.1, ()))).bind fun p2 =>
(if (decide (p2.1 < (0 : Int))) = true then
some ((-1 : Int), ((), ((), ())))
else
some (p2.1, ((), ((), ())))))))
theorem t_w_szPool (k : Nat) (x) : evF TTab k [⟨121, 0, (.cons (.il true (.pair (.int .i64) (.pair (.int .i64) (.int .i64)))) (.cons (.int .i64) .nil)), (.int .i64), w_szLeaseS k⟩, ⟨122, 0, (.cons (.il true (.pair (.int .i64) (.int .i64))) (.cons (.int .i64) .nil)), (.int .i64), w_szFixedS k⟩] [] Try.f71 (.cons (.agg (.cons (.int .i64) (.cons (.int .i64) (.cons (.il true (.pair (.int .i64) (.pair (.int .i64) (.int .i64)))) (.cons (.il true (.pair (.int .i64) (.int .i64))) .nil))))) (.cons (.int .i64) .nil)) (.int .i64) x = w_szPool k x := by kernel_rfl
theorem e_w_szPool (k : Nat) : EntryOk Try.prog ⟨71, 0, (.cons (.agg (.cons (.int .i64) (.cons (.int .i64) (.cons (.il true (.pair (.int .i64) (.pair (.int .i64) (.int .i64)))) (.cons (.il true (.pair (.int .i64) (.int .i64))) .nil))))) (.cons (.int .i64) .nil)), (.int .i64), w_szPool k⟩ := entry_ok tok (by intro e he; simp only [List.mem_cons, List.not_mem_nil, or_false] at he; rcases he with rfl | rfl <;> first | exact e_w_szLeaseS k | exact e_w_szFixedS k) (by kernel_rfl) (fn := Try.f71) (k := k) (es := [⟨121, 0, (.cons (.il true (.pair (.int .i64) (.pair (.int .i64) (.int .i64)))) (.cons (.int .i64) .nil)), (.int .i64), w_szLeaseS k⟩, ⟨122, 0, (.cons (.il true (.pair (.int .i64) (.int .i64))) (.cons (.int .i64) .nil)), (.int .i64), w_szFixedS k⟩]) (loops := []) (by kernel_rfl) (by kernel_rfl) (fun x r h => (t_w_szPool k x).trans h)
def w_szRouteS (k : Nat) (x : (List ((Int × Int) × Int)) × Int × Unit) : Option (Int × Unit × Unit × Unit) :=
(if (decide ((wi64 (x.2.1 - (List.length x.1 : Int))) < (0 : Int))) = true then
some ((-1 : Int), ((), ((), ())))
else
some ((wi64 (x.2.1 - (List.length x.1 : Int))), ((), ((), ()))))
theorem t_w_szRouteS (k : Nat) (x) : evF TTab k [] [] Try.f72 (.cons (.il true (.pair (.pair (.int .i64) (.int .i64)) (.int .i64))) (.cons (.int .i64) .nil)) (.int .i64) x = w_szRouteS k x := by kernel_rfl
theorem e_w_szRouteS (k : Nat) : EntryOk Try.prog ⟨72, 0, (.cons (.il true (.pair (.pair (.int .i64) (.int .i64)) (.int .i64))) (.cons (.int .i64) .nil)), (.int .i64), w_szRouteS k⟩ := entry_ok tok (by simp) (by kernel_rfl) (fn := Try.f72) (k := k) (es := []) (loops := []) (by kernel_rfl) (by kernel_rfl) (fun x r h => (t_w_szRouteS k x).trans h)
def w_szStringS (k : Nat) (x : List (ByteArray) × Int × Unit) : Option (Int × Unit × Unit × Unit) :=
(if (decide ((wi64 (x.2.1 - (List.length x.1 : Int))) < (0 : Int))) = true then
some ((-1 : Int), ((), ((), ())))
else
(whileK (fun (rec0 : (List (ByteArray) × Int × Int × Unit) → Option _) (y0 : List (ByteArray) × Int × Int × Unit) =>
(if (decide (y0.2.2.1 < (List.length y0.1 : Int))) = true then
(if 0 ≤ y0.2.2.1 ∧ y0.2.2.1 < (List.length y0.1 : Int) then
(if (decide ((wi64 (y0.2.1 - (ByteArray.size (Ty.rd (t := .str) y0.1 y0.2.2.1) : Int))) < (0 : Int))) = true then
some ((-1 : Int), ((), ((), ())))
else
(rec0 (y0.1, ((wi64 (y0.2.1 - (ByteArray.size (Ty.rd (t := .str) y0.1 y0.2.2.1) : Int))), ((wi64 (y0.2.2.1 + (1 : Int))), ())))))
else none)
else
((fun (z1 : Int × Unit) =>
some (z1.1, ((), ((), ())))) (y0.2.1, ())))) k (x.1, ((wi64 (x.2.1 - (List.length x.1 : Int))), ((0 : Int), ())))))
theorem t_w_szStringS (k : Nat) (x) : evF TTab k [] [(0, ⟨[0, 1, 5], (.cons (.il true .str) (.cons (.int .i64) (.cons (.int .i64) .nil)))⟩, ⟨[1], (.cons (.int .i64) .nil)⟩)] Try.f242 (.cons (.il true .str) (.cons (.int .i64) .nil)) (.int .i64) x = w_szStringS k x := by kernel_rfl
theorem e_w_szStringS (k : Nat) : EntryOk Try.prog ⟨242, 0, (.cons (.il true .str) (.cons (.int .i64) .nil)), (.int .i64), w_szStringS k⟩ := entry_ok tok (by simp) (by kernel_rfl) (fn := Try.f242) (k := k) (es := []) (loops := [(0, ⟨[0, 1, 5], (.cons (.il true .str) (.cons (.int .i64) (.cons (.int .i64) .nil)))⟩, ⟨[1], (.cons (.int .i64) .nil)⟩)]) (by kernel_rfl) (by kernel_rfl) (fun x r h => (t_w_szStringS k x).trans h)
def w_szBoolS (k : Nat) (x : List (Bool) × Int × Unit) : Option (Int × Unit × Unit × Unit) :=
(if (decide ((wi64 (x.2.1 - (List.length x.1 : Int))) < (0 : Int))) = true then
some ((-1 : Int), ((), ((), ())))
else
some ((wi64 (x.2.1 - (List.length x.1 : Int))), ((), ((), ()))))
theorem t_w_szBoolS (k : Nat) (x) : evF TTab k [] [] Try.f243 (.cons (.il true .bool) (.cons (.int .i64) .nil)) (.int .i64) x = w_szBoolS k x := by kernel_rfl
theorem e_w_szBoolS (k : Nat) : EntryOk Try.prog ⟨243, 0, (.cons (.il true .bool) (.cons (.int .i64) .nil)), (.int .i64), w_szBoolS k⟩ := entry_ok tok (by simp) (by kernel_rfl) (fn := Try.f243) (k := k) (es := []) (loops := []) (by kernel_rfl) (by kernel_rfl) (fun x r h => (t_w_szBoolS k x).trans h)
def w_szHeld (k : Nat) (x : (Int × Int × Int × List (ByteArray) × List (Bool) × Int × Unit) × Int × Unit) : Option (Int × Unit × Unit × Unit) :=
((w_szStringS k (x.1.2.2.2.1, (x.2.1, ()))).bind fun p1 =>
(if (decide (p1.1 < (0 : Int))) = true then
some ((-1 : Int), ((), ((), ())))
else
((w_szBoolS k (x.1.2.2.2.2.1, (p1.1, ()))).bind fun p2 =>
(if (decide (p2.1 < (0 : Int))) = true then
some ((-1 : Int), ((), ((), ())))
else
some (p2.1, ((), ((), ())))))))
theorem t_w_szHeld (k : Nat) (x) : evF TTab k [⟨242, 0, (.cons (.il true .str) (.cons (.int .i64) .nil)), (.int .i64), w_szStringS k⟩, ⟨243, 0, (.cons (.il true .bool) (.cons (.int .i64) .nil)), (.int .i64), w_szBoolS k⟩] [] Try.f237 (.cons (.agg (.cons (.int .i64) (.cons (.int .i64) (.cons (.int .i64) (.cons (.il true .str) (.cons (.il true .bool) (.cons (.int .i64) .nil))))))) (.cons (.int .i64) .nil)) (.int .i64) x = w_szHeld k x := by kernel_rfl
theorem e_w_szHeld (k : Nat) : EntryOk Try.prog ⟨237, 0, (.cons (.agg (.cons (.int .i64) (.cons (.int .i64) (.cons (.int .i64) (.cons (.il true .str) (.cons (.il true .bool) (.cons (.int .i64) .nil))))))) (.cons (.int .i64) .nil)), (.int .i64), w_szHeld k⟩ := entry_ok tok (by intro e he; simp only [List.mem_cons, List.not_mem_nil, or_false] at he; rcases he with rfl | rfl <;> first | exact e_w_szStringS k | exact e_w_szBoolS k) (by kernel_rfl) (fn := Try.f237) (k := k) (es := [⟨242, 0, (.cons (.il true .str) (.cons (.int .i64) .nil)), (.int .i64), w_szStringS k⟩, ⟨243, 0, (.cons (.il true .bool) (.cons (.int .i64) .nil)), (.int .i64), w_szBoolS k⟩]) (loops := []) (by kernel_rfl) (by kernel_rfl) (fun x r h => (t_w_szHeld k x).trans h)
def w_szHeldS (k : Nat) (x : (List (Int × Int × Int × List (ByteArray) × List (Bool) × Int)) × Int × Unit) : Option (Int × Unit × Unit × Unit) :=
(if (decide ((wi64 (x.2.1 - (List.length x.1 : Int))) < (0 : Int))) = true then
some ((-1 : Int), ((), ((), ())))
else
(whileK (fun (rec0 : ((List (Int × Int × Int × List (ByteArray) × List (Bool) × Int)) × Int × Int × Unit) → Option _) (y0 : (List (Int × Int × Int × List (ByteArray) × List (Bool) × Int)) × Int × Int × Unit) =>
(if (decide (y0.2.2.1 < (List.length y0.1 : Int))) = true then
(if 0 ≤ y0.2.2.1 ∧ y0.2.2.1 < (List.length y0.1 : Int) then
((w_szHeld k (((Ty.rd (t := (.pair (.int .i64) (.pair (.int .i64) (.pair (.int .i64) (.pair (.list .str) (.pair (.list .bool) (.int .i64))))))) y0.1 y0.2.2.1).1, ((Ty.rd (t := (.pair (.int .i64) (.pair (.int .i64) (.pair (.int .i64) (.pair (.list .str) (.pair (.list .bool) (.int .i64))))))) y0.1 y0.2.2.1).2.1, ((Ty.rd (t := (.pair (.int .i64) (.pair (.int .i64) (.pair (.int .i64) (.pair (.list .str) (.pair (.list .bool) (.int .i64))))))) y0.1 y0.2.2.1).2.2.1, ((Ty.rd (t := (.pair (.int .i64) (.pair (.int .i64) (.pair (.int .i64) (.pair (.list .str) (.pair (.list .bool) (.int .i64))))))) y0.1 y0.2.2.1).2.2.2.1, ((Ty.rd (t := (.pair (.int .i64) (.pair (.int .i64) (.pair (.int .i64) (.pair (.list .str) (.pair (.list .bool) (.int .i64))))))) y0.1 y0.2.2.1).2.2.2.2.1, ((Ty.rd (t := (.pair (.int .i64) (.pair (.int .i64) (.pair (.int .i64) (.pair (.list .str) (.pair (.list .bool) (.int .i64))))))) y0.1 y0.2.2.1).2.2.2.2.2, ())))))), (y0.2.1, ()))).bind fun p1 =>
(if (decide (p1.1 < (0 : Int))) = true then
some ((-1 : Int), ((), ((), ())))
else
(rec0 (y0.1, (p1.1, ((wi64 (y0.2.2.1 + (1 : Int))), ()))))))
else none)
else
((fun (z1 : Int × Unit) =>
some (z1.1, ((), ((), ())))) (y0.2.1, ())))) k (x.1, ((wi64 (x.2.1 - (List.length x.1 : Int))), ((0 : Int), ())))))
theorem t_w_szHeldS (k : Nat) (x) : evF TTab k [⟨237, 0, (.cons (.agg (.cons (.int .i64) (.cons (.int .i64) (.cons (.int .i64) (.cons (.il true .str) (.cons (.il true .bool) (.cons (.int .i64) .nil))))))) (.cons (.int .i64) .nil)), (.int .i64), w_szHeld k⟩] [(0, ⟨[0, 1, 5], (.cons (.il true (.pair (.int .i64) (.pair (.int .i64) (.pair (.int .i64) (.pair (.list .str) (.pair (.list .bool) (.int .i64))))))) (.cons (.int .i64) (.cons (.int .i64) .nil)))⟩, ⟨[1], (.cons (.int .i64) .nil)⟩)] Try.f221 (.cons (.il true (.pair (.int .i64) (.pair (.int .i64) (.pair (.int .i64) (.pair (.list .str) (.pair (.list .bool) (.int .i64))))))) (.cons (.int .i64) .nil)) (.int .i64) x = w_szHeldS k x := by kernel_rfl
theorem e_w_szHeldS (k : Nat) : EntryOk Try.prog ⟨221, 0, (.cons (.il true (.pair (.int .i64) (.pair (.int .i64) (.pair (.int .i64) (.pair (.list .str) (.pair (.list .bool) (.int .i64))))))) (.cons (.int .i64) .nil)), (.int .i64), w_szHeldS k⟩ := entry_ok tok (by intro e he; simp only [List.mem_cons, List.not_mem_nil, or_false] at he; rcases he with rfl <;> first | exact e_w_szHeld k) (by kernel_rfl) (fn := Try.f221) (k := k) (es := [⟨237, 0, (.cons (.agg (.cons (.int .i64) (.cons (.int .i64) (.cons (.int .i64) (.cons (.il true .str) (.cons (.il true .bool) (.cons (.int .i64) .nil))))))) (.cons (.int .i64) .nil)), (.int .i64), w_szHeld k⟩]) (loops := [(0, ⟨[0, 1, 5], (.cons (.il true (.pair (.int .i64) (.pair (.int .i64) (.pair (.int .i64) (.pair (.list .str) (.pair (.list .bool) (.int .i64))))))) (.cons (.int .i64) (.cons (.int .i64) .nil)))⟩, ⟨[1], (.cons (.int .i64) .nil)⟩)]) (by kernel_rfl) (by kernel_rfl) (fun x r h => (t_w_szHeldS k x).trans h)
def w_szShelf (k : Nat) (x : ((List (Int × Int × Int × List (ByteArray) × List (Bool) × Int)) × Unit) × Int × Unit) : Option (Int × Unit × Unit × Unit) :=
((w_szHeldS k (x.1.1, (x.2.1, ()))).bind fun p1 =>
(if (decide (p1.1 < (0 : Int))) = true then
some ((-1 : Int), ((), ((), ())))
else
some (p1.1, ((), ((), ())))))
theorem t_w_szShelf (k : Nat) (x) : evF TTab k [⟨221, 0, (.cons (.il true (.pair (.int .i64) (.pair (.int .i64) (.pair (.int .i64) (.pair (.list .str) (.pair (.list .bool) (.int .i64))))))) (.cons (.int .i64) .nil)), (.int .i64), w_szHeldS k⟩] [] Try.f179 (.cons (.agg (.cons (.il true (.pair (.int .i64) (.pair (.int .i64) (.pair (.int .i64) (.pair (.list .str) (.pair (.list .bool) (.int .i64))))))) .nil)) (.cons (.int .i64) .nil)) (.int .i64) x = w_szShelf k x := by kernel_rfl
theorem e_w_szShelf (k : Nat) : EntryOk Try.prog ⟨179, 0, (.cons (.agg (.cons (.il true (.pair (.int .i64) (.pair (.int .i64) (.pair (.int .i64) (.pair (.list .str) (.pair (.list .bool) (.int .i64))))))) .nil)) (.cons (.int .i64) .nil)), (.int .i64), w_szShelf k⟩ := entry_ok tok (by intro e he; simp only [List.mem_cons, List.not_mem_nil, or_false] at he; rcases he with rfl <;> first | exact e_w_szHeldS k) (by kernel_rfl) (fn := Try.f179) (k := k) (es := [⟨221, 0, (.cons (.il true (.pair (.int .i64) (.pair (.int .i64) (.pair (.int .i64) (.pair (.list .str) (.pair (.list .bool) (.int .i64))))))) (.cons (.int .i64) .nil)), (.int .i64), w_szHeldS k⟩]) (loops := []) (by kernel_rfl) (by kernel_rfl) (fun x r h => (t_w_szShelf k x).trans h)
def w_szUser (k : Nat) (x : (Int × Int × Int × ByteArray × ByteArray × Int × List (Int) × Int × Int × ByteArray × ByteArray × Int × List (Int) × Int × (List (Int × Int × Int × List (ByteArray) × List (Bool) × Int)) × Int × Unit) × Int × Unit) : Option (Int × Unit × Unit × Unit) :=
((w_szSlots k ((x.1.2.2.1, (x.1.2.2.2.1, (x.1.2.2.2.2.1, (x.1.2.2.2.2.2.1, (x.1.2.2.2.2.2.2.1, (x.1.2.2.2.2.2.2.2.1, (x.1.2.2.2.2.2.2.2.2.1, (x.1.2.2.2.2.2.2.2.2.2.1, (x.1.2.2.2.2.2.2.2.2.2.2.1, (x.1.2.2.2.2.2.2.2.2.2.2.2.1, (x.1.2.2.2.2.2.2.2.2.2.2.2.2.1, (x.1.2.2.2.2.2.2.2.2.2.2.2.2.2.1, ())))))))))))), (x.2.1, ()))).bind fun p1 =>
(if (decide (p1.1 < (0 : Int))) = true then
some ((-1 : Int), ((), ((), ())))
else
((w_szShelf k ((x.1.2.2.2.2.2.2.2.2.2.2.2.2.2.2.1, ()), (p1.1, ()))).bind fun p2 =>
(if (decide (p2.1 < (0 : Int))) = true then
some ((-1 : Int), ((), ((), ())))
else
some (p2.1, ((), ((), ())))))))
theorem t_w_szUser (k : Nat) (x) : evF TTab k [⟨26, 0, (.cons (.agg (.cons (.int .i64) (.cons .str (.cons .str (.cons (.int .i64) (.cons (.il true (.int .i64)) (.cons (.int .i64) (.cons (.int .i64) (.cons .str (.cons .str (.cons (.int .i64) (.cons (.il true (.int .i64)) (.cons (.int .i64) .nil))))))))))))) (.cons (.int .i64) .nil)), (.int .i64), w_szSlots k⟩, ⟨179, 0, (.cons (.agg (.cons (.il true (.pair (.int .i64) (.pair (.int .i64) (.pair (.int .i64) (.pair (.list .str) (.pair (.list .bool) (.int .i64))))))) .nil)) (.cons (.int .i64) .nil)), (.int .i64), w_szShelf k⟩] [] Try.f123 (.cons (.agg (.cons (.int .i64) (.cons (.int .i64) (.cons (.int .i64) (.cons .str (.cons .str (.cons (.int .i64) (.cons (.il true (.int .i64)) (.cons (.int .i64) (.cons (.int .i64) (.cons .str (.cons .str (.cons (.int .i64) (.cons (.il true (.int .i64)) (.cons (.int .i64) (.cons (.il true (.pair (.int .i64) (.pair (.int .i64) (.pair (.int .i64) (.pair (.list .str) (.pair (.list .bool) (.int .i64))))))) (.cons (.int .i64) .nil))))))))))))))))) (.cons (.int .i64) .nil)) (.int .i64) x = w_szUser k x := by kernel_rfl
theorem e_w_szUser (k : Nat) : EntryOk Try.prog ⟨123, 0, (.cons (.agg (.cons (.int .i64) (.cons (.int .i64) (.cons (.int .i64) (.cons .str (.cons .str (.cons (.int .i64) (.cons (.il true (.int .i64)) (.cons (.int .i64) (.cons (.int .i64) (.cons .str (.cons .str (.cons (.int .i64) (.cons (.il true (.int .i64)) (.cons (.int .i64) (.cons (.il true (.pair (.int .i64) (.pair (.int .i64) (.pair (.int .i64) (.pair (.list .str) (.pair (.list .bool) (.int .i64))))))) (.cons (.int .i64) .nil))))))))))))))))) (.cons (.int .i64) .nil)), (.int .i64), w_szUser k⟩ := entry_ok tok (by intro e he; simp only [List.mem_cons, List.not_mem_nil, or_false] at he; rcases he with rfl | rfl <;> first | exact e_w_szSlots k | exact e_w_szShelf k) (by kernel_rfl) (fn := Try.f123) (k := k) (es := [⟨26, 0, (.cons (.agg (.cons (.int .i64) (.cons .str (.cons .str (.cons (.int .i64) (.cons (.il true (.int .i64)) (.cons (.int .i64) (.cons (.int .i64) (.cons .str (.cons .str (.cons (.int .i64) (.cons (.il true (.int .i64)) (.cons (.int .i64) .nil))))))))))))) (.cons (.int .i64) .nil)), (.int .i64), w_szSlots k⟩, ⟨179, 0, (.cons (.agg (.cons (.il true (.pair (.int .i64) (.pair (.int .i64) (.pair (.int .i64) (.pair (.list .str) (.pair (.list .bool) (.int .i64))))))) .nil)) (.cons (.int .i64) .nil)), (.int .i64), w_szShelf k⟩]) (loops := []) (by kernel_rfl) (by kernel_rfl) (fun x r h => (t_w_szUser k x).trans h)
def w_szUserS (k : Nat) (x : (List (Int × Int × ((Int × ByteArray × ByteArray × Int × List (Int) × Int) × Int × ByteArray × ByteArray × Int × List (Int) × Int) × List (Int × Int × Int × List (ByteArray) × List (Bool) × Int) × Int)) × Int × Unit) : Option (Int × Unit × Unit × Unit) :=
(if (decide ((wi64 (x.2.1 - (List.length x.1 : Int))) < (0 : Int))) = true then
some ((-1 : Int), ((), ((), ())))
else
(whileK (fun (rec0 : ((List (Int × Int × ((Int × ByteArray × ByteArray × Int × List (Int) × Int) × Int × ByteArray × ByteArray × Int × List (Int) × Int) × List (Int × Int × Int × List (ByteArray) × List (Bool) × Int) × Int)) × Int × Int × Unit) → Option _) (y0 : (List (Int × Int × ((Int × ByteArray × ByteArray × Int × List (Int) × Int) × Int × ByteArray × ByteArray × Int × List (Int) × Int) × List (Int × Int × Int × List (ByteArray) × List (Bool) × Int) × Int)) × Int × Int × Unit) =>
(if (decide (y0.2.2.1 < (List.length y0.1 : Int))) = true then
(if 0 ≤ y0.2.2.1 ∧ y0.2.2.1 < (List.length y0.1 : Int) then
((w_szUser k (((Ty.rd (t := (.pair (.int .i64) (.pair (.int .i64) (.pair (.pair (.pair (.int .i64) (.pair .str (.pair .str (.pair (.int .i64) (.pair (.list (.int .i64)) (.int .i64)))))) (.pair (.int .i64) (.pair .str (.pair .str (.pair (.int .i64) (.pair (.list (.int .i64)) (.int .i64))))))) (.pair (.list (.pair (.int .i64) (.pair (.int .i64) (.pair (.int .i64) (.pair (.list .str) (.pair (.list .bool) (.int .i64))))))) (.int .i64)))))) y0.1 y0.2.2.1).1, ((Ty.rd (t := (.pair (.int .i64) (.pair (.int .i64) (.pair (.pair (.pair (.int .i64) (.pair .str (.pair .str (.pair (.int .i64) (.pair (.list (.int .i64)) (.int .i64)))))) (.pair (.int .i64) (.pair .str (.pair .str (.pair (.int .i64) (.pair (.list (.int .i64)) (.int .i64))))))) (.pair (.list (.pair (.int .i64) (.pair (.int .i64) (.pair (.int .i64) (.pair (.list .str) (.pair (.list .bool) (.int .i64))))))) (.int .i64)))))) y0.1 y0.2.2.1).2.1, ((Ty.rd (t := (.pair (.int .i64) (.pair (.int .i64) (.pair (.pair (.pair (.int .i64) (.pair .str (.pair .str (.pair (.int .i64) (.pair (.list (.int .i64)) (.int .i64)))))) (.pair (.int .i64) (.pair .str (.pair .str (.pair (.int .i64) (.pair (.list (.int .i64)) (.int .i64))))))) (.pair (.list (.pair (.int .i64) (.pair (.int .i64) (.pair (.int .i64) (.pair (.list .str) (.pair (.list .bool) (.int .i64))))))) (.int .i64)))))) y0.1 y0.2.2.1).2.2.1.1.1, ((Ty.rd (t := (.pair (.int .i64) (.pair (.int .i64) (.pair (.pair (.pair (.int .i64) (.pair .str (.pair .str (.pair (.int .i64) (.pair (.list (.int .i64)) (.int .i64)))))) (.pair (.int .i64) (.pair .str (.pair .str (.pair (.int .i64) (.pair (.list (.int .i64)) (.int .i64))))))) (.pair (.list (.pair (.int .i64) (.pair (.int .i64) (.pair (.int .i64) (.pair (.list .str) (.pair (.list .bool) (.int .i64))))))) (.int .i64)))))) y0.1 y0.2.2.1).2.2.1.1.2.1, ((Ty.rd (t := (.pair (.int .i64) (.pair (.int .i64) (.pair (.pair (.pair (.int .i64) (.pair .str (.pair .str (.pair (.int .i64) (.pair (.list (.int .i64)) (.int .i64)))))) (.pair (.int .i64) (.pair .str (.pair .str (.pair (.int .i64) (.pair (.list (.int .i64)) (.int .i64))))))) (.pair (.list (.pair (.int .i64) (.pair (.int .i64) (.pair (.int .i64) (.pair (.list .str) (.pair (.list .bool) (.int .i64))))))) (.int .i64)))))) y0.1 y0.2.2.1).2.2.1.1.2.2.1, ((Ty.rd (t := (.pair (.int .i64) (.pair (.int .i64) (.pair (.pair (.pair (.int .i64) (.pair .str (.pair .str (.pair (.int .i64) (.pair (.list (.int .i64)) (.int .i64)))))) (.pair (.int .i64) (.pair .str (.pair .str (.pair (.int .i64) (.pair (.list (.int .i64)) (.int .i64))))))) (.pair (.list (.pair (.int .i64) (.pair (.int .i64) (.pair (.int .i64) (.pair (.list .str) (.pair (.list .bool) (.int .i64))))))) (.int .i64)))))) y0.1 y0.2.2.1).2.2.1.1.2.2.2.1, ((Ty.rd (t := (.pair (.int .i64) (.pair (.int .i64) (.pair (.pair (.pair (.int .i64) (.pair .str (.pair .str (.pair (.int .i64) (.pair (.list (.int .i64)) (.int .i64)))))) (.pair (.int .i64) (.pair .str (.pair .str (.pair (.int .i64) (.pair (.list (.int .i64)) (.int .i64))))))) (.pair (.list (.pair (.int .i64) (.pair (.int .i64) (.pair (.int .i64) (.pair (.list .str) (.pair (.list .bool) (.int .i64))))))) (.int .i64)))))) y0.1 y0.2.2.1).2.2.1.1.2.2.2.2.1, ((Ty.rd (t := (.pair (.int .i64) (.pair (.int .i64) (.pair (.pair (.pair (.int .i64) (.pair .str (.pair .str (.pair (.int .i64) (.pair (.list (.int .i64)) (.int .i64)))))) (.pair (.int .i64) (.pair .str (.pair .str (.pair (.int .i64) (.pair (.list (.int .i64)) (.int .i64))))))) (.pair (.list (.pair (.int .i64) (.pair (.int .i64) (.pair (.int .i64) (.pair (.list .str) (.pair (.list .bool) (.int .i64))))))) (.int .i64)))))) y0.1 y0.2.2.1).2.2.1.1.2.2.2.2.2, ((Ty.rd (t := (.pair (.int .i64) (.pair (.int .i64) (.pair (.pair (.pair (.int .i64) (.pair .str (.pair .str (.pair (.int .i64) (.pair (.list (.int .i64)) (.int .i64)))))) (.pair (.int .i64) (.pair .str (.pair .str (.pair (.int .i64) (.pair (.list (.int .i64)) (.int .i64))))))) (.pair (.list (.pair (.int .i64) (.pair (.int .i64) (.pair (.int .i64) (.pair (.list .str) (.pair (.list .bool) (.int .i64))))))) (.int .i64)))))) y0.1 y0.2.2.1).2.2.1.2.1, ((Ty.rd (t := (.pair (.int .i64) (.pair (.int .i64) (.pair (.pair (.pair (.int .i64) (.pair .str (.pair .str (.pair (.int .i64) (.pair (.list (.int .i64)) (.int .i64)))))) (.pair (.int .i64) (.pair .str (.pair .str (.pair (.int .i64) (.pair (.list (.int .i64)) (.int .i64))))))) (.pair (.list (.pair (.int .i64) (.pair (.int .i64) (.pair (.int .i64) (.pair (.list .str) (.pair (.list .bool) (.int .i64))))))) (.int .i64)))))) y0.1 y0.2.2.1).2.2.1.2.2.1, ((Ty.rd (t := (.pair (.int .i64) (.pair (.int .i64) (.pair (.pair (.pair (.int .i64) (.pair .str (.pair .str (.pair (.int .i64) (.pair (.list (.int .i64)) (.int .i64)))))) (.pair (.int .i64) (.pair .str (.pair .str (.pair (.int .i64) (.pair (.list (.int .i64)) (.int .i64))))))) (.pair (.list (.pair (.int .i64) (.pair (.int .i64) (.pair (.int .i64) (.pair (.list .str) (.pair (.list .bool) (.int .i64))))))) (.int .i64)))))) y0.1 y0.2.2.1).2.2.1.2.2.2.1, ((Ty.rd (t := (.pair (.int .i64) (.pair (.int .i64) (.pair (.pair (.pair (.int .i64) (.pair .str (.pair .str (.pair (.int .i64) (.pair (.list (.int .i64)) (.int .i64)))))) (.pair (.int .i64) (.pair .str (.pair .str (.pair (.int .i64) (.pair (.list (.int .i64)) (.int .i64))))))) (.pair (.list (.pair (.int .i64) (.pair (.int .i64) (.pair (.int .i64) (.pair (.list .str) (.pair (.list .bool) (.int .i64))))))) (.int .i64)))))) y0.1 y0.2.2.1).2.2.1.2.2.2.2.1, ((Ty.rd (t := (.pair (.int .i64) (.pair (.int .i64) (.pair (.pair (.pair (.int .i64) (.pair .str (.pair .str (.pair (.int .i64) (.pair (.list (.int .i64)) (.int .i64)))))) (.pair (.int .i64) (.pair .str (.pair .str (.pair (.int .i64) (.pair (.list (.int .i64)) (.int .i64))))))) (.pair (.list (.pair (.int .i64) (.pair (.int .i64) (.pair (.int .i64) (.pair (.list .str) (.pair (.list .bool) (.int .i64))))))) (.int .i64)))))) y0.1 y0.2.2.1).2.2.1.2.2.2.2.2.1, ((Ty.rd (t := (.pair (.int .i64) (.pair (.int .i64) (.pair (.pair (.pair (.int .i64) (.pair .str (.pair .str (.pair (.int .i64) (.pair (.list (.int .i64)) (.int .i64)))))) (.pair (.int .i64) (.pair .str (.pair .str (.pair (.int .i64) (.pair (.list (.int .i64)) (.int .i64))))))) (.pair (.list (.pair (.int .i64) (.pair (.int .i64) (.pair (.int .i64) (.pair (.list .str) (.pair (.list .bool) (.int .i64))))))) (.int .i64)))))) y0.1 y0.2.2.1).2.2.1.2.2.2.2.2.2, ((Ty.rd (t := (.pair (.int .i64) (.pair (.int .i64) (.pair (.pair (.pair (.int .i64) (.pair .str (.pair .str (.pair (.int .i64) (.pair (.list (.int .i64)) (.int .i64)))))) (.pair (.int .i64) (.pair .str (.pair .str (.pair (.int .i64) (.pair (.list (.int .i64)) (.int .i64))))))) (.pair (.list (.pair (.int .i64) (.pair (.int .i64) (.pair (.int .i64) (.pair (.list .str) (.pair (.list .bool) (.int .i64))))))) (.int .i64)))))) y0.1 y0.2.2.1).2.2.2.1, ((Ty.rd (t := (.pair (.int .i64) (.pair (.int .i64) (.pair (.pair (.pair (.int .i64) (.pair .str (.pair .str (.pair (.int .i64) (.pair (.list (.int .i64)) (.int .i64)))))) (.pair (.int .i64) (.pair .str (.pair .str (.pair (.int .i64) (.pair (.list (.int .i64)) (.int .i64))))))) (.pair (.list (.pair (.int .i64) (.pair (.int .i64) (.pair (.int .i64) (.pair (.list .str) (.pair (.list .bool) (.int .i64))))))) (.int .i64)))))) y0.1 y0.2.2.1).2.2.2.2, ())))))))))))))))), (y0.2.1, ()))).bind fun p1 =>
(if (decide (p1.1 < (0 : Int))) = true then
some ((-1 : Int), ((), ((), ())))
else
(rec0 (y0.1, (p1.1, ((wi64 (y0.2.2.1 + (1 : Int))), ()))))))
else none)
else
((fun (z1 : Int × Unit) =>
some (z1.1, ((), ((), ())))) (y0.2.1, ())))) k (x.1, ((wi64 (x.2.1 - (List.length x.1 : Int))), ((0 : Int), ())))))
theorem t_w_szUserS (k : Nat) (x) : evF TTab k [⟨123, 0, (.cons (.agg (.cons (.int .i64) (.cons (.int .i64) (.cons (.int .i64) (.cons .str (.cons .str (.cons (.int .i64) (.cons (.il true (.int .i64)) (.cons (.int .i64) (.cons (.int .i64) (.cons .str (.cons .str (.cons (.int .i64) (.cons (.il true (.int .i64)) (.cons (.int .i64) (.cons (.il true (.pair (.int .i64) (.pair (.int .i64) (.pair (.int .i64) (.pair (.list .str) (.pair (.list .bool) (.int .i64))))))) (.cons (.int .i64) .nil))))))))))))))))) (.cons (.int .i64) .nil)), (.int .i64), w_szUser k⟩] [(0, ⟨[0, 1, 5], (.cons (.il true (.pair (.int .i64) (.pair (.int .i64) (.pair (.pair (.pair (.int .i64) (.pair .str (.pair .str (.pair (.int .i64) (.pair (.list (.int .i64)) (.int .i64)))))) (.pair (.int .i64) (.pair .str (.pair .str (.pair (.int .i64) (.pair (.list (.int .i64)) (.int .i64))))))) (.pair (.list (.pair (.int .i64) (.pair (.int .i64) (.pair (.int .i64) (.pair (.list .str) (.pair (.list .bool) (.int .i64))))))) (.int .i64)))))) (.cons (.int .i64) (.cons (.int .i64) .nil)))⟩, ⟨[1], (.cons (.int .i64) .nil)⟩)] Try.f73 (.cons (.il true (.pair (.int .i64) (.pair (.int .i64) (.pair (.pair (.pair (.int .i64) (.pair .str (.pair .str (.pair (.int .i64) (.pair (.list (.int .i64)) (.int .i64)))))) (.pair (.int .i64) (.pair .str (.pair .str (.pair (.int .i64) (.pair (.list (.int .i64)) (.int .i64))))))) (.pair (.list (.pair (.int .i64) (.pair (.int .i64) (.pair (.int .i64) (.pair (.list .str) (.pair (.list .bool) (.int .i64))))))) (.int .i64)))))) (.cons (.int .i64) .nil)) (.int .i64) x = w_szUserS k x := by kernel_rfl
theorem e_w_szUserS (k : Nat) : EntryOk Try.prog ⟨73, 0, (.cons (.il true (.pair (.int .i64) (.pair (.int .i64) (.pair (.pair (.pair (.int .i64) (.pair .str (.pair .str (.pair (.int .i64) (.pair (.list (.int .i64)) (.int .i64)))))) (.pair (.int .i64) (.pair .str (.pair .str (.pair (.int .i64) (.pair (.list (.int .i64)) (.int .i64))))))) (.pair (.list (.pair (.int .i64) (.pair (.int .i64) (.pair (.int .i64) (.pair (.list .str) (.pair (.list .bool) (.int .i64))))))) (.int .i64)))))) (.cons (.int .i64) .nil)), (.int .i64), w_szUserS k⟩ := entry_ok tok (by intro e he; simp only [List.mem_cons, List.not_mem_nil, or_false] at he; rcases he with rfl <;> first | exact e_w_szUser k) (by kernel_rfl) (fn := Try.f73) (k := k) (es := [⟨123, 0, (.cons (.agg (.cons (.int .i64) (.cons (.int .i64) (.cons (.int .i64) (.cons .str (.cons .str (.cons (.int .i64) (.cons (.il true (.int .i64)) (.cons (.int .i64) (.cons (.int .i64) (.cons .str (.cons .str (.cons (.int .i64) (.cons (.il true (.int .i64)) (.cons (.int .i64) (.cons (.il true (.pair (.int .i64) (.pair (.int .i64) (.pair (.int .i64) (.pair (.list .str) (.pair (.list .bool) (.int .i64))))))) (.cons (.int .i64) .nil))))))))))))))))) (.cons (.int .i64) .nil)), (.int .i64), w_szUser k⟩]) (loops := [(0, ⟨[0, 1, 5], (.cons (.il true (.pair (.int .i64) (.pair (.int .i64) (.pair (.pair (.pair (.int .i64) (.pair .str (.pair .str (.pair (.int .i64) (.pair (.list (.int .i64)) (.int .i64)))))) (.pair (.int .i64) (.pair .str (.pair .str (.pair (.int .i64) (.pair (.list (.int .i64)) (.int .i64))))))) (.pair (.list (.pair (.int .i64) (.pair (.int .i64) (.pair (.int .i64) (.pair (.list .str) (.pair (.list .bool) (.int .i64))))))) (.int .i64)))))) (.cons (.int .i64) (.cons (.int .i64) .nil)))⟩, ⟨[1], (.cons (.int .i64) .nil)⟩)]) (by kernel_rfl) (by kernel_rfl) (fun x r h => (t_w_szUserS k x).trans h)
def w_szHub (k : Nat) (x : (Int × Int × (List (Int × Int × Int)) × (List (Int × Int)) × (List ((Int × Int) × Int)) × (List (Int × Int × ((Int × ByteArray × ByteArray × Int × List (Int) × Int) × Int × ByteArray × ByteArray × Int × List (Int) × Int) × List (Int × Int × Int × List (ByteArray) × List (Bool) × Int) × Int)) × Unit) × Int × Unit) : Option (Int × Unit × Unit × Unit) :=
((w_szPool k ((x.1.1, (x.1.2.1, (x.1.2.2.1, (x.1.2.2.2.1, ())))), (x.2.1, ()))).bind fun p1 =>
(if (decide (p1.1 < (0 : Int))) = true then
some ((-1 : Int), ((), ((), ())))
else
((w_szRouteS k (x.1.2.2.2.2.1, (p1.1, ()))).bind fun p2 =>
(if (decide (p2.1 < (0 : Int))) = true then
some ((-1 : Int), ((), ((), ())))
else
((w_szUserS k (x.1.2.2.2.2.2.1, (p2.1, ()))).bind fun p3 =>
(if (decide (p3.1 < (0 : Int))) = true then
some ((-1 : Int), ((), ((), ())))
else
some (p3.1, ((), ((), ())))))))))
theorem t_w_szHub (k : Nat) (x) : evF TTab k [⟨71, 0, (.cons (.agg (.cons (.int .i64) (.cons (.int .i64) (.cons (.il true (.pair (.int .i64) (.pair (.int .i64) (.int .i64)))) (.cons (.il true (.pair (.int .i64) (.int .i64))) .nil))))) (.cons (.int .i64) .nil)), (.int .i64), w_szPool k⟩, ⟨72, 0, (.cons (.il true (.pair (.pair (.int .i64) (.int .i64)) (.int .i64))) (.cons (.int .i64) .nil)), (.int .i64), w_szRouteS k⟩, ⟨73, 0, (.cons (.il true (.pair (.int .i64) (.pair (.int .i64) (.pair (.pair (.pair (.int .i64) (.pair .str (.pair .str (.pair (.int .i64) (.pair (.list (.int .i64)) (.int .i64)))))) (.pair (.int .i64) (.pair .str (.pair .str (.pair (.int .i64) (.pair (.list (.int .i64)) (.int .i64))))))) (.pair (.list (.pair (.int .i64) (.pair (.int .i64) (.pair (.int .i64) (.pair (.list .str) (.pair (.list .bool) (.int .i64))))))) (.int .i64)))))) (.cons (.int .i64) .nil)), (.int .i64), w_szUserS k⟩] [] Try.f30 (.cons (.agg (.cons (.int .i64) (.cons (.int .i64) (.cons (.il true (.pair (.int .i64) (.pair (.int .i64) (.int .i64)))) (.cons (.il true (.pair (.int .i64) (.int .i64))) (.cons (.il true (.pair (.pair (.int .i64) (.int .i64)) (.int .i64))) (.cons (.il true (.pair (.int .i64) (.pair (.int .i64) (.pair (.pair (.pair (.int .i64) (.pair .str (.pair .str (.pair (.int .i64) (.pair (.list (.int .i64)) (.int .i64)))))) (.pair (.int .i64) (.pair .str (.pair .str (.pair (.int .i64) (.pair (.list (.int .i64)) (.int .i64))))))) (.pair (.list (.pair (.int .i64) (.pair (.int .i64) (.pair (.int .i64) (.pair (.list .str) (.pair (.list .bool) (.int .i64))))))) (.int .i64)))))) .nil))))))) (.cons (.int .i64) .nil)) (.int .i64) x = w_szHub k x := by kernel_rfl
theorem e_w_szHub (k : Nat) : EntryOk Try.prog ⟨30, 0, (.cons (.agg (.cons (.int .i64) (.cons (.int .i64) (.cons (.il true (.pair (.int .i64) (.pair (.int .i64) (.int .i64)))) (.cons (.il true (.pair (.int .i64) (.int .i64))) (.cons (.il true (.pair (.pair (.int .i64) (.int .i64)) (.int .i64))) (.cons (.il true (.pair (.int .i64) (.pair (.int .i64) (.pair (.pair (.pair (.int .i64) (.pair .str (.pair .str (.pair (.int .i64) (.pair (.list (.int .i64)) (.int .i64)))))) (.pair (.int .i64) (.pair .str (.pair .str (.pair (.int .i64) (.pair (.list (.int .i64)) (.int .i64))))))) (.pair (.list (.pair (.int .i64) (.pair (.int .i64) (.pair (.int .i64) (.pair (.list .str) (.pair (.list .bool) (.int .i64))))))) (.int .i64)))))) .nil))))))) (.cons (.int .i64) .nil)), (.int .i64), w_szHub k⟩ := entry_ok tok (by intro e he; simp only [List.mem_cons, List.not_mem_nil, or_false] at he; rcases he with rfl | rfl | rfl <;> first | exact e_w_szPool k | exact e_w_szRouteS k | exact e_w_szUserS k) (by kernel_rfl) (fn := Try.f30) (k := k) (es := [⟨71, 0, (.cons (.agg (.cons (.int .i64) (.cons (.int .i64) (.cons (.il true (.pair (.int .i64) (.pair (.int .i64) (.int .i64)))) (.cons (.il true (.pair (.int .i64) (.int .i64))) .nil))))) (.cons (.int .i64) .nil)), (.int .i64), w_szPool k⟩, ⟨72, 0, (.cons (.il true (.pair (.pair (.int .i64) (.int .i64)) (.int .i64))) (.cons (.int .i64) .nil)), (.int .i64), w_szRouteS k⟩, ⟨73, 0, (.cons (.il true (.pair (.int .i64) (.pair (.int .i64) (.pair (.pair (.pair (.int .i64) (.pair .str (.pair .str (.pair (.int .i64) (.pair (.list (.int .i64)) (.int .i64)))))) (.pair (.int .i64) (.pair .str (.pair .str (.pair (.int .i64) (.pair (.list (.int .i64)) (.int .i64))))))) (.pair (.list (.pair (.int .i64) (.pair (.int .i64) (.pair (.int .i64) (.pair (.list .str) (.pair (.list .bool) (.int .i64))))))) (.int .i64)))))) (.cons (.int .i64) .nil)), (.int .i64), w_szUserS k⟩]) (loops := []) (by kernel_rfl) (by kernel_rfl) (fun x r h => (t_w_szHub k x).trans h)
def w_szInner (k : Nat) (x : (Int × Int × ByteArray × Unit) × Int × Unit) : Option (Int × Unit × Unit × Unit) :=
(if (decide ((wi64 (x.2.1 - (ByteArray.size x.1.2.2.1 : Int))) < (0 : Int))) = true then
some ((-1 : Int), ((), ((), ())))
else
some ((wi64 (x.2.1 - (ByteArray.size x.1.2.2.1 : Int))), ((), ((), ()))))
theorem t_w_szInner (k : Nat) (x) : evF TTab k [] [] Try.f31 (.cons (.agg (.cons (.int .i64) (.cons (.int .i64) (.cons .str .nil)))) (.cons (.int .i64) .nil)) (.int .i64) x = w_szInner k x := by kernel_rfl
theorem e_w_szInner (k : Nat) : EntryOk Try.prog ⟨31, 0, (.cons (.agg (.cons (.int .i64) (.cons (.int .i64) (.cons .str .nil)))) (.cons (.int .i64) .nil)), (.int .i64), w_szInner k⟩ := entry_ok tok (by simp) (by kernel_rfl) (fn := Try.f31) (k := k) (es := []) (loops := []) (by kernel_rfl) (by kernel_rfl) (fun x r h => (t_w_szInner k x).trans h)
def s_AddrOk (k : Nat) (x : Int × Unit) : Option (Bool × Unit × Unit) :=
((s_l01In k (x.1, ((0 : Int), ((4294967295 : Int), ())))).bind fun p1 =>
some (p1.1, ((), ())))
theorem t_s_AddrOk (k : Nat) (x) : evF TTab k [⟨85, 0, (.cons (.int .i64) (.cons (.int .i64) (.cons (.int .i64) .nil))), .bool, s_l01In k⟩] [] Try.f182 (.cons (.int .i64) .nil) .bool x = s_AddrOk k x := by kernel_rfl
theorem e_s_AddrOk (k : Nat) : EntryOk Try.prog ⟨182, 0, (.cons (.int .i64) .nil), .bool, s_AddrOk k⟩ := entry_ok tok (by intro e he; simp only [List.mem_cons, List.not_mem_nil, or_false] at he; rcases he with rfl <;> first | exact e_s_l01In k) (by kernel_rfl) (fn := Try.f182) (k := k) (es := [⟨85, 0, (.cons (.int .i64) (.cons (.int .i64) (.cons (.int .i64) .nil))), .bool, s_l01In k⟩]) (loops := []) (by kernel_rfl) (by kernel_rfl) (fun x r h => (t_s_AddrOk k x).trans h)
def s_l08Size (k : Nat) (x : Int × Unit) : Option (Int × Unit × Unit) :=
(whileK (fun (rec0 : (Int × Int × Unit) → Option _) (y0 : Int × Int × Unit) =>
(if (decide (y0.2.1 < (32 : Int))) = true then
(rec0 ((wi64 ((2 : Int) * y0.1)), ((wi64 (y0.2.1 + (1 : Int))), ())))
else
((fun (z1 : Int × Unit) =>
some (z1.1, ((), ()))) (y0.1, ())))) k ((1 : Int), (x.1, ())))
theorem t_s_l08Size (k : Nat) (x) : evF TTab k [] [(0, ⟨[3, 4], (.cons (.int .i64) (.cons (.int .i64) .nil))⟩, ⟨[3], (.cons (.int .i64) .nil)⟩)] Try.f183 (.cons (.int .i64) .nil) (.int .i64) x = s_l08Size k x := by kernel_rfl
theorem e_s_l08Size (k : Nat) : EntryOk Try.prog ⟨183, 0, (.cons (.int .i64) .nil), (.int .i64), s_l08Size k⟩ := entry_ok tok (by simp) (by kernel_rfl) (fn := Try.f183) (k := k) (es := []) (loops := [(0, ⟨[3, 4], (.cons (.int .i64) (.cons (.int .i64) .nil))⟩, ⟨[3], (.cons (.int .i64) .nil)⟩)]) (by kernel_rfl) (by kernel_rfl) (fun x r h => (t_s_l08Size k x).trans h)
def s_PrefixOk (k : Nat) (x : (Int × Int × Unit) × Unit) : Option (Bool × Unit × Unit) :=
((s_AddrOk k (x.1.1, ())).bind fun p1 =>
(if p1.1 = true then
((s_l01In k (x.1.2.1, ((0 : Int), ((32 : Int), ())))).bind fun p2 =>
(if p2.1 = true then
((s_l08Size k (x.1.2.1, ())).bind fun p3 =>
(if p3.1 = 0 then
none
else
some ((decide ((Int.tmod x.1.1 p3.1) = (0 : Int))), ((), ()))))
else
some (false, ((), ()))))
else
some (false, ((), ()))))
theorem t_s_PrefixOk (k : Nat) (x) : evF TTab k [⟨85, 0, (.cons (.int .i64) (.cons (.int .i64) (.cons (.int .i64) .nil))), .bool, s_l01In k⟩, ⟨182, 0, (.cons (.int .i64) .nil), .bool, s_AddrOk k⟩, ⟨183, 0, (.cons (.int .i64) .nil), (.int .i64), s_l08Size k⟩] [] Try.f180 (.cons (.agg (.cons (.int .i64) (.cons (.int .i64) .nil))) .nil) .bool x = s_PrefixOk k x := by kernel_rfl
theorem e_s_PrefixOk (k : Nat) : EntryOk Try.prog ⟨180, 0, (.cons (.agg (.cons (.int .i64) (.cons (.int .i64) .nil))) .nil), .bool, s_PrefixOk k⟩ := entry_ok tok (by intro e he; simp only [List.mem_cons, List.not_mem_nil, or_false] at he; rcases he with rfl | rfl | rfl <;> first | exact e_s_l01In k | exact e_s_AddrOk k | exact e_s_l08Size k) (by kernel_rfl) (fn := Try.f180) (k := k) (es := [⟨85, 0, (.cons (.int .i64) (.cons (.int .i64) (.cons (.int .i64) .nil))), .bool, s_l01In k⟩, ⟨182, 0, (.cons (.int .i64) .nil), .bool, s_AddrOk k⟩, ⟨183, 0, (.cons (.int .i64) .nil), (.int .i64), s_l08Size k⟩]) (loops := []) (by kernel_rfl) (by kernel_rfl) (fun x r h => (t_s_PrefixOk k x).trans h)
def s_l09Ahead (k : Nat) (x : (Int × Int × Unit) × (Int × Int × Unit) × Unit) : Option (Bool × Unit × Unit × Unit) :=
(if (decide (x.1.1 < x.2.1.1)) = false then
(if (decide (x.1.1 = x.2.1.1)) = true then
some ((decide (x.1.2.1 < x.2.1.2.1)), ((), ((), ())))
else
some (false, ((), ((), ()))))
else
some (true, ((), ((), ()))))
theorem t_s_l09Ahead (k : Nat) (x) : evF TTab k [] [] Try.f181 (.cons (.agg (.cons (.int .i64) (.cons (.int .i64) .nil))) (.cons (.agg (.cons (.int .i64) (.cons (.int .i64) .nil))) .nil)) .bool x = s_l09Ahead k x := by kernel_rfl
theorem e_s_l09Ahead (k : Nat) : EntryOk Try.prog ⟨181, 0, (.cons (.agg (.cons (.int .i64) (.cons (.int .i64) .nil))) (.cons (.agg (.cons (.int .i64) (.cons (.int .i64) .nil))) .nil)), .bool, s_l09Ahead k⟩ := entry_ok tok (by simp) (by kernel_rfl) (fn := Try.f181) (k := k) (es := []) (loops := []) (by kernel_rfl) (by kernel_rfl) (fun x r h => (t_s_l09Ahead k x).trans h)
def s_RoutesOk (k : Nat) (x : (List ((Int × Int) × Int)) × Unit) : Option (Bool × Unit × Unit) :=
(whileK (fun (rec0 : ((List ((Int × Int) × Int)) × Int × Unit) → Option _) (y0 : (List ((Int × Int) × Int)) × Int × Unit) =>
(if (decide (y0.2.1 < (List.length y0.1 : Int))) = true then
(if 0 ≤ y0.2.1 ∧ y0.2.1 < (List.length y0.1 : Int) then
((s_PrefixOk k (((Ty.rd (t := (.pair (.pair (.int .i64) (.int .i64)) (.int .i64))) y0.1 y0.2.1).1.1, ((Ty.rd (t := (.pair (.pair (.int .i64) (.int .i64)) (.int .i64))) y0.1 y0.2.1).1.2, ())), ())).bind fun p1 =>
(if (!p1.1) = false then
(if 0 ≤ y0.2.1 ∧ y0.2.1 < (List.length y0.1 : Int) then
((s_l01In k ((Ty.rd (t := (.pair (.pair (.int .i64) (.int .i64)) (.int .i64))) y0.1 y0.2.1).2, ((1 : Int), ((99 : Int), ())))).bind fun p2 =>
(if (!p2.1) = false then
(if (decide ((0 : Int) < y0.2.1)) = true then
(if 0 ≤ (wi64 (y0.2.1 - (1 : Int))) ∧ (wi64 (y0.2.1 - (1 : Int))) < (List.length y0.1 : Int) then
(if 0 ≤ y0.2.1 ∧ y0.2.1 < (List.length y0.1 : Int) then
((s_l09Ahead k (((Ty.rd (t := (.pair (.pair (.int .i64) (.int .i64)) (.int .i64))) y0.1 (wi64 (y0.2.1 - (1 : Int)))).1.1, ((Ty.rd (t := (.pair (.pair (.int .i64) (.int .i64)) (.int .i64))) y0.1 (wi64 (y0.2.1 - (1 : Int)))).1.2, ())), (((Ty.rd (t := (.pair (.pair (.int .i64) (.int .i64)) (.int .i64))) y0.1 y0.2.1).1.1, ((Ty.rd (t := (.pair (.pair (.int .i64) (.int .i64)) (.int .i64))) y0.1 y0.2.1).1.2, ())), ()))).bind fun p3 =>
(if (!p3.1) = true then
some (false, ((), ()))
else
(rec0 (y0.1, ((wi64 (y0.2.1 + (1 : Int))), ())))))
else none)
else none)
else
(rec0 (y0.1, ((wi64 (y0.2.1 + (1 : Int))), ()))))
else
some (false, ((), ()))))
else none)
else
some (false, ((), ()))))
else none)
else
((fun (z1 : (List ((Int × Int) × Int)) × Unit) =>
some ((decide ((List.length z1.1 : Int) ≤ (12 : Int))), ((), ()))) (y0.1, ())))) k (x.1, ((0 : Int), ())))
theorem t_s_RoutesOk (k : Nat) (x) : evF TTab k [⟨85, 0, (.cons (.int .i64) (.cons (.int .i64) (.cons (.int .i64) .nil))), .bool, s_l01In k⟩, ⟨180, 0, (.cons (.agg (.cons (.int .i64) (.cons (.int .i64) .nil))) .nil), .bool, s_PrefixOk k⟩, ⟨181, 0, (.cons (.agg (.cons (.int .i64) (.cons (.int .i64) .nil))) (.cons (.agg (.cons (.int .i64) (.cons (.int .i64) .nil))) .nil)), .bool, s_l09Ahead k⟩] [(0, ⟨[0, 3], (.cons (.il true (.pair (.pair (.int .i64) (.int .i64)) (.int .i64))) (.cons (.int .i64) .nil))⟩, ⟨[0], (.cons (.il true (.pair (.pair (.int .i64) (.int .i64)) (.int .i64))) .nil)⟩)] Try.f124 (.cons (.il true (.pair (.pair (.int .i64) (.int .i64)) (.int .i64))) .nil) .bool x = s_RoutesOk k x := by kernel_rfl
theorem e_s_RoutesOk (k : Nat) : EntryOk Try.prog ⟨124, 0, (.cons (.il true (.pair (.pair (.int .i64) (.int .i64)) (.int .i64))) .nil), .bool, s_RoutesOk k⟩ := entry_ok tok (by intro e he; simp only [List.mem_cons, List.not_mem_nil, or_false] at he; rcases he with rfl | rfl | rfl <;> first | exact e_s_l01In k | exact e_s_PrefixOk k | exact e_s_l09Ahead k) (by kernel_rfl) (fn := Try.f124) (k := k) (es := [⟨85, 0, (.cons (.int .i64) (.cons (.int .i64) (.cons (.int .i64) .nil))), .bool, s_l01In k⟩, ⟨180, 0, (.cons (.agg (.cons (.int .i64) (.cons (.int .i64) .nil))) .nil), .bool, s_PrefixOk k⟩, ⟨181, 0, (.cons (.agg (.cons (.int .i64) (.cons (.int .i64) .nil))) (.cons (.agg (.cons (.int .i64) (.cons (.int .i64) .nil))) .nil)), .bool, s_l09Ahead k⟩]) (loops := [(0, ⟨[0, 3], (.cons (.il true (.pair (.pair (.int .i64) (.int .i64)) (.int .i64))) (.cons (.int .i64) .nil))⟩, ⟨[0], (.cons (.il true (.pair (.pair (.int .i64) (.int .i64)) (.int .i64))) .nil)⟩)]) (by kernel_rfl) (by kernel_rfl) (fun x r h => (t_s_RoutesOk k x).trans h)
def s_InPrefix (k : Nat) (x : (Int × Int × Unit) × Int × Unit) : Option (Bool × Unit × Unit × Unit) :=
((s_PrefixOk k ((x.1.1, (x.1.2.1, ())), ())).bind fun p1 =>
(if p1.1 = true then
((s_AddrOk k (x.2.1, ())).bind fun p2 =>
(if p2.1 = true then
((s_l08Size k (x.1.2.1, ())).bind fun p3 =>
(if p3.1 = 0 then
none
else
some ((decide ((wi64 (x.2.1 - (Int.tmod x.2.1 p3.1))) = x.1.1)), ((), ((), ())))))
else
some (false, ((), ((), ())))))
else
some (false, ((), ((), ())))))
theorem t_s_InPrefix (k : Nat) (x) : evF TTab k [⟨180, 0, (.cons (.agg (.cons (.int .i64) (.cons (.int .i64) .nil))) .nil), .bool, s_PrefixOk k⟩, ⟨182, 0, (.cons (.int .i64) .nil), .bool, s_AddrOk k⟩, ⟨183, 0, (.cons (.int .i64) .nil), (.int .i64), s_l08Size k⟩] [] Try.f125 (.cons (.agg (.cons (.int .i64) (.cons (.int .i64) .nil))) (.cons (.int .i64) .nil)) .bool x = s_InPrefix k x := by kernel_rfl
theorem e_s_InPrefix (k : Nat) : EntryOk Try.prog ⟨125, 0, (.cons (.agg (.cons (.int .i64) (.cons (.int .i64) .nil))) (.cons (.int .i64) .nil)), .bool, s_InPrefix k⟩ := entry_ok tok (by intro e he; simp only [List.mem_cons, List.not_mem_nil, or_false] at he; rcases he with rfl | rfl | rfl <;> first | exact e_s_PrefixOk k | exact e_s_AddrOk k | exact e_s_l08Size k) (by kernel_rfl) (fn := Try.f125) (k := k) (es := [⟨180, 0, (.cons (.agg (.cons (.int .i64) (.cons (.int .i64) .nil))) .nil), .bool, s_PrefixOk k⟩, ⟨182, 0, (.cons (.int .i64) .nil), .bool, s_AddrOk k⟩, ⟨183, 0, (.cons (.int .i64) .nil), (.int .i64), s_l08Size k⟩]) (loops := []) (by kernel_rfl) (by kernel_rfl) (fun x r h => (t_s_InPrefix k x).trans h)
def s_LookUp (k : Nat) (x : (List ((Int × Int) × Int)) × Int × Unit) : Option (Int × Unit × Unit × Unit) :=
((s_RoutesOk k (x.1, ())).bind fun p1 =>
(if (!p1.1) = true then
some ((0 : Int), ((), ((), ())))
else
(whileK (fun (rec0 : ((List ((Int × Int) × Int)) × Int × Int × Int × Int × Unit) → Option _) (y0 : (List ((Int × Int) × Int)) × Int × Int × Int × Int × Unit) =>
(if (decide (y0.2.2.2.2.1 < (List.length y0.1 : Int))) = true then
(if 0 ≤ y0.2.2.2.2.1 ∧ y0.2.2.2.2.1 < (List.length y0.1 : Int) then
((s_InPrefix k (((Ty.rd (t := (.pair (.pair (.int .i64) (.int .i64)) (.int .i64))) y0.1 y0.2.2.2.2.1).1.1, ((Ty.rd (t := (.pair (.pair (.int .i64) (.int .i64)) (.int .i64))) y0.1 y0.2.2.2.2.1).1.2, ())), (y0.2.1, ()))).bind fun p2 =>
(if p2.1 = true then
(if 0 ≤ y0.2.2.2.2.1 ∧ y0.2.2.2.2.1 < (List.length y0.1 : Int) then
(if (decide (y0.2.2.1 < (Ty.rd (t := (.pair (.pair (.int .i64) (.int .i64)) (.int .i64))) y0.1 y0.2.2.2.2.1).1.2)) = true then
(if 0 ≤ y0.2.2.2.2.1 ∧ y0.2.2.2.2.1 < (List.length y0.1 : Int) then
(if 0 ≤ y0.2.2.2.2.1 ∧ y0.2.2.2.2.1 < (List.length y0.1 : Int) then
(rec0 (y0.1, (y0.2.1, ((Ty.rd (t := (.pair (.pair (.int .i64) (.int .i64)) (.int .i64))) y0.1 y0.2.2.2.2.1).1.2, ((Ty.rd (t := (.pair (.pair (.int .i64) (.int .i64)) (.int .i64))) y0.1 y0.2.2.2.2.1).2, ((wi64 (y0.2.2.2.2.1 + (1 : Int))), ()))))))
else none)
else none)
else
(rec0 (y0.1, (y0.2.1, (y0.2.2.1, (y0.2.2.2.1, ((wi64 (y0.2.2.2.2.1 + (1 : Int))), ())))))))
else none)
else
(rec0 (y0.1, (y0.2.1, (y0.2.2.1, (y0.2.2.2.1, ((wi64 (y0.2.2.2.2.1 + (1 : Int))), ()))))))))
else none)
else
((fun (z1 : Int × Unit) =>
some (z1.1, ((), ((), ())))) (y0.2.2.2.1, ())))) k (x.1, (x.2.1, ((-1 : Int), ((0 : Int), ((0 : Int), ()))))))))
theorem t_s_LookUp (k : Nat) (x) : evF TTab k [⟨124, 0, (.cons (.il true (.pair (.pair (.int .i64) (.int .i64)) (.int .i64))) .nil), .bool, s_RoutesOk k⟩, ⟨125, 0, (.cons (.agg (.cons (.int .i64) (.cons (.int .i64) .nil))) (.cons (.int .i64) .nil)), .bool, s_InPrefix k⟩] [(0, ⟨[0, 1, 5, 6, 7], (.cons (.il true (.pair (.pair (.int .i64) (.int .i64)) (.int .i64))) (.cons (.int .i64) (.cons (.int .i64) (.cons (.int .i64) (.cons (.int .i64) .nil)))))⟩, ⟨[6], (.cons (.int .i64) .nil)⟩)] Try.f74 (.cons (.il true (.pair (.pair (.int .i64) (.int .i64)) (.int .i64))) (.cons (.int .i64) .nil)) (.int .i64) x = s_LookUp k x := by kernel_rfl
theorem e_s_LookUp (k : Nat) : EntryOk Try.prog ⟨74, 0, (.cons (.il true (.pair (.pair (.int .i64) (.int .i64)) (.int .i64))) (.cons (.int .i64) .nil)), (.int .i64), s_LookUp k⟩ := entry_ok tok (by intro e he; simp only [List.mem_cons, List.not_mem_nil, or_false] at he; rcases he with rfl | rfl <;> first | exact e_s_RoutesOk k | exact e_s_InPrefix k) (by kernel_rfl) (fn := Try.f74) (k := k) (es := [⟨124, 0, (.cons (.il true (.pair (.pair (.int .i64) (.int .i64)) (.int .i64))) .nil), .bool, s_RoutesOk k⟩, ⟨125, 0, (.cons (.agg (.cons (.int .i64) (.cons (.int .i64) .nil))) (.cons (.int .i64) .nil)), .bool, s_InPrefix k⟩]) (loops := [(0, ⟨[0, 1, 5, 6, 7], (.cons (.il true (.pair (.pair (.int .i64) (.int .i64)) (.int .i64))) (.cons (.int .i64) (.cons (.int .i64) (.cons (.int .i64) (.cons (.int .i64) .nil)))))⟩, ⟨[6], (.cons (.int .i64) .nil)⟩)]) (by kernel_rfl) (by kernel_rfl) (fun x r h => (t_s_LookUp k x).trans h)
def s_TargetOf (k : Nat) (x : (Int × Int × (List (Int × Int × Int)) × (List (Int × Int)) × (List ((Int × Int) × Int)) × (List (Int × Int × ((Int × ByteArray × ByteArray × Int × List (Int) × Int) × Int × ByteArray × ByteArray × Int × List (Int) × Int) × List (Int × Int × Int × List (ByteArray) × List (Bool) × Int) × Int)) × Unit) × (Int × Int × ByteArray × Unit) × Unit) : Option (Int × Unit × Unit × Unit) :=
((s_LookUp k (x.1.2.2.2.2.1, (x.2.1.2.1, ()))).bind fun p1 =>
some (p1.1, ((), ((), ()))))
theorem t_s_TargetOf (k : Nat) (x) : evF TTab k [⟨74, 0, (.cons (.il true (.pair (.pair (.int .i64) (.int .i64)) (.int .i64))) (.cons (.int .i64) .nil)), (.int .i64), s_LookUp k⟩] [] Try.f32 (.cons (.agg (.cons (.int .i64) (.cons (.int .i64) (.cons (.il true (.pair (.int .i64) (.pair (.int .i64) (.int .i64)))) (.cons (.il true (.pair (.int .i64) (.int .i64))) (.cons (.il true (.pair (.pair (.int .i64) (.int .i64)) (.int .i64))) (.cons (.il true (.pair (.int .i64) (.pair (.int .i64) (.pair (.pair (.pair (.int .i64) (.pair .str (.pair .str (.pair (.int .i64) (.pair (.list (.int .i64)) (.int .i64)))))) (.pair (.int .i64) (.pair .str (.pair .str (.pair (.int .i64) (.pair (.list (.int .i64)) (.int .i64))))))) (.pair (.list (.pair (.int .i64) (.pair (.int .i64) (.pair (.int .i64) (.pair (.list .str) (.pair (.list .bool) (.int .i64))))))) (.int .i64)))))) .nil))))))) (.cons (.agg (.cons (.int .i64) (.cons (.int .i64) (.cons .str .nil)))) .nil)) (.int .i64) x = s_TargetOf k x := by kernel_rfl
theorem e_s_TargetOf (k : Nat) : EntryOk Try.prog ⟨32, 0, (.cons (.agg (.cons (.int .i64) (.cons (.int .i64) (.cons (.il true (.pair (.int .i64) (.pair (.int .i64) (.int .i64)))) (.cons (.il true (.pair (.int .i64) (.int .i64))) (.cons (.il true (.pair (.pair (.int .i64) (.int .i64)) (.int .i64))) (.cons (.il true (.pair (.int .i64) (.pair (.int .i64) (.pair (.pair (.pair (.int .i64) (.pair .str (.pair .str (.pair (.int .i64) (.pair (.list (.int .i64)) (.int .i64)))))) (.pair (.int .i64) (.pair .str (.pair .str (.pair (.int .i64) (.pair (.list (.int .i64)) (.int .i64))))))) (.pair (.list (.pair (.int .i64) (.pair (.int .i64) (.pair (.int .i64) (.pair (.list .str) (.pair (.list .bool) (.int .i64))))))) (.int .i64)))))) .nil))))))) (.cons (.agg (.cons (.int .i64) (.cons (.int .i64) (.cons .str .nil)))) .nil)), (.int .i64), s_TargetOf k⟩ := entry_ok tok (by intro e he; simp only [List.mem_cons, List.not_mem_nil, or_false] at he; rcases he with rfl <;> first | exact e_s_LookUp k) (by kernel_rfl) (fn := Try.f32) (k := k) (es := [⟨74, 0, (.cons (.il true (.pair (.pair (.int .i64) (.int .i64)) (.int .i64))) (.cons (.int .i64) .nil)), (.int .i64), s_LookUp k⟩]) (loops := []) (by kernel_rfl) (by kernel_rfl) (fun x r h => (t_s_TargetOf k x).trans h)
def w_toPrefix (k : Nat) (x : (Int × Int × Unit) × Unit) : Option ((Int × Int × Unit) × Unit × Unit) :=
some ((x.1.1, (x.1.2.1, ())), ((), ()))
theorem t_w_toPrefix (k : Nat) (x) : evF TTab k [] [] Try.f126 (.cons (.agg (.cons (.int .i64) (.cons (.int .i64) .nil))) .nil) (.agg (.cons (.int .i64) (.cons (.int .i64) .nil))) x = w_toPrefix k x := by kernel_rfl
theorem e_w_toPrefix (k : Nat) : EntryOk Try.prog ⟨126, 0, (.cons (.agg (.cons (.int .i64) (.cons (.int .i64) .nil))) .nil), (.agg (.cons (.int .i64) (.cons (.int .i64) .nil))), w_toPrefix k⟩ := entry_ok tok (by simp) (by kernel_rfl) (fn := Try.f126) (k := k) (es := []) (loops := []) (by kernel_rfl) (by kernel_rfl) (fun x r h => (t_w_toPrefix k x).trans h)
def w_toLease (k : Nat) (x : (Int × Int × Int × Unit) × Unit) : Option ((Int × Int × Int × Unit) × Unit × Unit) :=
some ((x.1.1, (x.1.2.1, (x.1.2.2.1, ()))), ((), ()))
theorem t_w_toLease (k : Nat) (x) : evF TTab k [] [] Try.f184 (.cons (.agg (.cons (.int .i64) (.cons (.int .i64) (.cons (.int .i64) .nil)))) .nil) (.agg (.cons (.int .i64) (.cons (.int .i64) (.cons (.int .i64) .nil)))) x = w_toLease k x := by kernel_rfl
theorem e_w_toLease (k : Nat) : EntryOk Try.prog ⟨184, 0, (.cons (.agg (.cons (.int .i64) (.cons (.int .i64) (.cons (.int .i64) .nil)))) .nil), (.agg (.cons (.int .i64) (.cons (.int .i64) (.cons (.int .i64) .nil)))), w_toLease k⟩ := entry_ok tok (by simp) (by kernel_rfl) (fn := Try.f184) (k := k) (es := []) (loops := []) (by kernel_rfl) (by kernel_rfl) (fun x r h => (t_w_toLease k x).trans h)
def w_toLeaseS (k : Nat) (x : (List (Int × Int × Int)) × Unit) : Option ((List (Int × Int × Int)) × Unit × Unit) :=
(if (List.length x.1 : Int) = (List.length x.1 : Int) then
(if 0 ≤ (List.length x.1 : Int) ∧ (List.length x.1 : Int) ≤ (capMax : Int) then
(whileK (fun (rec0 : ((List (Int × Int × Int)) × (List (Int × Int × Int)) × Int × Unit) → Option _) (y0 : (List (Int × Int × Int)) × (List (Int × Int × Int)) × Int × Unit) =>
(if (decide (y0.2.2.1 < (List.length y0.1 : Int))) = true then
(if 0 ≤ y0.2.2.1 ∧ y0.2.2.1 < (List.length y0.1 : Int) then
((w_toLease k (((Ty.rd (t := (.pair (.int .i64) (.pair (.int .i64) (.int .i64)))) y0.1 y0.2.2.1).1, ((Ty.rd (t := (.pair (.int .i64) (.pair (.int .i64) (.int .i64)))) y0.1 y0.2.2.1).2.1, ((Ty.rd (t := (.pair (.int .i64) (.pair (.int .i64) (.int .i64)))) y0.1 y0.2.2.1).2.2, ()))), ())).bind fun p1 =>
(if 0 ≤ y0.2.2.1 ∧ y0.2.2.1 < (List.length y0.2.1 : Int) then
(rec0 (y0.1, ((List.set y0.2.1 (Int.toNat y0.2.2.1) (p1.1.1, (p1.1.2.1, p1.1.2.2.1))), ((wi64 (y0.2.2.1 + (1 : Int))), ()))))
else none))
else none)
else
((fun (z1 : (List (Int × Int × Int)) × Unit) =>
some (z1.1, ((), ()))) (y0.2.1, ())))) k (x.1, ((List.replicate (Int.toNat (List.length x.1 : Int)) ((0 : Int), ((0 : Int), (0 : Int)))), ((0 : Int), ()))))
else none)
else none)
theorem t_w_toLeaseS (k : Nat) (x) : evF TTab k [⟨184, 0, (.cons (.agg (.cons (.int .i64) (.cons (.int .i64) (.cons (.int .i64) .nil)))) .nil), (.agg (.cons (.int .i64) (.cons (.int .i64) (.cons (.int .i64) .nil)))), w_toLease k⟩] [(0, ⟨[0, 3, 4], (.cons (.il true (.pair (.int .i64) (.pair (.int .i64) (.int .i64)))) (.cons (.own false 229 (.pair (.int .i64) (.pair (.int .i64) (.int .i64)))) (.cons (.int .i64) .nil)))⟩, ⟨[3], (.cons (.own false 229 (.pair (.int .i64) (.pair (.int .i64) (.int .i64)))) .nil)⟩)] Try.f127 (.cons (.il true (.pair (.int .i64) (.pair (.int .i64) (.int .i64)))) .nil) (.own false 229 (.pair (.int .i64) (.pair (.int .i64) (.int .i64)))) x = w_toLeaseS k x := by kernel_rfl
theorem e_w_toLeaseS (k : Nat) : EntryOk Try.prog ⟨127, 0, (.cons (.il true (.pair (.int .i64) (.pair (.int .i64) (.int .i64)))) .nil), (.own false 229 (.pair (.int .i64) (.pair (.int .i64) (.int .i64)))), w_toLeaseS k⟩ := entry_ok tok (by intro e he; simp only [List.mem_cons, List.not_mem_nil, or_false] at he; rcases he with rfl <;> first | exact e_w_toLease k) (by kernel_rfl) (fn := Try.f127) (k := k) (es := [⟨184, 0, (.cons (.agg (.cons (.int .i64) (.cons (.int .i64) (.cons (.int .i64) .nil)))) .nil), (.agg (.cons (.int .i64) (.cons (.int .i64) (.cons (.int .i64) .nil)))), w_toLease k⟩]) (loops := [(0, ⟨[0, 3, 4], (.cons (.il true (.pair (.int .i64) (.pair (.int .i64) (.int .i64)))) (.cons (.own false 229 (.pair (.int .i64) (.pair (.int .i64) (.int .i64)))) (.cons (.int .i64) .nil)))⟩, ⟨[3], (.cons (.own false 229 (.pair (.int .i64) (.pair (.int .i64) (.int .i64)))) .nil)⟩)]) (by kernel_rfl) (by kernel_rfl) (fun x r h => (t_w_toLeaseS k x).trans h)
def w_toFixed (k : Nat) (x : (Int × Int × Unit) × Unit) : Option ((Int × Int × Unit) × Unit × Unit) :=
some ((x.1.1, (x.1.2.1, ())), ((), ()))
theorem t_w_toFixed (k : Nat) (x) : evF TTab k [] [] Try.f185 (.cons (.agg (.cons (.int .i64) (.cons (.int .i64) .nil))) .nil) (.agg (.cons (.int .i64) (.cons (.int .i64) .nil))) x = w_toFixed k x := by kernel_rfl
theorem e_w_toFixed (k : Nat) : EntryOk Try.prog ⟨185, 0, (.cons (.agg (.cons (.int .i64) (.cons (.int .i64) .nil))) .nil), (.agg (.cons (.int .i64) (.cons (.int .i64) .nil))), w_toFixed k⟩ := entry_ok tok (by simp) (by kernel_rfl) (fn := Try.f185) (k := k) (es := []) (loops := []) (by kernel_rfl) (by kernel_rfl) (fun x r h => (t_w_toFixed k x).trans h)
def w_toFixedS (k : Nat) (x : (List (Int × Int)) × Unit) : Option ((List (Int × Int)) × Unit × Unit) :=
(if (List.length x.1 : Int) = (List.length x.1 : Int) then
(if 0 ≤ (List.length x.1 : Int) ∧ (List.length x.1 : Int) ≤ (capMax : Int) then
(whileK (fun (rec0 : ((List (Int × Int)) × (List (Int × Int)) × Int × Unit) → Option _) (y0 : (List (Int × Int)) × (List (Int × Int)) × Int × Unit) =>
(if (decide (y0.2.2.1 < (List.length y0.1 : Int))) = true then
(if 0 ≤ y0.2.2.1 ∧ y0.2.2.1 < (List.length y0.1 : Int) then
((w_toFixed k (((Ty.rd (t := (.pair (.int .i64) (.int .i64))) y0.1 y0.2.2.1).1, ((Ty.rd (t := (.pair (.int .i64) (.int .i64))) y0.1 y0.2.2.1).2, ())), ())).bind fun p1 =>
(if 0 ≤ y0.2.2.1 ∧ y0.2.2.1 < (List.length y0.2.1 : Int) then
(rec0 (y0.1, ((List.set y0.2.1 (Int.toNat y0.2.2.1) (p1.1.1, p1.1.2.1)), ((wi64 (y0.2.2.1 + (1 : Int))), ()))))
else none))
else none)
else
((fun (z1 : (List (Int × Int)) × Unit) =>
some (z1.1, ((), ()))) (y0.2.1, ())))) k (x.1, ((List.replicate (Int.toNat (List.length x.1 : Int)) ((0 : Int), (0 : Int))), ((0 : Int), ()))))
else none)
else none)
theorem t_w_toFixedS (k : Nat) (x) : evF TTab k [⟨185, 0, (.cons (.agg (.cons (.int .i64) (.cons (.int .i64) .nil))) .nil), (.agg (.cons (.int .i64) (.cons (.int .i64) .nil))), w_toFixed k⟩] [(0, ⟨[0, 3, 4], (.cons (.il true (.pair (.int .i64) (.int .i64))) (.cons (.own false 233 (.pair (.int .i64) (.int .i64))) (.cons (.int .i64) .nil)))⟩, ⟨[3], (.cons (.own false 233 (.pair (.int .i64) (.int .i64))) .nil)⟩)] Try.f128 (.cons (.il true (.pair (.int .i64) (.int .i64))) .nil) (.own false 233 (.pair (.int .i64) (.int .i64))) x = w_toFixedS k x := by kernel_rfl
theorem e_w_toFixedS (k : Nat) : EntryOk Try.prog ⟨128, 0, (.cons (.il true (.pair (.int .i64) (.int .i64))) .nil), (.own false 233 (.pair (.int .i64) (.int .i64))), w_toFixedS k⟩ := entry_ok tok (by intro e he; simp only [List.mem_cons, List.not_mem_nil, or_false] at he; rcases he with rfl <;> first | exact e_w_toFixed k) (by kernel_rfl) (fn := Try.f128) (k := k) (es := [⟨185, 0, (.cons (.agg (.cons (.int .i64) (.cons (.int .i64) .nil))) .nil), (.agg (.cons (.int .i64) (.cons (.int .i64) .nil))), w_toFixed k⟩]) (loops := [(0, ⟨[0, 3, 4], (.cons (.il true (.pair (.int .i64) (.int .i64))) (.cons (.own false 233 (.pair (.int .i64) (.int .i64))) (.cons (.int .i64) .nil)))⟩, ⟨[3], (.cons (.own false 233 (.pair (.int .i64) (.int .i64))) .nil)⟩)]) (by kernel_rfl) (by kernel_rfl) (fun x r h => (t_w_toFixedS k x).trans h)
def w_toPool (k : Nat) (x : (Int × Int × (List (Int × Int × Int)) × (List (Int × Int)) × Unit) × Unit) : Option ((Int × Int × (List (Int × Int × Int)) × (List (Int × Int)) × Unit) × Unit × Unit) :=
((w_toPrefix k ((x.1.1, (x.1.2.1, ())), ())).bind fun p1 =>
((w_toLeaseS k (x.1.2.2.1, ())).bind fun p2 =>
((w_toFixedS k (x.1.2.2.2.1, ())).bind fun p3 =>
some ((p1.1.1, (p1.1.2.1, (p2.1, (p3.1, ())))), ((), ())))))
theorem t_w_toPool (k : Nat) (x) : evF TTab k [⟨126, 0, (.cons (.agg (.cons (.int .i64) (.cons (.int .i64) .nil))) .nil), (.agg (.cons (.int .i64) (.cons (.int .i64) .nil))), w_toPrefix k⟩, ⟨127, 0, (.cons (.il true (.pair (.int .i64) (.pair (.int .i64) (.int .i64)))) .nil), (.own false 229 (.pair (.int .i64) (.pair (.int .i64) (.int .i64)))), w_toLeaseS k⟩, ⟨128, 0, (.cons (.il true (.pair (.int .i64) (.int .i64))) .nil), (.own false 233 (.pair (.int .i64) (.int .i64))), w_toFixedS k⟩] [] Try.f75 (.cons (.agg (.cons (.int .i64) (.cons (.int .i64) (.cons (.il true (.pair (.int .i64) (.pair (.int .i64) (.int .i64)))) (.cons (.il true (.pair (.int .i64) (.int .i64))) .nil))))) .nil) (.agg (.cons (.int .i64) (.cons (.int .i64) (.cons (.own false 229 (.pair (.int .i64) (.pair (.int .i64) (.int .i64)))) (.cons (.own false 233 (.pair (.int .i64) (.int .i64))) .nil))))) x = w_toPool k x := by kernel_rfl
theorem e_w_toPool (k : Nat) : EntryOk Try.prog ⟨75, 0, (.cons (.agg (.cons (.int .i64) (.cons (.int .i64) (.cons (.il true (.pair (.int .i64) (.pair (.int .i64) (.int .i64)))) (.cons (.il true (.pair (.int .i64) (.int .i64))) .nil))))) .nil), (.agg (.cons (.int .i64) (.cons (.int .i64) (.cons (.own false 229 (.pair (.int .i64) (.pair (.int .i64) (.int .i64)))) (.cons (.own false 233 (.pair (.int .i64) (.int .i64))) .nil))))), w_toPool k⟩ := entry_ok tok (by intro e he; simp only [List.mem_cons, List.not_mem_nil, or_false] at he; rcases he with rfl | rfl | rfl <;> first | exact e_w_toPrefix k | exact e_w_toLeaseS k | exact e_w_toFixedS k) (by kernel_rfl) (fn := Try.f75) (k := k) (es := [⟨126, 0, (.cons (.agg (.cons (.int .i64) (.cons (.int .i64) .nil))) .nil), (.agg (.cons (.int .i64) (.cons (.int .i64) .nil))), w_toPrefix k⟩, ⟨127, 0, (.cons (.il true (.pair (.int .i64) (.pair (.int .i64) (.int .i64)))) .nil), (.own false 229 (.pair (.int .i64) (.pair (.int .i64) (.int .i64)))), w_toLeaseS k⟩, ⟨128, 0, (.cons (.il true (.pair (.int .i64) (.int .i64))) .nil), (.own false 233 (.pair (.int .i64) (.int .i64))), w_toFixedS k⟩]) (loops := []) (by kernel_rfl) (by kernel_rfl) (fun x r h => (t_w_toPool k x).trans h)
def w_toRoute (k : Nat) (x : (Int × Int × Int × Unit) × Unit) : Option ((Int × Int × Int × Unit) × Unit × Unit) :=
((w_toPrefix k ((x.1.1, (x.1.2.1, ())), ())).bind fun p1 =>
some ((p1.1.1, (p1.1.2.1, (x.1.2.2.1, ()))), ((), ())))
theorem t_w_toRoute (k : Nat) (x) : evF TTab k [⟨126, 0, (.cons (.agg (.cons (.int .i64) (.cons (.int .i64) .nil))) .nil), (.agg (.cons (.int .i64) (.cons (.int .i64) .nil))), w_toPrefix k⟩] [] Try.f129 (.cons (.agg (.cons (.int .i64) (.cons (.int .i64) (.cons (.int .i64) .nil)))) .nil) (.agg (.cons (.int .i64) (.cons (.int .i64) (.cons (.int .i64) .nil)))) x = w_toRoute k x := by kernel_rfl
theorem e_w_toRoute (k : Nat) : EntryOk Try.prog ⟨129, 0, (.cons (.agg (.cons (.int .i64) (.cons (.int .i64) (.cons (.int .i64) .nil)))) .nil), (.agg (.cons (.int .i64) (.cons (.int .i64) (.cons (.int .i64) .nil)))), w_toRoute k⟩ := entry_ok tok (by intro e he; simp only [List.mem_cons, List.not_mem_nil, or_false] at he; rcases he with rfl <;> first | exact e_w_toPrefix k) (by kernel_rfl) (fn := Try.f129) (k := k) (es := [⟨126, 0, (.cons (.agg (.cons (.int .i64) (.cons (.int .i64) .nil))) .nil), (.agg (.cons (.int .i64) (.cons (.int .i64) .nil))), w_toPrefix k⟩]) (loops := []) (by kernel_rfl) (by kernel_rfl) (fun x r h => (t_w_toRoute k x).trans h)
def w_toRouteS (k : Nat) (x : (List ((Int × Int) × Int)) × Unit) : Option ((List ((Int × Int) × Int)) × Unit × Unit) :=
(if (List.length x.1 : Int) = (List.length x.1 : Int) then
(if 0 ≤ (List.length x.1 : Int) ∧ (List.length x.1 : Int) ≤ (capMax : Int) then
(whileK (fun (rec0 : ((List ((Int × Int) × Int)) × (List ((Int × Int) × Int)) × Int × Unit) → Option _) (y0 : (List ((Int × Int) × Int)) × (List ((Int × Int) × Int)) × Int × Unit) =>
(if (decide (y0.2.2.1 < (List.length y0.1 : Int))) = true then
(if 0 ≤ y0.2.2.1 ∧ y0.2.2.1 < (List.length y0.1 : Int) then
((w_toRoute k (((Ty.rd (t := (.pair (.pair (.int .i64) (.int .i64)) (.int .i64))) y0.1 y0.2.2.1).1.1, ((Ty.rd (t := (.pair (.pair (.int .i64) (.int .i64)) (.int .i64))) y0.1 y0.2.2.1).1.2, ((Ty.rd (t := (.pair (.pair (.int .i64) (.int .i64)) (.int .i64))) y0.1 y0.2.2.1).2, ()))), ())).bind fun p1 =>
(if 0 ≤ y0.2.2.1 ∧ y0.2.2.1 < (List.length y0.2.1 : Int) then
(rec0 (y0.1, ((List.set y0.2.1 (Int.toNat y0.2.2.1) ((p1.1.1, p1.1.2.1), p1.1.2.2.1)), ((wi64 (y0.2.2.1 + (1 : Int))), ()))))
else none))
else none)
else
((fun (z1 : (List ((Int × Int) × Int)) × Unit) =>
some (z1.1, ((), ()))) (y0.2.1, ())))) k (x.1, ((List.replicate (Int.toNat (List.length x.1 : Int)) (((0 : Int), (0 : Int)), (0 : Int))), ((0 : Int), ()))))
else none)
else none)
theorem t_w_toRouteS (k : Nat) (x) : evF TTab k [⟨129, 0, (.cons (.agg (.cons (.int .i64) (.cons (.int .i64) (.cons (.int .i64) .nil)))) .nil), (.agg (.cons (.int .i64) (.cons (.int .i64) (.cons (.int .i64) .nil)))), w_toRoute k⟩] [(0, ⟨[0, 3, 4], (.cons (.il true (.pair (.pair (.int .i64) (.int .i64)) (.int .i64))) (.cons (.own false 168 (.pair (.pair (.int .i64) (.int .i64)) (.int .i64))) (.cons (.int .i64) .nil)))⟩, ⟨[3], (.cons (.own false 168 (.pair (.pair (.int .i64) (.int .i64)) (.int .i64))) .nil)⟩)] Try.f76 (.cons (.il true (.pair (.pair (.int .i64) (.int .i64)) (.int .i64))) .nil) (.own false 168 (.pair (.pair (.int .i64) (.int .i64)) (.int .i64))) x = w_toRouteS k x := by kernel_rfl
theorem e_w_toRouteS (k : Nat) : EntryOk Try.prog ⟨76, 0, (.cons (.il true (.pair (.pair (.int .i64) (.int .i64)) (.int .i64))) .nil), (.own false 168 (.pair (.pair (.int .i64) (.int .i64)) (.int .i64))), w_toRouteS k⟩ := entry_ok tok (by intro e he; simp only [List.mem_cons, List.not_mem_nil, or_false] at he; rcases he with rfl <;> first | exact e_w_toRoute k) (by kernel_rfl) (fn := Try.f76) (k := k) (es := [⟨129, 0, (.cons (.agg (.cons (.int .i64) (.cons (.int .i64) (.cons (.int .i64) .nil)))) .nil), (.agg (.cons (.int .i64) (.cons (.int .i64) (.cons (.int .i64) .nil)))), w_toRoute k⟩]) (loops := [(0, ⟨[0, 3, 4], (.cons (.il true (.pair (.pair (.int .i64) (.int .i64)) (.int .i64))) (.cons (.own false 168 (.pair (.pair (.int .i64) (.int .i64)) (.int .i64))) (.cons (.int .i64) .nil)))⟩, ⟨[3], (.cons (.own false 168 (.pair (.pair (.int .i64) (.int .i64)) (.int .i64))) .nil)⟩)]) (by kernel_rfl) (by kernel_rfl) (fun x r h => (t_w_toRouteS k x).trans h)
def w_toStringS (k : Nat) (x : List (ByteArray) × Unit) : Option (List (ByteArray) × Unit × Unit) :=
(if (List.length x.1 : Int) = (List.length x.1 : Int) then
(if 0 ≤ (List.length x.1 : Int) ∧ (List.length x.1 : Int) ≤ (capMax : Int) then
(whileK (fun (rec0 : (List (ByteArray) × List (ByteArray) × Int × Unit) → Option _) (y0 : List (ByteArray) × List (ByteArray) × Int × Unit) =>
(if (decide (y0.2.2.1 < (List.length y0.1 : Int))) = true then
(if 0 ≤ y0.2.2.1 ∧ y0.2.2.1 < (List.length y0.1 : Int) then
(if 0 ≤ y0.2.2.1 ∧ y0.2.2.1 < (List.length y0.2.1 : Int) then
(rec0 (y0.1, ((List.set y0.2.1 (Int.toNat y0.2.2.1) (Ty.rd (t := .str) y0.1 y0.2.2.1)), ((wi64 (y0.2.2.1 + (1 : Int))), ()))))
else none)
else none)
else
((fun (z1 : List (ByteArray) × Unit) =>
some (z1.1, ((), ()))) (y0.2.1, ())))) k (x.1, ((List.replicate (Int.toNat (List.length x.1 : Int)) (⟨#[]⟩ : ByteArray)), ((0 : Int), ()))))
else none)
else none)
theorem t_w_toStringS (k : Nat) (x) : evF TTab k [] [(0, ⟨[0, 3, 4], (.cons (.il true .str) (.cons (.own false 9 .str) (.cons (.int .i64) .nil)))⟩, ⟨[3], (.cons (.own false 9 .str) .nil)⟩)] Try.f244 (.cons (.il true .str) .nil) (.own false 9 .str) x = w_toStringS k x := by kernel_rfl
theorem e_w_toStringS (k : Nat) : EntryOk Try.prog ⟨244, 0, (.cons (.il true .str) .nil), (.own false 9 .str), w_toStringS k⟩ := entry_ok tok (by simp) (by kernel_rfl) (fn := Try.f244) (k := k) (es := []) (loops := [(0, ⟨[0, 3, 4], (.cons (.il true .str) (.cons (.own false 9 .str) (.cons (.int .i64) .nil)))⟩, ⟨[3], (.cons (.own false 9 .str) .nil)⟩)]) (by kernel_rfl) (by kernel_rfl) (fun x r h => (t_w_toStringS k x).trans h)
def w_toBoolS (k : Nat) (x : List (Bool) × Unit) : Option (List (Bool) × Unit × Unit) :=
(if (List.length x.1 : Int) = (List.length x.1 : Int) then
(if 0 ≤ (List.length x.1 : Int) ∧ (List.length x.1 : Int) ≤ (capMax : Int) then
(whileK (fun (rec0 : (List (Bool) × List (Bool) × Int × Unit) → Option _) (y0 : List (Bool) × List (Bool) × Int × Unit) =>
(if (decide (y0.2.2.1 < (List.length y0.1 : Int))) = true then
(if 0 ≤ y0.2.2.1 ∧ y0.2.2.1 < (List.length y0.1 : Int) then
(if 0 ≤ y0.2.2.1 ∧ y0.2.2.1 < (List.length y0.2.1 : Int) then
(rec0 (y0.1, ((List.set y0.2.1 (Int.toNat y0.2.2.1) (Ty.rd (t := .bool) y0.1 y0.2.2.1)), ((wi64 (y0.2.2.1 + (1 : Int))), ()))))
else none)
else none)
else
((fun (z1 : List (Bool) × Unit) =>
some (z1.1, ((), ()))) (y0.2.1, ())))) k (x.1, ((List.replicate (Int.toNat (List.length x.1 : Int)) false), ((0 : Int), ()))))
else none)
else none)
theorem t_w_toBoolS (k : Nat) (x) : evF TTab k [] [(0, ⟨[0, 3, 4], (.cons (.il true .bool) (.cons (.own false 4 .bool) (.cons (.int .i64) .nil)))⟩, ⟨[3], (.cons (.own false 4 .bool) .nil)⟩)] Try.f245 (.cons (.il true .bool) .nil) (.own false 4 .bool) x = w_toBoolS k x := by kernel_rfl
theorem e_w_toBoolS (k : Nat) : EntryOk Try.prog ⟨245, 0, (.cons (.il true .bool) .nil), (.own false 4 .bool), w_toBoolS k⟩ := entry_ok tok (by simp) (by kernel_rfl) (fn := Try.f245) (k := k) (es := []) (loops := [(0, ⟨[0, 3, 4], (.cons (.il true .bool) (.cons (.own false 4 .bool) (.cons (.int .i64) .nil)))⟩, ⟨[3], (.cons (.own false 4 .bool) .nil)⟩)]) (by kernel_rfl) (by kernel_rfl) (fun x r h => (t_w_toBoolS k x).trans h)
def w_toHeld (k : Nat) (x : (Int × Int × Int × List (ByteArray) × List (Bool) × Int × Unit) × Unit) : Option ((Int × Int × Int × List (ByteArray) × List (Bool) × Int × Unit) × Unit × Unit) :=
((w_toStringS k (x.1.2.2.2.1, ())).bind fun p1 =>
((w_toBoolS k (x.1.2.2.2.2.1, ())).bind fun p2 =>
some ((x.1.1, (x.1.2.1, (x.1.2.2.1, (p1.1, (p2.1, (x.1.2.2.2.2.2.1, ())))))), ((), ()))))
theorem t_w_toHeld (k : Nat) (x) : evF TTab k [⟨244, 0, (.cons (.il true .str) .nil), (.own false 9 .str), w_toStringS k⟩, ⟨245, 0, (.cons (.il true .bool) .nil), (.own false 4 .bool), w_toBoolS k⟩] [] Try.f238 (.cons (.agg (.cons (.int .i64) (.cons (.int .i64) (.cons (.int .i64) (.cons (.il true .str) (.cons (.il true .bool) (.cons (.int .i64) .nil))))))) .nil) (.agg (.cons (.int .i64) (.cons (.int .i64) (.cons (.int .i64) (.cons (.own false 9 .str) (.cons (.own false 4 .bool) (.cons (.int .i64) .nil))))))) x = w_toHeld k x := by kernel_rfl
theorem e_w_toHeld (k : Nat) : EntryOk Try.prog ⟨238, 0, (.cons (.agg (.cons (.int .i64) (.cons (.int .i64) (.cons (.int .i64) (.cons (.il true .str) (.cons (.il true .bool) (.cons (.int .i64) .nil))))))) .nil), (.agg (.cons (.int .i64) (.cons (.int .i64) (.cons (.int .i64) (.cons (.own false 9 .str) (.cons (.own false 4 .bool) (.cons (.int .i64) .nil))))))), w_toHeld k⟩ := entry_ok tok (by intro e he; simp only [List.mem_cons, List.not_mem_nil, or_false] at he; rcases he with rfl | rfl <;> first | exact e_w_toStringS k | exact e_w_toBoolS k) (by kernel_rfl) (fn := Try.f238) (k := k) (es := [⟨244, 0, (.cons (.il true .str) .nil), (.own false 9 .str), w_toStringS k⟩, ⟨245, 0, (.cons (.il true .bool) .nil), (.own false 4 .bool), w_toBoolS k⟩]) (loops := []) (by kernel_rfl) (by kernel_rfl) (fun x r h => (t_w_toHeld k x).trans h)
def w_toHeldS (k : Nat) (x : (List (Int × Int × Int × List (ByteArray) × List (Bool) × Int)) × Unit) : Option ((List (Int × Int × Int × List (ByteArray) × List (Bool) × Int)) × Unit × Unit) :=
(if (List.length x.1 : Int) = (List.length x.1 : Int) then
(if 0 ≤ (List.length x.1 : Int) ∧ (List.length x.1 : Int) ≤ (capMax : Int) then
(whileK (fun (rec0 : ((List (Int × Int × Int × List (ByteArray) × List (Bool) × Int)) × (List (Int × Int × Int × List (ByteArray) × List (Bool) × Int)) × Int × Unit) → Option _) (y0 : (List (Int × Int × Int × List (ByteArray) × List (Bool) × Int)) × (List (Int × Int × Int × List (ByteArray) × List (Bool) × Int)) × Int × Unit) =>
(if (decide (y0.2.2.1 < (List.length y0.1 : Int))) = true then
(if 0 ≤ y0.2.2.1 ∧ y0.2.2.1 < (List.length y0.1 : Int) then
((w_toHeld k (((Ty.rd (t := (.pair (.int .i64) (.pair (.int .i64) (.pair (.int .i64) (.pair (.list .str) (.pair (.list .bool) (.int .i64))))))) y0.1 y0.2.2.1).1, ((Ty.rd (t := (.pair (.int .i64) (.pair (.int .i64) (.pair (.int .i64) (.pair (.list .str) (.pair (.list .bool) (.int .i64))))))) y0.1 y0.2.2.1).2.1, ((Ty.rd (t := (.pair (.int .i64) (.pair (.int .i64) (.pair (.int .i64) (.pair (.list .str) (.pair (.list .bool) (.int .i64))))))) y0.1 y0.2.2.1).2.2.1, ((Ty.rd (t := (.pair (.int .i64) (.pair (.int .i64) (.pair (.int .i64) (.pair (.list .str) (.pair (.list .bool) (.int .i64))))))) y0.1 y0.2.2.1).2.2.2.1, ((Ty.rd (t := (.pair (.int .i64) (.pair (.int .i64) (.pair (.int .i64) (.pair (.list .str) (.pair (.list .bool) (.int .i64))))))) y0.1 y0.2.2.1).2.2.2.2.1, ((Ty.rd (t := (.pair (.int .i64) (.pair (.int .i64) (.pair (.int .i64) (.pair (.list .str) (.pair (.list .bool) (.int .i64))))))) y0.1 y0.2.2.1).2.2.2.2.2, ())))))), ())).bind fun p1 =>
(if 0 ≤ y0.2.2.1 ∧ y0.2.2.1 < (List.length y0.2.1 : Int) then
(rec0 (y0.1, ((List.set y0.2.1 (Int.toNat y0.2.2.1) (p1.1.1, (p1.1.2.1, (p1.1.2.2.1, (p1.1.2.2.2.1, (p1.1.2.2.2.2.1, p1.1.2.2.2.2.2.1)))))), ((wi64 (y0.2.2.1 + (1 : Int))), ()))))
else none))
else none)
else
((fun (z1 : (List (Int × Int × Int × List (ByteArray) × List (Bool) × Int)) × Unit) =>
some (z1.1, ((), ()))) (y0.2.1, ())))) k (x.1, ((List.replicate (Int.toNat (List.length x.1 : Int)) ((0 : Int), ((0 : Int), ((0 : Int), ([], ([], (0 : Int))))))), ((0 : Int), ()))))
else none)
else none)
theorem t_w_toHeldS (k : Nat) (x) : evF TTab k [⟨238, 0, (.cons (.agg (.cons (.int .i64) (.cons (.int .i64) (.cons (.int .i64) (.cons (.il true .str) (.cons (.il true .bool) (.cons (.int .i64) .nil))))))) .nil), (.agg (.cons (.int .i64) (.cons (.int .i64) (.cons (.int .i64) (.cons (.own false 9 .str) (.cons (.own false 4 .bool) (.cons (.int .i64) .nil))))))), w_toHeld k⟩] [(0, ⟨[0, 3, 4], (.cons (.il true (.pair (.int .i64) (.pair (.int .i64) (.pair (.int .i64) (.pair (.list .str) (.pair (.list .bool) (.int .i64))))))) (.cons (.own false 289 (.pair (.int .i64) (.pair (.int .i64) (.pair (.int .i64) (.pair (.list .str) (.pair (.list .bool) (.int .i64))))))) (.cons (.int .i64) .nil)))⟩, ⟨[3], (.cons (.own false 289 (.pair (.int .i64) (.pair (.int .i64) (.pair (.int .i64) (.pair (.list .str) (.pair (.list .bool) (.int .i64))))))) .nil)⟩)] Try.f222 (.cons (.il true (.pair (.int .i64) (.pair (.int .i64) (.pair (.int .i64) (.pair (.list .str) (.pair (.list .bool) (.int .i64))))))) .nil) (.own false 289 (.pair (.int .i64) (.pair (.int .i64) (.pair (.int .i64) (.pair (.list .str) (.pair (.list .bool) (.int .i64))))))) x = w_toHeldS k x := by kernel_rfl
theorem e_w_toHeldS (k : Nat) : EntryOk Try.prog ⟨222, 0, (.cons (.il true (.pair (.int .i64) (.pair (.int .i64) (.pair (.int .i64) (.pair (.list .str) (.pair (.list .bool) (.int .i64))))))) .nil), (.own false 289 (.pair (.int .i64) (.pair (.int .i64) (.pair (.int .i64) (.pair (.list .str) (.pair (.list .bool) (.int .i64))))))), w_toHeldS k⟩ := entry_ok tok (by intro e he; simp only [List.mem_cons, List.not_mem_nil, or_false] at he; rcases he with rfl <;> first | exact e_w_toHeld k) (by kernel_rfl) (fn := Try.f222) (k := k) (es := [⟨238, 0, (.cons (.agg (.cons (.int .i64) (.cons (.int .i64) (.cons (.int .i64) (.cons (.il true .str) (.cons (.il true .bool) (.cons (.int .i64) .nil))))))) .nil), (.agg (.cons (.int .i64) (.cons (.int .i64) (.cons (.int .i64) (.cons (.own false 9 .str) (.cons (.own false 4 .bool) (.cons (.int .i64) .nil))))))), w_toHeld k⟩]) (loops := [(0, ⟨[0, 3, 4], (.cons (.il true (.pair (.int .i64) (.pair (.int .i64) (.pair (.int .i64) (.pair (.list .str) (.pair (.list .bool) (.int .i64))))))) (.cons (.own false 289 (.pair (.int .i64) (.pair (.int .i64) (.pair (.int .i64) (.pair (.list .str) (.pair (.list .bool) (.int .i64))))))) (.cons (.int .i64) .nil)))⟩, ⟨[3], (.cons (.own false 289 (.pair (.int .i64) (.pair (.int .i64) (.pair (.int .i64) (.pair (.list .str) (.pair (.list .bool) (.int .i64))))))) .nil)⟩)]) (by kernel_rfl) (by kernel_rfl) (fun x r h => (t_w_toHeldS k x).trans h)
def w_toShelf (k : Nat) (x : ((List (Int × Int × Int × List (ByteArray) × List (Bool) × Int)) × Unit) × Unit) : Option (((List (Int × Int × Int × List (ByteArray) × List (Bool) × Int)) × Unit) × Unit × Unit) :=
((w_toHeldS k (x.1.1, ())).bind fun p1 =>
some ((p1.1, ()), ((), ())))
theorem t_w_toShelf (k : Nat) (x) : evF TTab k [⟨222, 0, (.cons (.il true (.pair (.int .i64) (.pair (.int .i64) (.pair (.int .i64) (.pair (.list .str) (.pair (.list .bool) (.int .i64))))))) .nil), (.own false 289 (.pair (.int .i64) (.pair (.int .i64) (.pair (.int .i64) (.pair (.list .str) (.pair (.list .bool) (.int .i64))))))), w_toHeldS k⟩] [] Try.f186 (.cons (.agg (.cons (.il true (.pair (.int .i64) (.pair (.int .i64) (.pair (.int .i64) (.pair (.list .str) (.pair (.list .bool) (.int .i64))))))) .nil)) .nil) (.agg (.cons (.own false 289 (.pair (.int .i64) (.pair (.int .i64) (.pair (.int .i64) (.pair (.list .str) (.pair (.list .bool) (.int .i64))))))) .nil)) x = w_toShelf k x := by kernel_rfl
theorem e_w_toShelf (k : Nat) : EntryOk Try.prog ⟨186, 0, (.cons (.agg (.cons (.il true (.pair (.int .i64) (.pair (.int .i64) (.pair (.int .i64) (.pair (.list .str) (.pair (.list .bool) (.int .i64))))))) .nil)) .nil), (.agg (.cons (.own false 289 (.pair (.int .i64) (.pair (.int .i64) (.pair (.int .i64) (.pair (.list .str) (.pair (.list .bool) (.int .i64))))))) .nil)), w_toShelf k⟩ := entry_ok tok (by intro e he; simp only [List.mem_cons, List.not_mem_nil, or_false] at he; rcases he with rfl <;> first | exact e_w_toHeldS k) (by kernel_rfl) (fn := Try.f186) (k := k) (es := [⟨222, 0, (.cons (.il true (.pair (.int .i64) (.pair (.int .i64) (.pair (.int .i64) (.pair (.list .str) (.pair (.list .bool) (.int .i64))))))) .nil), (.own false 289 (.pair (.int .i64) (.pair (.int .i64) (.pair (.int .i64) (.pair (.list .str) (.pair (.list .bool) (.int .i64))))))), w_toHeldS k⟩]) (loops := []) (by kernel_rfl) (by kernel_rfl) (fun x r h => (t_w_toShelf k x).trans h)
def w_toUser (k : Nat) (x : (Int × Int × Int × ByteArray × ByteArray × Int × List (Int) × Int × Int × ByteArray × ByteArray × Int × List (Int) × Int × (List (Int × Int × Int × List (ByteArray) × List (Bool) × Int)) × Int × Unit) × Unit) : Option ((Int × Int × Int × ByteArray × ByteArray × Int × List (Int) × Int × Int × ByteArray × ByteArray × Int × List (Int) × Int × (List (Int × Int × Int × List (ByteArray) × List (Bool) × Int)) × Int × Unit) × Unit × Unit) :=
((w_toSlots k ((x.1.2.2.1, (x.1.2.2.2.1, (x.1.2.2.2.2.1, (x.1.2.2.2.2.2.1, (x.1.2.2.2.2.2.2.1, (x.1.2.2.2.2.2.2.2.1, (x.1.2.2.2.2.2.2.2.2.1, (x.1.2.2.2.2.2.2.2.2.2.1, (x.1.2.2.2.2.2.2.2.2.2.2.1, (x.1.2.2.2.2.2.2.2.2.2.2.2.1, (x.1.2.2.2.2.2.2.2.2.2.2.2.2.1, (x.1.2.2.2.2.2.2.2.2.2.2.2.2.2.1, ())))))))))))), ())).bind fun p1 =>
((w_toShelf k ((x.1.2.2.2.2.2.2.2.2.2.2.2.2.2.2.1, ()), ())).bind fun p2 =>
some ((x.1.1, (x.1.2.1, (p1.1.1, (p1.1.2.1, (p1.1.2.2.1, (p1.1.2.2.2.1, (p1.1.2.2.2.2.1, (p1.1.2.2.2.2.2.1, (p1.1.2.2.2.2.2.2.1, (p1.1.2.2.2.2.2.2.2.1, (p1.1.2.2.2.2.2.2.2.2.1, (p1.1.2.2.2.2.2.2.2.2.2.1, (p1.1.2.2.2.2.2.2.2.2.2.2.1, (p1.1.2.2.2.2.2.2.2.2.2.2.2.1, (p2.1.1, (x.1.2.2.2.2.2.2.2.2.2.2.2.2.2.2.2.1, ())))))))))))))))), ((), ()))))
theorem t_w_toUser (k : Nat) (x) : evF TTab k [⟨28, 0, (.cons (.agg (.cons (.int .i64) (.cons .str (.cons .str (.cons (.int .i64) (.cons (.il true (.int .i64)) (.cons (.int .i64) (.cons (.int .i64) (.cons .str (.cons .str (.cons (.int .i64) (.cons (.il true (.int .i64)) (.cons (.int .i64) .nil))))))))))))) .nil), (.agg (.cons (.int .i64) (.cons .str (.cons .str (.cons (.int .i64) (.cons (.own false 3 (.int .i64)) (.cons (.int .i64) (.cons (.int .i64) (.cons .str (.cons .str (.cons (.int .i64) (.cons (.own false 3 (.int .i64)) (.cons (.int .i64) .nil))))))))))))), w_toSlots k⟩, ⟨186, 0, (.cons (.agg (.cons (.il true (.pair (.int .i64) (.pair (.int .i64) (.pair (.int .i64) (.pair (.list .str) (.pair (.list .bool) (.int .i64))))))) .nil)) .nil), (.agg (.cons (.own false 289 (.pair (.int .i64) (.pair (.int .i64) (.pair (.int .i64) (.pair (.list .str) (.pair (.list .bool) (.int .i64))))))) .nil)), w_toShelf k⟩] [] Try.f130 (.cons (.agg (.cons (.int .i64) (.cons (.int .i64) (.cons (.int .i64) (.cons .str (.cons .str (.cons (.int .i64) (.cons (.il true (.int .i64)) (.cons (.int .i64) (.cons (.int .i64) (.cons .str (.cons .str (.cons (.int .i64) (.cons (.il true (.int .i64)) (.cons (.int .i64) (.cons (.il true (.pair (.int .i64) (.pair (.int .i64) (.pair (.int .i64) (.pair (.list .str) (.pair (.list .bool) (.int .i64))))))) (.cons (.int .i64) .nil))))))))))))))))) .nil) (.agg (.cons (.int .i64) (.cons (.int .i64) (.cons (.int .i64) (.cons .str (.cons .str (.cons (.int .i64) (.cons (.own false 3 (.int .i64)) (.cons (.int .i64) (.cons (.int .i64) (.cons .str (.cons .str (.cons (.int .i64) (.cons (.own false 3 (.int .i64)) (.cons (.int .i64) (.cons (.own false 289 (.pair (.int .i64) (.pair (.int .i64) (.pair (.int .i64) (.pair (.list .str) (.pair (.list .bool) (.int .i64))))))) (.cons (.int .i64) .nil))))))))))))))))) x = w_toUser k x := by kernel_rfl
theorem e_w_toUser (k : Nat) : EntryOk Try.prog ⟨130, 0, (.cons (.agg (.cons (.int .i64) (.cons (.int .i64) (.cons (.int .i64) (.cons .str (.cons .str (.cons (.int .i64) (.cons (.il true (.int .i64)) (.cons (.int .i64) (.cons (.int .i64) (.cons .str (.cons .str (.cons (.int .i64) (.cons (.il true (.int .i64)) (.cons (.int .i64) (.cons (.il true (.pair (.int .i64) (.pair (.int .i64) (.pair (.int .i64) (.pair (.list .str) (.pair (.list .bool) (.int .i64))))))) (.cons (.int .i64) .nil))))))))))))))))) .nil), (.agg (.cons (.int .i64) (.cons (.int .i64) (.cons (.int .i64) (.cons .str (.cons .str (.cons (.int .i64) (.cons (.own false 3 (.int .i64)) (.cons (.int .i64) (.cons (.int .i64) (.cons .str (.cons .str (.cons (.int .i64) (.cons (.own false 3 (.int .i64)) (.cons (.int .i64) (.cons (.own false 289 (.pair (.int .i64) (.pair (.int .i64) (.pair (.int .i64) (.pair (.list .str) (.pair (.list .bool) (.int .i64))))))) (.cons (.int .i64) .nil))))))))))))))))), w_toUser k⟩ := entry_ok tok (by intro e he; simp only [List.mem_cons, List.not_mem_nil, or_false] at he; rcases he with rfl | rfl <;> first | exact e_w_toSlots k | exact e_w_toShelf k) (by kernel_rfl) (fn := Try.f130) (k := k) (es := [⟨28, 0, (.cons (.agg (.cons (.int .i64) (.cons .str (.cons .str (.cons (.int .i64) (.cons (.il true (.int .i64)) (.cons (.int .i64) (.cons (.int .i64) (.cons .str (.cons .str (.cons (.int .i64) (.cons (.il true (.int .i64)) (.cons (.int .i64) .nil))))))))))))) .nil), (.agg (.cons (.int .i64) (.cons .str (.cons .str (.cons (.int .i64) (.cons (.own false 3 (.int .i64)) (.cons (.int .i64) (.cons (.int .i64) (.cons .str (.cons .str (.cons (.int .i64) (.cons (.own false 3 (.int .i64)) (.cons (.int .i64) .nil))))))))))))), w_toSlots k⟩, ⟨186, 0, (.cons (.agg (.cons (.il true (.pair (.int .i64) (.pair (.int .i64) (.pair (.int .i64) (.pair (.list .str) (.pair (.list .bool) (.int .i64))))))) .nil)) .nil), (.agg (.cons (.own false 289 (.pair (.int .i64) (.pair (.int .i64) (.pair (.int .i64) (.pair (.list .str) (.pair (.list .bool) (.int .i64))))))) .nil)), w_toShelf k⟩]) (loops := []) (by kernel_rfl) (by kernel_rfl) (fun x r h => (t_w_toUser k x).trans h)
def w_toUserS (k : Nat) (x : (List (Int × Int × ((Int × ByteArray × ByteArray × Int × List (Int) × Int) × Int × ByteArray × ByteArray × Int × List (Int) × Int) × List (Int × Int × Int × List (ByteArray) × List (Bool) × Int) × Int)) × Unit) : Option ((List (Int × Int × ((Int × ByteArray × ByteArray × Int × List (Int) × Int) × Int × ByteArray × ByteArray × Int × List (Int) × Int) × List (Int × Int × Int × List (ByteArray) × List (Bool) × Int) × Int)) × Unit × Unit) :=
(if (List.length x.1 : Int) = (List.length x.1 : Int) then
(if 0 ≤ (List.length x.1 : Int) ∧ (List.length x.1 : Int) ≤ (capMax : Int) then
(whileK (fun (rec0 : ((List (Int × Int × ((Int × ByteArray × ByteArray × Int × List (Int) × Int) × Int × ByteArray × ByteArray × Int × List (Int) × Int) × List (Int × Int × Int × List (ByteArray) × List (Bool) × Int) × Int)) × (List (Int × Int × ((Int × ByteArray × ByteArray × Int × List (Int) × Int) × Int × ByteArray × ByteArray × Int × List (Int) × Int) × List (Int × Int × Int × List (ByteArray) × List (Bool) × Int) × Int)) × Int × Unit) → Option _) (y0 : (List (Int × Int × ((Int × ByteArray × ByteArray × Int × List (Int) × Int) × Int × ByteArray × ByteArray × Int × List (Int) × Int) × List (Int × Int × Int × List (ByteArray) × List (Bool) × Int) × Int)) × (List (Int × Int × ((Int × ByteArray × ByteArray × Int × List (Int) × Int) × Int × ByteArray × ByteArray × Int × List (Int) × Int) × List (Int × Int × Int × List (ByteArray) × List (Bool) × Int) × Int)) × Int × Unit) =>
(if (decide (y0.2.2.1 < (List.length y0.1 : Int))) = true then
(if 0 ≤ y0.2.2.1 ∧ y0.2.2.1 < (List.length y0.1 : Int) then
((w_toUser k (((Ty.rd (t := (.pair (.int .i64) (.pair (.int .i64) (.pair (.pair (.pair (.int .i64) (.pair .str (.pair .str (.pair (.int .i64) (.pair (.list (.int .i64)) (.int .i64)))))) (.pair (.int .i64) (.pair .str (.pair .str (.pair (.int .i64) (.pair (.list (.int .i64)) (.int .i64))))))) (.pair (.list (.pair (.int .i64) (.pair (.int .i64) (.pair (.int .i64) (.pair (.list .str) (.pair (.list .bool) (.int .i64))))))) (.int .i64)))))) y0.1 y0.2.2.1).1, ((Ty.rd (t := (.pair (.int .i64) (.pair (.int .i64) (.pair (.pair (.pair (.int .i64) (.pair .str (.pair .str (.pair (.int .i64) (.pair (.list (.int .i64)) (.int .i64)))))) (.pair (.int .i64) (.pair .str (.pair .str (.pair (.int .i64) (.pair (.list (.int .i64)) (.int .i64))))))) (.pair (.list (.pair (.int .i64) (.pair (.int .i64) (.pair (.int .i64) (.pair (.list .str) (.pair (.list .bool) (.int .i64))))))) (.int .i64)))))) y0.1 y0.2.2.1).2.1, ((Ty.rd (t := (.pair (.int .i64) (.pair (.int .i64) (.pair (.pair (.pair (.int .i64) (.pair .str (.pair .str (.pair (.int .i64) (.pair (.list (.int .i64)) (.int .i64)))))) (.pair (.int .i64) (.pair .str (.pair .str (.pair (.int .i64) (.pair (.list (.int .i64)) (.int .i64))))))) (.pair (.list (.pair (.int .i64) (.pair (.int .i64) (.pair (.int .i64) (.pair (.list .str) (.pair (.list .bool) (.int .i64))))))) (.int .i64)))))) y0.1 y0.2.2.1).2.2.1.1.1, ((Ty.rd (t := (.pair (.int .i64) (.pair (.int .i64) (.pair (.pair (.pair (.int .i64) (.pair .str (.pair .str (.pair (.int .i64) (.pair (.list (.int .i64)) (.int .i64)))))) (.pair (.int .i64) (.pair .str (.pair .str (.pair (.int .i64) (.pair (.list (.int .i64)) (.int .i64))))))) (.pair (.list (.pair (.int .i64) (.pair (.int .i64) (.pair (.int .i64) (.pair (.list .str) (.pair (.list .bool) (.int .i64))))))) (.int .i64)))))) y0.1 y0.2.2.1).2.2.1.1.2.1, ((Ty.rd (t := (.pair (.int .i64) (.pair (.int .i64) (.pair (.pair (.pair (.int .i64) (.pair .str (.pair .str (.pair (.int .i64) (.pair (.list (.int .i64)) (.int .i64)))))) (.pair (.int .i64) (.pair .str (.pair .str (.pair (.int .i64) (.pair (.list (.int .i64)) (.int .i64))))))) (.pair (.list (.pair (.int .i64) (.pair (.int .i64) (.pair (.int .i64) (.pair (.list .str) (.pair (.list .bool) (.int .i64))))))) (.int .i64)))))) y0.1 y0.2.2.1).2.2.1.1.2.2.1, ((Ty.rd (t := (.pair (.int .i64) (.pair (.int .i64) (.pair (.pair (.pair (.int .i64) (.pair .str (.pair .str (.pair (.int .i64) (.pair (.list (.int .i64)) (.int .i64)))))) (.pair (.int .i64) (.pair .str (.pair .str (.pair (.int .i64) (.pair (.list (.int .i64)) (.int .i64))))))) (.pair (.list (.pair (.int .i64) (.pair (.int .i64) (.pair (.int .i64) (.pair (.list .str) (.pair (.list .bool) (.int .i64))))))) (.int .i64)))))) y0.1 y0.2.2.1).2.2.1.1.2.2.2.1, ((Ty.rd (t := (.pair (.int .i64) (.pair (.int .i64) (.pair (.pair (.pair (.int .i64) (.pair .str (.pair .str (.pair (.int .i64) (.pair (.list (.int .i64)) (.int .i64)))))) (.pair (.int .i64) (.pair .str (.pair .str (.pair (.int .i64) (.pair (.list (.int .i64)) (.int .i64))))))) (.pair (.list (.pair (.int .i64) (.pair (.int .i64) (.pair (.int .i64) (.pair (.list .str) (.pair (.list .bool) (.int .i64))))))) (.int .i64)))))) y0.1 y0.2.2.1).2.2.1.1.2.2.2.2.1, ((Ty.rd (t := (.pair (.int .i64) (.pair (.int .i64) (.pair (.pair (.pair (.int .i64) (.pair .str (.pair .str (.pair (.int .i64) (.pair (.list (.int .i64)) (.int .i64)))))) (.pair (.int .i64) (.pair .str (.pair .str (.pair (.int .i64) (.pair (.list (.int .i64)) (.int .i64))))))) (.pair (.list (.pair (.int .i64) (.pair (.int .i64) (.pair (.int .i64) (.pair (.list .str) (.pair (.list .bool) (.int .i64))))))) (.int .i64)))))) y0.1 y0.2.2.1).2.2.1.1.2.2.2.2.2, ((Ty.rd (t := (.pair (.int .i64) (.pair (.int .i64) (.pair (.pair (.pair (.int .i64) (.pair .str (.pair .str (.pair (.int .i64) (.pair (.list (.int .i64)) (.int .i64)))))) (.pair (.int .i64) (.pair .str (.pair .str (.pair (.int .i64) (.pair (.list (.int .i64)) (.int .i64))))))) (.pair (.list (.pair (.int .i64) (.pair (.int .i64) (.pair (.int .i64) (.pair (.list .str) (.pair (.list .bool) (.int .i64))))))) (.int .i64)))))) y0.1 y0.2.2.1).2.2.1.2.1, ((Ty.rd (t := (.pair (.int .i64) (.pair (.int .i64) (.pair (.pair (.pair (.int .i64) (.pair .str (.pair .str (.pair (.int .i64) (.pair (.list (.int .i64)) (.int .i64)))))) (.pair (.int .i64) (.pair .str (.pair .str (.pair (.int .i64) (.pair (.list (.int .i64)) (.int .i64))))))) (.pair (.list (.pair (.int .i64) (.pair (.int .i64) (.pair (.int .i64) (.pair (.list .str) (.pair (.list .bool) (.int .i64))))))) (.int .i64)))))) y0.1 y0.2.2.1).2.2.1.2.2.1, ((Ty.rd (t := (.pair (.int .i64) (.pair (.int .i64) (.pair (.pair (.pair (.int .i64) (.pair .str (.pair .str (.pair (.int .i64) (.pair (.list (.int .i64)) (.int .i64)))))) (.pair (.int .i64) (.pair .str (.pair .str (.pair (.int .i64) (.pair (.list (.int .i64)) (.int .i64))))))) (.pair (.list (.pair (.int .i64) (.pair (.int .i64) (.pair (.int .i64) (.pair (.list .str) (.pair (.list .bool) (.int .i64))))))) (.int .i64)))))) y0.1 y0.2.2.1).2.2.1.2.2.2.1, ((Ty.rd (t := (.pair (.int .i64) (.pair (.int .i64) (.pair (.pair (.pair (.int .i64) (.pair .str (.pair .str (.pair (.int .i64) (.pair (.list (.int .i64)) (.int .i64)))))) (.pair (.int .i64) (.pair .str (.pair .str (.pair (.int .i64) (.pair (.list (.int .i64)) (.int .i64))))))) (.pair (.list (.pair (.int .i64) (.pair (.int .i64) (.pair (.int .i64) (.pair (.list .str) (.pair (.list .bool) (.int .i64))))))) (.int .i64)))))) y0.1 y0.2.2.1).2.2.1.2.2.2.2.1, ((Ty.rd (t := (.pair (.int .i64) (.pair (.int .i64) (.pair (.pair (.pair (.int .i64) (.pair .str (.pair .str (.pair (.int .i64) (.pair (.list (.int .i64)) (.int .i64)))))) (.pair (.int .i64) (.pair .str (.pair .str (.pair (.int .i64) (.pair (.list (.int .i64)) (.int .i64))))))) (.pair (.list (.pair (.int .i64) (.pair (.int .i64) (.pair (.int .i64) (.pair (.list .str) (.pair (.list .bool) (.int .i64))))))) (.int .i64)))))) y0.1 y0.2.2.1).2.2.1.2.2.2.2.2.1, ((Ty.rd (t := (.pair (.int .i64) (.pair (.int .i64) (.pair (.pair (.pair (.int .i64) (.pair .str (.pair .str (.pair (.int .i64) (.pair (.list (.int .i64)) (.int .i64)))))) (.pair (.int .i64) (.pair .str (.pair .str (.pair (.int .i64) (.pair (.list (.int .i64)) (.int .i64))))))) (.pair (.list (.pair (.int .i64) (.pair (.int .i64) (.pair (.int .i64) (.pair (.list .str) (.pair (.list .bool) (.int .i64))))))) (.int .i64)))))) y0.1 y0.2.2.1).2.2.1.2.2.2.2.2.2, ((Ty.rd (t := (.pair (.int .i64) (.pair (.int .i64) (.pair (.pair (.pair (.int .i64) (.pair .str (.pair .str (.pair (.int .i64) (.pair (.list (.int .i64)) (.int .i64)))))) (.pair (.int .i64) (.pair .str (.pair .str (.pair (.int .i64) (.pair (.list (.int .i64)) (.int .i64))))))) (.pair (.list (.pair (.int .i64) (.pair (.int .i64) (.pair (.int .i64) (.pair (.list .str) (.pair (.list .bool) (.int .i64))))))) (.int .i64)))))) y0.1 y0.2.2.1).2.2.2.1, ((Ty.rd (t := (.pair (.int .i64) (.pair (.int .i64) (.pair (.pair (.pair (.int .i64) (.pair .str (.pair .str (.pair (.int .i64) (.pair (.list (.int .i64)) (.int .i64)))))) (.pair (.int .i64) (.pair .str (.pair .str (.pair (.int .i64) (.pair (.list (.int .i64)) (.int .i64))))))) (.pair (.list (.pair (.int .i64) (.pair (.int .i64) (.pair (.int .i64) (.pair (.list .str) (.pair (.list .bool) (.int .i64))))))) (.int .i64)))))) y0.1 y0.2.2.1).2.2.2.2, ())))))))))))))))), ())).bind fun p1 =>
(if 0 ≤ y0.2.2.1 ∧ y0.2.2.1 < (List.length y0.2.1 : Int) then
(rec0 (y0.1, ((List.set y0.2.1 (Int.toNat y0.2.2.1) (p1.1.1, (p1.1.2.1, (((p1.1.2.2.1, (p1.1.2.2.2.1, (p1.1.2.2.2.2.1, (p1.1.2.2.2.2.2.1, (p1.1.2.2.2.2.2.2.1, p1.1.2.2.2.2.2.2.2.1))))), (p1.1.2.2.2.2.2.2.2.2.1, (p1.1.2.2.2.2.2.2.2.2.2.1, (p1.1.2.2.2.2.2.2.2.2.2.2.1, (p1.1.2.2.2.2.2.2.2.2.2.2.2.1, (p1.1.2.2.2.2.2.2.2.2.2.2.2.2.1, p1.1.2.2.2.2.2.2.2.2.2.2.2.2.2.1)))))), (p1.1.2.2.2.2.2.2.2.2.2.2.2.2.2.2.1, p1.1.2.2.2.2.2.2.2.2.2.2.2.2.2.2.2.1))))), ((wi64 (y0.2.2.1 + (1 : Int))), ()))))
else none))
else none)
else
((fun (z1 : (List (Int × Int × ((Int × ByteArray × ByteArray × Int × List (Int) × Int) × Int × ByteArray × ByteArray × Int × List (Int) × Int) × List (Int × Int × Int × List (ByteArray) × List (Bool) × Int) × Int)) × Unit) =>
some (z1.1, ((), ()))) (y0.2.1, ())))) k (x.1, ((List.replicate (Int.toNat (List.length x.1 : Int)) ((0 : Int), ((0 : Int), ((((0 : Int), ((⟨#[]⟩ : ByteArray), ((⟨#[]⟩ : ByteArray), ((0 : Int), ([], (0 : Int)))))), ((0 : Int), ((⟨#[]⟩ : ByteArray), ((⟨#[]⟩ : ByteArray), ((0 : Int), ([], (0 : Int))))))), ([], (0 : Int)))))), ((0 : Int), ()))))
else none)
else none)
theorem t_w_toUserS (k : Nat) (x) : evF TTab k [⟨130, 0, (.cons (.agg (.cons (.int .i64) (.cons (.int .i64) (.cons (.int .i64) (.cons .str (.cons .str (.cons (.int .i64) (.cons (.il true (.int .i64)) (.cons (.int .i64) (.cons (.int .i64) (.cons .str (.cons .str (.cons (.int .i64) (.cons (.il true (.int .i64)) (.cons (.int .i64) (.cons (.il true (.pair (.int .i64) (.pair (.int .i64) (.pair (.int .i64) (.pair (.list .str) (.pair (.list .bool) (.int .i64))))))) (.cons (.int .i64) .nil))))))))))))))))) .nil), (.agg (.cons (.int .i64) (.cons (.int .i64) (.cons (.int .i64) (.cons .str (.cons .str (.cons (.int .i64) (.cons (.own false 3 (.int .i64)) (.cons (.int .i64) (.cons (.int .i64) (.cons .str (.cons .str (.cons (.int .i64) (.cons (.own false 3 (.int .i64)) (.cons (.int .i64) (.cons (.own false 289 (.pair (.int .i64) (.pair (.int .i64) (.pair (.int .i64) (.pair (.list .str) (.pair (.list .bool) (.int .i64))))))) (.cons (.int .i64) .nil))))))))))))))))), w_toUser k⟩] [(0, ⟨[0, 3, 4], (.cons (.il true (.pair (.int .i64) (.pair (.int .i64) (.pair (.pair (.pair (.int .i64) (.pair .str (.pair .str (.pair (.int .i64) (.pair (.list (.int .i64)) (.int .i64)))))) (.pair (.int .i64) (.pair .str (.pair .str (.pair (.int .i64) (.pair (.list (.int .i64)) (.int .i64))))))) (.pair (.list (.pair (.int .i64) (.pair (.int .i64) (.pair (.int .i64) (.pair (.list .str) (.pair (.list .bool) (.int .i64))))))) (.int .i64)))))) (.cons (.own false 144 (.pair (.int .i64) (.pair (.int .i64) (.pair (.pair (.pair (.int .i64) (.pair .str (.pair .str (.pair (.int .i64) (.pair (.list (.int .i64)) (.int .i64)))))) (.pair (.int .i64) (.pair .str (.pair .str (.pair (.int .i64) (.pair (.list (.int .i64)) (.int .i64))))))) (.pair (.list (.pair (.int .i64) (.pair (.int .i64) (.pair (.int .i64) (.pair (.list .str) (.pair (.list .bool) (.int .i64))))))) (.int .i64)))))) (.cons (.int .i64) .nil)))⟩, ⟨[3], (.cons (.own false 144 (.pair (.int .i64) (.pair (.int .i64) (.pair (.pair (.pair (.int .i64) (.pair .str (.pair .str (.pair (.int .i64) (.pair (.list (.int .i64)) (.int .i64)))))) (.pair (.int .i64) (.pair .str (.pair .str (.pair (.int .i64) (.pair (.list (.int .i64)) (.int .i64))))))) (.pair (.list (.pair (.int .i64) (.pair (.int .i64) (.pair (.int .i64) (.pair (.list .str) (.pair (.list .bool) (.int .i64))))))) (.int .i64)))))) .nil)⟩)] Try.f77 (.cons (.il true (.pair (.int .i64) (.pair (.int .i64) (.pair (.pair (.pair (.int .i64) (.pair .str (.pair .str (.pair (.int .i64) (.pair (.list (.int .i64)) (.int .i64)))))) (.pair (.int .i64) (.pair .str (.pair .str (.pair (.int .i64) (.pair (.list (.int .i64)) (.int .i64))))))) (.pair (.list (.pair (.int .i64) (.pair (.int .i64) (.pair (.int .i64) (.pair (.list .str) (.pair (.list .bool) (.int .i64))))))) (.int .i64)))))) .nil) (.own false 144 (.pair (.int .i64) (.pair (.int .i64) (.pair (.pair (.pair (.int .i64) (.pair .str (.pair .str (.pair (.int .i64) (.pair (.list (.int .i64)) (.int .i64)))))) (.pair (.int .i64) (.pair .str (.pair .str (.pair (.int .i64) (.pair (.list (.int .i64)) (.int .i64))))))) (.pair (.list (.pair (.int .i64) (.pair (.int .i64) (.pair (.int .i64) (.pair (.list .str) (.pair (.list .bool) (.int .i64))))))) (.int .i64)))))) x = w_toUserS k x := by kernel_rfl
theorem e_w_toUserS (k : Nat) : EntryOk Try.prog ⟨77, 0, (.cons (.il true (.pair (.int .i64) (.pair (.int .i64) (.pair (.pair (.pair (.int .i64) (.pair .str (.pair .str (.pair (.int .i64) (.pair (.list (.int .i64)) (.int .i64)))))) (.pair (.int .i64) (.pair .str (.pair .str (.pair (.int .i64) (.pair (.list (.int .i64)) (.int .i64))))))) (.pair (.list (.pair (.int .i64) (.pair (.int .i64) (.pair (.int .i64) (.pair (.list .str) (.pair (.list .bool) (.int .i64))))))) (.int .i64)))))) .nil), (.own false 144 (.pair (.int .i64) (.pair (.int .i64) (.pair (.pair (.pair (.int .i64) (.pair .str (.pair .str (.pair (.int .i64) (.pair (.list (.int .i64)) (.int .i64)))))) (.pair (.int .i64) (.pair .str (.pair .str (.pair (.int .i64) (.pair (.list (.int .i64)) (.int .i64))))))) (.pair (.list (.pair (.int .i64) (.pair (.int .i64) (.pair (.int .i64) (.pair (.list .str) (.pair (.list .bool) (.int .i64))))))) (.int .i64)))))), w_toUserS k⟩ := entry_ok tok (by intro e he; simp only [List.mem_cons, List.not_mem_nil, or_false] at he; rcases he with rfl <;> first | exact e_w_toUser k) (by kernel_rfl) (fn := Try.f77) (k := k) (es := [⟨130, 0, (.cons (.agg (.cons (.int .i64) (.cons (.int .i64) (.cons (.int .i64) (.cons .str (.cons .str (.cons (.int .i64) (.cons (.il true (.int .i64)) (.cons (.int .i64) (.cons (.int .i64) (.cons .str (.cons .str (.cons (.int .i64) (.cons (.il true (.int .i64)) (.cons (.int .i64) (.cons (.il true (.pair (.int .i64) (.pair (.int .i64) (.pair (.int .i64) (.pair (.list .str) (.pair (.list .bool) (.int .i64))))))) (.cons (.int .i64) .nil))))))))))))))))) .nil), (.agg (.cons (.int .i64) (.cons (.int .i64) (.cons (.int .i64) (.cons .str (.cons .str (.cons (.int .i64) (.cons (.own false 3 (.int .i64)) (.cons (.int .i64) (.cons (.int .i64) (.cons .str (.cons .str (.cons (.int .i64) (.cons (.own false 3 (.int .i64)) (.cons (.int .i64) (.cons (.own false 289 (.pair (.int .i64) (.pair (.int .i64) (.pair (.int .i64) (.pair (.list .str) (.pair (.list .bool) (.int .i64))))))) (.cons (.int .i64) .nil))))))))))))))))), w_toUser k⟩]) (loops := [(0, ⟨[0, 3, 4], (.cons (.il true (.pair (.int .i64) (.pair (.int .i64) (.pair (.pair (.pair (.int .i64) (.pair .str (.pair .str (.pair (.int .i64) (.pair (.list (.int .i64)) (.int .i64)))))) (.pair (.int .i64) (.pair .str (.pair .str (.pair (.int .i64) (.pair (.list (.int .i64)) (.int .i64))))))) (.pair (.list (.pair (.int .i64) (.pair (.int .i64) (.pair (.int .i64) (.pair (.list .str) (.pair (.list .bool) (.int .i64))))))) (.int .i64)))))) (.cons (.own false 144 (.pair (.int .i64) (.pair (.int .i64) (.pair (.pair (.pair (.int .i64) (.pair .str (.pair .str (.pair (.int .i64) (.pair (.list (.int .i64)) (.int .i64)))))) (.pair (.int .i64) (.pair .str (.pair .str (.pair (.int .i64) (.pair (.list (.int .i64)) (.int .i64))))))) (.pair (.list (.pair (.int .i64) (.pair (.int .i64) (.pair (.int .i64) (.pair (.list .str) (.pair (.list .bool) (.int .i64))))))) (.int .i64)))))) (.cons (.int .i64) .nil)))⟩, ⟨[3], (.cons (.own false 144 (.pair (.int .i64) (.pair (.int .i64) (.pair (.pair (.pair (.int .i64) (.pair .str (.pair .str (.pair (.int .i64) (.pair (.list (.int .i64)) (.int .i64)))))) (.pair (.int .i64) (.pair .str (.pair .str (.pair (.int .i64) (.pair (.list (.int .i64)) (.int .i64))))))) (.pair (.list (.pair (.int .i64) (.pair (.int .i64) (.pair (.int .i64) (.pair (.list .str) (.pair (.list .bool) (.int .i64))))))) (.int .i64)))))) .nil)⟩)]) (by kernel_rfl) (by kernel_rfl) (fun x r h => (t_w_toUserS k x).trans h)
def w_toHub (k : Nat) (x : (Int × Int × (List (Int × Int × Int)) × (List (Int × Int)) × (List ((Int × Int) × Int)) × (List (Int × Int × ((Int × ByteArray × ByteArray × Int × List (Int) × Int) × Int × ByteArray × ByteArray × Int × List (Int) × Int) × List (Int × Int × Int × List (ByteArray) × List (Bool) × Int) × Int)) × Unit) × Unit) : Option ((Int × Int × (List (Int × Int × Int)) × (List (Int × Int)) × (List ((Int × Int) × Int)) × (List (Int × Int × ((Int × ByteArray × ByteArray × Int × List (Int) × Int) × Int × ByteArray × ByteArray × Int × List (Int) × Int) × List (Int × Int × Int × List (ByteArray) × List (Bool) × Int) × Int)) × Unit) × Unit × Unit) :=
((w_toPool k ((x.1.1, (x.1.2.1, (x.1.2.2.1, (x.1.2.2.2.1, ())))), ())).bind fun p1 =>
((w_toRouteS k (x.1.2.2.2.2.1, ())).bind fun p2 =>
((w_toUserS k (x.1.2.2.2.2.2.1, ())).bind fun p3 =>
some ((p1.1.1, (p1.1.2.1, (p1.1.2.2.1, (p1.1.2.2.2.1, (p2.1, (p3.1, ())))))), ((), ())))))
theorem t_w_toHub (k : Nat) (x) : evF TTab k [⟨75, 0, (.cons (.agg (.cons (.int .i64) (.cons (.int .i64) (.cons (.il true (.pair (.int .i64) (.pair (.int .i64) (.int .i64)))) (.cons (.il true (.pair (.int .i64) (.int .i64))) .nil))))) .nil), (.agg (.cons (.int .i64) (.cons (.int .i64) (.cons (.own false 229 (.pair (.int .i64) (.pair (.int .i64) (.int .i64)))) (.cons (.own false 233 (.pair (.int .i64) (.int .i64))) .nil))))), w_toPool k⟩, ⟨76, 0, (.cons (.il true (.pair (.pair (.int .i64) (.int .i64)) (.int .i64))) .nil), (.own false 168 (.pair (.pair (.int .i64) (.int .i64)) (.int .i64))), w_toRouteS k⟩, ⟨77, 0, (.cons (.il true (.pair (.int .i64) (.pair (.int .i64) (.pair (.pair (.pair (.int .i64) (.pair .str (.pair .str (.pair (.int .i64) (.pair (.list (.int .i64)) (.int .i64)))))) (.pair (.int .i64) (.pair .str (.pair .str (.pair (.int .i64) (.pair (.list (.int .i64)) (.int .i64))))))) (.pair (.list (.pair (.int .i64) (.pair (.int .i64) (.pair (.int .i64) (.pair (.list .str) (.pair (.list .bool) (.int .i64))))))) (.int .i64)))))) .nil), (.own false 144 (.pair (.int .i64) (.pair (.int .i64) (.pair (.pair (.pair (.int .i64) (.pair .str (.pair .str (.pair (.int .i64) (.pair (.list (.int .i64)) (.int .i64)))))) (.pair (.int .i64) (.pair .str (.pair .str (.pair (.int .i64) (.pair (.list (.int .i64)) (.int .i64))))))) (.pair (.list (.pair (.int .i64) (.pair (.int .i64) (.pair (.int .i64) (.pair (.list .str) (.pair (.list .bool) (.int .i64))))))) (.int .i64)))))), w_toUserS k⟩] [] Try.f33 (.cons (.agg (.cons (.int .i64) (.cons (.int .i64) (.cons (.il true (.pair (.int .i64) (.pair (.int .i64) (.int .i64)))) (.cons (.il true (.pair (.int .i64) (.int .i64))) (.cons (.il true (.pair (.pair (.int .i64) (.int .i64)) (.int .i64))) (.cons (.il true (.pair (.int .i64) (.pair (.int .i64) (.pair (.pair (.pair (.int .i64) (.pair .str (.pair .str (.pair (.int .i64) (.pair (.list (.int .i64)) (.int .i64)))))) (.pair (.int .i64) (.pair .str (.pair .str (.pair (.int .i64) (.pair (.list (.int .i64)) (.int .i64))))))) (.pair (.list (.pair (.int .i64) (.pair (.int .i64) (.pair (.int .i64) (.pair (.list .str) (.pair (.list .bool) (.int .i64))))))) (.int .i64)))))) .nil))))))) .nil) (.agg (.cons (.int .i64) (.cons (.int .i64) (.cons (.own false 229 (.pair (.int .i64) (.pair (.int .i64) (.int .i64)))) (.cons (.own false 233 (.pair (.int .i64) (.int .i64))) (.cons (.own false 168 (.pair (.pair (.int .i64) (.int .i64)) (.int .i64))) (.cons (.own false 144 (.pair (.int .i64) (.pair (.int .i64) (.pair (.pair (.pair (.int .i64) (.pair .str (.pair .str (.pair (.int .i64) (.pair (.list (.int .i64)) (.int .i64)))))) (.pair (.int .i64) (.pair .str (.pair .str (.pair (.int .i64) (.pair (.list (.int .i64)) (.int .i64))))))) (.pair (.list (.pair (.int .i64) (.pair (.int .i64) (.pair (.int .i64) (.pair (.list .str) (.pair (.list .bool) (.int .i64))))))) (.int .i64)))))) .nil))))))) x = w_toHub k x := by kernel_rfl
theorem e_w_toHub (k : Nat) : EntryOk Try.prog ⟨33, 0, (.cons (.agg (.cons (.int .i64) (.cons (.int .i64) (.cons (.il true (.pair (.int .i64) (.pair (.int .i64) (.int .i64)))) (.cons (.il true (.pair (.int .i64) (.int .i64))) (.cons (.il true (.pair (.pair (.int .i64) (.int .i64)) (.int .i64))) (.cons (.il true (.pair (.int .i64) (.pair (.int .i64) (.pair (.pair (.pair (.int .i64) (.pair .str (.pair .str (.pair (.int .i64) (.pair (.list (.int .i64)) (.int .i64)))))) (.pair (.int .i64) (.pair .str (.pair .str (.pair (.int .i64) (.pair (.list (.int .i64)) (.int .i64))))))) (.pair (.list (.pair (.int .i64) (.pair (.int .i64) (.pair (.int .i64) (.pair (.list .str) (.pair (.list .bool) (.int .i64))))))) (.int .i64)))))) .nil))))))) .nil), (.agg (.cons (.int .i64) (.cons (.int .i64) (.cons (.own false 229 (.pair (.int .i64) (.pair (.int .i64) (.int .i64)))) (.cons (.own false 233 (.pair (.int .i64) (.int .i64))) (.cons (.own false 168 (.pair (.pair (.int .i64) (.int .i64)) (.int .i64))) (.cons (.own false 144 (.pair (.int .i64) (.pair (.int .i64) (.pair (.pair (.pair (.int .i64) (.pair .str (.pair .str (.pair (.int .i64) (.pair (.list (.int .i64)) (.int .i64)))))) (.pair (.int .i64) (.pair .str (.pair .str (.pair (.int .i64) (.pair (.list (.int .i64)) (.int .i64))))))) (.pair (.list (.pair (.int .i64) (.pair (.int .i64) (.pair (.int .i64) (.pair (.list .str) (.pair (.list .bool) (.int .i64))))))) (.int .i64)))))) .nil))))))), w_toHub k⟩ := entry_ok tok (by intro e he; simp only [List.mem_cons, List.not_mem_nil, or_false] at he; rcases he with rfl | rfl | rfl <;> first | exact e_w_toPool k | exact e_w_toRouteS k | exact e_w_toUserS k) (by kernel_rfl) (fn := Try.f33) (k := k) (es := [⟨75, 0, (.cons (.agg (.cons (.int .i64) (.cons (.int .i64) (.cons (.il true (.pair (.int .i64) (.pair (.int .i64) (.int .i64)))) (.cons (.il true (.pair (.int .i64) (.int .i64))) .nil))))) .nil), (.agg (.cons (.int .i64) (.cons (.int .i64) (.cons (.own false 229 (.pair (.int .i64) (.pair (.int .i64) (.int .i64)))) (.cons (.own false 233 (.pair (.int .i64) (.int .i64))) .nil))))), w_toPool k⟩, ⟨76, 0, (.cons (.il true (.pair (.pair (.int .i64) (.int .i64)) (.int .i64))) .nil), (.own false 168 (.pair (.pair (.int .i64) (.int .i64)) (.int .i64))), w_toRouteS k⟩, ⟨77, 0, (.cons (.il true (.pair (.int .i64) (.pair (.int .i64) (.pair (.pair (.pair (.int .i64) (.pair .str (.pair .str (.pair (.int .i64) (.pair (.list (.int .i64)) (.int .i64)))))) (.pair (.int .i64) (.pair .str (.pair .str (.pair (.int .i64) (.pair (.list (.int .i64)) (.int .i64))))))) (.pair (.list (.pair (.int .i64) (.pair (.int .i64) (.pair (.int .i64) (.pair (.list .str) (.pair (.list .bool) (.int .i64))))))) (.int .i64)))))) .nil), (.own false 144 (.pair (.int .i64) (.pair (.int .i64) (.pair (.pair (.pair (.int .i64) (.pair .str (.pair .str (.pair (.int .i64) (.pair (.list (.int .i64)) (.int .i64)))))) (.pair (.int .i64) (.pair .str (.pair .str (.pair (.int .i64) (.pair (.list (.int .i64)) (.int .i64))))))) (.pair (.list (.pair (.int .i64) (.pair (.int .i64) (.pair (.int .i64) (.pair (.list .str) (.pair (.list .bool) (.int .i64))))))) (.int .i64)))))), w_toUserS k⟩]) (loops := []) (by kernel_rfl) (by kernel_rfl) (fun x r h => (t_w_toHub k x).trans h)
def w_toInner (k : Nat) (x : (Int × Int × ByteArray × Unit) × Unit) : Option ((Int × Int × ByteArray × Unit) × Unit × Unit) :=
some ((x.1.1, (x.1.2.1, (x.1.2.2.1, ()))), ((), ()))
theorem t_w_toInner (k : Nat) (x) : evF TTab k [] [] Try.f34 (.cons (.agg (.cons (.int .i64) (.cons (.int .i64) (.cons .str .nil)))) .nil) (.agg (.cons (.int .i64) (.cons (.int .i64) (.cons .str .nil)))) x = w_toInner k x := by kernel_rfl
theorem e_w_toInner (k : Nat) : EntryOk Try.prog ⟨34, 0, (.cons (.agg (.cons (.int .i64) (.cons (.int .i64) (.cons .str .nil)))) .nil), (.agg (.cons (.int .i64) (.cons (.int .i64) (.cons .str .nil)))), w_toInner k⟩ := entry_ok tok (by simp) (by kernel_rfl) (fn := Try.f34) (k := k) (es := []) (loops := []) (by kernel_rfl) (by kernel_rfl) (fun x r h => (t_w_toInner k x).trans h)
def i_isId (k : Nat) (x : Int × Unit) : Option (Bool × Unit × Unit) :=
((i_within k (x.1, ((1 : Int), ((99 : Int), ())))).bind fun p1 =>
some (p1.1, ((), ())))
theorem t_i_isId (k : Nat) (x) : evF TTab k [⟨109, 0, (.cons (.int .i64) (.cons (.int .i64) (.cons (.int .i64) .nil))), .bool, i_within k⟩] [] Try.f90 (.cons (.int .i64) .nil) .bool x = i_isId k x := by kernel_rfl
theorem e_i_isId (k : Nat) : EntryOk Try.prog ⟨90, 0, (.cons (.int .i64) .nil), .bool, i_isId k⟩ := entry_ok tok (by intro e he; simp only [List.mem_cons, List.not_mem_nil, or_false] at he; rcases he with rfl <;> first | exact e_i_within k) (by kernel_rfl) (fn := Try.f90) (k := k) (es := [⟨109, 0, (.cons (.int .i64) (.cons (.int .i64) (.cons (.int .i64) .nil))), .bool, i_within k⟩]) (loops := []) (by kernel_rfl) (by kernel_rfl) (fun x r h => (t_i_isId k x).trans h)
def i_AddrOk (k : Nat) (x : Int × Unit) : Option (Bool × Unit × Unit) :=
((i_within k (x.1, ((0 : Int), ((4294967295 : Int), ())))).bind fun p1 =>
some (p1.1, ((), ())))
theorem t_i_AddrOk (k : Nat) (x) : evF TTab k [⟨109, 0, (.cons (.int .i64) (.cons (.int .i64) (.cons (.int .i64) .nil))), .bool, i_within k⟩] [] Try.f189 (.cons (.int .i64) .nil) .bool x = i_AddrOk k x := by kernel_rfl
theorem e_i_AddrOk (k : Nat) : EntryOk Try.prog ⟨189, 0, (.cons (.int .i64) .nil), .bool, i_AddrOk k⟩ := entry_ok tok (by intro e he; simp only [List.mem_cons, List.not_mem_nil, or_false] at he; rcases he with rfl <;> first | exact e_i_within k) (by kernel_rfl) (fn := Try.f189) (k := k) (es := [⟨109, 0, (.cons (.int .i64) (.cons (.int .i64) (.cons (.int .i64) .nil))), .bool, i_within k⟩]) (loops := []) (by kernel_rfl) (by kernel_rfl) (fun x r h => (t_i_AddrOk k x).trans h)
def i_lastBits (k : Nat) (x : Int × Unit) : Option (Int × Unit × Unit) :=
(if (wi64 ((32 : Int) - x.1)) < 0 then
none
else
some ((wi64 ((wi64 ((1 : Int) * 2 ^ (min (Int.toNat (wi64 ((32 : Int) - x.1))) (IntKind.bits .i64)))) - (1 : Int))), ((), ())))
theorem t_i_lastBits (k : Nat) (x) : evF TTab k [] [] Try.f190 (.cons (.int .i64) .nil) (.int .i64) x = i_lastBits k x := by kernel_rfl
theorem e_i_lastBits (k : Nat) : EntryOk Try.prog ⟨190, 0, (.cons (.int .i64) .nil), (.int .i64), i_lastBits k⟩ := entry_ok tok (by simp) (by kernel_rfl) (fn := Try.f190) (k := k) (es := []) (loops := []) (by kernel_rfl) (by kernel_rfl) (fun x r h => (t_i_lastBits k x).trans h)
def i_PrefixOk (k : Nat) (x : (Int × Int × Unit) × Unit) : Option (Bool × Unit × Unit) :=
((i_AddrOk k (x.1.1, ())).bind fun p1 =>
(if p1.1 = true then
((i_within k (x.1.2.1, ((0 : Int), ((32 : Int), ())))).bind fun p2 =>
(if p2.1 = true then
((i_lastBits k (x.1.2.1, ())).bind fun p3 =>
some ((decide ((bitsI .and .i64 x.1.1 p3.1) = (0 : Int))), ((), ())))
else
some (false, ((), ()))))
else
some (false, ((), ()))))
theorem t_i_PrefixOk (k : Nat) (x) : evF TTab k [⟨109, 0, (.cons (.int .i64) (.cons (.int .i64) (.cons (.int .i64) .nil))), .bool, i_within k⟩, ⟨189, 0, (.cons (.int .i64) .nil), .bool, i_AddrOk k⟩, ⟨190, 0, (.cons (.int .i64) .nil), (.int .i64), i_lastBits k⟩] [] Try.f187 (.cons (.agg (.cons (.int .i64) (.cons (.int .i64) .nil))) .nil) .bool x = i_PrefixOk k x := by kernel_rfl
theorem e_i_PrefixOk (k : Nat) : EntryOk Try.prog ⟨187, 0, (.cons (.agg (.cons (.int .i64) (.cons (.int .i64) .nil))) .nil), .bool, i_PrefixOk k⟩ := entry_ok tok (by intro e he; simp only [List.mem_cons, List.not_mem_nil, or_false] at he; rcases he with rfl | rfl | rfl <;> first | exact e_i_within k | exact e_i_AddrOk k | exact e_i_lastBits k) (by kernel_rfl) (fn := Try.f187) (k := k) (es := [⟨109, 0, (.cons (.int .i64) (.cons (.int .i64) (.cons (.int .i64) .nil))), .bool, i_within k⟩, ⟨189, 0, (.cons (.int .i64) .nil), .bool, i_AddrOk k⟩, ⟨190, 0, (.cons (.int .i64) .nil), (.int .i64), i_lastBits k⟩]) (loops := []) (by kernel_rfl) (by kernel_rfl) (fun x r h => (t_i_PrefixOk k x).trans h)
def x_cmp_Or_int (k : Nat) (x : List (Int) × Unit) : Option (Int × Unit × Unit) :=
(whileK (fun (rec0 : (Int × List (Int) × Int × Int × Unit) → Option _) (y0 : Int × List (Int) × Int × Int × Unit) =>
(if (decide (y0.2.2.2.1 < y0.2.2.1)) = true then
(if 0 ≤ y0.2.2.2.1 ∧ y0.2.2.2.1 < (List.length y0.2.1 : Int) then
(if (!decide ((Ty.rd (t := (.int .i64)) y0.2.1 y0.2.2.2.1) = y0.1)) = true then
some ((Ty.rd (t := (.int .i64)) y0.2.1 y0.2.2.2.1), ((), ()))
else
(rec0 (y0.1, (y0.2.1, (y0.2.2.1, ((wi64 (y0.2.2.2.1 + (1 : Int))), ()))))))
else none)
else
((fun (z1 : Int × Unit) =>
some (z1.1, ((), ()))) (y0.1, ())))) k ((0 : Int), (x.1, ((List.length x.1 : Int), ((0 : Int), ())))))
theorem t_x_cmp_Or_int (k : Nat) (x) : evF TTab k [] [(0, ⟨[3, 6, 7, 8], (.cons (.int .i64) (.cons (.il true (.int .i64)) (.cons (.int .i64) (.cons (.int .i64) .nil))))⟩, ⟨[3], (.cons (.int .i64) .nil)⟩)] Try.f223 (.cons (.il true (.int .i64)) .nil) (.int .i64) x = x_cmp_Or_int k x := by kernel_rfl
theorem e_x_cmp_Or_int (k : Nat) : EntryOk Try.prog ⟨223, 0, (.cons (.il true (.int .i64)) .nil), (.int .i64), x_cmp_Or_int k⟩ := entry_ok tok (by simp) (by kernel_rfl) (fn := Try.f223) (k := k) (es := []) (loops := [(0, ⟨[3, 6, 7, 8], (.cons (.int .i64) (.cons (.il true (.int .i64)) (.cons (.int .i64) (.cons (.int .i64) .nil))))⟩, ⟨[3], (.cons (.int .i64) .nil)⟩)]) (by kernel_rfl) (by kernel_rfl) (fun x r h => (t_x_cmp_Or_int k x).trans h)
def x_cmp_Compare_int (k : Nat) (x : Int × Int × Unit) : Option (Int × Unit × Unit × Unit) :=
((x_cmp_isNaN_int k (x.1, ())).bind fun p1 =>
((x_cmp_isNaN_int k (x.2.1, ())).bind fun p2 =>
(if p1.1 = true then
(if p2.1 = true then
some ((0 : Int), ((), ((), ())))
else
some ((-1 : Int), ((), ((), ()))))
else
(if p2.1 = true then
some ((1 : Int), ((), ((), ())))
else
(if (decide (x.1 < x.2.1)) = true then
some ((-1 : Int), ((), ((), ())))
else
(if (decide (x.2.1 < x.1)) = true then
some ((1 : Int), ((), ((), ())))
else
some ((0 : Int), ((), ((), ())))))))))
theorem t_x_cmp_Compare_int (k : Nat) (x) : evF TTab k [⟨208, 0, (.cons (.int .i64) .nil), .bool, x_cmp_isNaN_int k⟩] [] Try.f224 (.cons (.int .i64) (.cons (.int .i64) .nil)) (.int .i64) x = x_cmp_Compare_int k x := by kernel_rfl
theorem e_x_cmp_Compare_int (k : Nat) : EntryOk Try.prog ⟨224, 0, (.cons (.int .i64) (.cons (.int .i64) .nil)), (.int .i64), x_cmp_Compare_int k⟩ := entry_ok tok (by intro e he; simp only [List.mem_cons, List.not_mem_nil, or_false] at he; rcases he with rfl <;> first | exact e_x_cmp_isNaN_int k) (by kernel_rfl) (fn := Try.f224) (k := k) (es := [⟨208, 0, (.cons (.int .i64) .nil), .bool, x_cmp_isNaN_int k⟩]) (loops := []) (by kernel_rfl) (by kernel_rfl) (fun x r h => (t_x_cmp_Compare_int k x).trans h)
def i_comparePrefixes (k : Nat) (x : (Int × Int × Unit) × (Int × Int × Unit) × Unit) : Option (Int × Unit × Unit × Unit) :=
((x_cmp_Compare_int k (x.1.1, (x.2.1.1, ()))).bind fun p1 =>
((x_cmp_Compare_int k (x.1.2.1, (x.2.1.2.1, ()))).bind fun p2 =>
((x_cmp_Or_int k (([p1.1, p2.1] : List (Int)), ())).bind fun p3 =>
some (p3.1, ((), ((), ()))))))
theorem t_i_comparePrefixes (k : Nat) (x) : evF TTab k [⟨223, 0, (.cons (.il true (.int .i64)) .nil), (.int .i64), x_cmp_Or_int k⟩, ⟨224, 0, (.cons (.int .i64) (.cons (.int .i64) .nil)), (.int .i64), x_cmp_Compare_int k⟩] [] Try.f188 (.cons (.agg (.cons (.int .i64) (.cons (.int .i64) .nil))) (.cons (.agg (.cons (.int .i64) (.cons (.int .i64) .nil))) .nil)) (.int .i64) x = i_comparePrefixes k x := by kernel_rfl
theorem e_i_comparePrefixes (k : Nat) : EntryOk Try.prog ⟨188, 0, (.cons (.agg (.cons (.int .i64) (.cons (.int .i64) .nil))) (.cons (.agg (.cons (.int .i64) (.cons (.int .i64) .nil))) .nil)), (.int .i64), i_comparePrefixes k⟩ := entry_ok tok (by intro e he; simp only [List.mem_cons, List.not_mem_nil, or_false] at he; rcases he with rfl | rfl <;> first | exact e_x_cmp_Or_int k | exact e_x_cmp_Compare_int k) (by kernel_rfl) (fn := Try.f188) (k := k) (es := [⟨223, 0, (.cons (.il true (.int .i64)) .nil), (.int .i64), x_cmp_Or_int k⟩, ⟨224, 0, (.cons (.int .i64) (.cons (.int .i64) .nil)), (.int .i64), x_cmp_Compare_int k⟩]) (loops := []) (by kernel_rfl) (by kernel_rfl) (fun x r h => (t_i_comparePrefixes k x).trans h)
def i_RoutesOk (k : Nat) (x : (List ((Int × Int) × Int)) × Unit) : Option (Bool × Unit × Unit) :=
(whileK (fun (rec0 : ((List ((Int × Int) × Int)) × (List ((Int × Int) × Int)) × Int × Int × Unit) → Option _) (y0 : (List ((Int × Int) × Int)) × (List ((Int × Int) × Int)) × Int × Int × Unit) =>
(if (decide (y0.2.2.2.1 < y0.2.2.1)) = true then
(if 0 ≤ y0.2.2.2.1 ∧ y0.2.2.2.1 < (List.length y0.2.1 : Int) then
((i_PrefixOk k (((Ty.rd (t := (.pair (.pair (.int .i64) (.int .i64)) (.int .i64))) y0.2.1 y0.2.2.2.1).1.1, ((Ty.rd (t := (.pair (.pair (.int .i64) (.int .i64)) (.int .i64))) y0.2.1 y0.2.2.2.1).1.2, ())), ())).bind fun p1 =>
(if (!p1.1) = false then
((i_isId k ((Ty.rd (t := (.pair (.pair (.int .i64) (.int .i64)) (.int .i64))) y0.2.1 y0.2.2.2.1).2, ())).bind fun p2 =>
(if (!p2.1) = false then
(if (decide ((0 : Int) < y0.2.2.2.1)) = true then
(if 0 ≤ (wi64 (y0.2.2.2.1 - (1 : Int))) ∧ (wi64 (y0.2.2.2.1 - (1 : Int))) < (List.length y0.1 : Int) then
((i_comparePrefixes k (((Ty.rd (t := (.pair (.pair (.int .i64) (.int .i64)) (.int .i64))) y0.1 (wi64 (y0.2.2.2.1 - (1 : Int)))).1.1, ((Ty.rd (t := (.pair (.pair (.int .i64) (.int .i64)) (.int .i64))) y0.1 (wi64 (y0.2.2.2.1 - (1 : Int)))).1.2, ())), (((Ty.rd (t := (.pair (.pair (.int .i64) (.int .i64)) (.int .i64))) y0.2.1 y0.2.2.2.1).1.1, ((Ty.rd (t := (.pair (.pair (.int .i64) (.int .i64)) (.int .i64))) y0.2.1 y0.2.2.2.1).1.2, ())), ()))).bind fun p3 =>
(if (decide ((0 : Int) ≤ p3.1)) = true then
some (false, ((), ()))
else
(rec0 (y0.1, (y0.2.1, (y0.2.2.1, ((wi64 (y0.2.2.2.1 + (1 : Int))), ())))))))
else none)
else
(rec0 (y0.1, (y0.2.1, (y0.2.2.1, ((wi64 (y0.2.2.2.1 + (1 : Int))), ()))))))
else
some (false, ((), ()))))
else
some (false, ((), ()))))
else none)
else
((fun (z1 : (List ((Int × Int) × Int)) × Unit) =>
some ((decide ((List.length z1.1 : Int) ≤ (12 : Int))), ((), ()))) (y0.1, ())))) k (x.1, (x.1, ((List.length x.1 : Int), ((0 : Int), ())))))
theorem t_i_RoutesOk (k : Nat) (x) : evF TTab k [⟨90, 0, (.cons (.int .i64) .nil), .bool, i_isId k⟩, ⟨187, 0, (.cons (.agg (.cons (.int .i64) (.cons (.int .i64) .nil))) .nil), .bool, i_PrefixOk k⟩, ⟨188, 0, (.cons (.agg (.cons (.int .i64) (.cons (.int .i64) .nil))) (.cons (.agg (.cons (.int .i64) (.cons (.int .i64) .nil))) .nil)), (.int .i64), i_comparePrefixes k⟩] [(0, ⟨[0, 5, 6, 7], (.cons (.il true (.pair (.pair (.int .i64) (.int .i64)) (.int .i64))) (.cons (.il true (.pair (.pair (.int .i64) (.int .i64)) (.int .i64))) (.cons (.int .i64) (.cons (.int .i64) .nil))))⟩, ⟨[0], (.cons (.il true (.pair (.pair (.int .i64) (.int .i64)) (.int .i64))) .nil)⟩)] Try.f131 (.cons (.il true (.pair (.pair (.int .i64) (.int .i64)) (.int .i64))) .nil) .bool x = i_RoutesOk k x := by kernel_rfl
theorem e_i_RoutesOk (k : Nat) : EntryOk Try.prog ⟨131, 0, (.cons (.il true (.pair (.pair (.int .i64) (.int .i64)) (.int .i64))) .nil), .bool, i_RoutesOk k⟩ := entry_ok tok (by intro e he; simp only [List.mem_cons, List.not_mem_nil, or_false] at he; rcases he with rfl | rfl | rfl <;> first | exact e_i_isId k | exact e_i_PrefixOk k | exact e_i_comparePrefixes k) (by kernel_rfl) (fn := Try.f131) (k := k) (es := [⟨90, 0, (.cons (.int .i64) .nil), .bool, i_isId k⟩, ⟨187, 0, (.cons (.agg (.cons (.int .i64) (.cons (.int .i64) .nil))) .nil), .bool, i_PrefixOk k⟩, ⟨188, 0, (.cons (.agg (.cons (.int .i64) (.cons (.int .i64) .nil))) (.cons (.agg (.cons (.int .i64) (.cons (.int .i64) .nil))) .nil)), (.int .i64), i_comparePrefixes k⟩]) (loops := [(0, ⟨[0, 5, 6, 7], (.cons (.il true (.pair (.pair (.int .i64) (.int .i64)) (.int .i64))) (.cons (.il true (.pair (.pair (.int .i64) (.int .i64)) (.int .i64))) (.cons (.int .i64) (.cons (.int .i64) .nil))))⟩, ⟨[0], (.cons (.il true (.pair (.pair (.int .i64) (.int .i64)) (.int .i64))) .nil)⟩)]) (by kernel_rfl) (by kernel_rfl) (fun x r h => (t_i_RoutesOk k x).trans h)
def i_InPrefix (k : Nat) (x : (Int × Int × Unit) × Int × Unit) : Option (Bool × Unit × Unit × Unit) :=
((i_PrefixOk k ((x.1.1, (x.1.2.1, ())), ())).bind fun p1 =>
(if p1.1 = true then
((i_AddrOk k (x.2.1, ())).bind fun p2 =>
(if p2.1 = true then
((i_lastBits k (x.1.2.1, ())).bind fun p3 =>
some ((decide ((bitsI .andNot .i64 x.2.1 p3.1) = x.1.1)), ((), ((), ()))))
else
some (false, ((), ((), ())))))
else
some (false, ((), ((), ())))))
theorem t_i_InPrefix (k : Nat) (x) : evF TTab k [⟨187, 0, (.cons (.agg (.cons (.int .i64) (.cons (.int .i64) .nil))) .nil), .bool, i_PrefixOk k⟩, ⟨189, 0, (.cons (.int .i64) .nil), .bool, i_AddrOk k⟩, ⟨190, 0, (.cons (.int .i64) .nil), (.int .i64), i_lastBits k⟩] [] Try.f132 (.cons (.agg (.cons (.int .i64) (.cons (.int .i64) .nil))) (.cons (.int .i64) .nil)) .bool x = i_InPrefix k x := by kernel_rfl
theorem e_i_InPrefix (k : Nat) : EntryOk Try.prog ⟨132, 0, (.cons (.agg (.cons (.int .i64) (.cons (.int .i64) .nil))) (.cons (.int .i64) .nil)), .bool, i_InPrefix k⟩ := entry_ok tok (by intro e he; simp only [List.mem_cons, List.not_mem_nil, or_false] at he; rcases he with rfl | rfl | rfl <;> first | exact e_i_PrefixOk k | exact e_i_AddrOk k | exact e_i_lastBits k) (by kernel_rfl) (fn := Try.f132) (k := k) (es := [⟨187, 0, (.cons (.agg (.cons (.int .i64) (.cons (.int .i64) .nil))) .nil), .bool, i_PrefixOk k⟩, ⟨189, 0, (.cons (.int .i64) .nil), .bool, i_AddrOk k⟩, ⟨190, 0, (.cons (.int .i64) .nil), (.int .i64), i_lastBits k⟩]) (loops := []) (by kernel_rfl) (by kernel_rfl) (fun x r h => (t_i_InPrefix k x).trans h)
def i_LookUp (k : Nat) (x : (List ((Int × Int) × Int)) × Int × Unit) : Option (Int × Unit × Unit × Unit) :=
((i_RoutesOk k (x.1, ())).bind fun p1 =>
(if (!p1.1) = true then
some ((0 : Int), ((), ((), ())))
else
(whileK (fun (rec0 : (Int × (Int × Int × Int × Unit) × (List ((Int × Int) × Int)) × Int × Int × Unit) → Option _) (y0 : Int × (Int × Int × Int × Unit) × (List ((Int × Int) × Int)) × Int × Int × Unit) =>
(if (decide (y0.2.2.2.2.1 < y0.2.2.2.1)) = true then
(if 0 ≤ y0.2.2.2.2.1 ∧ y0.2.2.2.2.1 < (List.length y0.2.2.1 : Int) then
((i_InPrefix k (((Ty.rd (t := (.pair (.pair (.int .i64) (.int .i64)) (.int .i64))) y0.2.2.1 y0.2.2.2.2.1).1.1, ((Ty.rd (t := (.pair (.pair (.int .i64) (.int .i64)) (.int .i64))) y0.2.2.1 y0.2.2.2.2.1).1.2, ())), (y0.1, ()))).bind fun p2 =>
(if p2.1 = true then
(if (decide (y0.2.1.2.1 < (Ty.rd (t := (.pair (.pair (.int .i64) (.int .i64)) (.int .i64))) y0.2.2.1 y0.2.2.2.2.1).1.2)) = true then
(rec0 (y0.1, (((Ty.rd (t := (.pair (.pair (.int .i64) (.int .i64)) (.int .i64))) y0.2.2.1 y0.2.2.2.2.1).1.1, ((Ty.rd (t := (.pair (.pair (.int .i64) (.int .i64)) (.int .i64))) y0.2.2.1 y0.2.2.2.2.1).1.2, ((Ty.rd (t := (.pair (.pair (.int .i64) (.int .i64)) (.int .i64))) y0.2.2.1 y0.2.2.2.2.1).2, ()))), (y0.2.2.1, (y0.2.2.2.1, ((wi64 (y0.2.2.2.2.1 + (1 : Int))), ()))))))
else
(rec0 (y0.1, ((y0.2.1.1, (y0.2.1.2.1, (y0.2.1.2.2.1, ()))), (y0.2.2.1, (y0.2.2.2.1, ((wi64 (y0.2.2.2.2.1 + (1 : Int))), ())))))))
else
(rec0 (y0.1, ((y0.2.1.1, (y0.2.1.2.1, (y0.2.1.2.2.1, ()))), (y0.2.2.1, (y0.2.2.2.1, ((wi64 (y0.2.2.2.2.1 + (1 : Int))), ()))))))))
else none)
else
((fun (z1 : (Int × Int × Int × Unit) × Unit) =>
some (z1.1.2.2.1, ((), ((), ())))) ((y0.2.1.1, (y0.2.1.2.1, (y0.2.1.2.2.1, ()))), ())))) k (x.2.1, (((0 : Int), ((-1 : Int), ((0 : Int), ()))), (x.1, ((List.length x.1 : Int), ((0 : Int), ()))))))))
theorem t_i_LookUp (k : Nat) (x) : evF TTab k [⟨131, 0, (.cons (.il true (.pair (.pair (.int .i64) (.int .i64)) (.int .i64))) .nil), .bool, i_RoutesOk k⟩, ⟨132, 0, (.cons (.agg (.cons (.int .i64) (.cons (.int .i64) .nil))) (.cons (.int .i64) .nil)), .bool, i_InPrefix k⟩] [(0, ⟨[1, 5, 13, 14, 15], (.cons (.int .i64) (.cons (.ptr (.cons (.int .i64) (.cons (.int .i64) (.cons (.int .i64) .nil)))) (.cons (.il true (.pair (.pair (.int .i64) (.int .i64)) (.int .i64))) (.cons (.int .i64) (.cons (.int .i64) .nil)))))⟩, ⟨[5], (.cons (.ptr (.cons (.int .i64) (.cons (.int .i64) (.cons (.int .i64) .nil)))) .nil)⟩)] Try.f78 (.cons (.il true (.pair (.pair (.int .i64) (.int .i64)) (.int .i64))) (.cons (.int .i64) .nil)) (.int .i64) x = i_LookUp k x := by kernel_rfl
theorem e_i_LookUp (k : Nat) : EntryOk Try.prog ⟨78, 0, (.cons (.il true (.pair (.pair (.int .i64) (.int .i64)) (.int .i64))) (.cons (.int .i64) .nil)), (.int .i64), i_LookUp k⟩ := entry_ok tok (by intro e he; simp only [List.mem_cons, List.not_mem_nil, or_false] at he; rcases he with rfl | rfl <;> first | exact e_i_RoutesOk k | exact e_i_InPrefix k) (by kernel_rfl) (fn := Try.f78) (k := k) (es := [⟨131, 0, (.cons (.il true (.pair (.pair (.int .i64) (.int .i64)) (.int .i64))) .nil), .bool, i_RoutesOk k⟩, ⟨132, 0, (.cons (.agg (.cons (.int .i64) (.cons (.int .i64) .nil))) (.cons (.int .i64) .nil)), .bool, i_InPrefix k⟩]) (loops := [(0, ⟨[1, 5, 13, 14, 15], (.cons (.int .i64) (.cons (.ptr (.cons (.int .i64) (.cons (.int .i64) (.cons (.int .i64) .nil)))) (.cons (.il true (.pair (.pair (.int .i64) (.int .i64)) (.int .i64))) (.cons (.int .i64) (.cons (.int .i64) .nil)))))⟩, ⟨[5], (.cons (.ptr (.cons (.int .i64) (.cons (.int .i64) (.cons (.int .i64) .nil)))) .nil)⟩)]) (by kernel_rfl) (by kernel_rfl) (fun x r h => (t_i_LookUp k x).trans h)
def i_TargetOf (k : Nat) (x : (Int × Int × (List (Int × Int × Int)) × (List (Int × Int)) × (List ((Int × Int) × Int)) × (List (Int × Int × ((Int × ByteArray × ByteArray × Int × List (Int) × Int) × Int × ByteArray × ByteArray × Int × List (Int) × Int) × List (Int × Int × Int × List (ByteArray) × List (Bool) × Int) × Int)) × Unit) × (Int × Int × ByteArray × Unit) × Unit) : Option (Int × Unit × Unit × Unit) :=
((i_LookUp k (x.1.2.2.2.2.1, (x.2.1.2.1, ()))).bind fun p1 =>
some (p1.1, ((), ((), ()))))
theorem t_i_TargetOf (k : Nat) (x) : evF TTab k [⟨78, 0, (.cons (.il true (.pair (.pair (.int .i64) (.int .i64)) (.int .i64))) (.cons (.int .i64) .nil)), (.int .i64), i_LookUp k⟩] [] Try.f35 (.cons (.agg (.cons (.int .i64) (.cons (.int .i64) (.cons (.il true (.pair (.int .i64) (.pair (.int .i64) (.int .i64)))) (.cons (.il true (.pair (.int .i64) (.int .i64))) (.cons (.il true (.pair (.pair (.int .i64) (.int .i64)) (.int .i64))) (.cons (.il true (.pair (.int .i64) (.pair (.int .i64) (.pair (.pair (.pair (.int .i64) (.pair .str (.pair .str (.pair (.int .i64) (.pair (.list (.int .i64)) (.int .i64)))))) (.pair (.int .i64) (.pair .str (.pair .str (.pair (.int .i64) (.pair (.list (.int .i64)) (.int .i64))))))) (.pair (.list (.pair (.int .i64) (.pair (.int .i64) (.pair (.int .i64) (.pair (.list .str) (.pair (.list .bool) (.int .i64))))))) (.int .i64)))))) .nil))))))) (.cons (.agg (.cons (.int .i64) (.cons (.int .i64) (.cons .str .nil)))) .nil)) (.int .i64) x = i_TargetOf k x := by kernel_rfl
theorem e_i_TargetOf (k : Nat) : EntryOk Try.prog ⟨35, 0, (.cons (.agg (.cons (.int .i64) (.cons (.int .i64) (.cons (.il true (.pair (.int .i64) (.pair (.int .i64) (.int .i64)))) (.cons (.il true (.pair (.int .i64) (.int .i64))) (.cons (.il true (.pair (.pair (.int .i64) (.int .i64)) (.int .i64))) (.cons (.il true (.pair (.int .i64) (.pair (.int .i64) (.pair (.pair (.pair (.int .i64) (.pair .str (.pair .str (.pair (.int .i64) (.pair (.list (.int .i64)) (.int .i64)))))) (.pair (.int .i64) (.pair .str (.pair .str (.pair (.int .i64) (.pair (.list (.int .i64)) (.int .i64))))))) (.pair (.list (.pair (.int .i64) (.pair (.int .i64) (.pair (.int .i64) (.pair (.list .str) (.pair (.list .bool) (.int .i64))))))) (.int .i64)))))) .nil))))))) (.cons (.agg (.cons (.int .i64) (.cons (.int .i64) (.cons .str .nil)))) .nil)), (.int .i64), i_TargetOf k⟩ := entry_ok tok (by intro e he; simp only [List.mem_cons, List.not_mem_nil, or_false] at he; rcases he with rfl <;> first | exact e_i_LookUp k) (by kernel_rfl) (fn := Try.f35) (k := k) (es := [⟨78, 0, (.cons (.il true (.pair (.pair (.int .i64) (.int .i64)) (.int .i64))) (.cons (.int .i64) .nil)), (.int .i64), i_LookUp k⟩]) (loops := []) (by kernel_rfl) (by kernel_rfl) (fun x r h => (t_i_TargetOf k x).trans h)
def w_eqPrefix (k : Nat) (x : (Int × Int × Unit) × (Int × Int × Unit) × Unit) : Option (Bool × Unit × Unit × Unit) :=
(if (!decide (x.1.1 = x.2.1.1)) = true then
some (false, ((), ((), ())))
else
(if (!decide (x.1.2.1 = x.2.1.2.1)) = true then
some (false, ((), ((), ())))
else
some (true, ((), ((), ())))))
theorem t_w_eqPrefix (k : Nat) (x) : evF TTab k [] [] Try.f133 (.cons (.agg (.cons (.int .i64) (.cons (.int .i64) .nil))) (.cons (.agg (.cons (.int .i64) (.cons (.int .i64) .nil))) .nil)) .bool x = w_eqPrefix k x := by kernel_rfl
theorem e_w_eqPrefix (k : Nat) : EntryOk Try.prog ⟨133, 0, (.cons (.agg (.cons (.int .i64) (.cons (.int .i64) .nil))) (.cons (.agg (.cons (.int .i64) (.cons (.int .i64) .nil))) .nil)), .bool, w_eqPrefix k⟩ := entry_ok tok (by simp) (by kernel_rfl) (fn := Try.f133) (k := k) (es := []) (loops := []) (by kernel_rfl) (by kernel_rfl) (fun x r h => (t_w_eqPrefix k x).trans h)
def w_eqLease (k : Nat) (x : (Int × Int × Int × Unit) × (Int × Int × Int × Unit) × Unit) : Option (Bool × Unit × Unit × Unit) :=
(if (!decide (x.1.1 = x.2.1.1)) = true then
some (false, ((), ((), ())))
else
(if (!decide (x.1.2.1 = x.2.1.2.1)) = true then
some (false, ((), ((), ())))
else
(if (!decide (x.1.2.2.1 = x.2.1.2.2.1)) = true then
some (false, ((), ((), ())))
else
some (true, ((), ((), ()))))))
theorem t_w_eqLease (k : Nat) (x) : evF TTab k [] [] Try.f191 (.cons (.agg (.cons (.int .i64) (.cons (.int .i64) (.cons (.int .i64) .nil)))) (.cons (.agg (.cons (.int .i64) (.cons (.int .i64) (.cons (.int .i64) .nil)))) .nil)) .bool x = w_eqLease k x := by kernel_rfl
theorem e_w_eqLease (k : Nat) : EntryOk Try.prog ⟨191, 0, (.cons (.agg (.cons (.int .i64) (.cons (.int .i64) (.cons (.int .i64) .nil)))) (.cons (.agg (.cons (.int .i64) (.cons (.int .i64) (.cons (.int .i64) .nil)))) .nil)), .bool, w_eqLease k⟩ := entry_ok tok (by simp) (by kernel_rfl) (fn := Try.f191) (k := k) (es := []) (loops := []) (by kernel_rfl) (by kernel_rfl) (fun x r h => (t_w_eqLease k x).trans h)
end Go.Proofs.Ytfponeljjihkbaa
