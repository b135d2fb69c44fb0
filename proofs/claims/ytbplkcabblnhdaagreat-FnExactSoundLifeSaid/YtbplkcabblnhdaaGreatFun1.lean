import Derived.Test.YtbplkcabblnhdaaGreatFun0
/- What functions of the program compute, as plain functions, and that their calls do so (part 1). Conditions: the plain function answers. -/
set_option linter.unusedVariables false
namespace Go.Proofs.YtbplkcabblnhdaaGreat
open Go Go.Eng Go.Proofs
def w_szLeaseS (k : Nat) (x : (List (Int × Int × Int)) × Int × Unit) : Option (Int × Unit × Unit × Unit) :=
(if (decide ((wi64 (x.2.1 - (List.length x.1 : Int))) < (0 : Int))) = true then
some ((-1 : Int), ((), ((), ())))
else
some ((wi64 (x.2.1 - (List.length x.1 : Int))), ((), ((), ()))))
theorem t_w_szLeaseS (k : Nat) (x) : evF TTab k [] [] Tryz.f54 (.cons (.il true (.pair (.int .i64) (.pair (.int .i64) (.int .i64)))) (.cons (.int .i64) .nil)) (.int .i64) x = w_szLeaseS k x := by kernel_rfl
theorem e_w_szLeaseS (k : Nat) : EntryOk Tryz.prog ⟨54, 0, (.cons (.il true (.pair (.int .i64) (.pair (.int .i64) (.int .i64)))) (.cons (.int .i64) .nil)), (.int .i64), w_szLeaseS k⟩ := entry_ok tok (by simp) (by kernel_rfl) (fn := Tryz.f54) (k := k) (es := []) (loops := []) (by kernel_rfl) (by kernel_rfl) (fun x r h => (t_w_szLeaseS k x).trans h)
def w_szFixedS (k : Nat) (x : (List (Int × Int)) × Int × Unit) : Option (Int × Unit × Unit × Unit) :=
(if (decide ((wi64 (x.2.1 - (List.length x.1 : Int))) < (0 : Int))) = true then
some ((-1 : Int), ((), ((), ())))
else
some ((wi64 (x.2.1 - (List.length x.1 : Int))), ((), ((), ()))))
theorem t_w_szFixedS (k : Nat) (x) : evF TTab k [] [] Tryz.f55 (.cons (.il true (.pair (.int .i64) (.int .i64))) (.cons (.int .i64) .nil)) (.int .i64) x = w_szFixedS k x := by kernel_rfl
theorem e_w_szFixedS (k : Nat) : EntryOk Tryz.prog ⟨55, 0, (.cons (.il true (.pair (.int .i64) (.int .i64))) (.cons (.int .i64) .nil)), (.int .i64), w_szFixedS k⟩ := entry_ok tok (by simp) (by kernel_rfl) (fn := Tryz.f55) (k := k) (es := []) (loops := []) (by kernel_rfl) (by kernel_rfl) (fun x r h => (t_w_szFixedS k x).trans h)
def w_szPool (k : Nat) (x : (Int × Int × (List (Int × Int × Int)) × (List (Int × Int)) × Unit) × Int × Unit) : Option (Int × Unit × Unit × Unit) :=
((w_szLeaseS k (x.1.2.2.1, (x.2.1, ()))).bind fun p1 =>
(if (decide (p1.1 < (0 : Int))) = true then
some ((-1 : Int), ((), ((), ())))
else
((w_szFixedS k (x.1.2.2.2.1, (p1.1, ()))).bind fun p2 =>
(if (decide (p2.1 < (0 : Int))) = true then
some ((-1 : Int), ((), ((), ())))
else
some (p2.1, ((), ((), ())))))))
theorem t_w_szPool (k : Nat) (x) : evF TTab k [⟨54, 0, (.cons (.il true (.pair (.int .i64) (.pair (.int .i64) (.int .i64)))) (.cons (.int .i64) .nil)), (.int .i64), w_szLeaseS k⟩, ⟨55, 0, (.cons (.il true (.pair (.int .i64) (.int .i64))) (.cons (.int .i64) .nil)), (.int .i64), w_szFixedS k⟩] [] Tryz.f15 (.cons (.agg (.cons (.int .i64) (.cons (.int .i64) (.cons (.il true (.pair (.int .i64) (.pair (.int .i64) (.int .i64)))) (.cons (.il true (.pair (.int .i64) (.int .i64))) .nil))))) (.cons (.int .i64) .nil)) (.int .i64) x = w_szPool k x := by kernel_rfl
theorem e_w_szPool (k : Nat) : EntryOk Tryz.prog ⟨15, 0, (.cons (.agg (.cons (.int .i64) (.cons (.int .i64) (.cons (.il true (.pair (.int .i64) (.pair (.int .i64) (.int .i64)))) (.cons (.il true (.pair (.int .i64) (.int .i64))) .nil))))) (.cons (.int .i64) .nil)), (.int .i64), w_szPool k⟩ := entry_ok tok (by intro e he; simp only [List.mem_cons, List.not_mem_nil, or_false] at he; rcases he with rfl | rfl <;> first | exact e_w_szLeaseS k | exact e_w_szFixedS k) (by kernel_rfl) (fn := Tryz.f15) (k := k) (es := [⟨54, 0, (.cons (.il true (.pair (.int .i64) (.pair (.int .i64) (.int .i64)))) (.cons (.int .i64) .nil)), (.int .i64), w_szLeaseS k⟩, ⟨55, 0, (.cons (.il true (.pair (.int .i64) (.int .i64))) (.cons (.int .i64) .nil)), (.int .i64), w_szFixedS k⟩]) (loops := []) (by kernel_rfl) (by kernel_rfl) (fun x r h => (t_w_szPool k x).trans h)
def w_szRouteS (k : Nat) (x : (List ((Int × Int) × Int)) × Int × Unit) : Option (Int × Unit × Unit × Unit) :=
(if (decide ((wi64 (x.2.1 - (List.length x.1 : Int))) < (0 : Int))) = true then
some ((-1 : Int), ((), ((), ())))
else
some ((wi64 (x.2.1 - (List.length x.1 : Int))), ((), ((), ()))))
theorem t_w_szRouteS (k : Nat) (x) : evF TTab k [] [] Tryz.f16 (.cons (.il true (.pair (.pair (.int .i64) (.int .i64)) (.int .i64))) (.cons (.int .i64) .nil)) (.int .i64) x = w_szRouteS k x := by kernel_rfl
theorem e_w_szRouteS (k : Nat) : EntryOk Tryz.prog ⟨16, 0, (.cons (.il true (.pair (.pair (.int .i64) (.int .i64)) (.int .i64))) (.cons (.int .i64) .nil)), (.int .i64), w_szRouteS k⟩ := entry_ok tok (by simp) (by kernel_rfl) (fn := Tryz.f16) (k := k) (es := []) (loops := []) (by kernel_rfl) (by kernel_rfl) (fun x r h => (t_w_szRouteS k x).trans h)
def w_szIntS (k : Nat) (x : List (Int) × Int × Unit) : Option (Int × Unit × Unit × Unit) :=
(if (decide ((wi64 (x.2.1 - (List.length x.1 : Int))) < (0 : Int))) = true then
some ((-1 : Int), ((), ((), ())))
else
some ((wi64 (x.2.1 - (List.length x.1 : Int))), ((), ((), ()))))
theorem t_w_szIntS (k : Nat) (x) : evF TTab k [] [] Tryz.f36 (.cons (.il true (.int .i64)) (.cons (.int .i64) .nil)) (.int .i64) x = w_szIntS k x := by kernel_rfl
theorem e_w_szIntS (k : Nat) : EntryOk Tryz.prog ⟨36, 0, (.cons (.il true (.int .i64)) (.cons (.int .i64) .nil)), (.int .i64), w_szIntS k⟩ := entry_ok tok (by simp) (by kernel_rfl) (fn := Tryz.f36) (k := k) (es := []) (loops := []) (by kernel_rfl) (by kernel_rfl) (fun x r h => (t_w_szIntS k x).trans h)
def w_szSlot (k : Nat) (x : (Int × ByteArray × ByteArray × Int × List (Int) × Int × Unit) × Int × Unit) : Option (Int × Unit × Unit × Unit) :=
(if (decide ((wi64 (x.2.1 - (ByteArray.size x.1.2.1 : Int))) < (0 : Int))) = true then
some ((-1 : Int), ((), ((), ())))
else
(if (decide ((wi64 ((wi64 (x.2.1 - (ByteArray.size x.1.2.1 : Int))) - (ByteArray.size x.1.2.2.1 : Int))) < (0 : Int))) = true then
some ((-1 : Int), ((), ((), ())))
else
((w_szIntS k (x.1.2.2.2.2.1, ((wi64 ((wi64 (x.2.1 - (ByteArray.size x.1.2.1 : Int))) - (ByteArray.size x.1.2.2.1 : Int))), ()))).bind fun p1 =>
(if (decide (p1.1 < (0 : Int))) = true then
some ((-1 : Int), ((), ((), ())))
else
some (p1.1, ((), ((), ())))))))
theorem t_w_szSlot (k : Nat) (x) : evF TTab k [⟨36, 0, (.cons (.il true (.int .i64)) (.cons (.int .i64) .nil)), (.int .i64), w_szIntS k⟩] [] Tryz.f128 (.cons (.agg (.cons (.int .i64) (.cons .str (.cons .str (.cons (.int .i64) (.cons (.il true (.int .i64)) (.cons (.int .i64) .nil))))))) (.cons (.int .i64) .nil)) (.int .i64) x = w_szSlot k x := by kernel_rfl
theorem e_w_szSlot (k : Nat) : EntryOk Tryz.prog ⟨128, 0, (.cons (.agg (.cons (.int .i64) (.cons .str (.cons .str (.cons (.int .i64) (.cons (.il true (.int .i64)) (.cons (.int .i64) .nil))))))) (.cons (.int .i64) .nil)), (.int .i64), w_szSlot k⟩ := entry_ok tok (by intro e he; simp only [List.mem_cons, List.not_mem_nil, or_false] at he; rcases he with rfl <;> first | exact e_w_szIntS k) (by kernel_rfl) (fn := Tryz.f128) (k := k) (es := [⟨36, 0, (.cons (.il true (.int .i64)) (.cons (.int .i64) .nil)), (.int .i64), w_szIntS k⟩]) (loops := []) (by kernel_rfl) (by kernel_rfl) (fun x r h => (t_w_szSlot k x).trans h)
def w_szSlots (k : Nat) (x : (Int × ByteArray × ByteArray × Int × List (Int) × Int × Int × ByteArray × ByteArray × Int × List (Int) × Int × Unit) × Int × Unit) : Option (Int × Unit × Unit × Unit) :=
((w_szSlot k ((x.1.1, (x.1.2.1, (x.1.2.2.1, (x.1.2.2.2.1, (x.1.2.2.2.2.1, (x.1.2.2.2.2.2.1, ())))))), (x.2.1, ()))).bind fun p1 =>
(if (decide (p1.1 < (0 : Int))) = true then
some ((-1 : Int), ((), ((), ())))
else
((w_szSlot k ((x.1.2.2.2.2.2.2.1, (x.1.2.2.2.2.2.2.2.1, (x.1.2.2.2.2.2.2.2.2.1, (x.1.2.2.2.2.2.2.2.2.2.1, (x.1.2.2.2.2.2.2.2.2.2.2.1, (x.1.2.2.2.2.2.2.2.2.2.2.2.1, ())))))), (p1.1, ()))).bind fun p2 =>
(if (decide (p2.1 < (0 : Int))) = true then
some ((-1 : Int), ((), ((), ())))
else
some (p2.1, ((), ((), ())))))))
theorem t_w_szSlots (k : Nat) (x) : evF TTab k [⟨128, 0, (.cons (.agg (.cons (.int .i64) (.cons .str (.cons .str (.cons (.int .i64) (.cons (.il true (.int .i64)) (.cons (.int .i64) .nil))))))) (.cons (.int .i64) .nil)), (.int .i64), w_szSlot k⟩] [] Tryz.f96 (.cons (.agg (.cons (.int .i64) (.cons .str (.cons .str (.cons (.int .i64) (.cons (.il true (.int .i64)) (.cons (.int .i64) (.cons (.int .i64) (.cons .str (.cons .str (.cons (.int .i64) (.cons (.il true (.int .i64)) (.cons (.int .i64) .nil))))))))))))) (.cons (.int .i64) .nil)) (.int .i64) x = w_szSlots k x := by kernel_rfl
theorem e_w_szSlots (k : Nat) : EntryOk Tryz.prog ⟨96, 0, (.cons (.agg (.cons (.int .i64) (.cons .str (.cons .str (.cons (.int .i64) (.cons (.il true (.int .i64)) (.cons (.int .i64) (.cons (.int .i64) (.cons .str (.cons .str (.cons (.int .i64) (.cons (.il true (.int .i64)) (.cons (.int .i64) .nil))))))))))))) (.cons (.int .i64) .nil)), (.int .i64), w_szSlots k⟩ := entry_ok tok (by intro e he; simp only [List.mem_cons, List.not_mem_nil, or_false] at he; rcases he with rfl <;> first | exact e_w_szSlot k) (by kernel_rfl) (fn := Tryz.f96) (k := k) (es := [⟨128, 0, (.cons (.agg (.cons (.int .i64) (.cons .str (.cons .str (.cons (.int .i64) (.cons (.il true (.int .i64)) (.cons (.int .i64) .nil))))))) (.cons (.int .i64) .nil)), (.int .i64), w_szSlot k⟩]) (loops := []) (by kernel_rfl) (by kernel_rfl) (fun x r h => (t_w_szSlots k x).trans h)
def w_szStringS (k : Nat) (x : List (ByteArray) × Int × Unit) : Option (Int × Unit × Unit × Unit) :=
(if (decide ((wi64 (x.2.1 - (List.length x.1 : Int))) < (0 : Int))) = true then
some ((-1 : Int), ((), ((), ())))
else
(whileK (fun (rec0 : (List (ByteArray) × Int × Int × Unit) → Option _) (y0 : List (ByteArray) × Int × Int × Unit) =>
(if (decide (y0.2.2.1 < (List.length y0.1 : Int))) = true then
(if 0 ≤ y0.2.2.1 ∧ y0.2.2.1 < (List.length y0.1 : Int) then
(if (decide ((wi64 (y0.2.1 - (ByteArray.size (Ty.rd (t := .str) y0.1 y0.2.2.1) : Int))) < (0 : Int))) = true then
some ((-1 : Int), ((), ((), ())))
else
(rec0 (y0.1, ((wi64 (y0.2.1 - (ByteArray.size (Ty.rd (t := .str) y0.1 y0.2.2.1) : Int))), ((wi64 (y0.2.2.1 + (1 : Int))), ())))))
else none)
else
((fun (z1 : Int × Unit) =>
some (z1.1, ((), ((), ())))) (y0.2.1, ())))) k (x.1, ((wi64 (x.2.1 - (List.length x.1 : Int))), ((0 : Int), ())))))
theorem t_w_szStringS (k : Nat) (x) : evF TTab k [] [(0, ⟨[0, 1, 5], (.cons (.il true .str) (.cons (.int .i64) (.cons (.int .i64) .nil)))⟩, ⟨[1], (.cons (.int .i64) .nil)⟩)] Tryz.f139 (.cons (.il true .str) (.cons (.int .i64) .nil)) (.int .i64) x = w_szStringS k x := by kernel_rfl
theorem e_w_szStringS (k : Nat) : EntryOk Tryz.prog ⟨139, 0, (.cons (.il true .str) (.cons (.int .i64) .nil)), (.int .i64), w_szStringS k⟩ := entry_ok tok (by simp) (by kernel_rfl) (fn := Tryz.f139) (k := k) (es := []) (loops := [(0, ⟨[0, 1, 5], (.cons (.il true .str) (.cons (.int .i64) (.cons (.int .i64) .nil)))⟩, ⟨[1], (.cons (.int .i64) .nil)⟩)]) (by kernel_rfl) (by kernel_rfl) (fun x r h => (t_w_szStringS k x).trans h)
def w_szBoolS (k : Nat) (x : List (Bool) × Int × Unit) : Option (Int × Unit × Unit × Unit) :=
(if (decide ((wi64 (x.2.1 - (List.length x.1 : Int))) < (0 : Int))) = true then
some ((-1 : Int), ((), ((), ())))
else
some ((wi64 (x.2.1 - (List.length x.1 : Int))), ((), ((), ()))))
theorem t_w_szBoolS (k : Nat) (x) : evF TTab k [] [] Tryz.f140 (.cons (.il true .bool) (.cons (.int .i64) .nil)) (.int .i64) x = w_szBoolS k x := by kernel_rfl
theorem e_w_szBoolS (k : Nat) : EntryOk Tryz.prog ⟨140, 0, (.cons (.il true .bool) (.cons (.int .i64) .nil)), (.int .i64), w_szBoolS k⟩ := entry_ok tok (by simp) (by kernel_rfl) (fn := Tryz.f140) (k := k) (es := []) (loops := []) (by kernel_rfl) (by kernel_rfl) (fun x r h => (t_w_szBoolS k x).trans h)
def w_szHeld (k : Nat) (x : (Int × Int × Int × List (ByteArray) × List (Bool) × Int × Unit) × Int × Unit) : Option (Int × Unit × Unit × Unit) :=
((w_szStringS k (x.1.2.2.2.1, (x.2.1, ()))).bind fun p1 =>
(if (decide (p1.1 < (0 : Int))) = true then
some ((-1 : Int), ((), ((), ())))
else
((w_szBoolS k (x.1.2.2.2.2.1, (p1.1, ()))).bind fun p2 =>
(if (decide (p2.1 < (0 : Int))) = true then
some ((-1 : Int), ((), ((), ())))
else
some (p2.1, ((), ((), ())))))))
theorem t_w_szHeld (k : Nat) (x) : evF TTab k [⟨139, 0, (.cons (.il true .str) (.cons (.int .i64) .nil)), (.int .i64), w_szStringS k⟩, ⟨140, 0, (.cons (.il true .bool) (.cons (.int .i64) .nil)), (.int .i64), w_szBoolS k⟩] [] Tryz.f136 (.cons (.agg (.cons (.int .i64) (.cons (.int .i64) (.cons (.int .i64) (.cons (.il true .str) (.cons (.il true .bool) (.cons (.int .i64) .nil))))))) (.cons (.int .i64) .nil)) (.int .i64) x = w_szHeld k x := by kernel_rfl
theorem e_w_szHeld (k : Nat) : EntryOk Tryz.prog ⟨136, 0, (.cons (.agg (.cons (.int .i64) (.cons (.int .i64) (.cons (.int .i64) (.cons (.il true .str) (.cons (.il true .bool) (.cons (.int .i64) .nil))))))) (.cons (.int .i64) .nil)), (.int .i64), w_szHeld k⟩ := entry_ok tok (by intro e he; simp only [List.mem_cons, List.not_mem_nil, or_false] at he; rcases he with rfl | rfl <;> first | exact e_w_szStringS k | exact e_w_szBoolS k) (by kernel_rfl) (fn := Tryz.f136) (k := k) (es := [⟨139, 0, (.cons (.il true .str) (.cons (.int .i64) .nil)), (.int .i64), w_szStringS k⟩, ⟨140, 0, (.cons (.il true .bool) (.cons (.int .i64) .nil)), (.int .i64), w_szBoolS k⟩]) (loops := []) (by kernel_rfl) (by kernel_rfl) (fun x r h => (t_w_szHeld k x).trans h)
def w_szHeldS (k : Nat) (x : (List (Int × Int × Int × List (ByteArray) × List (Bool) × Int)) × Int × Unit) : Option (Int × Unit × Unit × Unit) :=
(if (decide ((wi64 (x.2.1 - (List.length x.1 : Int))) < (0 : Int))) = true then
some ((-1 : Int), ((), ((), ())))
else
(whileK (fun (rec0 : ((List (Int × Int × Int × List (ByteArray) × List (Bool) × Int)) × Int × Int × Unit) → Option _) (y0 : (List (Int × Int × Int × List (ByteArray) × List (Bool) × Int)) × Int × Int × Unit) =>
(if (decide (y0.2.2.1 < (List.length y0.1 : Int))) = true then
(if 0 ≤ y0.2.2.1 ∧ y0.2.2.1 < (List.length y0.1 : Int) then
((w_szHeld k (((Ty.rd (t := (.pair (.int .i64) (.pair (.int .i64) (.pair (.int .i64) (.pair (.list .str) (.pair (.list .bool) (.int .i64))))))) y0.1 y0.2.2.1).1, ((Ty.rd (t := (.pair (.int .i64) (.pair (.int .i64) (.pair (.int .i64) (.pair (.list .str) (.pair (.list .bool) (.int .i64))))))) y0.1 y0.2.2.1).2.1, ((Ty.rd (t := (.pair (.int .i64) (.pair (.int .i64) (.pair (.int .i64) (.pair (.list .str) (.pair (.list .bool) (.int .i64))))))) y0.1 y0.2.2.1).2.2.1, ((Ty.rd (t := (.pair (.int .i64) (.pair (.int .i64) (.pair (.int .i64) (.pair (.list .str) (.pair (.list .bool) (.int .i64))))))) y0.1 y0.2.2.1).2.2.2.1, ((Ty.rd (t := (.pair (.int .i64) (.pair (.int .i64) (.pair (.int .i64) (.pair (.list .str) (.pair (.list .bool) (.int .i64))))))) y0.1 y0.2.2.1).2.2.2.2.1, ((Ty.rd (t := (.pair (.int .i64) (.pair (.int .i64) (.pair (.int .i64) (.pair (.list .str) (.pair (.list .bool) (.int .i64))))))) y0.1 y0.2.2.1).2.2.2.2.2, ())))))), (y0.2.1, ()))).bind fun p1 =>
(if (decide (p1.1 < (0 : Int))) = true then
some ((-1 : Int), ((), ((), ())))
else
(rec0 (y0.1, (p1.1, ((wi64 (y0.2.2.1 + (1 : Int))), ()))))))
else none)
else
((fun (z1 : Int × Unit) =>
some (z1.1, ((), ((), ())))) (y0.2.1, ())))) k (x.1, ((wi64 (x.2.1 - (List.length x.1 : Int))), ((0 : Int), ())))))
theorem t_w_szHeldS (k : Nat) (x) : evF TTab k [⟨136, 0, (.cons (.agg (.cons (.int .i64) (.cons (.int .i64) (.cons (.int .i64) (.cons (.il true .str) (.cons (.il true .bool) (.cons (.int .i64) .nil))))))) (.cons (.int .i64) .nil)), (.int .i64), w_szHeld k⟩] [(0, ⟨[0, 1, 5], (.cons (.il true (.pair (.int .i64) (.pair (.int .i64) (.pair (.int .i64) (.pair (.list .str) (.pair (.list .bool) (.int .i64))))))) (.cons (.int .i64) (.cons (.int .i64) .nil)))⟩, ⟨[1], (.cons (.int .i64) .nil)⟩)] Tryz.f129 (.cons (.il true (.pair (.int .i64) (.pair (.int .i64) (.pair (.int .i64) (.pair (.list .str) (.pair (.list .bool) (.int .i64))))))) (.cons (.int .i64) .nil)) (.int .i64) x = w_szHeldS k x := by kernel_rfl
theorem e_w_szHeldS (k : Nat) : EntryOk Tryz.prog ⟨129, 0, (.cons (.il true (.pair (.int .i64) (.pair (.int .i64) (.pair (.int .i64) (.pair (.list .str) (.pair (.list .bool) (.int .i64))))))) (.cons (.int .i64) .nil)), (.int .i64), w_szHeldS k⟩ := entry_ok tok (by intro e he; simp only [List.mem_cons, List.not_mem_nil, or_false] at he; rcases he with rfl <;> first | exact e_w_szHeld k) (by kernel_rfl) (fn := Tryz.f129) (k := k) (es := [⟨136, 0, (.cons (.agg (.cons (.int .i64) (.cons (.int .i64) (.cons (.int .i64) (.cons (.il true .str) (.cons (.il true .bool) (.cons (.int .i64) .nil))))))) (.cons (.int .i64) .nil)), (.int .i64), w_szHeld k⟩]) (loops := [(0, ⟨[0, 1, 5], (.cons (.il true (.pair (.int .i64) (.pair (.int .i64) (.pair (.int .i64) (.pair (.list .str) (.pair (.list .bool) (.int .i64))))))) (.cons (.int .i64) (.cons (.int .i64) .nil)))⟩, ⟨[1], (.cons (.int .i64) .nil)⟩)]) (by kernel_rfl) (by kernel_rfl) (fun x r h => (t_w_szHeldS k x).trans h)
def w_szShelf (k : Nat) (x : ((List (Int × Int × Int × List (ByteArray) × List (Bool) × Int)) × Unit) × Int × Unit) : Option (Int × Unit × Unit × Unit) :=
((w_szHeldS k (x.1.1, (x.2.1, ()))).bind fun p1 =>
(if (decide (p1.1 < (0 : Int))) = true then
some ((-1 : Int), ((), ((), ())))
else
some (p1.1, ((), ((), ())))))
theorem t_w_szShelf (k : Nat) (x) : evF TTab k [⟨129, 0, (.cons (.il true (.pair (.int .i64) (.pair (.int .i64) (.pair (.int .i64) (.pair (.list .str) (.pair (.list .bool) (.int .i64))))))) (.cons (.int .i64) .nil)), (.int .i64), w_szHeldS k⟩] [] Tryz.f97 (.cons (.agg (.cons (.il true (.pair (.int .i64) (.pair (.int .i64) (.pair (.int .i64) (.pair (.list .str) (.pair (.list .bool) (.int .i64))))))) .nil)) (.cons (.int .i64) .nil)) (.int .i64) x = w_szShelf k x := by kernel_rfl
theorem e_w_szShelf (k : Nat) : EntryOk Tryz.prog ⟨97, 0, (.cons (.agg (.cons (.il true (.pair (.int .i64) (.pair (.int .i64) (.pair (.int .i64) (.pair (.list .str) (.pair (.list .bool) (.int .i64))))))) .nil)) (.cons (.int .i64) .nil)), (.int .i64), w_szShelf k⟩ := entry_ok tok (by intro e he; simp only [List.mem_cons, List.not_mem_nil, or_false] at he; rcases he with rfl <;> first | exact e_w_szHeldS k) (by kernel_rfl) (fn := Tryz.f97) (k := k) (es := [⟨129, 0, (.cons (.il true (.pair (.int .i64) (.pair (.int .i64) (.pair (.int .i64) (.pair (.list .str) (.pair (.list .bool) (.int .i64))))))) (.cons (.int .i64) .nil)), (.int .i64), w_szHeldS k⟩]) (loops := []) (by kernel_rfl) (by kernel_rfl) (fun x r h => (t_w_szShelf k x).trans h)
def w_szUser (k : Nat) (x : (Int × Int × Int × ByteArray × ByteArray × Int × List (Int) × Int × Int × ByteArray × ByteArray × Int × List (Int) × Int × (List (Int × Int × Int × List (ByteArray) × List (Bool) × Int)) × Int × Unit) × Int × Unit) : Option (Int × Unit × Unit × Unit) :=
((w_szSlots k ((x.1.2.2.1, (x.1.2.2.2.1, (x.1.2.2.2.2.1, (x.1.2.2.2.2.2.1, (x.1.2.2.2.2.2.2.1, (x.1.2.2.2.2.2.2.2.1, (x.1.2.2.2.2.2.2.2.2.1, (x.1.2.2.2.2.2.2.2.2.2.1, (x.1.2.2.2.2.2.2.2.2.2.2.1, (x.1.2.2.2.2.2.2.2.2.2.2.2.1, (x.1.2.2.2.2.2.2.2.2.2.2.2.2.1, (x.1.2.2.2.2.2.2.2.2.2.2.2.2.2.1, ())))))))))))), (x.2.1, ()))).bind fun p1 =>
(if (decide (p1.1 < (0 : Int))) = true then
some ((-1 : Int), ((), ((), ())))
else
((w_szShelf k ((x.1.2.2.2.2.2.2.2.2.2.2.2.2.2.2.1, ()), (p1.1, ()))).bind fun p2 =>
(if (decide (p2.1 < (0 : Int))) = true then
some ((-1 : Int), ((), ((), ())))
else
some (p2.1, ((), ((), ())))))))
theorem t_w_szUser (k : Nat) (x) : evF TTab k [⟨96, 0, (.cons (.agg (.cons (.int .i64) (.cons .str (.cons .str (.cons (.int .i64) (.cons (.il true (.int .i64)) (.cons (.int .i64) (.cons (.int .i64) (.cons .str (.cons .str (.cons (.int .i64) (.cons (.il true (.int .i64)) (.cons (.int .i64) .nil))))))))))))) (.cons (.int .i64) .nil)), (.int .i64), w_szSlots k⟩, ⟨97, 0, (.cons (.agg (.cons (.il true (.pair (.int .i64) (.pair (.int .i64) (.pair (.int .i64) (.pair (.list .str) (.pair (.list .bool) (.int .i64))))))) .nil)) (.cons (.int .i64) .nil)), (.int .i64), w_szShelf k⟩] [] Tryz.f56 (.cons (.agg (.cons (.int .i64) (.cons (.int .i64) (.cons (.int .i64) (.cons .str (.cons .str (.cons (.int .i64) (.cons (.il true (.int .i64)) (.cons (.int .i64) (.cons (.int .i64) (.cons .str (.cons .str (.cons (.int .i64) (.cons (.il true (.int .i64)) (.cons (.int .i64) (.cons (.il true (.pair (.int .i64) (.pair (.int .i64) (.pair (.int .i64) (.pair (.list .str) (.pair (.list .bool) (.int .i64))))))) (.cons (.int .i64) .nil))))))))))))))))) (.cons (.int .i64) .nil)) (.int .i64) x = w_szUser k x := by kernel_rfl
theorem e_w_szUser (k : Nat) : EntryOk Tryz.prog ⟨56, 0, (.cons (.agg (.cons (.int .i64) (.cons (.int .i64) (.cons (.int .i64) (.cons .str (.cons .str (.cons (.int .i64) (.cons (.il true (.int .i64)) (.cons (.int .i64) (.cons (.int .i64) (.cons .str (.cons .str (.cons (.int .i64) (.cons (.il true (.int .i64)) (.cons (.int .i64) (.cons (.il true (.pair (.int .i64) (.pair (.int .i64) (.pair (.int .i64) (.pair (.list .str) (.pair (.list .bool) (.int .i64))))))) (.cons (.int .i64) .nil))))))))))))))))) (.cons (.int .i64) .nil)), (.int .i64), w_szUser k⟩ := entry_ok tok (by intro e he; simp only [List.mem_cons, List.not_mem_nil, or_false] at he; rcases he with rfl | rfl <;> first | exact e_w_szSlots k | exact e_w_szShelf k) (by kernel_rfl) (fn := Tryz.f56) (k := k) (es := [⟨96, 0, (.cons (.agg (.cons (.int .i64) (.cons .str (.cons .str (.cons (.int .i64) (.cons (.il true (.int .i64)) (.cons (.int .i64) (.cons (.int .i64) (.cons .str (.cons .str (.cons (.int .i64) (.cons (.il true (.int .i64)) (.cons (.int .i64) .nil))))))))))))) (.cons (.int .i64) .nil)), (.int .i64), w_szSlots k⟩, ⟨97, 0, (.cons (.agg (.cons (.il true (.pair (.int .i64) (.pair (.int .i64) (.pair (.int .i64) (.pair (.list .str) (.pair (.list .bool) (.int .i64))))))) .nil)) (.cons (.int .i64) .nil)), (.int .i64), w_szShelf k⟩]) (loops := []) (by kernel_rfl) (by kernel_rfl) (fun x r h => (t_w_szUser k x).trans h)
def w_szUserS (k : Nat) (x : (List (Int × Int × ((Int × ByteArray × ByteArray × Int × List (Int) × Int) × Int × ByteArray × ByteArray × Int × List (Int) × Int) × List (Int × Int × Int × List (ByteArray) × List (Bool) × Int) × Int)) × Int × Unit) : Option (Int × Unit × Unit × Unit) :=
(if (decide ((wi64 (x.2.1 - (List.length x.1 : Int))) < (0 : Int))) = true then
some ((-1 : Int), ((), ((), ())))
else
(whileK (fun (rec0 : ((List (Int × Int × ((Int × ByteArray × ByteArray × Int × List (Int) × Int) × Int × ByteArray × ByteArray × Int × List (Int) × Int) × List (Int × Int × Int × List (ByteArray) × List (Bool) × Int) × Int)) × Int × Int × Unit) → Option _) (y0 : (List (Int × Int × ((Int × ByteArray × ByteArray × Int × List (Int) × Int) × Int × ByteArray × ByteArray × Int × List (Int) × Int) × List (Int × Int × Int × List (ByteArray) × List (Bool) × Int) × Int)) × Int × Int × Unit) =>
(if (decide (y0.2.2.1 < (List.length y0.1 : Int))) = true then
(if 0 ≤ y0.2.2.1 ∧ y0.2.2.1 < (List.length y0.1 : Int) then
((w_szUser k (((Ty.rd (t := (.pair (.int .i64) (.pair (.int .i64) (.pair (.pair (.pair (.int .i64) (.pair .str (.pair .str (.pair (.int .i64) (.pair (.list (.int .i64)) (.int .i64)))))) (.pair (.int .i64) (.pair .str (.pair .str (.pair (.int .i64) (.pair (.list (.int .i64)) (.int .i64))))))) (.pair (.list (.pair (.int .i64) (.pair (.int .i64) (.pair (.int .i64) (.pair (.list .str) (.pair (.list .bool) (.int .i64))))))) (.int .i64)))))) y0.1 y0.2.2.1).1, ((Ty.rd (t := (.pair (.int .i64) (.pair (.int .i64) (.pair (.pair (.pair (.int .i64) (.pair .str (.pair .str (.pair (.int .i64) (.pair (.list (.int .i64)) (.int .i64)))))) (.pair (.int .i64) (.pair .str (.pair .str (.pair (.int .i64) (.pair (.list (.int .i64)) (.int .i64))))))) (.pair (.list (.pair (.int .i64) (.pair (.int .i64) (.pair (.int .i64) (.pair (.list .str) (.pair (.list .bool) (.int .i64))))))) (.int .i64)))))) y0.1 y0.2.2.1).2.1, ((Ty.rd (t := (.pair (.int .i64) (.pair (.int .i64) (.pair (.pair (.pair (.int .i64) (.pair .str (.pair .str (.pair (.int .i64) (.pair (.list (.int .i64)) (.int .i64)))))) (.pair (.int .i64) (.pair .str (.pair .str (.pair (.int .i64) (.pair (.list (.int .i64)) (.int .i64))))))) (.pair (.list (.pair (.int .i64) (.pair (.int .i64) (.pair (.int .i64) (.pair (.list .str) (.pair (.list .bool) (.int .i64))))))) (.int .i64)))))) y0.1 y0.2.2.1).2.2.1.1.1, ((Ty.rd (t := (.pair (.int .i64) (.pair (.int .i64) (.pair (.pair (.pair (.int .i64) (.pair .str (.pair .str (.pair (.int .i64) (.pair (.list (.int .i64)) (.int .i64)))))) (.pair (.int .i64) (.pair .str (.pair .str (.pair (.int .i64) (.pair (.list (.int .i64)) (.int .i64))))))) (.pair (.list (.pair (.int .i64) (.pair (.int .i64) (.pair (.int .i64) (.pair (.list .str) (.pair (.list .bool) (.int .i64))))))) (.int .i64)))))) y0.1 y0.2.2.1).2.2.1.1.2.1, ((Ty.rd (t := (.pair (.int .i64) (.pair (.int .i64) (.pair (.pair (.pair (.int .i64) (.pair .str (.pair .str (.pair (.int .i64) (.pair (.list (.int .i64)) (.int .i64)))))) (.pair (.int .i64) (.pair .str (.pair .str (.pair (.int .i64) (.pair (.list (.int .i64)) (.int .i64))))))) (.pair (.list (.pair (.int .i64) (.pair (.int .i64) (.pair (.int .i64) (.pair (.list .str) (.pair (.list .bool) (.int .i64))))))) (.int .i64)))))) y0.1 y0.2.2.1).2.2.1.1.2.2.1, ((Ty.rd (t := (.pair (.int .i64) (.pair (.int .i64) (.pair (.pair (.pair (.int .i64) (.pair .str (.pair .str (.pair (.int .i64) (.pair (.list (.int .i64)) (.int .i64)))))) (.pair (.int .i64) (.pair .str (.pair .str (.pair (.int .i64) (.pair (.list (.int .i64)) (.int .i64))))))) (.pair (.list (.pair (.int .i64) (.pair (.int .i64) (.pair (.int .i64) (.pair (.list .str) (.pair (.list .bool) (.int .i64))))))) (.int .i64)))))) y0.1 y0.2.2.1).2.2.1.1.2.2.2.1, ((Ty.rd (t := (.pair (.int .i64) (.pair (.int .i64) (.pair (.pair (.pair (.int .i64) (.pair .str (.pair .str (.pair (.int .i64) (.pair (.list (.int .i64)) (.int .i64)))))) (.pair (.int .i64) (.pair .str (.pair .str (.pair (.int .i64) (.pair (.list (.int .i64)) (.int .i64))))))) (.pair (.list (.pair (.int .i64) (.pair (.int .i64) (.pair (.int .i64) (.pair (.list .str) (.pair (.list .bool) (.int .i64))))))) (.int .i64)))))) y0.1 y0.2.2.1).2.2.1.1.2.2.2.2.1, ((Ty.rd (t := (.pair (.int .i64) (.pair (.int .i64) (.pair (.pair (.pair (.int .i64) (.pair .str (.pair .str (.pair (.int .i64) (.pair (.list (.int .i64)) (.int .i64)))))) (.pair (.int .i64) (.pair .str (.pair .str (.pair (.int .i64) (.pair (.list (.int .i64)) (.int .i64))))))) (.pair (.list (.pair (.int .i64) (.pair (.int .i64) (.pair (.int .i64) (.pair (.list .str) (.pair (.list .bool) (.int .i64))))))) (.int .i64)))))) y0.1 y0.2.2.1).2.2.1.1.2.2.2.2.2, ((Ty.rd (t := (.pair (.int .i64) (.pair (.int .i64) (.pair (.pair (.pair (.int .i64) (.pair .str (.pair .str (.pair (.int .i64) (.pair (.list (.int .i64)) (.int .i64)))))) (.pair (.int .i64) (.pair .str (.pair .str (.pair (.int .i64) (.pair (.list (.int .i64)) (.int .i64))))))) (.pair (.list (.pair (.int .i64) (.pair (.int .i64) (.pair (.int .i64) (.pair (.list .str) (.pair (.list .bool) (.int .i64))))))) (.int .i64)))))) y0.1 y0.2.2.1).2.2.1.2.1, ((Ty.rd (t := (.pair (.int .i64) (.pair (.int .i64) (.pair (.pair (.pair (.int .i64) (.pair .str (.pair .str (.pair (.int .i64) (.pair (.list (.int .i64)) (.int .i64)))))) (.pair (.int .i64) (.pair .str (.pair .str (.pair (.int .i64) (.pair (.list (.int .i64)) (.int .i64))))))) (.pair (.list (.pair (.int .i64) (.pair (.int .i64) (.pair (.int .i64) (.pair (.list .str) (.pair (.list .bool) (.int .i64))))))) (.int .i64)))))) y0.1 y0.2.2.1).2.2.1.2.2.1, ((Ty.rd (t := (.pair (.int .i64) (.pair (.int .i64) (.pair (.pair (.pair (.int .i64) (.pair .str (.pair .str (.pair (.int .i64) (.pair (.list (.int .i64)) (.int .i64)))))) (.pair (.int .i64) (.pair .str (.pair .str (.pair (.int .i64) (.pair (.list (.int .i64)) (.int .i64))))))) (.pair (.list (.pair (.int .i64) (.pair (.int .i64) (.pair (.int .i64) (.pair (.list .str) (.pair (.list .bool) (.int .i64))))))) (.int .i64)))))) y0.1 y0.2.2.1).2.2.1.2.2.2.1, ((Ty.rd (t := (.pair (.int .i64) (.pair (.int .i64) (.pair (.pair (.pair (.int .i64) (.pair .str (.pair .str (.pair (.int .i64) (.pair (.list (.int .i64)) (.int .i64)))))) (.pair (.int .i64) (.pair .str (.pair .str (.pair (.int .i64) (.pair (.list (.int .i64)) (.int .i64))))))) (.pair (.list (.pair (.int .i64) (.pair (.int .i64) (.pair (.int .i64) (.pair (.list .str) (.pair (.list .bool) (.int .i64))))))) (.int .i64)))))) y0.1 y0.2.2.1).2.2.1.2.2.2.2.1, ((Ty.rd (t := (.pair (.int .i64) (.pair (.int .i64) (.pair (.pair (.pair (.int .i64) (.pair .str (.pair .str (.pair (.int .i64) (.pair (.list (.int .i64)) (.int .i64)))))) (.pair (.int .i64) (.pair .str (.pair .str (.pair (.int .i64) (.pair (.list (.int .i64)) (.int .i64))))))) (.pair (.list (.pair (.int .i64) (.pair (.int .i64) (.pair (.int .i64) (.pair (.list .str) (.pair (.list .bool) (.int .i64))))))) (.int .i64)))))) y0.1 y0.2.2.1).2.2.1.2.2.2.2.2.1, ((Ty.rd (t := (.pair (.int .i64) (.pair (.int .i64) (.pair (.pair (.pair (.int .i64) (.pair .str (.pair .str (.pair (.int .i64) (.pair (.list (.int .i64)) (.int .i64)))))) (.pair (.int .i64) (.pair .str (.pair .str (.pair (.int .i64) (.pair (.list (.int .i64)) (.int .i64))))))) (.pair (.list (.pair (.int .i64) (.pair (.int .i64) (.pair (.int .i64) (.pair (.list .str) (.pair (.list .bool) (.int .i64))))))) (.int .i64)))))) y0.1 y0.2.2.1).2.2.1.2.2.2.2.2.2, ((Ty.rd (t := (.pair (.int .i64) (.pair (.int .i64) (.pair (.pair (.pair (.int .i64) (.pair .str (.pair .str (.pair (.int .i64) (.pair (.list (.int .i64)) (.int .i64)))))) (.pair (.int .i64) (.pair .str (.pair .str (.pair (.int .i64) (.pair (.list (.int .i64)) (.int .i64))))))) (.pair (.list (.pair (.int .i64) (.pair (.int .i64) (.pair (.int .i64) (.pair (.list .str) (.pair (.list .bool) (.int .i64))))))) (.int .i64)))))) y0.1 y0.2.2.1).2.2.2.1, ((Ty.rd (t := (.pair (.int .i64) (.pair (.int .i64) (.pair (.pair (.pair (.int .i64) (.pair .str (.pair .str (.pair (.int .i64) (.pair (.list (.int .i64)) (.int .i64)))))) (.pair (.int .i64) (.pair .str (.pair .str (.pair (.int .i64) (.pair (.list (.int .i64)) (.int .i64))))))) (.pair (.list (.pair (.int .i64) (.pair (.int .i64) (.pair (.int .i64) (.pair (.list .str) (.pair (.list .bool) (.int .i64))))))) (.int .i64)))))) y0.1 y0.2.2.1).2.2.2.2, ())))))))))))))))), (y0.2.1, ()))).bind fun p1 =>
(if (decide (p1.1 < (0 : Int))) = true then
some ((-1 : Int), ((), ((), ())))
else
(rec0 (y0.1, (p1.1, ((wi64 (y0.2.2.1 + (1 : Int))), ()))))))
else none)
else
((fun (z1 : Int × Unit) =>
some (z1.1, ((), ((), ())))) (y0.2.1, ())))) k (x.1, ((wi64 (x.2.1 - (List.length x.1 : Int))), ((0 : Int), ())))))
theorem t_w_szUserS (k : Nat) (x) : evF TTab k [⟨56, 0, (.cons (.agg (.cons (.int .i64) (.cons (.int .i64) (.cons (.int .i64) (.cons .str (.cons .str (.cons (.int .i64) (.cons (.il true (.int .i64)) (.cons (.int .i64) (.cons (.int .i64) (.cons .str (.cons .str (.cons (.int .i64) (.cons (.il true (.int .i64)) (.cons (.int .i64) (.cons (.il true (.pair (.int .i64) (.pair (.int .i64) (.pair (.int .i64) (.pair (.list .str) (.pair (.list .bool) (.int .i64))))))) (.cons (.int .i64) .nil))))))))))))))))) (.cons (.int .i64) .nil)), (.int .i64), w_szUser k⟩] [(0, ⟨[0, 1, 5], (.cons (.il true (.pair (.int .i64) (.pair (.int .i64) (.pair (.pair (.pair (.int .i64) (.pair .str (.pair .str (.pair (.int .i64) (.pair (.list (.int .i64)) (.int .i64)))))) (.pair (.int .i64) (.pair .str (.pair .str (.pair (.int .i64) (.pair (.list (.int .i64)) (.int .i64))))))) (.pair (.list (.pair (.int .i64) (.pair (.int .i64) (.pair (.int .i64) (.pair (.list .str) (.pair (.list .bool) (.int .i64))))))) (.int .i64)))))) (.cons (.int .i64) (.cons (.int .i64) .nil)))⟩, ⟨[1], (.cons (.int .i64) .nil)⟩)] Tryz.f17 (.cons (.il true (.pair (.int .i64) (.pair (.int .i64) (.pair (.pair (.pair (.int .i64) (.pair .str (.pair .str (.pair (.int .i64) (.pair (.list (.int .i64)) (.int .i64)))))) (.pair (.int .i64) (.pair .str (.pair .str (.pair (.int .i64) (.pair (.list (.int .i64)) (.int .i64))))))) (.pair (.list (.pair (.int .i64) (.pair (.int .i64) (.pair (.int .i64) (.pair (.list .str) (.pair (.list .bool) (.int .i64))))))) (.int .i64)))))) (.cons (.int .i64) .nil)) (.int .i64) x = w_szUserS k x := by kernel_rfl
theorem e_w_szUserS (k : Nat) : EntryOk Tryz.prog ⟨17, 0, (.cons (.il true (.pair (.int .i64) (.pair (.int .i64) (.pair (.pair (.pair (.int .i64) (.pair .str (.pair .str (.pair (.int .i64) (.pair (.list (.int .i64)) (.int .i64)))))) (.pair (.int .i64) (.pair .str (.pair .str (.pair (.int .i64) (.pair (.list (.int .i64)) (.int .i64))))))) (.pair (.list (.pair (.int .i64) (.pair (.int .i64) (.pair (.int .i64) (.pair (.list .str) (.pair (.list .bool) (.int .i64))))))) (.int .i64)))))) (.cons (.int .i64) .nil)), (.int .i64), w_szUserS k⟩ := entry_ok tok (by intro e he; simp only [List.mem_cons, List.not_mem_nil, or_false] at he; rcases he with rfl <;> first | exact e_w_szUser k) (by kernel_rfl) (fn := Tryz.f17) (k := k) (es := [⟨56, 0, (.cons (.agg (.cons (.int .i64) (.cons (.int .i64) (.cons (.int .i64) (.cons .str (.cons .str (.cons (.int .i64) (.cons (.il true (.int .i64)) (.cons (.int .i64) (.cons (.int .i64) (.cons .str (.cons .str (.cons (.int .i64) (.cons (.il true (.int .i64)) (.cons (.int .i64) (.cons (.il true (.pair (.int .i64) (.pair (.int .i64) (.pair (.int .i64) (.pair (.list .str) (.pair (.list .bool) (.int .i64))))))) (.cons (.int .i64) .nil))))))))))))))))) (.cons (.int .i64) .nil)), (.int .i64), w_szUser k⟩]) (loops := [(0, ⟨[0, 1, 5], (.cons (.il true (.pair (.int .i64) (.pair (.int .i64) (.pair (.pair (.pair (.int .i64) (.pair .str (.pair .str (.pair (.int .i64) (.pair (.list (.int .i64)) (.int .i64)))))) (.pair (.int .i64) (.pair .str (.pair .str (.pair (.int .i64) (.pair (.list (.int .i64)) (.int .i64))))))) (.pair (.list (.pair (.int .i64) (.pair (.int .i64) (.pair (.int .i64) (.pair (.list .str) (.pair (.list .bool) (.int .i64))))))) (.int .i64)))))) (.cons (.int .i64) (.cons (.int .i64) .nil)))⟩, ⟨[1], (.cons (.int .i64) .nil)⟩)]) (by kernel_rfl) (by kernel_rfl) (fun x r h => (t_w_szUserS k x).trans h)
def w_szHub (k : Nat) (x : (Int × Int × (List (Int × Int × Int)) × (List (Int × Int)) × (List ((Int × Int) × Int)) × (List (Int × Int × ((Int × ByteArray × ByteArray × Int × List (Int) × Int) × Int × ByteArray × ByteArray × Int × List (Int) × Int) × List (Int × Int × Int × List (ByteArray) × List (Bool) × Int) × Int)) × Unit) × Int × Unit) : Option (Int × Unit × Unit × Unit) :=
((w_szPool k ((x.1.1, (x.1.2.1, (x.1.2.2.1, (x.1.2.2.2.1, ())))), (x.2.1, ()))).bind fun p1 =>
(if (decide (p1.1 < (0 : Int))) = true then
some ((-1 : Int), ((), ((), ())))
else
((w_szRouteS k (x.1.2.2.2.2.1, (p1.1, ()))).bind fun p2 =>
(if (decide (p2.1 < (0 : Int))) = true then
some ((-1 : Int), ((), ((), ())))
else
((w_szUserS k (x.1.2.2.2.2.2.1, (p2.1, ()))).bind fun p3 =>
(if (decide (p3.1 < (0 : Int))) = true then
some ((-1 : Int), ((), ((), ())))
else
some (p3.1, ((), ((), ())))))))))
theorem t_w_szHub (k : Nat) (x) : evF TTab k [⟨15, 0, (.cons (.agg (.cons (.int .i64) (.cons (.int .i64) (.cons (.il true (.pair (.int .i64) (.pair (.int .i64) (.int .i64)))) (.cons (.il true (.pair (.int .i64) (.int .i64))) .nil))))) (.cons (.int .i64) .nil)), (.int .i64), w_szPool k⟩, ⟨16, 0, (.cons (.il true (.pair (.pair (.int .i64) (.int .i64)) (.int .i64))) (.cons (.int .i64) .nil)), (.int .i64), w_szRouteS k⟩, ⟨17, 0, (.cons (.il true (.pair (.int .i64) (.pair (.int .i64) (.pair (.pair (.pair (.int .i64) (.pair .str (.pair .str (.pair (.int .i64) (.pair (.list (.int .i64)) (.int .i64)))))) (.pair (.int .i64) (.pair .str (.pair .str (.pair (.int .i64) (.pair (.list (.int .i64)) (.int .i64))))))) (.pair (.list (.pair (.int .i64) (.pair (.int .i64) (.pair (.int .i64) (.pair (.list .str) (.pair (.list .bool) (.int .i64))))))) (.int .i64)))))) (.cons (.int .i64) .nil)), (.int .i64), w_szUserS k⟩] [] Tryz.f5 (.cons (.agg (.cons (.int .i64) (.cons (.int .i64) (.cons (.il true (.pair (.int .i64) (.pair (.int .i64) (.int .i64)))) (.cons (.il true (.pair (.int .i64) (.int .i64))) (.cons (.il true (.pair (.pair (.int .i64) (.int .i64)) (.int .i64))) (.cons (.il true (.pair (.int .i64) (.pair (.int .i64) (.pair (.pair (.pair (.int .i64) (.pair .str (.pair .str (.pair (.int .i64) (.pair (.list (.int .i64)) (.int .i64)))))) (.pair (.int .i64) (.pair .str (.pair .str (.pair (.int .i64) (.pair (.list (.int .i64)) (.int .i64))))))) (.pair (.list (.pair (.int .i64) (.pair (.int .i64) (.pair (.int .i64) (.pair (.list .str) (.pair (.list .bool) (.int .i64))))))) (.int .i64)))))) .nil))))))) (.cons (.int .i64) .nil)) (.int .i64) x = w_szHub k x := by kernel_rfl
theorem e_w_szHub (k : Nat) : EntryOk Tryz.prog ⟨5, 0, (.cons (.agg (.cons (.int .i64) (.cons (.int .i64) (.cons (.il true (.pair (.int .i64) (.pair (.int .i64) (.int .i64)))) (.cons (.il true (.pair (.int .i64) (.int .i64))) (.cons (.il true (.pair (.pair (.int .i64) (.int .i64)) (.int .i64))) (.cons (.il true (.pair (.int .i64) (.pair (.int .i64) (.pair (.pair (.pair (.int .i64) (.pair .str (.pair .str (.pair (.int .i64) (.pair (.list (.int .i64)) (.int .i64)))))) (.pair (.int .i64) (.pair .str (.pair .str (.pair (.int .i64) (.pair (.list (.int .i64)) (.int .i64))))))) (.pair (.list (.pair (.int .i64) (.pair (.int .i64) (.pair (.int .i64) (.pair (.list .str) (.pair (.list .bool) (.int .i64))))))) (.int .i64)))))) .nil))))))) (.cons (.int .i64) .nil)), (.int .i64), w_szHub k⟩ := entry_ok tok (by intro e he; simp only [List.mem_cons, List.not_mem_nil, or_false] at he; rcases he with rfl | rfl | rfl <;> first | exact e_w_szPool k | exact e_w_szRouteS k | exact e_w_szUserS k) (by kernel_rfl) (fn := Tryz.f5) (k := k) (es := [⟨15, 0, (.cons (.agg (.cons (.int .i64) (.cons (.int .i64) (.cons (.il true (.pair (.int .i64) (.pair (.int .i64) (.int .i64)))) (.cons (.il true (.pair (.int .i64) (.int .i64))) .nil))))) (.cons (.int .i64) .nil)), (.int .i64), w_szPool k⟩, ⟨16, 0, (.cons (.il true (.pair (.pair (.int .i64) (.int .i64)) (.int .i64))) (.cons (.int .i64) .nil)), (.int .i64), w_szRouteS k⟩, ⟨17, 0, (.cons (.il true (.pair (.int .i64) (.pair (.int .i64) (.pair (.pair (.pair (.int .i64) (.pair .str (.pair .str (.pair (.int .i64) (.pair (.list (.int .i64)) (.int .i64)))))) (.pair (.int .i64) (.pair .str (.pair .str (.pair (.int .i64) (.pair (.list (.int .i64)) (.int .i64))))))) (.pair (.list (.pair (.int .i64) (.pair (.int .i64) (.pair (.int .i64) (.pair (.list .str) (.pair (.list .bool) (.int .i64))))))) (.int .i64)))))) (.cons (.int .i64) .nil)), (.int .i64), w_szUserS k⟩]) (loops := []) (by kernel_rfl) (by kernel_rfl) (fun x r h => (t_w_szHub k x).trans h)
def s_l01In (k : Nat) (x : Int × Int × Int × Unit) : Option (Bool × Unit × Unit × Unit × Unit) :=
(if (decide (x.2.1 ≤ x.1)) = true then
some ((decide (x.1 ≤ x.2.2.1)), ((), ((), ((), ()))))
else
some (false, ((), ((), ((), ())))))
theorem t_s_l01In (k : Nat) (x) : evF TTab k [] [] Tryz.f58 (.cons (.int .i64) (.cons (.int .i64) (.cons (.int .i64) .nil))) .bool x = s_l01In k x := by kernel_rfl
theorem e_s_l01In (k : Nat) : EntryOk Tryz.prog ⟨58, 0, (.cons (.int .i64) (.cons (.int .i64) (.cons (.int .i64) .nil))), .bool, s_l01In k⟩ := entry_ok tok (by simp) (by kernel_rfl) (fn := Tryz.f58) (k := k) (es := []) (loops := []) (by kernel_rfl) (by kernel_rfl) (fun x r h => (t_s_l01In k x).trans h)
def s_AddrOk (k : Nat) (x : Int × Unit) : Option (Bool × Unit × Unit) :=
((s_l01In k (x.1, ((0 : Int), ((4294967295 : Int), ())))).bind fun p1 =>
some (p1.1, ((), ())))
theorem t_s_AddrOk (k : Nat) (x) : evF TTab k [⟨58, 0, (.cons (.int .i64) (.cons (.int .i64) (.cons (.int .i64) .nil))), .bool, s_l01In k⟩] [] Tryz.f98 (.cons (.int .i64) .nil) .bool x = s_AddrOk k x := by kernel_rfl
theorem e_s_AddrOk (k : Nat) : EntryOk Tryz.prog ⟨98, 0, (.cons (.int .i64) .nil), .bool, s_AddrOk k⟩ := entry_ok tok (by intro e he; simp only [List.mem_cons, List.not_mem_nil, or_false] at he; rcases he with rfl <;> first | exact e_s_l01In k) (by kernel_rfl) (fn := Tryz.f98) (k := k) (es := [⟨58, 0, (.cons (.int .i64) (.cons (.int .i64) (.cons (.int .i64) .nil))), .bool, s_l01In k⟩]) (loops := []) (by kernel_rfl) (by kernel_rfl) (fun x r h => (t_s_AddrOk k x).trans h)
def s_l08Size (k : Nat) (x : Int × Unit) : Option (Int × Unit × Unit) :=
(whileK (fun (rec0 : (Int × Int × Unit) → Option _) (y0 : Int × Int × Unit) =>
(if (decide (y0.2.1 < (32 : Int))) = true then
(rec0 ((wi64 ((2 : Int) * y0.1)), ((wi64 (y0.2.1 + (1 : Int))), ())))
else
((fun (z1 : Int × Unit) =>
some (z1.1, ((), ()))) (y0.1, ())))) k ((1 : Int), (x.1, ())))
theorem t_s_l08Size (k : Nat) (x) : evF TTab k [] [(0, ⟨[3, 4], (.cons (.int .i64) (.cons (.int .i64) .nil))⟩, ⟨[3], (.cons (.int .i64) .nil)⟩)] Tryz.f99 (.cons (.int .i64) .nil) (.int .i64) x = s_l08Size k x := by kernel_rfl
theorem e_s_l08Size (k : Nat) : EntryOk Tryz.prog ⟨99, 0, (.cons (.int .i64) .nil), (.int .i64), s_l08Size k⟩ := entry_ok tok (by simp) (by kernel_rfl) (fn := Tryz.f99) (k := k) (es := []) (loops := [(0, ⟨[3, 4], (.cons (.int .i64) (.cons (.int .i64) .nil))⟩, ⟨[3], (.cons (.int .i64) .nil)⟩)]) (by kernel_rfl) (by kernel_rfl) (fun x r h => (t_s_l08Size k x).trans h)
def s_PrefixOk (k : Nat) (x : (Int × Int × Unit) × Unit) : Option (Bool × Unit × Unit) :=
((s_AddrOk k (x.1.1, ())).bind fun p1 =>
(if p1.1 = true then
((s_l01In k (x.1.2.1, ((0 : Int), ((32 : Int), ())))).bind fun p2 =>
(if p2.1 = true then
((s_l08Size k (x.1.2.1, ())).bind fun p3 =>
(if p3.1 = 0 then
none
else
some ((decide ((Int.tmod x.1.1 p3.1) = (0 : Int))), ((), ()))))
else
some (false, ((), ()))))
else
some (false, ((), ()))))
theorem t_s_PrefixOk (k : Nat) (x) : evF TTab k [⟨58, 0, (.cons (.int .i64) (.cons (.int .i64) (.cons (.int .i64) .nil))), .bool, s_l01In k⟩, ⟨98, 0, (.cons (.int .i64) .nil), .bool, s_AddrOk k⟩, ⟨99, 0, (.cons (.int .i64) .nil), (.int .i64), s_l08Size k⟩] [] Tryz.f57 (.cons (.agg (.cons (.int .i64) (.cons (.int .i64) .nil))) .nil) .bool x = s_PrefixOk k x := by kernel_rfl
theorem e_s_PrefixOk (k : Nat) : EntryOk Tryz.prog ⟨57, 0, (.cons (.agg (.cons (.int .i64) (.cons (.int .i64) .nil))) .nil), .bool, s_PrefixOk k⟩ := entry_ok tok (by intro e he; simp only [List.mem_cons, List.not_mem_nil, or_false] at he; rcases he with rfl | rfl | rfl <;> first | exact e_s_l01In k | exact e_s_AddrOk k | exact e_s_l08Size k) (by kernel_rfl) (fn := Tryz.f57) (k := k) (es := [⟨58, 0, (.cons (.int .i64) (.cons (.int .i64) (.cons (.int .i64) .nil))), .bool, s_l01In k⟩, ⟨98, 0, (.cons (.int .i64) .nil), .bool, s_AddrOk k⟩, ⟨99, 0, (.cons (.int .i64) .nil), (.int .i64), s_l08Size k⟩]) (loops := []) (by kernel_rfl) (by kernel_rfl) (fun x r h => (t_s_PrefixOk k x).trans h)
def s_InPrefix (k : Nat) (x : (Int × Int × Unit) × Int × Unit) : Option (Bool × Unit × Unit × Unit) :=
((s_PrefixOk k ((x.1.1, (x.1.2.1, ())), ())).bind fun p1 =>
(if p1.1 = true then
((s_AddrOk k (x.2.1, ())).bind fun p2 =>
(if p2.1 = true then
((s_l08Size k (x.1.2.1, ())).bind fun p3 =>
(if p3.1 = 0 then
none
else
some ((decide ((wi64 (x.2.1 - (Int.tmod x.2.1 p3.1))) = x.1.1)), ((), ((), ())))))
else
some (false, ((), ((), ())))))
else
some (false, ((), ((), ())))))
theorem t_s_InPrefix (k : Nat) (x) : evF TTab k [⟨57, 0, (.cons (.agg (.cons (.int .i64) (.cons (.int .i64) .nil))) .nil), .bool, s_PrefixOk k⟩, ⟨98, 0, (.cons (.int .i64) .nil), .bool, s_AddrOk k⟩, ⟨99, 0, (.cons (.int .i64) .nil), (.int .i64), s_l08Size k⟩] [] Tryz.f100 (.cons (.agg (.cons (.int .i64) (.cons (.int .i64) .nil))) (.cons (.int .i64) .nil)) .bool x = s_InPrefix k x := by kernel_rfl
theorem e_s_InPrefix (k : Nat) : EntryOk Tryz.prog ⟨100, 0, (.cons (.agg (.cons (.int .i64) (.cons (.int .i64) .nil))) (.cons (.int .i64) .nil)), .bool, s_InPrefix k⟩ := entry_ok tok (by intro e he; simp only [List.mem_cons, List.not_mem_nil, or_false] at he; rcases he with rfl | rfl | rfl <;> first | exact e_s_PrefixOk k | exact e_s_AddrOk k | exact e_s_l08Size k) (by kernel_rfl) (fn := Tryz.f100) (k := k) (es := [⟨57, 0, (.cons (.agg (.cons (.int .i64) (.cons (.int .i64) .nil))) .nil), .bool, s_PrefixOk k⟩, ⟨98, 0, (.cons (.int .i64) .nil), .bool, s_AddrOk k⟩, ⟨99, 0, (.cons (.int .i64) .nil), (.int .i64), s_l08Size k⟩]) (loops := []) (by kernel_rfl) (by kernel_rfl) (fun x r h => (t_s_InPrefix k x).trans h)
def s_l11Inside (k : Nat) (x : (Int × Int × (List (Int × Int × Int)) × (List (Int × Int)) × Unit) × Int × Unit) : Option (Bool × Unit × Unit × Unit) :=
((s_InPrefix k ((x.1.1, (x.1.2.1, ())), (x.2.1, ()))).bind fun p1 =>
(if p1.1 = true then
(if (!decide (x.2.1 = x.1.1)) = true then
((s_l08Size k (x.1.2.1, ())).bind fun p2 =>
some ((!decide (x.2.1 = (wi64 ((wi64 (x.1.1 + p2.1)) - (1 : Int))))), ((), ((), ()))))
else
some (false, ((), ((), ()))))
else
some (false, ((), ((), ())))))
theorem t_s_l11Inside (k : Nat) (x) : evF TTab k [⟨99, 0, (.cons (.int .i64) .nil), (.int .i64), s_l08Size k⟩, ⟨100, 0, (.cons (.agg (.cons (.int .i64) (.cons (.int .i64) .nil))) (.cons (.int .i64) .nil)), .bool, s_InPrefix k⟩] [] Tryz.f59 (.cons (.agg (.cons (.int .i64) (.cons (.int .i64) (.cons (.il true (.pair (.int .i64) (.pair (.int .i64) (.int .i64)))) (.cons (.il true (.pair (.int .i64) (.int .i64))) .nil))))) (.cons (.int .i64) .nil)) .bool x = s_l11Inside k x := by kernel_rfl
theorem e_s_l11Inside (k : Nat) : EntryOk Tryz.prog ⟨59, 0, (.cons (.agg (.cons (.int .i64) (.cons (.int .i64) (.cons (.il true (.pair (.int .i64) (.pair (.int .i64) (.int .i64)))) (.cons (.il true (.pair (.int .i64) (.int .i64))) .nil))))) (.cons (.int .i64) .nil)), .bool, s_l11Inside k⟩ := entry_ok tok (by intro e he; simp only [List.mem_cons, List.not_mem_nil, or_false] at he; rcases he with rfl | rfl <;> first | exact e_s_l08Size k | exact e_s_InPrefix k) (by kernel_rfl) (fn := Tryz.f59) (k := k) (es := [⟨99, 0, (.cons (.int .i64) .nil), (.int .i64), s_l08Size k⟩, ⟨100, 0, (.cons (.agg (.cons (.int .i64) (.cons (.int .i64) .nil))) (.cons (.int .i64) .nil)), .bool, s_InPrefix k⟩]) (loops := []) (by kernel_rfl) (by kernel_rfl) (fun x r h => (t_s_l11Inside k x).trans h)
def s_l11FixedFor (k : Nat) (x : (Int × Int × (List (Int × Int × Int)) × (List (Int × Int)) × Unit) × Int × Unit) : Option (Int × Unit × Unit × Unit) :=
(whileK (fun (rec0 : (Int × (Int × Int × (List (Int × Int × Int)) × (List (Int × Int)) × Unit) × Int × Unit) → Option _) (y0 : Int × (Int × Int × (List (Int × Int × Int)) × (List (Int × Int)) × Unit) × Int × Unit) =>
(if (decide (y0.2.2.1 < (List.length y0.2.1.2.2.2.1 : Int))) = true then
(if 0 ≤ y0.2.2.1 ∧ y0.2.2.1 < (List.length y0.2.1.2.2.2.1 : Int) then
(if (decide ((Ty.rd (t := (.pair (.int .i64) (.int .i64))) y0.2.1.2.2.2.1 y0.2.2.1).2 = y0.1)) = true then
(if 0 ≤ y0.2.2.1 ∧ y0.2.2.1 < (List.length y0.2.1.2.2.2.1 : Int) then
some ((Ty.rd (t := (.pair (.int .i64) (.int .i64))) y0.2.1.2.2.2.1 y0.2.2.1).1, ((), ((), ())))
else none)
else
(rec0 (y0.1, ((y0.2.1.1, (y0.2.1.2.1, (y0.2.1.2.2.1, (y0.2.1.2.2.2.1, ())))), ((wi64 (y0.2.2.1 + (1 : Int))), ())))))
else none)
else
((fun (z1 : Unit) =>
some ((0 : Int), ((), ((), ())))) ()))) k (x.2.1, ((x.1.1, (x.1.2.1, (x.1.2.2.1, (x.1.2.2.2.1, ())))), ((0 : Int), ()))))
theorem t_s_l11FixedFor (k : Nat) (x) : evF TTab k [] [(0, ⟨[1, 2, 5], (.cons (.int .i64) (.cons (.ptr (.cons (.int .i64) (.cons (.int .i64) (.cons (.il true (.pair (.int .i64) (.pair (.int .i64) (.int .i64)))) (.cons (.il true (.pair (.int .i64) (.int .i64))) .nil))))) (.cons (.int .i64) .nil)))⟩, ⟨[], .nil⟩)] Tryz.f60 (.cons (.agg (.cons (.int .i64) (.cons (.int .i64) (.cons (.il true (.pair (.int .i64) (.pair (.int .i64) (.int .i64)))) (.cons (.il true (.pair (.int .i64) (.int .i64))) .nil))))) (.cons (.int .i64) .nil)) (.int .i64) x = s_l11FixedFor k x := by kernel_rfl
theorem e_s_l11FixedFor (k : Nat) : EntryOk Tryz.prog ⟨60, 0, (.cons (.agg (.cons (.int .i64) (.cons (.int .i64) (.cons (.il true (.pair (.int .i64) (.pair (.int .i64) (.int .i64)))) (.cons (.il true (.pair (.int .i64) (.int .i64))) .nil))))) (.cons (.int .i64) .nil)), (.int .i64), s_l11FixedFor k⟩ := entry_ok tok (by simp) (by kernel_rfl) (fn := Tryz.f60) (k := k) (es := []) (loops := [(0, ⟨[1, 2, 5], (.cons (.int .i64) (.cons (.ptr (.cons (.int .i64) (.cons (.int .i64) (.cons (.il true (.pair (.int .i64) (.pair (.int .i64) (.int .i64)))) (.cons (.il true (.pair (.int .i64) (.int .i64))) .nil))))) (.cons (.int .i64) .nil)))⟩, ⟨[], .nil⟩)]) (by kernel_rfl) (by kernel_rfl) (fun x r h => (t_s_l11FixedFor k x).trans h)
def s_PoolOk (k : Nat) (x : (Int × Int × (List (Int × Int × Int)) × (List (Int × Int)) × Unit) × Unit) : Option (Bool × Unit × Unit) :=
((s_PrefixOk k ((x.1.1, (x.1.2.1, ())), ())).bind fun p1 =>
(if (!p1.1) = false then
((s_l01In k (x.1.2.1, ((24 : Int), ((30 : Int), ())))).bind fun p2 =>
(if (!p2.1) = false then
(if (decide ((6 : Int) < (List.length x.1.2.2.1 : Int))) = false then
(if (decide ((4 : Int) < (List.length x.1.2.2.2.1 : Int))) = true then
some (false, ((), ()))
else
(whileK (fun (rec0 : ((Int × Int × (List (Int × Int × Int)) × (List (Int × Int)) × Unit) × Int × Unit) → Option _) (y0 : (Int × Int × (List (Int × Int × Int)) × (List (Int × Int)) × Unit) × Int × Unit) =>
(if (decide (y0.2.1 < (List.length y0.1.2.2.2.1 : Int))) = true then
(if 0 ≤ y0.2.1 ∧ y0.2.1 < (List.length y0.1.2.2.2.1 : Int) then
((s_l01In k ((Ty.rd (t := (.pair (.int .i64) (.int .i64))) y0.1.2.2.2.1 y0.2.1).1, ((1 : Int), ((99 : Int), ())))).bind fun p3 =>
(if (!p3.1) = false then
((s_l11Inside k ((y0.1.1, (y0.1.2.1, (y0.1.2.2.1, (y0.1.2.2.2.1, ())))), ((Ty.rd (t := (.pair (.int .i64) (.int .i64))) y0.1.2.2.2.1 y0.2.1).2, ()))).bind fun p4 =>
(if (!p4.1) = false then
(if (decide ((0 : Int) < y0.2.1)) = true then
(if 0 ≤ (wi64 (y0.2.1 - (1 : Int))) ∧ (wi64 (y0.2.1 - (1 : Int))) < (List.length y0.1.2.2.2.1 : Int) then
(if (decide ((Ty.rd (t := (.pair (.int .i64) (.int .i64))) y0.1.2.2.2.1 y0.2.1).1 ≤ (Ty.rd (t := (.pair (.int .i64) (.int .i64))) y0.1.2.2.2.1 (wi64 (y0.2.1 - (1 : Int)))).1)) = false then
((s_l11FixedFor k ((y0.1.1, (y0.1.2.1, (y0.1.2.2.1, (y0.1.2.2.2.1, ())))), ((Ty.rd (t := (.pair (.int .i64) (.int .i64))) y0.1.2.2.2.1 y0.2.1).2, ()))).bind fun p5 =>
(if (!decide (p5.1 = (Ty.rd (t := (.pair (.int .i64) (.int .i64))) y0.1.2.2.2.1 y0.2.1).1)) = true then
some (false, ((), ()))
else
(rec0 ((y0.1.1, (y0.1.2.1, (y0.1.2.2.1, (y0.1.2.2.2.1, ())))), ((wi64 (y0.2.1 + (1 : Int))), ())))))
else
some (false, ((), ())))
else none)
else
((s_l11FixedFor k ((y0.1.1, (y0.1.2.1, (y0.1.2.2.1, (y0.1.2.2.2.1, ())))), ((Ty.rd (t := (.pair (.int .i64) (.int .i64))) y0.1.2.2.2.1 y0.2.1).2, ()))).bind fun p6 =>
(if (!decide (p6.1 = (Ty.rd (t := (.pair (.int .i64) (.int .i64))) y0.1.2.2.2.1 y0.2.1).1)) = true then
some (false, ((), ()))
else
(rec0 ((y0.1.1, (y0.1.2.1, (y0.1.2.2.1, (y0.1.2.2.2.1, ())))), ((wi64 (y0.2.1 + (1 : Int))), ()))))))
else
some (false, ((), ()))))
else
some (false, ((), ()))))
else none)
else
((fun (z1 : (Int × Int × (List (Int × Int × Int)) × (List (Int × Int)) × Unit) × Unit) =>
(whileK (fun (rec2 : ((Int × Int × (List (Int × Int × Int)) × (List (Int × Int)) × Unit) × Int × Unit) → Option _) (y2 : (Int × Int × (List (Int × Int × Int)) × (List (Int × Int)) × Unit) × Int × Unit) =>
(if (decide (y2.2.1 < (List.length y2.1.2.2.1 : Int))) = true then
(if 0 ≤ y2.2.1 ∧ y2.2.1 < (List.length y2.1.2.2.1 : Int) then
(jn (
((s_l11FixedFor k ((y2.1.1, (y2.1.2.1, (y2.1.2.2.1, (y2.1.2.2.2.1, ())))), ((Ty.rd (t := (.pair (.int .i64) (.pair (.int .i64) (.int .i64)))) y2.1.2.2.1 y2.2.1).1, ()))).bind fun p11 =>
(jn (
(whileK (fun (rec4 : ((Int × Int × (List (Int × Int × Int)) × (List (Int × Int)) × Unit) × Int × (Int × Int × Int × Unit) × Int × Unit) → Option _) (y4 : (Int × Int × (List (Int × Int × Int)) × (List (Int × Int)) × Unit) × Int × (Int × Int × Int × Unit) × Int × Unit) =>
(if (decide (y4.2.2.2.1 < y4.2.1)) = true then
(if 0 ≤ y4.2.2.2.1 ∧ y4.2.2.2.1 < (List.length y4.1.2.2.1 : Int) then
(if (decide ((Ty.rd (t := (.pair (.int .i64) (.pair (.int .i64) (.int .i64)))) y4.1.2.2.1 y4.2.2.2.1).2.1 = y4.2.2.1.2.1)) = true then
some (false, ((), ()))
else
(rec4 ((y4.1.1, (y4.1.2.1, (y4.1.2.2.1, (y4.1.2.2.2.1, ())))), (y4.2.1, ((y4.2.2.1.1, (y4.2.2.1.2.1, (y4.2.2.1.2.2.1, ()))), ((wi64 (y4.2.2.2.1 + (1 : Int))), ()))))))
else none)
else
((fun (z5 : (Int × Int × (List (Int × Int × Int)) × (List (Int × Int)) × Unit) × Int × Unit) =>
(rec2 ((z5.1.1, (z5.1.2.1, (z5.1.2.2.1, (z5.1.2.2.2.1, ())))), ((wi64 (z5.2.1 + (1 : Int))), ())))) ((y4.1.1, (y4.1.2.1, (y4.1.2.2.1, (y4.1.2.2.2.1, ())))), (y4.2.1, ()))))) k ((y2.1.1, (y2.1.2.1, (y2.1.2.2.1, (y2.1.2.2.2.1, ())))), (y2.2.1, (((Ty.rd (t := (.pair (.int .i64) (.pair (.int .i64) (.int .i64)))) y2.1.2.2.1 y2.2.1).1, ((Ty.rd (t := (.pair (.int .i64) (.pair (.int .i64) (.int .i64)))) y2.1.2.2.1 y2.2.1).2.1, ((Ty.rd (t := (.pair (.int .i64) (.pair (.int .i64) (.int .i64)))) y2.1.2.2.1 y2.2.1).2.2, ()))), ((0 : Int), ())))))) (fun (j3 : Option _) =>
(if (!decide (p11.1 = (0 : Int))) = true then
(if (!decide (p11.1 = (Ty.rd (t := (.pair (.int .i64) (.pair (.int .i64) (.int .i64)))) y2.1.2.2.1 y2.2.1).2.1)) = true then
some (false, ((), ()))
else
j3)
else
j3))))) (fun (j2 : Option _) =>
((s_l11Inside k ((y2.1.1, (y2.1.2.1, (y2.1.2.2.1, (y2.1.2.2.2.1, ())))), ((Ty.rd (t := (.pair (.int .i64) (.pair (.int .i64) (.int .i64)))) y2.1.2.2.1 y2.2.1).1, ()))).bind fun p7 =>
(if (!p7.1) = false then
((s_l01In k ((Ty.rd (t := (.pair (.int .i64) (.pair (.int .i64) (.int .i64)))) y2.1.2.2.1 y2.2.1).2.1, ((1 : Int), ((99 : Int), ())))).bind fun p8 =>
(if (!p8.1) = false then
((s_l01In k ((Ty.rd (t := (.pair (.int .i64) (.pair (.int .i64) (.int .i64)))) y2.1.2.2.1 y2.2.1).2.2, ((0 : Int), ((1000000000 : Int), ())))).bind fun p9 =>
(if (!p9.1) = false then
(if (decide ((0 : Int) < y2.2.1)) = true then
(if 0 ≤ (wi64 (y2.2.1 - (1 : Int))) ∧ (wi64 (y2.2.1 - (1 : Int))) < (List.length y2.1.2.2.1 : Int) then
(if (decide ((Ty.rd (t := (.pair (.int .i64) (.pair (.int .i64) (.int .i64)))) y2.1.2.2.1 y2.2.1).1 ≤ (Ty.rd (t := (.pair (.int .i64) (.pair (.int .i64) (.int .i64)))) y2.1.2.2.1 (wi64 (y2.2.1 - (1 : Int)))).1)) = true then
some (false, ((), ()))
else
j2)
else none)
else
j2)
else
some (false, ((), ()))))
else
some (false, ((), ()))))
else
some (false, ((), ()))))))
else none)
else
((fun (z6 : Unit) =>
some (true, ((), ()))) ()))) k ((z1.1.1, (z1.1.2.1, (z1.1.2.2.1, (z1.1.2.2.2.1, ())))), ((0 : Int), ())))) ((y0.1.1, (y0.1.2.1, (y0.1.2.2.1, (y0.1.2.2.2.1, ())))), ())))) k ((x.1.1, (x.1.2.1, (x.1.2.2.1, (x.1.2.2.2.1, ())))), ((0 : Int), ()))))
else
some (false, ((), ())))
else
some (false, ((), ()))))
else
some (false, ((), ()))))
theorem t_s_PoolOk (k : Nat) (x) : evF TTab k [⟨57, 0, (.cons (.agg (.cons (.int .i64) (.cons (.int .i64) .nil))) .nil), .bool, s_PrefixOk k⟩, ⟨58, 0, (.cons (.int .i64) (.cons (.int .i64) (.cons (.int .i64) .nil))), .bool, s_l01In k⟩, ⟨59, 0, (.cons (.agg (.cons (.int .i64) (.cons (.int .i64) (.cons (.il true (.pair (.int .i64) (.pair (.int .i64) (.int .i64)))) (.cons (.il true (.pair (.int .i64) (.int .i64))) .nil))))) (.cons (.int .i64) .nil)), .bool, s_l11Inside k⟩, ⟨60, 0, (.cons (.agg (.cons (.int .i64) (.cons (.int .i64) (.cons (.il true (.pair (.int .i64) (.pair (.int .i64) (.int .i64)))) (.cons (.il true (.pair (.int .i64) (.int .i64))) .nil))))) (.cons (.int .i64) .nil)), (.int .i64), s_l11FixedFor k⟩] [(0, ⟨[1, 3], (.cons (.ptr (.cons (.int .i64) (.cons (.int .i64) (.cons (.il true (.pair (.int .i64) (.pair (.int .i64) (.int .i64)))) (.cons (.il true (.pair (.int .i64) (.int .i64))) .nil))))) (.cons (.int .i64) .nil))⟩, ⟨[1], (.cons (.ptr (.cons (.int .i64) (.cons (.int .i64) (.cons (.il true (.pair (.int .i64) (.pair (.int .i64) (.int .i64)))) (.cons (.il true (.pair (.int .i64) (.int .i64))) .nil))))) .nil)⟩), (2, ⟨[1, 5], (.cons (.ptr (.cons (.int .i64) (.cons (.int .i64) (.cons (.il true (.pair (.int .i64) (.pair (.int .i64) (.int .i64)))) (.cons (.il true (.pair (.int .i64) (.int .i64))) .nil))))) (.cons (.int .i64) .nil))⟩, ⟨[], .nil⟩), (4, ⟨[1, 5, 6, 8], (.cons (.ptr (.cons (.int .i64) (.cons (.int .i64) (.cons (.il true (.pair (.int .i64) (.pair (.int .i64) (.int .i64)))) (.cons (.il true (.pair (.int .i64) (.int .i64))) .nil))))) (.cons (.int .i64) (.cons (.ptr (.cons (.int .i64) (.cons (.int .i64) (.cons (.int .i64) .nil)))) (.cons (.int .i64) .nil))))⟩, ⟨[1, 5], (.cons (.ptr (.cons (.int .i64) (.cons (.int .i64) (.cons (.il true (.pair (.int .i64) (.pair (.int .i64) (.int .i64)))) (.cons (.il true (.pair (.int .i64) (.int .i64))) .nil))))) (.cons (.int .i64) .nil))⟩)] Tryz.f18 (.cons (.agg (.cons (.int .i64) (.cons (.int .i64) (.cons (.il true (.pair (.int .i64) (.pair (.int .i64) (.int .i64)))) (.cons (.il true (.pair (.int .i64) (.int .i64))) .nil))))) .nil) .bool x = s_PoolOk k x := by kernel_rfl
theorem e_s_PoolOk (k : Nat) : EntryOk Tryz.prog ⟨18, 0, (.cons (.agg (.cons (.int .i64) (.cons (.int .i64) (.cons (.il true (.pair (.int .i64) (.pair (.int .i64) (.int .i64)))) (.cons (.il true (.pair (.int .i64) (.int .i64))) .nil))))) .nil), .bool, s_PoolOk k⟩ := entry_ok tok (by intro e he; simp only [List.mem_cons, List.not_mem_nil, or_false] at he; rcases he with rfl | rfl | rfl | rfl <;> first | exact e_s_PrefixOk k | exact e_s_l01In k | exact e_s_l11Inside k | exact e_s_l11FixedFor k) (by kernel_rfl) (fn := Tryz.f18) (k := k) (es := [⟨57, 0, (.cons (.agg (.cons (.int .i64) (.cons (.int .i64) .nil))) .nil), .bool, s_PrefixOk k⟩, ⟨58, 0, (.cons (.int .i64) (.cons (.int .i64) (.cons (.int .i64) .nil))), .bool, s_l01In k⟩, ⟨59, 0, (.cons (.agg (.cons (.int .i64) (.cons (.int .i64) (.cons (.il true (.pair (.int .i64) (.pair (.int .i64) (.int .i64)))) (.cons (.il true (.pair (.int .i64) (.int .i64))) .nil))))) (.cons (.int .i64) .nil)), .bool, s_l11Inside k⟩, ⟨60, 0, (.cons (.agg (.cons (.int .i64) (.cons (.int .i64) (.cons (.il true (.pair (.int .i64) (.pair (.int .i64) (.int .i64)))) (.cons (.il true (.pair (.int .i64) (.int .i64))) .nil))))) (.cons (.int .i64) .nil)), (.int .i64), s_l11FixedFor k⟩]) (loops := [(0, ⟨[1, 3], (.cons (.ptr (.cons (.int .i64) (.cons (.int .i64) (.cons (.il true (.pair (.int .i64) (.pair (.int .i64) (.int .i64)))) (.cons (.il true (.pair (.int .i64) (.int .i64))) .nil))))) (.cons (.int .i64) .nil))⟩, ⟨[1], (.cons (.ptr (.cons (.int .i64) (.cons (.int .i64) (.cons (.il true (.pair (.int .i64) (.pair (.int .i64) (.int .i64)))) (.cons (.il true (.pair (.int .i64) (.int .i64))) .nil))))) .nil)⟩), (2, ⟨[1, 5], (.cons (.ptr (.cons (.int .i64) (.cons (.int .i64) (.cons (.il true (.pair (.int .i64) (.pair (.int .i64) (.int .i64)))) (.cons (.il true (.pair (.int .i64) (.int .i64))) .nil))))) (.cons (.int .i64) .nil))⟩, ⟨[], .nil⟩), (4, ⟨[1, 5, 6, 8], (.cons (.ptr (.cons (.int .i64) (.cons (.int .i64) (.cons (.il true (.pair (.int .i64) (.pair (.int .i64) (.int .i64)))) (.cons (.il true (.pair (.int .i64) (.int .i64))) .nil))))) (.cons (.int .i64) (.cons (.ptr (.cons (.int .i64) (.cons (.int .i64) (.cons (.int .i64) .nil)))) (.cons (.int .i64) .nil))))⟩, ⟨[1, 5], (.cons (.ptr (.cons (.int .i64) (.cons (.int .i64) (.cons (.il true (.pair (.int .i64) (.pair (.int .i64) (.int .i64)))) (.cons (.il true (.pair (.int .i64) (.int .i64))) .nil))))) (.cons (.int .i64) .nil))⟩)]) (by kernel_rfl) (by kernel_rfl) (fun x r h => (t_s_PoolOk k x).trans h)
def s_l09Ahead (k : Nat) (x : (Int × Int × Unit) × (Int × Int × Unit) × Unit) : Option (Bool × Unit × Unit × Unit) :=
(if (decide (x.1.1 < x.2.1.1)) = false then
(if (decide (x.1.1 = x.2.1.1)) = true then
some ((decide (x.1.2.1 < x.2.1.2.1)), ((), ((), ())))
else
some (false, ((), ((), ()))))
else
some (true, ((), ((), ()))))
theorem t_s_l09Ahead (k : Nat) (x) : evF TTab k [] [] Tryz.f61 (.cons (.agg (.cons (.int .i64) (.cons (.int .i64) .nil))) (.cons (.agg (.cons (.int .i64) (.cons (.int .i64) .nil))) .nil)) .bool x = s_l09Ahead k x := by kernel_rfl
theorem e_s_l09Ahead (k : Nat) : EntryOk Tryz.prog ⟨61, 0, (.cons (.agg (.cons (.int .i64) (.cons (.int .i64) .nil))) (.cons (.agg (.cons (.int .i64) (.cons (.int .i64) .nil))) .nil)), .bool, s_l09Ahead k⟩ := entry_ok tok (by simp) (by kernel_rfl) (fn := Tryz.f61) (k := k) (es := []) (loops := []) (by kernel_rfl) (by kernel_rfl) (fun x r h => (t_s_l09Ahead k x).trans h)
def s_RoutesOk (k : Nat) (x : (List ((Int × Int) × Int)) × Unit) : Option (Bool × Unit × Unit) :=
(whileK (fun (rec0 : ((List ((Int × Int) × Int)) × Int × Unit) → Option _) (y0 : (List ((Int × Int) × Int)) × Int × Unit) =>
(if (decide (y0.2.1 < (List.length y0.1 : Int))) = true then
(if 0 ≤ y0.2.1 ∧ y0.2.1 < (List.length y0.1 : Int) then
((s_PrefixOk k (((Ty.rd (t := (.pair (.pair (.int .i64) (.int .i64)) (.int .i64))) y0.1 y0.2.1).1.1, ((Ty.rd (t := (.pair (.pair (.int .i64) (.int .i64)) (.int .i64))) y0.1 y0.2.1).1.2, ())), ())).bind fun p1 =>
(if (!p1.1) = false then
(if 0 ≤ y0.2.1 ∧ y0.2.1 < (List.length y0.1 : Int) then
((s_l01In k ((Ty.rd (t := (.pair (.pair (.int .i64) (.int .i64)) (.int .i64))) y0.1 y0.2.1).2, ((1 : Int), ((99 : Int), ())))).bind fun p2 =>
(if (!p2.1) = false then
(if (decide ((0 : Int) < y0.2.1)) = true then
(if 0 ≤ (wi64 (y0.2.1 - (1 : Int))) ∧ (wi64 (y0.2.1 - (1 : Int))) < (List.length y0.1 : Int) then
(if 0 ≤ y0.2.1 ∧ y0.2.1 < (List.length y0.1 : Int) then
((s_l09Ahead k (((Ty.rd (t := (.pair (.pair (.int .i64) (.int .i64)) (.int .i64))) y0.1 (wi64 (y0.2.1 - (1 : Int)))).1.1, ((Ty.rd (t := (.pair (.pair (.int .i64) (.int .i64)) (.int .i64))) y0.1 (wi64 (y0.2.1 - (1 : Int)))).1.2, ())), (((Ty.rd (t := (.pair (.pair (.int .i64) (.int .i64)) (.int .i64))) y0.1 y0.2.1).1.1, ((Ty.rd (t := (.pair (.pair (.int .i64) (.int .i64)) (.int .i64))) y0.1 y0.2.1).1.2, ())), ()))).bind fun p3 =>
(if (!p3.1) = true then
some (false, ((), ()))
else
(rec0 (y0.1, ((wi64 (y0.2.1 + (1 : Int))), ())))))
else none)
else none)
else
(rec0 (y0.1, ((wi64 (y0.2.1 + (1 : Int))), ()))))
else
some (false, ((), ()))))
else none)
else
some (false, ((), ()))))
else none)
else
((fun (z1 : (List ((Int × Int) × Int)) × Unit) =>
some ((decide ((List.length z1.1 : Int) ≤ (12 : Int))), ((), ()))) (y0.1, ())))) k (x.1, ((0 : Int), ())))
theorem t_s_RoutesOk (k : Nat) (x) : evF TTab k [⟨57, 0, (.cons (.agg (.cons (.int .i64) (.cons (.int .i64) .nil))) .nil), .bool, s_PrefixOk k⟩, ⟨58, 0, (.cons (.int .i64) (.cons (.int .i64) (.cons (.int .i64) .nil))), .bool, s_l01In k⟩, ⟨61, 0, (.cons (.agg (.cons (.int .i64) (.cons (.int .i64) .nil))) (.cons (.agg (.cons (.int .i64) (.cons (.int .i64) .nil))) .nil)), .bool, s_l09Ahead k⟩] [(0, ⟨[0, 3], (.cons (.il true (.pair (.pair (.int .i64) (.int .i64)) (.int .i64))) (.cons (.int .i64) .nil))⟩, ⟨[0], (.cons (.il true (.pair (.pair (.int .i64) (.int .i64)) (.int .i64))) .nil)⟩)] Tryz.f19 (.cons (.il true (.pair (.pair (.int .i64) (.int .i64)) (.int .i64))) .nil) .bool x = s_RoutesOk k x := by kernel_rfl
theorem e_s_RoutesOk (k : Nat) : EntryOk Tryz.prog ⟨19, 0, (.cons (.il true (.pair (.pair (.int .i64) (.int .i64)) (.int .i64))) .nil), .bool, s_RoutesOk k⟩ := entry_ok tok (by intro e he; simp only [List.mem_cons, List.not_mem_nil, or_false] at he; rcases he with rfl | rfl | rfl <;> first | exact e_s_PrefixOk k | exact e_s_l01In k | exact e_s_l09Ahead k) (by kernel_rfl) (fn := Tryz.f19) (k := k) (es := [⟨57, 0, (.cons (.agg (.cons (.int .i64) (.cons (.int .i64) .nil))) .nil), .bool, s_PrefixOk k⟩, ⟨58, 0, (.cons (.int .i64) (.cons (.int .i64) (.cons (.int .i64) .nil))), .bool, s_l01In k⟩, ⟨61, 0, (.cons (.agg (.cons (.int .i64) (.cons (.int .i64) .nil))) (.cons (.agg (.cons (.int .i64) (.cons (.int .i64) .nil))) .nil)), .bool, s_l09Ahead k⟩]) (loops := [(0, ⟨[0, 3], (.cons (.il true (.pair (.pair (.int .i64) (.int .i64)) (.int .i64))) (.cons (.int .i64) .nil))⟩, ⟨[0], (.cons (.il true (.pair (.pair (.int .i64) (.int .i64)) (.int .i64))) .nil)⟩)]) (by kernel_rfl) (by kernel_rfl) (fun x r h => (t_s_RoutesOk k x).trans h)
def s_l17None (k : Nat) (x : (Int × ByteArray × ByteArray × Int × List (Int) × Int × Unit) × Unit) : Option (Bool × Unit × Unit) :=
(if (decide (x.1.1 = (0 : Int))) = true then
(if (decide (x.1.2.1 = (⟨#[]⟩ : ByteArray))) = true then
(if (decide (x.1.2.2.1 = (⟨#[]⟩ : ByteArray))) = true then
(if (decide (x.1.2.2.2.1 = (0 : Int))) = true then
(if (decide ((List.length x.1.2.2.2.2.1 : Int) = (0 : Int))) = true then
some ((decide (x.1.2.2.2.2.2.1 = (0 : Int))), ((), ()))
else
some (false, ((), ())))
else
some (false, ((), ())))
else
some (false, ((), ())))
else
some (false, ((), ())))
else
some (false, ((), ())))
theorem t_s_l17None (k : Nat) (x) : evF TTab k [] [] Tryz.f102 (.cons (.agg (.cons (.int .i64) (.cons .str (.cons .str (.cons (.int .i64) (.cons (.il true (.int .i64)) (.cons (.int .i64) .nil))))))) .nil) .bool x = s_l17None k x := by kernel_rfl
theorem e_s_l17None (k : Nat) : EntryOk Tryz.prog ⟨102, 0, (.cons (.agg (.cons (.int .i64) (.cons .str (.cons .str (.cons (.int .i64) (.cons (.il true (.int .i64)) (.cons (.int .i64) .nil))))))) .nil), .bool, s_l17None k⟩ := entry_ok tok (by simp) (by kernel_rfl) (fn := Tryz.f102) (k := k) (es := []) (loops := []) (by kernel_rfl) (by kernel_rfl) (fun x r h => (t_s_l17None k x).trans h)
def s_SeenOk (k : Nat) (x : List (Int) × Unit) : Option (Bool × Unit × Unit) :=
(whileK (fun (rec0 : (List (Int) × Int × Unit) → Option _) (y0 : List (Int) × Int × Unit) =>
(if (decide (y0.2.1 < (List.length y0.1 : Int))) = true then
(if 0 ≤ y0.2.1 ∧ y0.2.1 < (List.length y0.1 : Int) then
((s_l01In k ((Ty.rd (t := (.int .i64)) y0.1 y0.2.1), ((1 : Int), ((1000000000 : Int), ())))).bind fun p1 =>
(if (!p1.1) = false then
(if (decide ((0 : Int) < y0.2.1)) = true then
(if 0 ≤ (wi64 (y0.2.1 - (1 : Int))) ∧ (wi64 (y0.2.1 - (1 : Int))) < (List.length y0.1 : Int) then
(if 0 ≤ y0.2.1 ∧ y0.2.1 < (List.length y0.1 : Int) then
(if (decide ((Ty.rd (t := (.int .i64)) y0.1 (wi64 (y0.2.1 - (1 : Int)))) ≤ (Ty.rd (t := (.int .i64)) y0.1 y0.2.1))) = false then
(if 0 ≤ y0.2.1 ∧ y0.2.1 < (List.length y0.1 : Int) then
(if 0 ≤ (0 : Int) ∧ (0 : Int) < (List.length y0.1 : Int) then
(if (decide ((Ty.rd (t := (.int .i64)) y0.1 y0.2.1) ≤ (wi64 ((Ty.rd (t := (.int .i64)) y0.1 (0 : Int)) - (6 : Int))))) = true then
some (false, ((), ()))
else
(rec0 (y0.1, ((wi64 (y0.2.1 + (1 : Int))), ()))))
else none)
else none)
else
some (false, ((), ())))
else none)
else none)
else
(if 0 ≤ y0.2.1 ∧ y0.2.1 < (List.length y0.1 : Int) then
(if 0 ≤ (0 : Int) ∧ (0 : Int) < (List.length y0.1 : Int) then
(if (decide ((Ty.rd (t := (.int .i64)) y0.1 y0.2.1) ≤ (wi64 ((Ty.rd (t := (.int .i64)) y0.1 (0 : Int)) - (6 : Int))))) = true then
some (false, ((), ()))
else
(rec0 (y0.1, ((wi64 (y0.2.1 + (1 : Int))), ()))))
else none)
else none))
else
some (false, ((), ()))))
else none)
else
((fun (z1 : List (Int) × Unit) =>
some ((decide ((List.length z1.1 : Int) ≤ (6 : Int))), ((), ()))) (y0.1, ())))) k (x.1, ((0 : Int), ())))
theorem t_s_SeenOk (k : Nat) (x) : evF TTab k [⟨58, 0, (.cons (.int .i64) (.cons (.int .i64) (.cons (.int .i64) .nil))), .bool, s_l01In k⟩] [(0, ⟨[0, 3], (.cons (.il true (.int .i64)) (.cons (.int .i64) .nil))⟩, ⟨[0], (.cons (.il true (.int .i64)) .nil)⟩)] Tryz.f130 (.cons (.il true (.int .i64)) .nil) .bool x = s_SeenOk k x := by kernel_rfl
theorem e_s_SeenOk (k : Nat) : EntryOk Tryz.prog ⟨130, 0, (.cons (.il true (.int .i64)) .nil), .bool, s_SeenOk k⟩ := entry_ok tok (by intro e he; simp only [List.mem_cons, List.not_mem_nil, or_false] at he; rcases he with rfl <;> first | exact e_s_l01In k) (by kernel_rfl) (fn := Tryz.f130) (k := k) (es := [⟨58, 0, (.cons (.int .i64) (.cons (.int .i64) (.cons (.int .i64) .nil))), .bool, s_l01In k⟩]) (loops := [(0, ⟨[0, 3], (.cons (.il true (.int .i64)) (.cons (.int .i64) .nil))⟩, ⟨[0], (.cons (.il true (.int .i64)) .nil)⟩)]) (by kernel_rfl) (by kernel_rfl) (fun x r h => (t_s_SeenOk k x).trans h)
def s_SlotOk (k : Nat) (x : (Int × ByteArray × ByteArray × Int × List (Int) × Int × Unit) × Unit) : Option (Bool × Unit × Unit) :=
((s_l17None k ((x.1.1, (x.1.2.1, (x.1.2.2.1, (x.1.2.2.2.1, (x.1.2.2.2.2.1, (x.1.2.2.2.2.2.1, ())))))), ())).bind fun p1 =>
(if p1.1 = true then
some (true, ((), ()))
else
((s_l01In k (x.1.1, ((1 : Int), ((1000000000 : Int), ())))).bind fun p2 =>
(if p2.1 = true then
(if (decide ((ByteArray.size x.1.2.1 : Int) = (32 : Int))) = true then
(if (decide ((ByteArray.size x.1.2.2.1 : Int) = (32 : Int))) = true then
((s_l01In k (x.1.2.2.2.1, ((0 : Int), ((12 : Int), ())))).bind fun p3 =>
(if p3.1 = true then
((s_SeenOk k (x.1.2.2.2.2.1, ())).bind fun p4 =>
(if p4.1 = true then
((s_l01In k (x.1.2.2.2.2.2.1, ((0 : Int), ((1000000000 : Int), ())))).bind fun p5 =>
some (p5.1, ((), ())))
else
some (false, ((), ()))))
else
some (false, ((), ()))))
else
some (false, ((), ())))
else
some (false, ((), ())))
else
some (false, ((), ()))))))
theorem t_s_SlotOk (k : Nat) (x) : evF TTab k [⟨58, 0, (.cons (.int .i64) (.cons (.int .i64) (.cons (.int .i64) .nil))), .bool, s_l01In k⟩, ⟨102, 0, (.cons (.agg (.cons (.int .i64) (.cons .str (.cons .str (.cons (.int .i64) (.cons (.il true (.int .i64)) (.cons (.int .i64) .nil))))))) .nil), .bool, s_l17None k⟩, ⟨130, 0, (.cons (.il true (.int .i64)) .nil), .bool, s_SeenOk k⟩] [] Tryz.f101 (.cons (.agg (.cons (.int .i64) (.cons .str (.cons .str (.cons (.int .i64) (.cons (.il true (.int .i64)) (.cons (.int .i64) .nil))))))) .nil) .bool x = s_SlotOk k x := by kernel_rfl
theorem e_s_SlotOk (k : Nat) : EntryOk Tryz.prog ⟨101, 0, (.cons (.agg (.cons (.int .i64) (.cons .str (.cons .str (.cons (.int .i64) (.cons (.il true (.int .i64)) (.cons (.int .i64) .nil))))))) .nil), .bool, s_SlotOk k⟩ := entry_ok tok (by intro e he; simp only [List.mem_cons, List.not_mem_nil, or_false] at he; rcases he with rfl | rfl | rfl <;> first | exact e_s_l01In k | exact e_s_l17None k | exact e_s_SeenOk k) (by kernel_rfl) (fn := Tryz.f101) (k := k) (es := [⟨58, 0, (.cons (.int .i64) (.cons (.int .i64) (.cons (.int .i64) .nil))), .bool, s_l01In k⟩, ⟨102, 0, (.cons (.agg (.cons (.int .i64) (.cons .str (.cons .str (.cons (.int .i64) (.cons (.il true (.int .i64)) (.cons (.int .i64) .nil))))))) .nil), .bool, s_l17None k⟩, ⟨130, 0, (.cons (.il true (.int .i64)) .nil), .bool, s_SeenOk k⟩]) (loops := []) (by kernel_rfl) (by kernel_rfl) (fun x r h => (t_s_SlotOk k x).trans h)
def s_SlotsOk (k : Nat) (x : (Int × ByteArray × ByteArray × Int × List (Int) × Int × Int × ByteArray × ByteArray × Int × List (Int) × Int × Unit) × Unit) : Option (Bool × Unit × Unit) :=
((s_SlotOk k ((x.1.1, (x.1.2.1, (x.1.2.2.1, (x.1.2.2.2.1, (x.1.2.2.2.2.1, (x.1.2.2.2.2.2.1, ())))))), ())).bind fun p1 =>
(if (!p1.1) = false then
((s_SlotOk k ((x.1.2.2.2.2.2.2.1, (x.1.2.2.2.2.2.2.2.1, (x.1.2.2.2.2.2.2.2.2.1, (x.1.2.2.2.2.2.2.2.2.2.1, (x.1.2.2.2.2.2.2.2.2.2.2.1, (x.1.2.2.2.2.2.2.2.2.2.2.2.1, ())))))), ())).bind fun p2 =>
(if (!p2.1) = true then
some (false, ((), ()))
else
((s_l17None k ((x.1.2.2.2.2.2.2.1, (x.1.2.2.2.2.2.2.2.1, (x.1.2.2.2.2.2.2.2.2.1, (x.1.2.2.2.2.2.2.2.2.2.1, (x.1.2.2.2.2.2.2.2.2.2.2.1, (x.1.2.2.2.2.2.2.2.2.2.2.2.1, ())))))), ())).bind fun p3 =>
(if p3.1 = false then
some ((decide (x.1.2.2.2.2.2.2.1 < x.1.1)), ((), ()))
else
some (true, ((), ()))))))
else
some (false, ((), ()))))
theorem t_s_SlotsOk (k : Nat) (x) : evF TTab k [⟨101, 0, (.cons (.agg (.cons (.int .i64) (.cons .str (.cons .str (.cons (.int .i64) (.cons (.il true (.int .i64)) (.cons (.int .i64) .nil))))))) .nil), .bool, s_SlotOk k⟩, ⟨102, 0, (.cons (.agg (.cons (.int .i64) (.cons .str (.cons .str (.cons (.int .i64) (.cons (.il true (.int .i64)) (.cons (.int .i64) .nil))))))) .nil), .bool, s_l17None k⟩] [] Tryz.f62 (.cons (.agg (.cons (.int .i64) (.cons .str (.cons .str (.cons (.int .i64) (.cons (.il true (.int .i64)) (.cons (.int .i64) (.cons (.int .i64) (.cons .str (.cons .str (.cons (.int .i64) (.cons (.il true (.int .i64)) (.cons (.int .i64) .nil))))))))))))) .nil) .bool x = s_SlotsOk k x := by kernel_rfl
theorem e_s_SlotsOk (k : Nat) : EntryOk Tryz.prog ⟨62, 0, (.cons (.agg (.cons (.int .i64) (.cons .str (.cons .str (.cons (.int .i64) (.cons (.il true (.int .i64)) (.cons (.int .i64) (.cons (.int .i64) (.cons .str (.cons .str (.cons (.int .i64) (.cons (.il true (.int .i64)) (.cons (.int .i64) .nil))))))))))))) .nil), .bool, s_SlotsOk k⟩ := entry_ok tok (by intro e he; simp only [List.mem_cons, List.not_mem_nil, or_false] at he; rcases he with rfl | rfl <;> first | exact e_s_SlotOk k | exact e_s_l17None k) (by kernel_rfl) (fn := Tryz.f62) (k := k) (es := [⟨101, 0, (.cons (.agg (.cons (.int .i64) (.cons .str (.cons .str (.cons (.int .i64) (.cons (.il true (.int .i64)) (.cons (.int .i64) .nil))))))) .nil), .bool, s_SlotOk k⟩, ⟨102, 0, (.cons (.agg (.cons (.int .i64) (.cons .str (.cons .str (.cons (.int .i64) (.cons (.il true (.int .i64)) (.cons (.int .i64) .nil))))))) .nil), .bool, s_l17None k⟩]) (loops := []) (by kernel_rfl) (by kernel_rfl) (fun x r h => (t_s_SlotsOk k x).trans h)
def s_l20Held (k : Nat) (x : (Int × Int × Int × List (ByteArray) × List (Bool) × Int × Unit) × Unit) : Option (Bool × Unit × Unit) :=
((s_l01In k (x.1.1, ((1 : Int), ((99 : Int), ())))).bind fun p1 =>
(if (!p1.1) = false then
((s_l01In k (x.1.2.1, ((0 : Int), ((255 : Int), ())))).bind fun p2 =>
(if (!p2.1) = false then
((s_l01In k (x.1.2.2.1, ((2 : Int), ((15 : Int), ())))).bind fun p3 =>
(if (!p3.1) = false then
(if (!decide ((List.length x.1.2.2.2.1 : Int) = x.1.2.2.1)) = false then
(if (!decide ((List.length x.1.2.2.2.2.1 : Int) = x.1.2.2.1)) = false then
((s_l01In k (x.1.2.2.2.2.2.1, ((0 : Int), ((1000000000 : Int), ())))).bind fun p4 =>
(if (!p4.1) = true then
some (false, ((), ()))
else
(whileK (fun (rec0 : ((Int × Int × Int × List (ByteArray) × List (Bool) × Int × Unit) × Int × Int × Unit) → Option _) (y0 : (Int × Int × Int × List (ByteArray) × List (Bool) × Int × Unit) × Int × Int × Unit) =>
(if (decide (y0.2.2.1 < y0.1.2.2.1)) = true then
(jn (fun (j1v0 : Int) =>
(if 0 ≤ y0.2.2.1 ∧ y0.2.2.1 < (List.length y0.1.2.2.2.2.1 : Int) then
(if (!(Ty.rd (t := .bool) y0.1.2.2.2.2.1 y0.2.2.1)) = true then
(if 0 ≤ y0.2.2.1 ∧ y0.2.2.1 < (List.length y0.1.2.2.2.1 : Int) then
(if (!decide ((Ty.rd (t := .str) y0.1.2.2.2.1 y0.2.2.1) = (⟨#[]⟩ : ByteArray))) = false then
(if 0 ≤ y0.2.2.1 ∧ y0.2.2.1 < (List.length y0.1.2.2.2.1 : Int) then
(if (decide ((120 : Int) < (ByteArray.size (Ty.rd (t := .str) y0.1.2.2.2.1 y0.2.2.1) : Int))) = true then
some (false, ((), ()))
else
(rec0 ((y0.1.1, (y0.1.2.1, (y0.1.2.2.1, (y0.1.2.2.2.1, (y0.1.2.2.2.2.1, (y0.1.2.2.2.2.2.1, ())))))), (j1v0, ((wi64 (y0.2.2.1 + (1 : Int))), ())))))
else none)
else
some (false, ((), ())))
else none)
else
(if 0 ≤ y0.2.2.1 ∧ y0.2.2.1 < (List.length y0.1.2.2.2.1 : Int) then
(if (decide ((120 : Int) < (ByteArray.size (Ty.rd (t := .str) y0.1.2.2.2.1 y0.2.2.1) : Int))) = true then
some (false, ((), ()))
else
(rec0 ((y0.1.1, (y0.1.2.1, (y0.1.2.2.1, (y0.1.2.2.2.1, (y0.1.2.2.2.2.1, (y0.1.2.2.2.2.2.1, ())))))), (j1v0, ((wi64 (y0.2.2.1 + (1 : Int))), ())))))
else none))
else none)) (fun (j1 : Int → Option _) =>
(if 0 ≤ y0.2.2.1 ∧ y0.2.2.1 < (List.length y0.1.2.2.2.2.1 : Int) then
(if (Ty.rd (t := .bool) y0.1.2.2.2.2.1 y0.2.2.1) = true then
(j1 (wi64 (y0.2.1 + (1 : Int))))
else
(j1 y0.2.1))
else none)))
else
((fun (z1 : (Int × Int × Int × List (ByteArray) × List (Bool) × Int × Unit) × Int × Unit) =>
(if (decide ((1 : Int) ≤ z1.2.1)) = true then
some ((decide (z1.2.1 < z1.1.2.2.1)), ((), ()))
else
some (false, ((), ())))) ((y0.1.1, (y0.1.2.1, (y0.1.2.2.1, (y0.1.2.2.2.1, (y0.1.2.2.2.2.1, (y0.1.2.2.2.2.2.1, ())))))), (y0.2.1, ()))))) k ((x.1.1, (x.1.2.1, (x.1.2.2.1, (x.1.2.2.2.1, (x.1.2.2.2.2.1, (x.1.2.2.2.2.2.1, ())))))), ((0 : Int), ((0 : Int), ()))))))
else
some (false, ((), ())))
else
some (false, ((), ())))
else
some (false, ((), ()))))
else
some (false, ((), ()))))
else
some (false, ((), ()))))
theorem t_s_l20Held (k : Nat) (x) : evF TTab k [⟨58, 0, (.cons (.int .i64) (.cons (.int .i64) (.cons (.int .i64) .nil))), .bool, s_l01In k⟩] [(0, ⟨[1, 3, 4], (.cons (.ptr (.cons (.int .i64) (.cons (.int .i64) (.cons (.int .i64) (.cons (.il true .str) (.cons (.il true .bool) (.cons (.int .i64) .nil))))))) (.cons (.int .i64) (.cons (.int .i64) .nil)))⟩, ⟨[1, 3], (.cons (.ptr (.cons (.int .i64) (.cons (.int .i64) (.cons (.int .i64) (.cons (.il true .str) (.cons (.il true .bool) (.cons (.int .i64) .nil))))))) (.cons (.int .i64) .nil))⟩)] Tryz.f103 (.cons (.agg (.cons (.int .i64) (.cons (.int .i64) (.cons (.int .i64) (.cons (.il true .str) (.cons (.il true .bool) (.cons (.int .i64) .nil))))))) .nil) .bool x = s_l20Held k x := by kernel_rfl
theorem e_s_l20Held (k : Nat) : EntryOk Tryz.prog ⟨103, 0, (.cons (.agg (.cons (.int .i64) (.cons (.int .i64) (.cons (.int .i64) (.cons (.il true .str) (.cons (.il true .bool) (.cons (.int .i64) .nil))))))) .nil), .bool, s_l20Held k⟩ := entry_ok tok (by intro e he; simp only [List.mem_cons, List.not_mem_nil, or_false] at he; rcases he with rfl <;> first | exact e_s_l01In k) (by kernel_rfl) (fn := Tryz.f103) (k := k) (es := [⟨58, 0, (.cons (.int .i64) (.cons (.int .i64) (.cons (.int .i64) .nil))), .bool, s_l01In k⟩]) (loops := [(0, ⟨[1, 3, 4], (.cons (.ptr (.cons (.int .i64) (.cons (.int .i64) (.cons (.int .i64) (.cons (.il true .str) (.cons (.il true .bool) (.cons (.int .i64) .nil))))))) (.cons (.int .i64) (.cons (.int .i64) .nil)))⟩, ⟨[1, 3], (.cons (.ptr (.cons (.int .i64) (.cons (.int .i64) (.cons (.int .i64) (.cons (.il true .str) (.cons (.il true .bool) (.cons (.int .i64) .nil))))))) (.cons (.int .i64) .nil))⟩)]) (by kernel_rfl) (by kernel_rfl) (fun x r h => (t_s_l20Held k x).trans h)
def s_ShelfOk (k : Nat) (x : ((List (Int × Int × Int × List (ByteArray) × List (Bool) × Int)) × Unit) × Unit) : Option (Bool × Unit × Unit) :=
(whileK (fun (rec0 : (((List (Int × Int × Int × List (ByteArray) × List (Bool) × Int)) × Unit) × Int × Unit) → Option _) (y0 : ((List (Int × Int × Int × List (ByteArray) × List (Bool) × Int)) × Unit) × Int × Unit) =>
(if (decide (y0.2.1 < (List.length y0.1.1 : Int))) = true then
(if 0 ≤ y0.2.1 ∧ y0.2.1 < (List.length y0.1.1 : Int) then
((s_l20Held k (((Ty.rd (t := (.pair (.int .i64) (.pair (.int .i64) (.pair (.int .i64) (.pair (.list .str) (.pair (.list .bool) (.int .i64))))))) y0.1.1 y0.2.1).1, ((Ty.rd (t := (.pair (.int .i64) (.pair (.int .i64) (.pair (.int .i64) (.pair (.list .str) (.pair (.list .bool) (.int .i64))))))) y0.1.1 y0.2.1).2.1, ((Ty.rd (t := (.pair (.int .i64) (.pair (.int .i64) (.pair (.int .i64) (.pair (.list .str) (.pair (.list .bool) (.int .i64))))))) y0.1.1 y0.2.1).2.2.1, ((Ty.rd (t := (.pair (.int .i64) (.pair (.int .i64) (.pair (.int .i64) (.pair (.list .str) (.pair (.list .bool) (.int .i64))))))) y0.1.1 y0.2.1).2.2.2.1, ((Ty.rd (t := (.pair (.int .i64) (.pair (.int .i64) (.pair (.int .i64) (.pair (.list .str) (.pair (.list .bool) (.int .i64))))))) y0.1.1 y0.2.1).2.2.2.2.1, ((Ty.rd (t := (.pair (.int .i64) (.pair (.int .i64) (.pair (.int .i64) (.pair (.list .str) (.pair (.list .bool) (.int .i64))))))) y0.1.1 y0.2.1).2.2.2.2.2, ())))))), ())).bind fun p1 =>
(if (!p1.1) = true then
some (false, ((), ()))
else
(whileK (fun (rec2 : (((List (Int × Int × Int × List (ByteArray) × List (Bool) × Int)) × Unit) × Int × Int × Unit) → Option _) (y2 : ((List (Int × Int × Int × List (ByteArray) × List (Bool) × Int)) × Unit) × Int × Int × Unit) =>
(if (decide (y2.2.2.1 < y2.2.1)) = true then
(if 0 ≤ y2.2.2.1 ∧ y2.2.2.1 < (List.length y2.1.1 : Int) then
(if 0 ≤ y2.2.1 ∧ y2.2.1 < (List.length y2.1.1 : Int) then
(if (decide ((Ty.rd (t := (.pair (.int .i64) (.pair (.int .i64) (.pair (.int .i64) (.pair (.list .str) (.pair (.list .bool) (.int .i64))))))) y2.1.1 y2.2.2.1).1 = (Ty.rd (t := (.pair (.int .i64) (.pair (.int .i64) (.pair (.int .i64) (.pair (.list .str) (.pair (.list .bool) (.int .i64))))))) y2.1.1 y2.2.1).1)) = true then
(if 0 ≤ y2.2.2.1 ∧ y2.2.2.1 < (List.length y2.1.1 : Int) then
(if 0 ≤ y2.2.1 ∧ y2.2.1 < (List.length y2.1.1 : Int) then
(if (decide ((Ty.rd (t := (.pair (.int .i64) (.pair (.int .i64) (.pair (.int .i64) (.pair (.list .str) (.pair (.list .bool) (.int .i64))))))) y2.1.1 y2.2.2.1).2.1 = (Ty.rd (t := (.pair (.int .i64) (.pair (.int .i64) (.pair (.int .i64) (.pair (.list .str) (.pair (.list .bool) (.int .i64))))))) y2.1.1 y2.2.1).2.1)) = true then
some (false, ((), ()))
else
(rec2 ((y2.1.1, ()), (y2.2.1, ((wi64 (y2.2.2.1 + (1 : Int))), ())))))
else none)
else none)
else
(rec2 ((y2.1.1, ()), (y2.2.1, ((wi64 (y2.2.2.1 + (1 : Int))), ())))))
else none)
else none)
else
((fun (z1 : ((List (Int × Int × Int × List (ByteArray) × List (Bool) × Int)) × Unit) × Int × Unit) =>
(rec0 ((z1.1.1, ()), ((wi64 (z1.2.1 + (1 : Int))), ())))) ((y2.1.1, ()), (y2.2.1, ()))))) k ((y0.1.1, ()), (y0.2.1, ((0 : Int), ()))))))
else none)
else
((fun (z2 : ((List (Int × Int × Int × List (ByteArray) × List (Bool) × Int)) × Unit) × Unit) =>
some ((decide ((List.length z2.1.1 : Int) ≤ (3 : Int))), ((), ()))) ((y0.1.1, ()), ())))) k ((x.1.1, ()), ((0 : Int), ())))
theorem t_s_ShelfOk (k : Nat) (x) : evF TTab k [⟨103, 0, (.cons (.agg (.cons (.int .i64) (.cons (.int .i64) (.cons (.int .i64) (.cons (.il true .str) (.cons (.il true .bool) (.cons (.int .i64) .nil))))))) .nil), .bool, s_l20Held k⟩] [(0, ⟨[1, 3], (.cons (.ptr (.cons (.il true (.pair (.int .i64) (.pair (.int .i64) (.pair (.int .i64) (.pair (.list .str) (.pair (.list .bool) (.int .i64))))))) .nil)) (.cons (.int .i64) .nil))⟩, ⟨[1], (.cons (.ptr (.cons (.il true (.pair (.int .i64) (.pair (.int .i64) (.pair (.int .i64) (.pair (.list .str) (.pair (.list .bool) (.int .i64))))))) .nil)) .nil)⟩), (2, ⟨[1, 3, 4], (.cons (.ptr (.cons (.il true (.pair (.int .i64) (.pair (.int .i64) (.pair (.int .i64) (.pair (.list .str) (.pair (.list .bool) (.int .i64))))))) .nil)) (.cons (.int .i64) (.cons (.int .i64) .nil)))⟩, ⟨[1, 3], (.cons (.ptr (.cons (.il true (.pair (.int .i64) (.pair (.int .i64) (.pair (.int .i64) (.pair (.list .str) (.pair (.list .bool) (.int .i64))))))) .nil)) (.cons (.int .i64) .nil))⟩)] Tryz.f63 (.cons (.agg (.cons (.il true (.pair (.int .i64) (.pair (.int .i64) (.pair (.int .i64) (.pair (.list .str) (.pair (.list .bool) (.int .i64))))))) .nil)) .nil) .bool x = s_ShelfOk k x := by kernel_rfl
theorem e_s_ShelfOk (k : Nat) : EntryOk Tryz.prog ⟨63, 0, (.cons (.agg (.cons (.il true (.pair (.int .i64) (.pair (.int .i64) (.pair (.int .i64) (.pair (.list .str) (.pair (.list .bool) (.int .i64))))))) .nil)) .nil), .bool, s_ShelfOk k⟩ := entry_ok tok (by intro e he; simp only [List.mem_cons, List.not_mem_nil, or_false] at he; rcases he with rfl <;> first | exact e_s_l20Held k) (by kernel_rfl) (fn := Tryz.f63) (k := k) (es := [⟨103, 0, (.cons (.agg (.cons (.int .i64) (.cons (.int .i64) (.cons (.int .i64) (.cons (.il true .str) (.cons (.il true .bool) (.cons (.int .i64) .nil))))))) .nil), .bool, s_l20Held k⟩]) (loops := [(0, ⟨[1, 3], (.cons (.ptr (.cons (.il true (.pair (.int .i64) (.pair (.int .i64) (.pair (.int .i64) (.pair (.list .str) (.pair (.list .bool) (.int .i64))))))) .nil)) (.cons (.int .i64) .nil))⟩, ⟨[1], (.cons (.ptr (.cons (.il true (.pair (.int .i64) (.pair (.int .i64) (.pair (.int .i64) (.pair (.list .str) (.pair (.list .bool) (.int .i64))))))) .nil)) .nil)⟩), (2, ⟨[1, 3, 4], (.cons (.ptr (.cons (.il true (.pair (.int .i64) (.pair (.int .i64) (.pair (.int .i64) (.pair (.list .str) (.pair (.list .bool) (.int .i64))))))) .nil)) (.cons (.int .i64) (.cons (.int .i64) .nil)))⟩, ⟨[1, 3], (.cons (.ptr (.cons (.il true (.pair (.int .i64) (.pair (.int .i64) (.pair (.int .i64) (.pair (.list .str) (.pair (.list .bool) (.int .i64))))))) .nil)) (.cons (.int .i64) .nil))⟩)]) (by kernel_rfl) (by kernel_rfl) (fun x r h => (t_s_ShelfOk k x).trans h)
def s_l24User (k : Nat) (x : (Int × Int × Int × ByteArray × ByteArray × Int × List (Int) × Int × Int × ByteArray × ByteArray × Int × List (Int) × Int × (List (Int × Int × Int × List (ByteArray) × List (Bool) × Int)) × Int × Unit) × Unit) : Option (Bool × Unit × Unit) :=
((s_l01In k (x.1.1, ((1 : Int), ((98 : Int), ())))).bind fun p1 =>
(if p1.1 = true then
((s_SlotsOk k ((x.1.2.2.1, (x.1.2.2.2.1, (x.1.2.2.2.2.1, (x.1.2.2.2.2.2.1, (x.1.2.2.2.2.2.2.1, (x.1.2.2.2.2.2.2.2.1, (x.1.2.2.2.2.2.2.2.2.1, (x.1.2.2.2.2.2.2.2.2.2.1, (x.1.2.2.2.2.2.2.2.2.2.2.1, (x.1.2.2.2.2.2.2.2.2.2.2.2.1, (x.1.2.2.2.2.2.2.2.2.2.2.2.2.1, (x.1.2.2.2.2.2.2.2.2.2.2.2.2.2.1, ())))))))))))), ())).bind fun p2 =>
(if p2.1 = true then
((s_ShelfOk k ((x.1.2.2.2.2.2.2.2.2.2.2.2.2.2.2.1, ()), ())).bind fun p3 =>
(if p3.1 = true then
((s_l01In k (x.1.2.2.2.2.2.2.2.2.2.2.2.2.2.2.2.1, ((0 : Int), ((1000000000 : Int), ())))).bind fun p4 =>
some (p4.1, ((), ())))
else
some (false, ((), ()))))
else
some (false, ((), ()))))
else
some (false, ((), ()))))
theorem t_s_l24User (k : Nat) (x) : evF TTab k [⟨58, 0, (.cons (.int .i64) (.cons (.int .i64) (.cons (.int .i64) .nil))), .bool, s_l01In k⟩, ⟨62, 0, (.cons (.agg (.cons (.int .i64) (.cons .str (.cons .str (.cons (.int .i64) (.cons (.il true (.int .i64)) (.cons (.int .i64) (.cons (.int .i64) (.cons .str (.cons .str (.cons (.int .i64) (.cons (.il true (.int .i64)) (.cons (.int .i64) .nil))))))))))))) .nil), .bool, s_SlotsOk k⟩, ⟨63, 0, (.cons (.agg (.cons (.il true (.pair (.int .i64) (.pair (.int .i64) (.pair (.int .i64) (.pair (.list .str) (.pair (.list .bool) (.int .i64))))))) .nil)) .nil), .bool, s_ShelfOk k⟩] [] Tryz.f20 (.cons (.agg (.cons (.int .i64) (.cons (.int .i64) (.cons (.int .i64) (.cons .str (.cons .str (.cons (.int .i64) (.cons (.il true (.int .i64)) (.cons (.int .i64) (.cons (.int .i64) (.cons .str (.cons .str (.cons (.int .i64) (.cons (.il true (.int .i64)) (.cons (.int .i64) (.cons (.il true (.pair (.int .i64) (.pair (.int .i64) (.pair (.int .i64) (.pair (.list .str) (.pair (.list .bool) (.int .i64))))))) (.cons (.int .i64) .nil))))))))))))))))) .nil) .bool x = s_l24User k x := by kernel_rfl
theorem e_s_l24User (k : Nat) : EntryOk Tryz.prog ⟨20, 0, (.cons (.agg (.cons (.int .i64) (.cons (.int .i64) (.cons (.int .i64) (.cons .str (.cons .str (.cons (.int .i64) (.cons (.il true (.int .i64)) (.cons (.int .i64) (.cons (.int .i64) (.cons .str (.cons .str (.cons (.int .i64) (.cons (.il true (.int .i64)) (.cons (.int .i64) (.cons (.il true (.pair (.int .i64) (.pair (.int .i64) (.pair (.int .i64) (.pair (.list .str) (.pair (.list .bool) (.int .i64))))))) (.cons (.int .i64) .nil))))))))))))))))) .nil), .bool, s_l24User k⟩ := entry_ok tok (by intro e he; simp only [List.mem_cons, List.not_mem_nil, or_false] at he; rcases he with rfl | rfl | rfl <;> first | exact e_s_l01In k | exact e_s_SlotsOk k | exact e_s_ShelfOk k) (by kernel_rfl) (fn := Tryz.f20) (k := k) (es := [⟨58, 0, (.cons (.int .i64) (.cons (.int .i64) (.cons (.int .i64) .nil))), .bool, s_l01In k⟩, ⟨62, 0, (.cons (.agg (.cons (.int .i64) (.cons .str (.cons .str (.cons (.int .i64) (.cons (.il true (.int .i64)) (.cons (.int .i64) (.cons (.int .i64) (.cons .str (.cons .str (.cons (.int .i64) (.cons (.il true (.int .i64)) (.cons (.int .i64) .nil))))))))))))) .nil), .bool, s_SlotsOk k⟩, ⟨63, 0, (.cons (.agg (.cons (.il true (.pair (.int .i64) (.pair (.int .i64) (.pair (.int .i64) (.pair (.list .str) (.pair (.list .bool) (.int .i64))))))) .nil)) .nil), .bool, s_ShelfOk k⟩]) (loops := []) (by kernel_rfl) (by kernel_rfl) (fun x r h => (t_s_l24User k x).trans h)
def s_HolderOf (k : Nat) (x : (Int × Int × (List (Int × Int × Int)) × (List (Int × Int)) × Unit) × Int × Unit) : Option (Int × Unit × Unit × Unit) :=
(whileK (fun (rec0 : (Int × (Int × Int × (List (Int × Int × Int)) × (List (Int × Int)) × Unit) × Int × Unit) → Option _) (y0 : Int × (Int × Int × (List (Int × Int × Int)) × (List (Int × Int)) × Unit) × Int × Unit) =>
(if (decide (y0.2.2.1 < (List.length y0.2.1.2.2.1 : Int))) = true then
(if 0 ≤ y0.2.2.1 ∧ y0.2.2.1 < (List.length y0.2.1.2.2.1 : Int) then
(if (decide ((Ty.rd (t := (.pair (.int .i64) (.pair (.int .i64) (.int .i64)))) y0.2.1.2.2.1 y0.2.2.1).1 = y0.1)) = true then
(if 0 ≤ y0.2.2.1 ∧ y0.2.2.1 < (List.length y0.2.1.2.2.1 : Int) then
some ((Ty.rd (t := (.pair (.int .i64) (.pair (.int .i64) (.int .i64)))) y0.2.1.2.2.1 y0.2.2.1).2.1, ((), ((), ())))
else none)
else
(rec0 (y0.1, ((y0.2.1.1, (y0.2.1.2.1, (y0.2.1.2.2.1, (y0.2.1.2.2.2.1, ())))), ((wi64 (y0.2.2.1 + (1 : Int))), ())))))
else none)
else
((fun (z1 : Unit) =>
some ((0 : Int), ((), ((), ())))) ()))) k (x.2.1, ((x.1.1, (x.1.2.1, (x.1.2.2.1, (x.1.2.2.2.1, ())))), ((0 : Int), ()))))
theorem t_s_HolderOf (k : Nat) (x) : evF TTab k [] [(0, ⟨[1, 2, 5], (.cons (.int .i64) (.cons (.ptr (.cons (.int .i64) (.cons (.int .i64) (.cons (.il true (.pair (.int .i64) (.pair (.int .i64) (.int .i64)))) (.cons (.il true (.pair (.int .i64) (.int .i64))) .nil))))) (.cons (.int .i64) .nil)))⟩, ⟨[], .nil⟩)] Tryz.f21 (.cons (.agg (.cons (.int .i64) (.cons (.int .i64) (.cons (.il true (.pair (.int .i64) (.pair (.int .i64) (.int .i64)))) (.cons (.il true (.pair (.int .i64) (.int .i64))) .nil))))) (.cons (.int .i64) .nil)) (.int .i64) x = s_HolderOf k x := by kernel_rfl
theorem e_s_HolderOf (k : Nat) : EntryOk Tryz.prog ⟨21, 0, (.cons (.agg (.cons (.int .i64) (.cons (.int .i64) (.cons (.il true (.pair (.int .i64) (.pair (.int .i64) (.int .i64)))) (.cons (.il true (.pair (.int .i64) (.int .i64))) .nil))))) (.cons (.int .i64) .nil)), (.int .i64), s_HolderOf k⟩ := entry_ok tok (by simp) (by kernel_rfl) (fn := Tryz.f21) (k := k) (es := []) (loops := [(0, ⟨[1, 2, 5], (.cons (.int .i64) (.cons (.ptr (.cons (.int .i64) (.cons (.int .i64) (.cons (.il true (.pair (.int .i64) (.pair (.int .i64) (.int .i64)))) (.cons (.il true (.pair (.int .i64) (.int .i64))) .nil))))) (.cons (.int .i64) .nil)))⟩, ⟨[], .nil⟩)]) (by kernel_rfl) (by kernel_rfl) (fun x r h => (t_s_HolderOf k x).trans h)
def s_l22At (k : Nat) (x : (List (Int × Int × ((Int × ByteArray × ByteArray × Int × List (Int) × Int) × Int × ByteArray × ByteArray × Int × List (Int) × Int) × List (Int × Int × Int × List (ByteArray) × List (Bool) × Int) × Int)) × Int × Unit) : Option (Int × Unit × Unit × Unit) :=
(whileK (fun (rec0 : ((List (Int × Int × ((Int × ByteArray × ByteArray × Int × List (Int) × Int) × Int × ByteArray × ByteArray × Int × List (Int) × Int) × List (Int × Int × Int × List (ByteArray) × List (Bool) × Int) × Int)) × Int × Int × Unit) → Option _) (y0 : (List (Int × Int × ((Int × ByteArray × ByteArray × Int × List (Int) × Int) × Int × ByteArray × ByteArray × Int × List (Int) × Int) × List (Int × Int × Int × List (ByteArray) × List (Bool) × Int) × Int)) × Int × Int × Unit) =>
(if (decide (y0.2.2.1 < (List.length y0.1 : Int))) = true then
(if 0 ≤ y0.2.2.1 ∧ y0.2.2.1 < (List.length y0.1 : Int) then
(if (decide ((Ty.rd (t := (.pair (.int .i64) (.pair (.int .i64) (.pair (.pair (.pair (.int .i64) (.pair .str (.pair .str (.pair (.int .i64) (.pair (.list (.int .i64)) (.int .i64)))))) (.pair (.int .i64) (.pair .str (.pair .str (.pair (.int .i64) (.pair (.list (.int .i64)) (.int .i64))))))) (.pair (.list (.pair (.int .i64) (.pair (.int .i64) (.pair (.int .i64) (.pair (.list .str) (.pair (.list .bool) (.int .i64))))))) (.int .i64)))))) y0.1 y0.2.2.1).1 = y0.2.1)) = true then
some (y0.2.2.1, ((), ((), ())))
else
(rec0 (y0.1, (y0.2.1, ((wi64 (y0.2.2.1 + (1 : Int))), ())))))
else none)
else
((fun (z1 : Unit) =>
some ((-1 : Int), ((), ((), ())))) ()))) k (x.1, (x.2.1, ((0 : Int), ()))))
theorem t_s_l22At (k : Nat) (x) : evF TTab k [] [(0, ⟨[0, 1, 5], (.cons (.il true (.pair (.int .i64) (.pair (.int .i64) (.pair (.pair (.pair (.int .i64) (.pair .str (.pair .str (.pair (.int .i64) (.pair (.list (.int .i64)) (.int .i64)))))) (.pair (.int .i64) (.pair .str (.pair .str (.pair (.int .i64) (.pair (.list (.int .i64)) (.int .i64))))))) (.pair (.list (.pair (.int .i64) (.pair (.int .i64) (.pair (.int .i64) (.pair (.list .str) (.pair (.list .bool) (.int .i64))))))) (.int .i64)))))) (.cons (.int .i64) (.cons (.int .i64) .nil)))⟩, ⟨[], .nil⟩)] Tryz.f22 (.cons (.il true (.pair (.int .i64) (.pair (.int .i64) (.pair (.pair (.pair (.int .i64) (.pair .str (.pair .str (.pair (.int .i64) (.pair (.list (.int .i64)) (.int .i64)))))) (.pair (.int .i64) (.pair .str (.pair .str (.pair (.int .i64) (.pair (.list (.int .i64)) (.int .i64))))))) (.pair (.list (.pair (.int .i64) (.pair (.int .i64) (.pair (.int .i64) (.pair (.list .str) (.pair (.list .bool) (.int .i64))))))) (.int .i64)))))) (.cons (.int .i64) .nil)) (.int .i64) x = s_l22At k x := by kernel_rfl
theorem e_s_l22At (k : Nat) : EntryOk Tryz.prog ⟨22, 0, (.cons (.il true (.pair (.int .i64) (.pair (.int .i64) (.pair (.pair (.pair (.int .i64) (.pair .str (.pair .str (.pair (.int .i64) (.pair (.list (.int .i64)) (.int .i64)))))) (.pair (.int .i64) (.pair .str (.pair .str (.pair (.int .i64) (.pair (.list (.int .i64)) (.int .i64))))))) (.pair (.list (.pair (.int .i64) (.pair (.int .i64) (.pair (.int .i64) (.pair (.list .str) (.pair (.list .bool) (.int .i64))))))) (.int .i64)))))) (.cons (.int .i64) .nil)), (.int .i64), s_l22At k⟩ := entry_ok tok (by simp) (by kernel_rfl) (fn := Tryz.f22) (k := k) (es := []) (loops := [(0, ⟨[0, 1, 5], (.cons (.il true (.pair (.int .i64) (.pair (.int .i64) (.pair (.pair (.pair (.int .i64) (.pair .str (.pair .str (.pair (.int .i64) (.pair (.list (.int .i64)) (.int .i64)))))) (.pair (.int .i64) (.pair .str (.pair .str (.pair (.int .i64) (.pair (.list (.int .i64)) (.int .i64))))))) (.pair (.list (.pair (.int .i64) (.pair (.int .i64) (.pair (.int .i64) (.pair (.list .str) (.pair (.list .bool) (.int .i64))))))) (.int .i64)))))) (.cons (.int .i64) (.cons (.int .i64) .nil)))⟩, ⟨[], .nil⟩)]) (by kernel_rfl) (by kernel_rfl) (fun x r h => (t_s_l22At k x).trans h)
def s_HubOk (k : Nat) (x : (Int × Int × (List (Int × Int × Int)) × (List (Int × Int)) × (List ((Int × Int) × Int)) × (List (Int × Int × ((Int × ByteArray × ByteArray × Int × List (Int) × Int) × Int × ByteArray × ByteArray × Int × List (Int) × Int) × List (Int × Int × Int × List (ByteArray) × List (Bool) × Int) × Int)) × Unit) × Unit) : Option (Bool × Unit × Unit) :=
((s_PoolOk k ((x.1.1, (x.1.2.1, (x.1.2.2.1, (x.1.2.2.2.1, ())))), ())).bind fun p1 =>
(if (!p1.1) = false then
((s_RoutesOk k (x.1.2.2.2.2.1, ())).bind fun p2 =>
(if (!p2.1) = false then
(if (decide ((3 : Int) < (List.length x.1.2.2.2.2.2.1 : Int))) = true then
some (false, ((), ()))
else
(whileK (fun (rec0 : ((Int × Int × (List (Int × Int × Int)) × (List (Int × Int)) × (List ((Int × Int) × Int)) × (List (Int × Int × ((Int × ByteArray × ByteArray × Int × List (Int) × Int) × Int × ByteArray × ByteArray × Int × List (Int) × Int) × List (Int × Int × Int × List (ByteArray) × List (Bool) × Int) × Int)) × Unit) × Int × Unit) → Option _) (y0 : (Int × Int × (List (Int × Int × Int)) × (List (Int × Int)) × (List ((Int × Int) × Int)) × (List (Int × Int × ((Int × ByteArray × ByteArray × Int × List (Int) × Int) × Int × ByteArray × ByteArray × Int × List (Int) × Int) × List (Int × Int × Int × List (ByteArray) × List (Bool) × Int) × Int)) × Unit) × Int × Unit) =>
(if (decide (y0.2.1 < (List.length y0.1.2.2.2.2.2.1 : Int))) = true then
(if 0 ≤ y0.2.1 ∧ y0.2.1 < (List.length y0.1.2.2.2.2.2.1 : Int) then
((s_l24User k (((Ty.rd (t := (.pair (.int .i64) (.pair (.int .i64) (.pair (.pair (.pair (.int .i64) (.pair .str (.pair .str (.pair (.int .i64) (.pair (.list (.int .i64)) (.int .i64)))))) (.pair (.int .i64) (.pair .str (.pair .str (.pair (.int .i64) (.pair (.list (.int .i64)) (.int .i64))))))) (.pair (.list (.pair (.int .i64) (.pair (.int .i64) (.pair (.int .i64) (.pair (.list .str) (.pair (.list .bool) (.int .i64))))))) (.int .i64)))))) y0.1.2.2.2.2.2.1 y0.2.1).1, ((Ty.rd (t := (.pair (.int .i64) (.pair (.int .i64) (.pair (.pair (.pair (.int .i64) (.pair .str (.pair .str (.pair (.int .i64) (.pair (.list (.int .i64)) (.int .i64)))))) (.pair (.int .i64) (.pair .str (.pair .str (.pair (.int .i64) (.pair (.list (.int .i64)) (.int .i64))))))) (.pair (.list (.pair (.int .i64) (.pair (.int .i64) (.pair (.int .i64) (.pair (.list .str) (.pair (.list .bool) (.int .i64))))))) (.int .i64)))))) y0.1.2.2.2.2.2.1 y0.2.1).2.1, ((Ty.rd (t := (.pair (.int .i64) (.pair (.int .i64) (.pair (.pair (.pair (.int .i64) (.pair .str (.pair .str (.pair (.int .i64) (.pair (.list (.int .i64)) (.int .i64)))))) (.pair (.int .i64) (.pair .str (.pair .str (.pair (.int .i64) (.pair (.list (.int .i64)) (.int .i64))))))) (.pair (.list (.pair (.int .i64) (.pair (.int .i64) (.pair (.int .i64) (.pair (.list .str) (.pair (.list .bool) (.int .i64))))))) (.int .i64)))))) y0.1.2.2.2.2.2.1 y0.2.1).2.2.1.1.1, ((Ty.rd (t := (.pair (.int .i64) (.pair (.int .i64) (.pair (.pair (.pair (.int .i64) (.pair .str (.pair .str (.pair (.int .i64) (.pair (.list (.int .i64)) (.int .i64)))))) (.pair (.int .i64) (.pair .str (.pair .str (.pair (.int .i64) (.pair (.list (.int .i64)) (.int .i64))))))) (.pair (.list (.pair (.int .i64) (.pair (.int .i64) (.pair (.int .i64) (.pair (.list .str) (.pair (.list .bool) (.int .i64))))))) (.int .i64)))))) y0.1.2.2.2.2.2.1 y0.2.1).2.2.1.1.2.1, ((Ty.rd (t := (.pair (.int .i64) (.pair (.int .i64) (.pair (.pair (.pair (.int .i64) (.pair .str (.pair .str (.pair (.int .i64) (.pair (.list (.int .i64)) (.int .i64)))))) (.pair (.int .i64) (.pair .str (.pair .str (.pair (.int .i64) (.pair (.list (.int .i64)) (.int .i64))))))) (.pair (.list (.pair (.int .i64) (.pair (.int .i64) (.pair (.int .i64) (.pair (.list .str) (.pair (.list .bool) (.int .i64))))))) (.int .i64)))))) y0.1.2.2.2.2.2.1 y0.2.1).2.2.1.1.2.2.1, ((Ty.rd (t := (.pair (.int .i64) (.pair (.int .i64) (.pair (.pair (.pair (.int .i64) (.pair .str (.pair .str (.pair (.int .i64) (.pair (.list (.int .i64)) (.int .i64)))))) (.pair (.int .i64) (.pair .str (.pair .str (.pair (.int .i64) (.pair (.list (.int .i64)) (.int .i64))))))) (.pair (.list (.pair (.int .i64) (.pair (.int .i64) (.pair (.int .i64) (.pair (.list .str) (.pair (.list .bool) (.int .i64))))))) (.int .i64)))))) y0.1.2.2.2.2.2.1 y0.2.1).2.2.1.1.2.2.2.1, ((Ty.rd (t := (.pair (.int .i64) (.pair (.int .i64) (.pair (.pair (.pair (.int .i64) (.pair .str (.pair .str (.pair (.int .i64) (.pair (.list (.int .i64)) (.int .i64)))))) (.pair (.int .i64) (.pair .str (.pair .str (.pair (.int .i64) (.pair (.list (.int .i64)) (.int .i64))))))) (.pair (.list (.pair (.int .i64) (.pair (.int .i64) (.pair (.int .i64) (.pair (.list .str) (.pair (.list .bool) (.int .i64))))))) (.int .i64)))))) y0.1.2.2.2.2.2.1 y0.2.1).2.2.1.1.2.2.2.2.1, ((Ty.rd (t := (.pair (.int .i64) (.pair (.int .i64) (.pair (.pair (.pair (.int .i64) (.pair .str (.pair .str (.pair (.int .i64) (.pair (.list (.int .i64)) (.int .i64)))))) (.pair (.int .i64) (.pair .str (.pair .str (.pair (.int .i64) (.pair (.list (.int .i64)) (.int .i64))))))) (.pair (.list (.pair (.int .i64) (.pair (.int .i64) (.pair (.int .i64) (.pair (.list .str) (.pair (.list .bool) (.int .i64))))))) (.int .i64)))))) y0.1.2.2.2.2.2.1 y0.2.1).2.2.1.1.2.2.2.2.2, ((Ty.rd (t := (.pair (.int .i64) (.pair (.int .i64) (.pair (.pair (.pair (.int .i64) (.pair .str (.pair .str (.pair (.int .i64) (.pair (.list (.int .i64)) (.int .i64)))))) (.pair (.int .i64) (.pair .str (.pair .str (.pair (.int .i64) (.pair (.list (.int .i64)) (.int .i64))))))) (.pair (.list (.pair (.int .i64) (.pair (.int .i64) (.pair (.int .i64) (.pair (.list .str) (.pair (.list .bool) (.int .i64))))))) (.int .i64)))))) y0.1.2.2.2.2.2.1 y0.2.1).2.2.1.2.1, ((Ty.rd (t := (.pair (.int .i64) (.pair (.int .i64) (.pair (.pair (.pair (.int .i64) (.pair .str (.pair .str (.pair (.int .i64) (.pair (.list (.int .i64)) (.int .i64)))))) (.pair (.int .i64) (.pair .str (.pair .str (.pair (.int .i64) (.pair (.list (.int .i64)) (.int .i64))))))) (.pair (.list (.pair (.int .i64) (.pair (.int .i64) (.pair (.int .i64) (.pair (.list .str) (.pair (.list .bool) (.int .i64))))))) (.int .i64)))))) y0.1.2.2.2.2.2.1 y0.2.1).2.2.1.2.2.1, ((Ty.rd (t := (.pair (.int .i64) (.pair (.int .i64) (.pair (.pair (.pair (.int .i64) (.pair .str (.pair .str (.pair (.int .i64) (.pair (.list (.int .i64)) (.int .i64)))))) (.pair (.int .i64) (.pair .str (.pair .str (.pair (.int .i64) (.pair (.list (.int .i64)) (.int .i64))))))) (.pair (.list (.pair (.int .i64) (.pair (.int .i64) (.pair (.int .i64) (.pair (.list .str) (.pair (.list .bool) (.int .i64))))))) (.int .i64)))))) y0.1.2.2.2.2.2.1 y0.2.1).2.2.1.2.2.2.1, ((Ty.rd (t := (.pair (.int .i64) (.pair (.int .i64) (.pair (.pair (.pair (.int .i64) (.pair .str (.pair .str (.pair (.int .i64) (.pair (.list (.int .i64)) (.int .i64)))))) (.pair (.int .i64) (.pair .str (.pair .str (.pair (.int .i64) (.pair (.list (.int .i64)) (.int .i64))))))) (.pair (.list (.pair (.int .i64) (.pair (.int .i64) (.pair (.int .i64) (.pair (.list .str) (.pair (.list .bool) (.int .i64))))))) (.int .i64)))))) y0.1.2.2.2.2.2.1 y0.2.1).2.2.1.2.2.2.2.1, ((Ty.rd (t := (.pair (.int .i64) (.pair (.int .i64) (.pair (.pair (.pair (.int .i64) (.pair .str (.pair .str (.pair (.int .i64) (.pair (.list (.int .i64)) (.int .i64)))))) (.pair (.int .i64) (.pair .str (.pair .str (.pair (.int .i64) (.pair (.list (.int .i64)) (.int .i64))))))) (.pair (.list (.pair (.int .i64) (.pair (.int .i64) (.pair (.int .i64) (.pair (.list .str) (.pair (.list .bool) (.int .i64))))))) (.int .i64)))))) y0.1.2.2.2.2.2.1 y0.2.1).2.2.1.2.2.2.2.2.1, ((Ty.rd (t := (.pair (.int .i64) (.pair (.int .i64) (.pair (.pair (.pair (.int .i64) (.pair .str (.pair .str (.pair (.int .i64) (.pair (.list (.int .i64)) (.int .i64)))))) (.pair (.int .i64) (.pair .str (.pair .str (.pair (.int .i64) (.pair (.list (.int .i64)) (.int .i64))))))) (.pair (.list (.pair (.int .i64) (.pair (.int .i64) (.pair (.int .i64) (.pair (.list .str) (.pair (.list .bool) (.int .i64))))))) (.int .i64)))))) y0.1.2.2.2.2.2.1 y0.2.1).2.2.1.2.2.2.2.2.2, ((Ty.rd (t := (.pair (.int .i64) (.pair (.int .i64) (.pair (.pair (.pair (.int .i64) (.pair .str (.pair .str (.pair (.int .i64) (.pair (.list (.int .i64)) (.int .i64)))))) (.pair (.int .i64) (.pair .str (.pair .str (.pair (.int .i64) (.pair (.list (.int .i64)) (.int .i64))))))) (.pair (.list (.pair (.int .i64) (.pair (.int .i64) (.pair (.int .i64) (.pair (.list .str) (.pair (.list .bool) (.int .i64))))))) (.int .i64)))))) y0.1.2.2.2.2.2.1 y0.2.1).2.2.2.1, ((Ty.rd (t := (.pair (.int .i64) (.pair (.int .i64) (.pair (.pair (.pair (.int .i64) (.pair .str (.pair .str (.pair (.int .i64) (.pair (.list (.int .i64)) (.int .i64)))))) (.pair (.int .i64) (.pair .str (.pair .str (.pair (.int .i64) (.pair (.list (.int .i64)) (.int .i64))))))) (.pair (.list (.pair (.int .i64) (.pair (.int .i64) (.pair (.int .i64) (.pair (.list .str) (.pair (.list .bool) (.int .i64))))))) (.int .i64)))))) y0.1.2.2.2.2.2.1 y0.2.1).2.2.2.2, ())))))))))))))))), ())).bind fun p3 =>
(if (!p3.1) = false then
(if (decide ((0 : Int) < y0.2.1)) = true then
(if 0 ≤ (wi64 (y0.2.1 - (1 : Int))) ∧ (wi64 (y0.2.1 - (1 : Int))) < (List.length y0.1.2.2.2.2.2.1 : Int) then
(if (decide ((Ty.rd (t := (.pair (.int .i64) (.pair (.int .i64) (.pair (.pair (.pair (.int .i64) (.pair .str (.pair .str (.pair (.int .i64) (.pair (.list (.int .i64)) (.int .i64)))))) (.pair (.int .i64) (.pair .str (.pair .str (.pair (.int .i64) (.pair (.list (.int .i64)) (.int .i64))))))) (.pair (.list (.pair (.int .i64) (.pair (.int .i64) (.pair (.int .i64) (.pair (.list .str) (.pair (.list .bool) (.int .i64))))))) (.int .i64)))))) y0.1.2.2.2.2.2.1 y0.2.1).1 ≤ (Ty.rd (t := (.pair (.int .i64) (.pair (.int .i64) (.pair (.pair (.pair (.int .i64) (.pair .str (.pair .str (.pair (.int .i64) (.pair (.list (.int .i64)) (.int .i64)))))) (.pair (.int .i64) (.pair .str (.pair .str (.pair (.int .i64) (.pair (.list (.int .i64)) (.int .i64))))))) (.pair (.list (.pair (.int .i64) (.pair (.int .i64) (.pair (.int .i64) (.pair (.list .str) (.pair (.list .bool) (.int .i64))))))) (.int .i64)))))) y0.1.2.2.2.2.2.1 (wi64 (y0.2.1 - (1 : Int)))).1)) = false then
((s_HolderOf k ((y0.1.1, (y0.1.2.1, (y0.1.2.2.1, (y0.1.2.2.2.1, ())))), ((Ty.rd (t := (.pair (.int .i64) (.pair (.int .i64) (.pair (.pair (.pair (.int .i64) (.pair .str (.pair .str (.pair (.int .i64) (.pair (.list (.int .i64)) (.int .i64)))))) (.pair (.int .i64) (.pair .str (.pair .str (.pair (.int .i64) (.pair (.list (.int .i64)) (.int .i64))))))) (.pair (.list (.pair (.int .i64) (.pair (.int .i64) (.pair (.int .i64) (.pair (.list .str) (.pair (.list .bool) (.int .i64))))))) (.int .i64)))))) y0.1.2.2.2.2.2.1 y0.2.1).2.1, ()))).bind fun p4 =>
(if (!decide (p4.1 = (Ty.rd (t := (.pair (.int .i64) (.pair (.int .i64) (.pair (.pair (.pair (.int .i64) (.pair .str (.pair .str (.pair (.int .i64) (.pair (.list (.int .i64)) (.int .i64)))))) (.pair (.int .i64) (.pair .str (.pair .str (.pair (.int .i64) (.pair (.list (.int .i64)) (.int .i64))))))) (.pair (.list (.pair (.int .i64) (.pair (.int .i64) (.pair (.int .i64) (.pair (.list .str) (.pair (.list .bool) (.int .i64))))))) (.int .i64)))))) y0.1.2.2.2.2.2.1 y0.2.1).1)) = true then
some (false, ((), ()))
else
(rec0 ((y0.1.1, (y0.1.2.1, (y0.1.2.2.1, (y0.1.2.2.2.1, (y0.1.2.2.2.2.1, (y0.1.2.2.2.2.2.1, ())))))), ((wi64 (y0.2.1 + (1 : Int))), ())))))
else
some (false, ((), ())))
else none)
else
((s_HolderOf k ((y0.1.1, (y0.1.2.1, (y0.1.2.2.1, (y0.1.2.2.2.1, ())))), ((Ty.rd (t := (.pair (.int .i64) (.pair (.int .i64) (.pair (.pair (.pair (.int .i64) (.pair .str (.pair .str (.pair (.int .i64) (.pair (.list (.int .i64)) (.int .i64)))))) (.pair (.int .i64) (.pair .str (.pair .str (.pair (.int .i64) (.pair (.list (.int .i64)) (.int .i64))))))) (.pair (.list (.pair (.int .i64) (.pair (.int .i64) (.pair (.int .i64) (.pair (.list .str) (.pair (.list .bool) (.int .i64))))))) (.int .i64)))))) y0.1.2.2.2.2.2.1 y0.2.1).2.1, ()))).bind fun p5 =>
(if (!decide (p5.1 = (Ty.rd (t := (.pair (.int .i64) (.pair (.int .i64) (.pair (.pair (.pair (.int .i64) (.pair .str (.pair .str (.pair (.int .i64) (.pair (.list (.int .i64)) (.int .i64)))))) (.pair (.int .i64) (.pair .str (.pair .str (.pair (.int .i64) (.pair (.list (.int .i64)) (.int .i64))))))) (.pair (.list (.pair (.int .i64) (.pair (.int .i64) (.pair (.int .i64) (.pair (.list .str) (.pair (.list .bool) (.int .i64))))))) (.int .i64)))))) y0.1.2.2.2.2.2.1 y0.2.1).1)) = true then
some (false, ((), ()))
else
(rec0 ((y0.1.1, (y0.1.2.1, (y0.1.2.2.1, (y0.1.2.2.2.1, (y0.1.2.2.2.2.1, (y0.1.2.2.2.2.2.1, ())))))), ((wi64 (y0.2.1 + (1 : Int))), ()))))))
else
some (false, ((), ()))))
else none)
else
((fun (z1 : (Int × Int × (List (Int × Int × Int)) × (List (Int × Int)) × (List ((Int × Int) × Int)) × (List (Int × Int × ((Int × ByteArray × ByteArray × Int × List (Int) × Int) × Int × ByteArray × ByteArray × Int × List (Int) × Int) × List (Int × Int × Int × List (ByteArray) × List (Bool) × Int) × Int)) × Unit) × Unit) =>
(whileK (fun (rec2 : ((Int × Int × (List (Int × Int × Int)) × (List (Int × Int)) × (List ((Int × Int) × Int)) × (List (Int × Int × ((Int × ByteArray × ByteArray × Int × List (Int) × Int) × Int × ByteArray × ByteArray × Int × List (Int) × Int) × List (Int × Int × Int × List (ByteArray) × List (Bool) × Int) × Int)) × Unit) × Int × Unit) → Option _) (y2 : (Int × Int × (List (Int × Int × Int)) × (List (Int × Int)) × (List ((Int × Int) × Int)) × (List (Int × Int × ((Int × ByteArray × ByteArray × Int × List (Int) × Int) × Int × ByteArray × ByteArray × Int × List (Int) × Int) × List (Int × Int × Int × List (ByteArray) × List (Bool) × Int) × Int)) × Unit) × Int × Unit) =>
(if (decide (y2.2.1 < (List.length y2.1.2.2.2.2.1 : Int))) = true then
(if 0 ≤ y2.2.1 ∧ y2.2.1 < (List.length y2.1.2.2.2.2.1 : Int) then
((s_l22At k (y2.1.2.2.2.2.2.1, ((Ty.rd (t := (.pair (.pair (.int .i64) (.int .i64)) (.int .i64))) y2.1.2.2.2.2.1 y2.2.1).2, ()))).bind fun p6 =>
(if (decide (p6.1 < (0 : Int))) = true then
some (false, ((), ()))
else
(rec2 ((y2.1.1, (y2.1.2.1, (y2.1.2.2.1, (y2.1.2.2.2.1, (y2.1.2.2.2.2.1, (y2.1.2.2.2.2.2.1, ())))))), ((wi64 (y2.2.1 + (1 : Int))), ())))))
else none)
else
((fun (z2 : Unit) =>
some (true, ((), ()))) ()))) k ((z1.1.1, (z1.1.2.1, (z1.1.2.2.1, (z1.1.2.2.2.1, (z1.1.2.2.2.2.1, (z1.1.2.2.2.2.2.1, ())))))), ((0 : Int), ())))) ((y0.1.1, (y0.1.2.1, (y0.1.2.2.1, (y0.1.2.2.2.1, (y0.1.2.2.2.2.1, (y0.1.2.2.2.2.2.1, ())))))), ())))) k ((x.1.1, (x.1.2.1, (x.1.2.2.1, (x.1.2.2.2.1, (x.1.2.2.2.2.1, (x.1.2.2.2.2.2.1, ())))))), ((0 : Int), ()))))
else
some (false, ((), ()))))
else
some (false, ((), ()))))
theorem t_s_HubOk (k : Nat) (x) : evF TTab k [⟨18, 0, (.cons (.agg (.cons (.int .i64) (.cons (.int .i64) (.cons (.il true (.pair (.int .i64) (.pair (.int .i64) (.int .i64)))) (.cons (.il true (.pair (.int .i64) (.int .i64))) .nil))))) .nil), .bool, s_PoolOk k⟩, ⟨19, 0, (.cons (.il true (.pair (.pair (.int .i64) (.int .i64)) (.int .i64))) .nil), .bool, s_RoutesOk k⟩, ⟨20, 0, (.cons (.agg (.cons (.int .i64) (.cons (.int .i64) (.cons (.int .i64) (.cons .str (.cons .str (.cons (.int .i64) (.cons (.il true (.int .i64)) (.cons (.int .i64) (.cons (.int .i64) (.cons .str (.cons .str (.cons (.int .i64) (.cons (.il true (.int .i64)) (.cons (.int .i64) (.cons (.il true (.pair (.int .i64) (.pair (.int .i64) (.pair (.int .i64) (.pair (.list .str) (.pair (.list .bool) (.int .i64))))))) (.cons (.int .i64) .nil))))))))))))))))) .nil), .bool, s_l24User k⟩, ⟨21, 0, (.cons (.agg (.cons (.int .i64) (.cons (.int .i64) (.cons (.il true (.pair (.int .i64) (.pair (.int .i64) (.int .i64)))) (.cons (.il true (.pair (.int .i64) (.int .i64))) .nil))))) (.cons (.int .i64) .nil)), (.int .i64), s_HolderOf k⟩, ⟨22, 0, (.cons (.il true (.pair (.int .i64) (.pair (.int .i64) (.pair (.pair (.pair (.int .i64) (.pair .str (.pair .str (.pair (.int .i64) (.pair (.list (.int .i64)) (.int .i64)))))) (.pair (.int .i64) (.pair .str (.pair .str (.pair (.int .i64) (.pair (.list (.int .i64)) (.int .i64))))))) (.pair (.list (.pair (.int .i64) (.pair (.int .i64) (.pair (.int .i64) (.pair (.list .str) (.pair (.list .bool) (.int .i64))))))) (.int .i64)))))) (.cons (.int .i64) .nil)), (.int .i64), s_l22At k⟩] [(0, ⟨[1, 3], (.cons (.ptr (.cons (.int .i64) (.cons (.int .i64) (.cons (.il true (.pair (.int .i64) (.pair (.int .i64) (.int .i64)))) (.cons (.il true (.pair (.int .i64) (.int .i64))) (.cons (.il true (.pair (.pair (.int .i64) (.int .i64)) (.int .i64))) (.cons (.il true (.pair (.int .i64) (.pair (.int .i64) (.pair (.pair (.pair (.int .i64) (.pair .str (.pair .str (.pair (.int .i64) (.pair (.list (.int .i64)) (.int .i64)))))) (.pair (.int .i64) (.pair .str (.pair .str (.pair (.int .i64) (.pair (.list (.int .i64)) (.int .i64))))))) (.pair (.list (.pair (.int .i64) (.pair (.int .i64) (.pair (.int .i64) (.pair (.list .str) (.pair (.list .bool) (.int .i64))))))) (.int .i64)))))) .nil))))))) (.cons (.int .i64) .nil))⟩, ⟨[1], (.cons (.ptr (.cons (.int .i64) (.cons (.int .i64) (.cons (.il true (.pair (.int .i64) (.pair (.int .i64) (.int .i64)))) (.cons (.il true (.pair (.int .i64) (.int .i64))) (.cons (.il true (.pair (.pair (.int .i64) (.int .i64)) (.int .i64))) (.cons (.il true (.pair (.int .i64) (.pair (.int .i64) (.pair (.pair (.pair (.int .i64) (.pair .str (.pair .str (.pair (.int .i64) (.pair (.list (.int .i64)) (.int .i64)))))) (.pair (.int .i64) (.pair .str (.pair .str (.pair (.int .i64) (.pair (.list (.int .i64)) (.int .i64))))))) (.pair (.list (.pair (.int .i64) (.pair (.int .i64) (.pair (.int .i64) (.pair (.list .str) (.pair (.list .bool) (.int .i64))))))) (.int .i64)))))) .nil))))))) .nil)⟩), (2, ⟨[1, 5], (.cons (.ptr (.cons (.int .i64) (.cons (.int .i64) (.cons (.il true (.pair (.int .i64) (.pair (.int .i64) (.int .i64)))) (.cons (.il true (.pair (.int .i64) (.int .i64))) (.cons (.il true (.pair (.pair (.int .i64) (.int .i64)) (.int .i64))) (.cons (.il true (.pair (.int .i64) (.pair (.int .i64) (.pair (.pair (.pair (.int .i64) (.pair .str (.pair .str (.pair (.int .i64) (.pair (.list (.int .i64)) (.int .i64)))))) (.pair (.int .i64) (.pair .str (.pair .str (.pair (.int .i64) (.pair (.list (.int .i64)) (.int .i64))))))) (.pair (.list (.pair (.int .i64) (.pair (.int .i64) (.pair (.int .i64) (.pair (.list .str) (.pair (.list .bool) (.int .i64))))))) (.int .i64)))))) .nil))))))) (.cons (.int .i64) .nil))⟩, ⟨[], .nil⟩)] Tryz.f6 (.cons (.agg (.cons (.int .i64) (.cons (.int .i64) (.cons (.il true (.pair (.int .i64) (.pair (.int .i64) (.int .i64)))) (.cons (.il true (.pair (.int .i64) (.int .i64))) (.cons (.il true (.pair (.pair (.int .i64) (.int .i64)) (.int .i64))) (.cons (.il true (.pair (.int .i64) (.pair (.int .i64) (.pair (.pair (.pair (.int .i64) (.pair .str (.pair .str (.pair (.int .i64) (.pair (.list (.int .i64)) (.int .i64)))))) (.pair (.int .i64) (.pair .str (.pair .str (.pair (.int .i64) (.pair (.list (.int .i64)) (.int .i64))))))) (.pair (.list (.pair (.int .i64) (.pair (.int .i64) (.pair (.int .i64) (.pair (.list .str) (.pair (.list .bool) (.int .i64))))))) (.int .i64)))))) .nil))))))) .nil) .bool x = s_HubOk k x := by kernel_rfl
theorem e_s_HubOk (k : Nat) : EntryOk Tryz.prog ⟨6, 0, (.cons (.agg (.cons (.int .i64) (.cons (.int .i64) (.cons (.il true (.pair (.int .i64) (.pair (.int .i64) (.int .i64)))) (.cons (.il true (.pair (.int .i64) (.int .i64))) (.cons (.il true (.pair (.pair (.int .i64) (.int .i64)) (.int .i64))) (.cons (.il true (.pair (.int .i64) (.pair (.int .i64) (.pair (.pair (.pair (.int .i64) (.pair .str (.pair .str (.pair (.int .i64) (.pair (.list (.int .i64)) (.int .i64)))))) (.pair (.int .i64) (.pair .str (.pair .str (.pair (.int .i64) (.pair (.list (.int .i64)) (.int .i64))))))) (.pair (.list (.pair (.int .i64) (.pair (.int .i64) (.pair (.int .i64) (.pair (.list .str) (.pair (.list .bool) (.int .i64))))))) (.int .i64)))))) .nil))))))) .nil), .bool, s_HubOk k⟩ := entry_ok tok (by intro e he; simp only [List.mem_cons, List.not_mem_nil, or_false] at he; rcases he with rfl | rfl | rfl | rfl | rfl <;> first | exact e_s_PoolOk k | exact e_s_RoutesOk k | exact e_s_l24User k | exact e_s_HolderOf k | exact e_s_l22At k) (by kernel_rfl) (fn := Tryz.f6) (k := k) (es := [⟨18, 0, (.cons (.agg (.cons (.int .i64) (.cons (.int .i64) (.cons (.il true (.pair (.int .i64) (.pair (.int .i64) (.int .i64)))) (.cons (.il true (.pair (.int .i64) (.int .i64))) .nil))))) .nil), .bool, s_PoolOk k⟩, ⟨19, 0, (.cons (.il true (.pair (.pair (.int .i64) (.int .i64)) (.int .i64))) .nil), .bool, s_RoutesOk k⟩, ⟨20, 0, (.cons (.agg (.cons (.int .i64) (.cons (.int .i64) (.cons (.int .i64) (.cons .str (.cons .str (.cons (.int .i64) (.cons (.il true (.int .i64)) (.cons (.int .i64) (.cons (.int .i64) (.cons .str (.cons .str (.cons (.int .i64) (.cons (.il true (.int .i64)) (.cons (.int .i64) (.cons (.il true (.pair (.int .i64) (.pair (.int .i64) (.pair (.int .i64) (.pair (.list .str) (.pair (.list .bool) (.int .i64))))))) (.cons (.int .i64) .nil))))))))))))))))) .nil), .bool, s_l24User k⟩, ⟨21, 0, (.cons (.agg (.cons (.int .i64) (.cons (.int .i64) (.cons (.il true (.pair (.int .i64) (.pair (.int .i64) (.int .i64)))) (.cons (.il true (.pair (.int .i64) (.int .i64))) .nil))))) (.cons (.int .i64) .nil)), (.int .i64), s_HolderOf k⟩, ⟨22, 0, (.cons (.il true (.pair (.int .i64) (.pair (.int .i64) (.pair (.pair (.pair (.int .i64) (.pair .str (.pair .str (.pair (.int .i64) (.pair (.list (.int .i64)) (.int .i64)))))) (.pair (.int .i64) (.pair .str (.pair .str (.pair (.int .i64) (.pair (.list (.int .i64)) (.int .i64))))))) (.pair (.list (.pair (.int .i64) (.pair (.int .i64) (.pair (.int .i64) (.pair (.list .str) (.pair (.list .bool) (.int .i64))))))) (.int .i64)))))) (.cons (.int .i64) .nil)), (.int .i64), s_l22At k⟩]) (loops := [(0, ⟨[1, 3], (.cons (.ptr (.cons (.int .i64) (.cons (.int .i64) (.cons (.il true (.pair (.int .i64) (.pair (.int .i64) (.int .i64)))) (.cons (.il true (.pair (.int .i64) (.int .i64))) (.cons (.il true (.pair (.pair (.int .i64) (.int .i64)) (.int .i64))) (.cons (.il true (.pair (.int .i64) (.pair (.int .i64) (.pair (.pair (.pair (.int .i64) (.pair .str (.pair .str (.pair (.int .i64) (.pair (.list (.int .i64)) (.int .i64)))))) (.pair (.int .i64) (.pair .str (.pair .str (.pair (.int .i64) (.pair (.list (.int .i64)) (.int .i64))))))) (.pair (.list (.pair (.int .i64) (.pair (.int .i64) (.pair (.int .i64) (.pair (.list .str) (.pair (.list .bool) (.int .i64))))))) (.int .i64)))))) .nil))))))) (.cons (.int .i64) .nil))⟩, ⟨[1], (.cons (.ptr (.cons (.int .i64) (.cons (.int .i64) (.cons (.il true (.pair (.int .i64) (.pair (.int .i64) (.int .i64)))) (.cons (.il true (.pair (.int .i64) (.int .i64))) (.cons (.il true (.pair (.pair (.int .i64) (.int .i64)) (.int .i64))) (.cons (.il true (.pair (.int .i64) (.pair (.int .i64) (.pair (.pair (.pair (.int .i64) (.pair .str (.pair .str (.pair (.int .i64) (.pair (.list (.int .i64)) (.int .i64)))))) (.pair (.int .i64) (.pair .str (.pair .str (.pair (.int .i64) (.pair (.list (.int .i64)) (.int .i64))))))) (.pair (.list (.pair (.int .i64) (.pair (.int .i64) (.pair (.int .i64) (.pair (.list .str) (.pair (.list .bool) (.int .i64))))))) (.int .i64)))))) .nil))))))) .nil)⟩), (2, ⟨[1, 5], (.cons (.ptr (.cons (.int .i64) (.cons (.int .i64) (.cons (.il true (.pair (.int .i64) (.pair (.int .i64) (.int .i64)))) (.cons (.il true (.pair (.int .i64) (.int .i64))) (.cons (.il true (.pair (.pair (.int .i64) (.int .i64)) (.int .i64))) (.cons (.il true (.pair (.int .i64) (.pair (.int .i64) (.pair (.pair (.pair (.int .i64) (.pair .str (.pair .str (.pair (.int .i64) (.pair (.list (.int .i64)) (.int .i64)))))) (.pair (.int .i64) (.pair .str (.pair .str (.pair (.int .i64) (.pair (.list (.int .i64)) (.int .i64))))))) (.pair (.list (.pair (.int .i64) (.pair (.int .i64) (.pair (.int .i64) (.pair (.list .str) (.pair (.list .bool) (.int .i64))))))) (.int .i64)))))) .nil))))))) (.cons (.int .i64) .nil))⟩, ⟨[], .nil⟩)]) (by kernel_rfl) (by kernel_rfl) (fun x r h => (t_s_HubOk k x).trans h)
def w_toPrefix (k : Nat) (x : (Int × Int × Unit) × Unit) : Option ((Int × Int × Unit) × Unit × Unit) :=
some ((x.1.1, (x.1.2.1, ())), ((), ()))
theorem t_w_toPrefix (k : Nat) (x) : evF TTab k [] [] Tryz.f64 (.cons (.agg (.cons (.int .i64) (.cons (.int .i64) .nil))) .nil) (.agg (.cons (.int .i64) (.cons (.int .i64) .nil))) x = w_toPrefix k x := by kernel_rfl
theorem e_w_toPrefix (k : Nat) : EntryOk Tryz.prog ⟨64, 0, (.cons (.agg (.cons (.int .i64) (.cons (.int .i64) .nil))) .nil), (.agg (.cons (.int .i64) (.cons (.int .i64) .nil))), w_toPrefix k⟩ := entry_ok tok (by simp) (by kernel_rfl) (fn := Tryz.f64) (k := k) (es := []) (loops := []) (by kernel_rfl) (by kernel_rfl) (fun x r h => (t_w_toPrefix k x).trans h)
def w_toLease (k : Nat) (x : (Int × Int × Int × Unit) × Unit) : Option ((Int × Int × Int × Unit) × Unit × Unit) :=
some ((x.1.1, (x.1.2.1, (x.1.2.2.1, ()))), ((), ()))
theorem t_w_toLease (k : Nat) (x) : evF TTab k [] [] Tryz.f104 (.cons (.agg (.cons (.int .i64) (.cons (.int .i64) (.cons (.int .i64) .nil)))) .nil) (.agg (.cons (.int .i64) (.cons (.int .i64) (.cons (.int .i64) .nil)))) x = w_toLease k x := by kernel_rfl
theorem e_w_toLease (k : Nat) : EntryOk Tryz.prog ⟨104, 0, (.cons (.agg (.cons (.int .i64) (.cons (.int .i64) (.cons (.int .i64) .nil)))) .nil), (.agg (.cons (.int .i64) (.cons (.int .i64) (.cons (.int .i64) .nil)))), w_toLease k⟩ := entry_ok tok (by simp) (by kernel_rfl) (fn := Tryz.f104) (k := k) (es := []) (loops := []) (by kernel_rfl) (by kernel_rfl) (fun x r h => (t_w_toLease k x).trans h)
def w_toLeaseS (k : Nat) (x : (List (Int × Int × Int)) × Unit) : Option ((List (Int × Int × Int)) × Unit × Unit) :=
(if (List.length x.1 : Int) = (List.length x.1 : Int) then
(if 0 ≤ (List.length x.1 : Int) ∧ (List.length x.1 : Int) ≤ (capMax : Int) then
(whileK (fun (rec0 : ((List (Int × Int × Int)) × (List (Int × Int × Int)) × Int × Unit) → Option _) (y0 : (List (Int × Int × Int)) × (List (Int × Int × Int)) × Int × Unit) =>
(if (decide (y0.2.2.1 < (List.length y0.1 : Int))) = true then
(if 0 ≤ y0.2.2.1 ∧ y0.2.2.1 < (List.length y0.1 : Int) then
((w_toLease k (((Ty.rd (t := (.pair (.int .i64) (.pair (.int .i64) (.int .i64)))) y0.1 y0.2.2.1).1, ((Ty.rd (t := (.pair (.int .i64) (.pair (.int .i64) (.int .i64)))) y0.1 y0.2.2.1).2.1, ((Ty.rd (t := (.pair (.int .i64) (.pair (.int .i64) (.int .i64)))) y0.1 y0.2.2.1).2.2, ()))), ())).bind fun p1 =>
(if 0 ≤ y0.2.2.1 ∧ y0.2.2.1 < (List.length y0.2.1 : Int) then
(rec0 (y0.1, ((List.set y0.2.1 (Int.toNat y0.2.2.1) (p1.1.1, (p1.1.2.1, p1.1.2.2.1))), ((wi64 (y0.2.2.1 + (1 : Int))), ()))))
else none))
else none)
else
((fun (z1 : (List (Int × Int × Int)) × Unit) =>
some (z1.1, ((), ()))) (y0.2.1, ())))) k (x.1, ((List.replicate (Int.toNat (List.length x.1 : Int)) ((0 : Int), ((0 : Int), (0 : Int)))), ((0 : Int), ()))))
else none)
else none)
theorem t_w_toLeaseS (k : Nat) (x) : evF TTab k [⟨104, 0, (.cons (.agg (.cons (.int .i64) (.cons (.int .i64) (.cons (.int .i64) .nil)))) .nil), (.agg (.cons (.int .i64) (.cons (.int .i64) (.cons (.int .i64) .nil)))), w_toLease k⟩] [(0, ⟨[0, 3, 4], (.cons (.il true (.pair (.int .i64) (.pair (.int .i64) (.int .i64)))) (.cons (.own false 118 (.pair (.int .i64) (.pair (.int .i64) (.int .i64)))) (.cons (.int .i64) .nil)))⟩, ⟨[3], (.cons (.own false 118 (.pair (.int .i64) (.pair (.int .i64) (.int .i64)))) .nil)⟩)] Tryz.f65 (.cons (.il true (.pair (.int .i64) (.pair (.int .i64) (.int .i64)))) .nil) (.own false 118 (.pair (.int .i64) (.pair (.int .i64) (.int .i64)))) x = w_toLeaseS k x := by kernel_rfl
theorem e_w_toLeaseS (k : Nat) : EntryOk Tryz.prog ⟨65, 0, (.cons (.il true (.pair (.int .i64) (.pair (.int .i64) (.int .i64)))) .nil), (.own false 118 (.pair (.int .i64) (.pair (.int .i64) (.int .i64)))), w_toLeaseS k⟩ := entry_ok tok (by intro e he; simp only [List.mem_cons, List.not_mem_nil, or_false] at he; rcases he with rfl <;> first | exact e_w_toLease k) (by kernel_rfl) (fn := Tryz.f65) (k := k) (es := [⟨104, 0, (.cons (.agg (.cons (.int .i64) (.cons (.int .i64) (.cons (.int .i64) .nil)))) .nil), (.agg (.cons (.int .i64) (.cons (.int .i64) (.cons (.int .i64) .nil)))), w_toLease k⟩]) (loops := [(0, ⟨[0, 3, 4], (.cons (.il true (.pair (.int .i64) (.pair (.int .i64) (.int .i64)))) (.cons (.own false 118 (.pair (.int .i64) (.pair (.int .i64) (.int .i64)))) (.cons (.int .i64) .nil)))⟩, ⟨[3], (.cons (.own false 118 (.pair (.int .i64) (.pair (.int .i64) (.int .i64)))) .nil)⟩)]) (by kernel_rfl) (by kernel_rfl) (fun x r h => (t_w_toLeaseS k x).trans h)
def w_toFixed (k : Nat) (x : (Int × Int × Unit) × Unit) : Option ((Int × Int × Unit) × Unit × Unit) :=
some ((x.1.1, (x.1.2.1, ())), ((), ()))
theorem t_w_toFixed (k : Nat) (x) : evF TTab k [] [] Tryz.f105 (.cons (.agg (.cons (.int .i64) (.cons (.int .i64) .nil))) .nil) (.agg (.cons (.int .i64) (.cons (.int .i64) .nil))) x = w_toFixed k x := by kernel_rfl
theorem e_w_toFixed (k : Nat) : EntryOk Tryz.prog ⟨105, 0, (.cons (.agg (.cons (.int .i64) (.cons (.int .i64) .nil))) .nil), (.agg (.cons (.int .i64) (.cons (.int .i64) .nil))), w_toFixed k⟩ := entry_ok tok (by simp) (by kernel_rfl) (fn := Tryz.f105) (k := k) (es := []) (loops := []) (by kernel_rfl) (by kernel_rfl) (fun x r h => (t_w_toFixed k x).trans h)
def w_toFixedS (k : Nat) (x : (List (Int × Int)) × Unit) : Option ((List (Int × Int)) × Unit × Unit) :=
(if (List.length x.1 : Int) = (List.length x.1 : Int) then
(if 0 ≤ (List.length x.1 : Int) ∧ (List.length x.1 : Int) ≤ (capMax : Int) then
(whileK (fun (rec0 : ((List (Int × Int)) × (List (Int × Int)) × Int × Unit) → Option _) (y0 : (List (Int × Int)) × (List (Int × Int)) × Int × Unit) =>
(if (decide (y0.2.2.1 < (List.length y0.1 : Int))) = true then
(if 0 ≤ y0.2.2.1 ∧ y0.2.2.1 < (List.length y0.1 : Int) then
((w_toFixed k (((Ty.rd (t := (.pair (.int .i64) (.int .i64))) y0.1 y0.2.2.1).1, ((Ty.rd (t := (.pair (.int .i64) (.int .i64))) y0.1 y0.2.2.1).2, ())), ())).bind fun p1 =>
(if 0 ≤ y0.2.2.1 ∧ y0.2.2.1 < (List.length y0.2.1 : Int) then
(rec0 (y0.1, ((List.set y0.2.1 (Int.toNat y0.2.2.1) (p1.1.1, p1.1.2.1)), ((wi64 (y0.2.2.1 + (1 : Int))), ()))))
else none))
else none)
else
((fun (z1 : (List (Int × Int)) × Unit) =>
some (z1.1, ((), ()))) (y0.2.1, ())))) k (x.1, ((List.replicate (Int.toNat (List.length x.1 : Int)) ((0 : Int), (0 : Int))), ((0 : Int), ()))))
else none)
else none)
theorem t_w_toFixedS (k : Nat) (x) : evF TTab k [⟨105, 0, (.cons (.agg (.cons (.int .i64) (.cons (.int .i64) .nil))) .nil), (.agg (.cons (.int .i64) (.cons (.int .i64) .nil))), w_toFixed k⟩] [(0, ⟨[0, 3, 4], (.cons (.il true (.pair (.int .i64) (.int .i64))) (.cons (.own false 115 (.pair (.int .i64) (.int .i64))) (.cons (.int .i64) .nil)))⟩, ⟨[3], (.cons (.own false 115 (.pair (.int .i64) (.int .i64))) .nil)⟩)] Tryz.f66 (.cons (.il true (.pair (.int .i64) (.int .i64))) .nil) (.own false 115 (.pair (.int .i64) (.int .i64))) x = w_toFixedS k x := by kernel_rfl
theorem e_w_toFixedS (k : Nat) : EntryOk Tryz.prog ⟨66, 0, (.cons (.il true (.pair (.int .i64) (.int .i64))) .nil), (.own false 115 (.pair (.int .i64) (.int .i64))), w_toFixedS k⟩ := entry_ok tok (by intro e he; simp only [List.mem_cons, List.not_mem_nil, or_false] at he; rcases he with rfl <;> first | exact e_w_toFixed k) (by kernel_rfl) (fn := Tryz.f66) (k := k) (es := [⟨105, 0, (.cons (.agg (.cons (.int .i64) (.cons (.int .i64) .nil))) .nil), (.agg (.cons (.int .i64) (.cons (.int .i64) .nil))), w_toFixed k⟩]) (loops := [(0, ⟨[0, 3, 4], (.cons (.il true (.pair (.int .i64) (.int .i64))) (.cons (.own false 115 (.pair (.int .i64) (.int .i64))) (.cons (.int .i64) .nil)))⟩, ⟨[3], (.cons (.own false 115 (.pair (.int .i64) (.int .i64))) .nil)⟩)]) (by kernel_rfl) (by kernel_rfl) (fun x r h => (t_w_toFixedS k x).trans h)
def w_toPool (k : Nat) (x : (Int × Int × (List (Int × Int × Int)) × (List (Int × Int)) × Unit) × Unit) : Option ((Int × Int × (List (Int × Int × Int)) × (List (Int × Int)) × Unit) × Unit × Unit) :=
((w_toPrefix k ((x.1.1, (x.1.2.1, ())), ())).bind fun p1 =>
((w_toLeaseS k (x.1.2.2.1, ())).bind fun p2 =>
((w_toFixedS k (x.1.2.2.2.1, ())).bind fun p3 =>
some ((p1.1.1, (p1.1.2.1, (p2.1, (p3.1, ())))), ((), ())))))
theorem t_w_toPool (k : Nat) (x) : evF TTab k [⟨64, 0, (.cons (.agg (.cons (.int .i64) (.cons (.int .i64) .nil))) .nil), (.agg (.cons (.int .i64) (.cons (.int .i64) .nil))), w_toPrefix k⟩, ⟨65, 0, (.cons (.il true (.pair (.int .i64) (.pair (.int .i64) (.int .i64)))) .nil), (.own false 118 (.pair (.int .i64) (.pair (.int .i64) (.int .i64)))), w_toLeaseS k⟩, ⟨66, 0, (.cons (.il true (.pair (.int .i64) (.int .i64))) .nil), (.own false 115 (.pair (.int .i64) (.int .i64))), w_toFixedS k⟩] [] Tryz.f23 (.cons (.agg (.cons (.int .i64) (.cons (.int .i64) (.cons (.il true (.pair (.int .i64) (.pair (.int .i64) (.int .i64)))) (.cons (.il true (.pair (.int .i64) (.int .i64))) .nil))))) .nil) (.agg (.cons (.int .i64) (.cons (.int .i64) (.cons (.own false 118 (.pair (.int .i64) (.pair (.int .i64) (.int .i64)))) (.cons (.own false 115 (.pair (.int .i64) (.int .i64))) .nil))))) x = w_toPool k x := by kernel_rfl
theorem e_w_toPool (k : Nat) : EntryOk Tryz.prog ⟨23, 0, (.cons (.agg (.cons (.int .i64) (.cons (.int .i64) (.cons (.il true (.pair (.int .i64) (.pair (.int .i64) (.int .i64)))) (.cons (.il true (.pair (.int .i64) (.int .i64))) .nil))))) .nil), (.agg (.cons (.int .i64) (.cons (.int .i64) (.cons (.own false 118 (.pair (.int .i64) (.pair (.int .i64) (.int .i64)))) (.cons (.own false 115 (.pair (.int .i64) (.int .i64))) .nil))))), w_toPool k⟩ := entry_ok tok (by intro e he; simp only [List.mem_cons, List.not_mem_nil, or_false] at he; rcases he with rfl | rfl | rfl <;> first | exact e_w_toPrefix k | exact e_w_toLeaseS k | exact e_w_toFixedS k) (by kernel_rfl) (fn := Tryz.f23) (k := k) (es := [⟨64, 0, (.cons (.agg (.cons (.int .i64) (.cons (.int .i64) .nil))) .nil), (.agg (.cons (.int .i64) (.cons (.int .i64) .nil))), w_toPrefix k⟩, ⟨65, 0, (.cons (.il true (.pair (.int .i64) (.pair (.int .i64) (.int .i64)))) .nil), (.own false 118 (.pair (.int .i64) (.pair (.int .i64) (.int .i64)))), w_toLeaseS k⟩, ⟨66, 0, (.cons (.il true (.pair (.int .i64) (.int .i64))) .nil), (.own false 115 (.pair (.int .i64) (.int .i64))), w_toFixedS k⟩]) (loops := []) (by kernel_rfl) (by kernel_rfl) (fun x r h => (t_w_toPool k x).trans h)
def w_toRoute (k : Nat) (x : (Int × Int × Int × Unit) × Unit) : Option ((Int × Int × Int × Unit) × Unit × Unit) :=
((w_toPrefix k ((x.1.1, (x.1.2.1, ())), ())).bind fun p1 =>
some ((p1.1.1, (p1.1.2.1, (x.1.2.2.1, ()))), ((), ())))
theorem t_w_toRoute (k : Nat) (x) : evF TTab k [⟨64, 0, (.cons (.agg (.cons (.int .i64) (.cons (.int .i64) .nil))) .nil), (.agg (.cons (.int .i64) (.cons (.int .i64) .nil))), w_toPrefix k⟩] [] Tryz.f67 (.cons (.agg (.cons (.int .i64) (.cons (.int .i64) (.cons (.int .i64) .nil)))) .nil) (.agg (.cons (.int .i64) (.cons (.int .i64) (.cons (.int .i64) .nil)))) x = w_toRoute k x := by kernel_rfl
theorem e_w_toRoute (k : Nat) : EntryOk Tryz.prog ⟨67, 0, (.cons (.agg (.cons (.int .i64) (.cons (.int .i64) (.cons (.int .i64) .nil)))) .nil), (.agg (.cons (.int .i64) (.cons (.int .i64) (.cons (.int .i64) .nil)))), w_toRoute k⟩ := entry_ok tok (by intro e he; simp only [List.mem_cons, List.not_mem_nil, or_false] at he; rcases he with rfl <;> first | exact e_w_toPrefix k) (by kernel_rfl) (fn := Tryz.f67) (k := k) (es := [⟨64, 0, (.cons (.agg (.cons (.int .i64) (.cons (.int .i64) .nil))) .nil), (.agg (.cons (.int .i64) (.cons (.int .i64) .nil))), w_toPrefix k⟩]) (loops := []) (by kernel_rfl) (by kernel_rfl) (fun x r h => (t_w_toRoute k x).trans h)
def w_toRouteS (k : Nat) (x : (List ((Int × Int) × Int)) × Unit) : Option ((List ((Int × Int) × Int)) × Unit × Unit) :=
(if (List.length x.1 : Int) = (List.length x.1 : Int) then
(if 0 ≤ (List.length x.1 : Int) ∧ (List.length x.1 : Int) ≤ (capMax : Int) then
(whileK (fun (rec0 : ((List ((Int × Int) × Int)) × (List ((Int × Int) × Int)) × Int × Unit) → Option _) (y0 : (List ((Int × Int) × Int)) × (List ((Int × Int) × Int)) × Int × Unit) =>
(if (decide (y0.2.2.1 < (List.length y0.1 : Int))) = true then
(if 0 ≤ y0.2.2.1 ∧ y0.2.2.1 < (List.length y0.1 : Int) then
((w_toRoute k (((Ty.rd (t := (.pair (.pair (.int .i64) (.int .i64)) (.int .i64))) y0.1 y0.2.2.1).1.1, ((Ty.rd (t := (.pair (.pair (.int .i64) (.int .i64)) (.int .i64))) y0.1 y0.2.2.1).1.2, ((Ty.rd (t := (.pair (.pair (.int .i64) (.int .i64)) (.int .i64))) y0.1 y0.2.2.1).2, ()))), ())).bind fun p1 =>
(if 0 ≤ y0.2.2.1 ∧ y0.2.2.1 < (List.length y0.2.1 : Int) then
(rec0 (y0.1, ((List.set y0.2.1 (Int.toNat y0.2.2.1) ((p1.1.1, p1.1.2.1), p1.1.2.2.1)), ((wi64 (y0.2.2.1 + (1 : Int))), ()))))
else none))
else none)
else
((fun (z1 : (List ((Int × Int) × Int)) × Unit) =>
some (z1.1, ((), ()))) (y0.2.1, ())))) k (x.1, ((List.replicate (Int.toNat (List.length x.1 : Int)) (((0 : Int), (0 : Int)), (0 : Int))), ((0 : Int), ()))))
else none)
else none)
theorem t_w_toRouteS (k : Nat) (x) : evF TTab k [⟨67, 0, (.cons (.agg (.cons (.int .i64) (.cons (.int .i64) (.cons (.int .i64) .nil)))) .nil), (.agg (.cons (.int .i64) (.cons (.int .i64) (.cons (.int .i64) .nil)))), w_toRoute k⟩] [(0, ⟨[0, 3, 4], (.cons (.il true (.pair (.pair (.int .i64) (.int .i64)) (.int .i64))) (.cons (.own false 80 (.pair (.pair (.int .i64) (.int .i64)) (.int .i64))) (.cons (.int .i64) .nil)))⟩, ⟨[3], (.cons (.own false 80 (.pair (.pair (.int .i64) (.int .i64)) (.int .i64))) .nil)⟩)] Tryz.f24 (.cons (.il true (.pair (.pair (.int .i64) (.int .i64)) (.int .i64))) .nil) (.own false 80 (.pair (.pair (.int .i64) (.int .i64)) (.int .i64))) x = w_toRouteS k x := by kernel_rfl
theorem e_w_toRouteS (k : Nat) : EntryOk Tryz.prog ⟨24, 0, (.cons (.il true (.pair (.pair (.int .i64) (.int .i64)) (.int .i64))) .nil), (.own false 80 (.pair (.pair (.int .i64) (.int .i64)) (.int .i64))), w_toRouteS k⟩ := entry_ok tok (by intro e he; simp only [List.mem_cons, List.not_mem_nil, or_false] at he; rcases he with rfl <;> first | exact e_w_toRoute k) (by kernel_rfl) (fn := Tryz.f24) (k := k) (es := [⟨67, 0, (.cons (.agg (.cons (.int .i64) (.cons (.int .i64) (.cons (.int .i64) .nil)))) .nil), (.agg (.cons (.int .i64) (.cons (.int .i64) (.cons (.int .i64) .nil)))), w_toRoute k⟩]) (loops := [(0, ⟨[0, 3, 4], (.cons (.il true (.pair (.pair (.int .i64) (.int .i64)) (.int .i64))) (.cons (.own false 80 (.pair (.pair (.int .i64) (.int .i64)) (.int .i64))) (.cons (.int .i64) .nil)))⟩, ⟨[3], (.cons (.own false 80 (.pair (.pair (.int .i64) (.int .i64)) (.int .i64))) .nil)⟩)]) (by kernel_rfl) (by kernel_rfl) (fun x r h => (t_w_toRouteS k x).trans h)
def w_toIntS (k : Nat) (x : List (Int) × Unit) : Option (List (Int) × Unit × Unit) :=
(if (List.length x.1 : Int) = (List.length x.1 : Int) then
(if 0 ≤ (List.length x.1 : Int) ∧ (List.length x.1 : Int) ≤ (capMax : Int) then
(whileK (fun (rec0 : (List (Int) × List (Int) × Int × Unit) → Option _) (y0 : List (Int) × List (Int) × Int × Unit) =>
(if (decide (y0.2.2.1 < (List.length y0.1 : Int))) = true then
(if 0 ≤ y0.2.2.1 ∧ y0.2.2.1 < (List.length y0.1 : Int) then
(if 0 ≤ y0.2.2.1 ∧ y0.2.2.1 < (List.length y0.2.1 : Int) then
(rec0 (y0.1, ((List.set y0.2.1 (Int.toNat y0.2.2.1) (Ty.rd (t := (.int .i64)) y0.1 y0.2.2.1)), ((wi64 (y0.2.2.1 + (1 : Int))), ()))))
else none)
else none)
else
((fun (z1 : List (Int) × Unit) =>
some (z1.1, ((), ()))) (y0.2.1, ())))) k (x.1, ((List.replicate (Int.toNat (List.length x.1 : Int)) (0 : Int)), ((0 : Int), ()))))
else none)
else none)
theorem t_w_toIntS (k : Nat) (x) : evF TTab k [] [(0, ⟨[0, 3, 4], (.cons (.il true (.int .i64)) (.cons (.own false 3 (.int .i64)) (.cons (.int .i64) .nil)))⟩, ⟨[3], (.cons (.own false 3 (.int .i64)) .nil)⟩)] Tryz.f43 (.cons (.il true (.int .i64)) .nil) (.own false 3 (.int .i64)) x = w_toIntS k x := by kernel_rfl
theorem e_w_toIntS (k : Nat) : EntryOk Tryz.prog ⟨43, 0, (.cons (.il true (.int .i64)) .nil), (.own false 3 (.int .i64)), w_toIntS k⟩ := entry_ok tok (by simp) (by kernel_rfl) (fn := Tryz.f43) (k := k) (es := []) (loops := [(0, ⟨[0, 3, 4], (.cons (.il true (.int .i64)) (.cons (.own false 3 (.int .i64)) (.cons (.int .i64) .nil)))⟩, ⟨[3], (.cons (.own false 3 (.int .i64)) .nil)⟩)]) (by kernel_rfl) (by kernel_rfl) (fun x r h => (t_w_toIntS k x).trans h)
def w_toSlot (k : Nat) (x : (Int × ByteArray × ByteArray × Int × List (Int) × Int × Unit) × Unit) : Option ((Int × ByteArray × ByteArray × Int × List (Int) × Int × Unit) × Unit × Unit) :=
((w_toIntS k (x.1.2.2.2.2.1, ())).bind fun p1 =>
some ((x.1.1, (x.1.2.1, (x.1.2.2.1, (x.1.2.2.2.1, (p1.1, (x.1.2.2.2.2.2.1, ())))))), ((), ())))
theorem t_w_toSlot (k : Nat) (x) : evF TTab k [⟨43, 0, (.cons (.il true (.int .i64)) .nil), (.own false 3 (.int .i64)), w_toIntS k⟩] [] Tryz.f131 (.cons (.agg (.cons (.int .i64) (.cons .str (.cons .str (.cons (.int .i64) (.cons (.il true (.int .i64)) (.cons (.int .i64) .nil))))))) .nil) (.agg (.cons (.int .i64) (.cons .str (.cons .str (.cons (.int .i64) (.cons (.own false 3 (.int .i64)) (.cons (.int .i64) .nil))))))) x = w_toSlot k x := by kernel_rfl
theorem e_w_toSlot (k : Nat) : EntryOk Tryz.prog ⟨131, 0, (.cons (.agg (.cons (.int .i64) (.cons .str (.cons .str (.cons (.int .i64) (.cons (.il true (.int .i64)) (.cons (.int .i64) .nil))))))) .nil), (.agg (.cons (.int .i64) (.cons .str (.cons .str (.cons (.int .i64) (.cons (.own false 3 (.int .i64)) (.cons (.int .i64) .nil))))))), w_toSlot k⟩ := entry_ok tok (by intro e he; simp only [List.mem_cons, List.not_mem_nil, or_false] at he; rcases he with rfl <;> first | exact e_w_toIntS k) (by kernel_rfl) (fn := Tryz.f131) (k := k) (es := [⟨43, 0, (.cons (.il true (.int .i64)) .nil), (.own false 3 (.int .i64)), w_toIntS k⟩]) (loops := []) (by kernel_rfl) (by kernel_rfl) (fun x r h => (t_w_toSlot k x).trans h)
def w_toSlots (k : Nat) (x : (Int × ByteArray × ByteArray × Int × List (Int) × Int × Int × ByteArray × ByteArray × Int × List (Int) × Int × Unit) × Unit) : Option ((Int × ByteArray × ByteArray × Int × List (Int) × Int × Int × ByteArray × ByteArray × Int × List (Int) × Int × Unit) × Unit × Unit) :=
((w_toSlot k ((x.1.1, (x.1.2.1, (x.1.2.2.1, (x.1.2.2.2.1, (x.1.2.2.2.2.1, (x.1.2.2.2.2.2.1, ())))))), ())).bind fun p1 =>
((w_toSlot k ((x.1.2.2.2.2.2.2.1, (x.1.2.2.2.2.2.2.2.1, (x.1.2.2.2.2.2.2.2.2.1, (x.1.2.2.2.2.2.2.2.2.2.1, (x.1.2.2.2.2.2.2.2.2.2.2.1, (x.1.2.2.2.2.2.2.2.2.2.2.2.1, ())))))), ())).bind fun p2 =>
some ((p1.1.1, (p1.1.2.1, (p1.1.2.2.1, (p1.1.2.2.2.1, (p1.1.2.2.2.2.1, (p1.1.2.2.2.2.2.1, (p2.1.1, (p2.1.2.1, (p2.1.2.2.1, (p2.1.2.2.2.1, (p2.1.2.2.2.2.1, (p2.1.2.2.2.2.2.1, ())))))))))))), ((), ()))))
theorem t_w_toSlots (k : Nat) (x) : evF TTab k [⟨131, 0, (.cons (.agg (.cons (.int .i64) (.cons .str (.cons .str (.cons (.int .i64) (.cons (.il true (.int .i64)) (.cons (.int .i64) .nil))))))) .nil), (.agg (.cons (.int .i64) (.cons .str (.cons .str (.cons (.int .i64) (.cons (.own false 3 (.int .i64)) (.cons (.int .i64) .nil))))))), w_toSlot k⟩] [] Tryz.f106 (.cons (.agg (.cons (.int .i64) (.cons .str (.cons .str (.cons (.int .i64) (.cons (.il true (.int .i64)) (.cons (.int .i64) (.cons (.int .i64) (.cons .str (.cons .str (.cons (.int .i64) (.cons (.il true (.int .i64)) (.cons (.int .i64) .nil))))))))))))) .nil) (.agg (.cons (.int .i64) (.cons .str (.cons .str (.cons (.int .i64) (.cons (.own false 3 (.int .i64)) (.cons (.int .i64) (.cons (.int .i64) (.cons .str (.cons .str (.cons (.int .i64) (.cons (.own false 3 (.int .i64)) (.cons (.int .i64) .nil))))))))))))) x = w_toSlots k x := by kernel_rfl
theorem e_w_toSlots (k : Nat) : EntryOk Tryz.prog ⟨106, 0, (.cons (.agg (.cons (.int .i64) (.cons .str (.cons .str (.cons (.int .i64) (.cons (.il true (.int .i64)) (.cons (.int .i64) (.cons (.int .i64) (.cons .str (.cons .str (.cons (.int .i64) (.cons (.il true (.int .i64)) (.cons (.int .i64) .nil))))))))))))) .nil), (.agg (.cons (.int .i64) (.cons .str (.cons .str (.cons (.int .i64) (.cons (.own false 3 (.int .i64)) (.cons (.int .i64) (.cons (.int .i64) (.cons .str (.cons .str (.cons (.int .i64) (.cons (.own false 3 (.int .i64)) (.cons (.int .i64) .nil))))))))))))), w_toSlots k⟩ := entry_ok tok (by intro e he; simp only [List.mem_cons, List.not_mem_nil, or_false] at he; rcases he with rfl <;> first | exact e_w_toSlot k) (by kernel_rfl) (fn := Tryz.f106) (k := k) (es := [⟨131, 0, (.cons (.agg (.cons (.int .i64) (.cons .str (.cons .str (.cons (.int .i64) (.cons (.il true (.int .i64)) (.cons (.int .i64) .nil))))))) .nil), (.agg (.cons (.int .i64) (.cons .str (.cons .str (.cons (.int .i64) (.cons (.own false 3 (.int .i64)) (.cons (.int .i64) .nil))))))), w_toSlot k⟩]) (loops := []) (by kernel_rfl) (by kernel_rfl) (fun x r h => (t_w_toSlots k x).trans h)
def w_toStringS (k : Nat) (x : List (ByteArray) × Unit) : Option (List (ByteArray) × Unit × Unit) :=
(if (List.length x.1 : Int) = (List.length x.1 : Int) then
(if 0 ≤ (List.length x.1 : Int) ∧ (List.length x.1 : Int) ≤ (capMax : Int) then
(whileK (fun (rec0 : (List (ByteArray) × List (ByteArray) × Int × Unit) → Option _) (y0 : List (ByteArray) × List (ByteArray) × Int × Unit) =>
(if (decide (y0.2.2.1 < (List.length y0.1 : Int))) = true then
(if 0 ≤ y0.2.2.1 ∧ y0.2.2.1 < (List.length y0.1 : Int) then
(if 0 ≤ y0.2.2.1 ∧ y0.2.2.1 < (List.length y0.2.1 : Int) then
(rec0 (y0.1, ((List.set y0.2.1 (Int.toNat y0.2.2.1) (Ty.rd (t := .str) y0.1 y0.2.2.1)), ((wi64 (y0.2.2.1 + (1 : Int))), ()))))
else none)
else none)
else
((fun (z1 : List (ByteArray) × Unit) =>
some (z1.1, ((), ()))) (y0.2.1, ())))) k (x.1, ((List.replicate (Int.toNat (List.length x.1 : Int)) (⟨#[]⟩ : ByteArray)), ((0 : Int), ()))))
else none)
else none)
theorem t_w_toStringS (k : Nat) (x) : evF TTab k [] [(0, ⟨[0, 3, 4], (.cons (.il true .str) (.cons (.own false 9 .str) (.cons (.int .i64) .nil)))⟩, ⟨[3], (.cons (.own false 9 .str) .nil)⟩)] Tryz.f141 (.cons (.il true .str) .nil) (.own false 9 .str) x = w_toStringS k x := by kernel_rfl
theorem e_w_toStringS (k : Nat) : EntryOk Tryz.prog ⟨141, 0, (.cons (.il true .str) .nil), (.own false 9 .str), w_toStringS k⟩ := entry_ok tok (by simp) (by kernel_rfl) (fn := Tryz.f141) (k := k) (es := []) (loops := [(0, ⟨[0, 3, 4], (.cons (.il true .str) (.cons (.own false 9 .str) (.cons (.int .i64) .nil)))⟩, ⟨[3], (.cons (.own false 9 .str) .nil)⟩)]) (by kernel_rfl) (by kernel_rfl) (fun x r h => (t_w_toStringS k x).trans h)
def w_toBoolS (k : Nat) (x : List (Bool) × Unit) : Option (List (Bool) × Unit × Unit) :=
(if (List.length x.1 : Int) = (List.length x.1 : Int) then
(if 0 ≤ (List.length x.1 : Int) ∧ (List.length x.1 : Int) ≤ (capMax : Int) then
(whileK (fun (rec0 : (List (Bool) × List (Bool) × Int × Unit) → Option _) (y0 : List (Bool) × List (Bool) × Int × Unit) =>
(if (decide (y0.2.2.1 < (List.length y0.1 : Int))) = true then
(if 0 ≤ y0.2.2.1 ∧ y0.2.2.1 < (List.length y0.1 : Int) then
(if 0 ≤ y0.2.2.1 ∧ y0.2.2.1 < (List.length y0.2.1 : Int) then
(rec0 (y0.1, ((List.set y0.2.1 (Int.toNat y0.2.2.1) (Ty.rd (t := .bool) y0.1 y0.2.2.1)), ((wi64 (y0.2.2.1 + (1 : Int))), ()))))
else none)
else none)
else
((fun (z1 : List (Bool) × Unit) =>
some (z1.1, ((), ()))) (y0.2.1, ())))) k (x.1, ((List.replicate (Int.toNat (List.length x.1 : Int)) false), ((0 : Int), ()))))
else none)
else none)
theorem t_w_toBoolS (k : Nat) (x) : evF TTab k [] [(0, ⟨[0, 3, 4], (.cons (.il true .bool) (.cons (.own false 4 .bool) (.cons (.int .i64) .nil)))⟩, ⟨[3], (.cons (.own false 4 .bool) .nil)⟩)] Tryz.f142 (.cons (.il true .bool) .nil) (.own false 4 .bool) x = w_toBoolS k x := by kernel_rfl
theorem e_w_toBoolS (k : Nat) : EntryOk Tryz.prog ⟨142, 0, (.cons (.il true .bool) .nil), (.own false 4 .bool), w_toBoolS k⟩ := entry_ok tok (by simp) (by kernel_rfl) (fn := Tryz.f142) (k := k) (es := []) (loops := [(0, ⟨[0, 3, 4], (.cons (.il true .bool) (.cons (.own false 4 .bool) (.cons (.int .i64) .nil)))⟩, ⟨[3], (.cons (.own false 4 .bool) .nil)⟩)]) (by kernel_rfl) (by kernel_rfl) (fun x r h => (t_w_toBoolS k x).trans h)
def w_toHeld (k : Nat) (x : (Int × Int × Int × List (ByteArray) × List (Bool) × Int × Unit) × Unit) : Option ((Int × Int × Int × List (ByteArray) × List (Bool) × Int × Unit) × Unit × Unit) :=
((w_toStringS k (x.1.2.2.2.1, ())).bind fun p1 =>
((w_toBoolS k (x.1.2.2.2.2.1, ())).bind fun p2 =>
some ((x.1.1, (x.1.2.1, (x.1.2.2.1, (p1.1, (p2.1, (x.1.2.2.2.2.2.1, ())))))), ((), ()))))
theorem t_w_toHeld (k : Nat) (x) : evF TTab k [⟨141, 0, (.cons (.il true .str) .nil), (.own false 9 .str), w_toStringS k⟩, ⟨142, 0, (.cons (.il true .bool) .nil), (.own false 4 .bool), w_toBoolS k⟩] [] Tryz.f137 (.cons (.agg (.cons (.int .i64) (.cons (.int .i64) (.cons (.int .i64) (.cons (.il true .str) (.cons (.il true .bool) (.cons (.int .i64) .nil))))))) .nil) (.agg (.cons (.int .i64) (.cons (.int .i64) (.cons (.int .i64) (.cons (.own false 9 .str) (.cons (.own false 4 .bool) (.cons (.int .i64) .nil))))))) x = w_toHeld k x := by kernel_rfl
theorem e_w_toHeld (k : Nat) : EntryOk Tryz.prog ⟨137, 0, (.cons (.agg (.cons (.int .i64) (.cons (.int .i64) (.cons (.int .i64) (.cons (.il true .str) (.cons (.il true .bool) (.cons (.int .i64) .nil))))))) .nil), (.agg (.cons (.int .i64) (.cons (.int .i64) (.cons (.int .i64) (.cons (.own false 9 .str) (.cons (.own false 4 .bool) (.cons (.int .i64) .nil))))))), w_toHeld k⟩ := entry_ok tok (by intro e he; simp only [List.mem_cons, List.not_mem_nil, or_false] at he; rcases he with rfl | rfl <;> first | exact e_w_toStringS k | exact e_w_toBoolS k) (by kernel_rfl) (fn := Tryz.f137) (k := k) (es := [⟨141, 0, (.cons (.il true .str) .nil), (.own false 9 .str), w_toStringS k⟩, ⟨142, 0, (.cons (.il true .bool) .nil), (.own false 4 .bool), w_toBoolS k⟩]) (loops := []) (by kernel_rfl) (by kernel_rfl) (fun x r h => (t_w_toHeld k x).trans h)
def w_toHeldS (k : Nat) (x : (List (Int × Int × Int × List (ByteArray) × List (Bool) × Int)) × Unit) : Option ((List (Int × Int × Int × List (ByteArray) × List (Bool) × Int)) × Unit × Unit) :=
(if (List.length x.1 : Int) = (List.length x.1 : Int) then
(if 0 ≤ (List.length x.1 : Int) ∧ (List.length x.1 : Int) ≤ (capMax : Int) then
(whileK (fun (rec0 : ((List (Int × Int × Int × List (ByteArray) × List (Bool) × Int)) × (List (Int × Int × Int × List (ByteArray) × List (Bool) × Int)) × Int × Unit) → Option _) (y0 : (List (Int × Int × Int × List (ByteArray) × List (Bool) × Int)) × (List (Int × Int × Int × List (ByteArray) × List (Bool) × Int)) × Int × Unit) =>
(if (decide (y0.2.2.1 < (List.length y0.1 : Int))) = true then
(if 0 ≤ y0.2.2.1 ∧ y0.2.2.1 < (List.length y0.1 : Int) then
((w_toHeld k (((Ty.rd (t := (.pair (.int .i64) (.pair (.int .i64) (.pair (.int .i64) (.pair (.list .str) (.pair (.list .bool) (.int .i64))))))) y0.1 y0.2.2.1).1, ((Ty.rd (t := (.pair (.int .i64) (.pair (.int .i64) (.pair (.int .i64) (.pair (.list .str) (.pair (.list .bool) (.int .i64))))))) y0.1 y0.2.2.1).2.1, ((Ty.rd (t := (.pair (.int .i64) (.pair (.int .i64) (.pair (.int .i64) (.pair (.list .str) (.pair (.list .bool) (.int .i64))))))) y0.1 y0.2.2.1).2.2.1, ((Ty.rd (t := (.pair (.int .i64) (.pair (.int .i64) (.pair (.int .i64) (.pair (.list .str) (.pair (.list .bool) (.int .i64))))))) y0.1 y0.2.2.1).2.2.2.1, ((Ty.rd (t := (.pair (.int .i64) (.pair (.int .i64) (.pair (.int .i64) (.pair (.list .str) (.pair (.list .bool) (.int .i64))))))) y0.1 y0.2.2.1).2.2.2.2.1, ((Ty.rd (t := (.pair (.int .i64) (.pair (.int .i64) (.pair (.int .i64) (.pair (.list .str) (.pair (.list .bool) (.int .i64))))))) y0.1 y0.2.2.1).2.2.2.2.2, ())))))), ())).bind fun p1 =>
(if 0 ≤ y0.2.2.1 ∧ y0.2.2.1 < (List.length y0.2.1 : Int) then
(rec0 (y0.1, ((List.set y0.2.1 (Int.toNat y0.2.2.1) (p1.1.1, (p1.1.2.1, (p1.1.2.2.1, (p1.1.2.2.2.1, (p1.1.2.2.2.2.1, p1.1.2.2.2.2.2.1)))))), ((wi64 (y0.2.2.1 + (1 : Int))), ()))))
else none))
else none)
else
((fun (z1 : (List (Int × Int × Int × List (ByteArray) × List (Bool) × Int)) × Unit) =>
some (z1.1, ((), ()))) (y0.2.1, ())))) k (x.1, ((List.replicate (Int.toNat (List.length x.1 : Int)) ((0 : Int), ((0 : Int), ((0 : Int), ([], ([], (0 : Int))))))), ((0 : Int), ()))))
else none)
else none)
theorem t_w_toHeldS (k : Nat) (x) : evF TTab k [⟨137, 0, (.cons (.agg (.cons (.int .i64) (.cons (.int .i64) (.cons (.int .i64) (.cons (.il true .str) (.cons (.il true .bool) (.cons (.int .i64) .nil))))))) .nil), (.agg (.cons (.int .i64) (.cons (.int .i64) (.cons (.int .i64) (.cons (.own false 9 .str) (.cons (.own false 4 .bool) (.cons (.int .i64) .nil))))))), w_toHeld k⟩] [(0, ⟨[0, 3, 4], (.cons (.il true (.pair (.int .i64) (.pair (.int .i64) (.pair (.int .i64) (.pair (.list .str) (.pair (.list .bool) (.int .i64))))))) (.cons (.own false 131 (.pair (.int .i64) (.pair (.int .i64) (.pair (.int .i64) (.pair (.list .str) (.pair (.list .bool) (.int .i64))))))) (.cons (.int .i64) .nil)))⟩, ⟨[3], (.cons (.own false 131 (.pair (.int .i64) (.pair (.int .i64) (.pair (.int .i64) (.pair (.list .str) (.pair (.list .bool) (.int .i64))))))) .nil)⟩)] Tryz.f132 (.cons (.il true (.pair (.int .i64) (.pair (.int .i64) (.pair (.int .i64) (.pair (.list .str) (.pair (.list .bool) (.int .i64))))))) .nil) (.own false 131 (.pair (.int .i64) (.pair (.int .i64) (.pair (.int .i64) (.pair (.list .str) (.pair (.list .bool) (.int .i64))))))) x = w_toHeldS k x := by kernel_rfl
theorem e_w_toHeldS (k : Nat) : EntryOk Tryz.prog ⟨132, 0, (.cons (.il true (.pair (.int .i64) (.pair (.int .i64) (.pair (.int .i64) (.pair (.list .str) (.pair (.list .bool) (.int .i64))))))) .nil), (.own false 131 (.pair (.int .i64) (.pair (.int .i64) (.pair (.int .i64) (.pair (.list .str) (.pair (.list .bool) (.int .i64))))))), w_toHeldS k⟩ := entry_ok tok (by intro e he; simp only [List.mem_cons, List.not_mem_nil, or_false] at he; rcases he with rfl <;> first | exact e_w_toHeld k) (by kernel_rfl) (fn := Tryz.f132) (k := k) (es := [⟨137, 0, (.cons (.agg (.cons (.int .i64) (.cons (.int .i64) (.cons (.int .i64) (.cons (.il true .str) (.cons (.il true .bool) (.cons (.int .i64) .nil))))))) .nil), (.agg (.cons (.int .i64) (.cons (.int .i64) (.cons (.int .i64) (.cons (.own false 9 .str) (.cons (.own false 4 .bool) (.cons (.int .i64) .nil))))))), w_toHeld k⟩]) (loops := [(0, ⟨[0, 3, 4], (.cons (.il true (.pair (.int .i64) (.pair (.int .i64) (.pair (.int .i64) (.pair (.list .str) (.pair (.list .bool) (.int .i64))))))) (.cons (.own false 131 (.pair (.int .i64) (.pair (.int .i64) (.pair (.int .i64) (.pair (.list .str) (.pair (.list .bool) (.int .i64))))))) (.cons (.int .i64) .nil)))⟩, ⟨[3], (.cons (.own false 131 (.pair (.int .i64) (.pair (.int .i64) (.pair (.int .i64) (.pair (.list .str) (.pair (.list .bool) (.int .i64))))))) .nil)⟩)]) (by kernel_rfl) (by kernel_rfl) (fun x r h => (t_w_toHeldS k x).trans h)
end Go.Proofs.YtbplkcabblnhdaaGreat
