import Derived.Test.YtaamcelinnnncaaFun0
/- What functions of the program compute, as plain functions, and that their calls do so (part 1). Conditions: the plain function answers. -/
set_option linter.unusedVariables false
namespace Go.Proofs.Ytaamcelinnnncaa
open Go Go.Eng Go.Proofs
def i_copyTexts (k : Nat) (x : List (ByteArray) × Unit) : Option (List (ByteArray) × Unit × Unit) :=
(if List.length ([] : List (ByteArray)) + List.length x.1 ≤ capMax then
some ((([] : List (ByteArray)) ++ x.1), ((), ()))
else none)
theorem t_i_copyTexts (k : Nat) (x) : evF TTab k [] [] Try.f114 (.cons (.il true .str) .nil) (.own false 9 .str) x = i_copyTexts k x := by kernel_rfl
theorem e_i_copyTexts [Names] (k : Nat) : EntryOk Try.prog ⟨114, 0, (.cons (.il true .str) .nil), (.own false 9 .str), i_copyTexts k⟩ := entry_ok tok (by simp) (by kernel_rfl) (fn := Try.f114) (k := k) (es := []) (loops := []) (by kernel_rfl) (by kernel_rfl) (fun x r h => (t_i_copyTexts k x).trans h)
def i_copyShelf (k : Nat) (x : ((List (Int × Int × Int × List (ByteArray) × List (Bool) × Int)) × Unit) × Unit) : Option (((List (Int × Int × Int × List (ByteArray) × List (Bool) × Int)) × Unit) × Unit × Unit) :=
(whileK (fun (rec0 : (((List (Int × Int × Int × List (ByteArray) × List (Bool) × Int)) × Unit) × ((List (Int × Int × Int × List (ByteArray) × List (Bool) × Int)) × Unit) × (List (Int × Int × Int × List (ByteArray) × List (Bool) × Int)) × Int × Int × Unit) → Option _) (y0 : ((List (Int × Int × Int × List (ByteArray) × List (Bool) × Int)) × Unit) × ((List (Int × Int × Int × List (ByteArray) × List (Bool) × Int)) × Unit) × (List (Int × Int × Int × List (ByteArray) × List (Bool) × Int)) × Int × Int × Unit) =>
(if (decide (y0.2.2.2.2.1 < y0.2.2.2.1)) = true then
(if 0 ≤ y0.2.2.2.2.1 ∧ y0.2.2.2.2.1 < (List.length y0.2.2.1 : Int) then
((i_copyTexts k ((Ty.rd (t := (.pair (.int .i64) (.pair (.int .i64) (.pair (.int .i64) (.pair (.list .str) (.pair (.list .bool) (.int .i64))))))) y0.2.2.1 y0.2.2.2.2.1).2.2.2.1, ())).bind fun p1 =>
(if List.length ([] : List (Bool)) + List.length (Ty.rd (t := (.pair (.int .i64) (.pair (.int .i64) (.pair (.int .i64) (.pair (.list .str) (.pair (.list .bool) (.int .i64))))))) y0.2.2.1 y0.2.2.2.2.1).2.2.2.2.1 ≤ capMax then
(if List.length y0.2.1.1 + List.length ([((Ty.rd (t := (.pair (.int .i64) (.pair (.int .i64) (.pair (.int .i64) (.pair (.list .str) (.pair (.list .bool) (.int .i64))))))) y0.2.2.1 y0.2.2.2.2.1).1, ((Ty.rd (t := (.pair (.int .i64) (.pair (.int .i64) (.pair (.int .i64) (.pair (.list .str) (.pair (.list .bool) (.int .i64))))))) y0.2.2.1 y0.2.2.2.2.1).2.1, ((Ty.rd (t := (.pair (.int .i64) (.pair (.int .i64) (.pair (.int .i64) (.pair (.list .str) (.pair (.list .bool) (.int .i64))))))) y0.2.2.1 y0.2.2.2.2.1).2.2.1, (p1.1, ((([] : List (Bool)) ++ (Ty.rd (t := (.pair (.int .i64) (.pair (.int .i64) (.pair (.int .i64) (.pair (.list .str) (.pair (.list .bool) (.int .i64))))))) y0.2.2.1 y0.2.2.2.2.1).2.2.2.2.1), (Ty.rd (t := (.pair (.int .i64) (.pair (.int .i64) (.pair (.int .i64) (.pair (.list .str) (.pair (.list .bool) (.int .i64))))))) y0.2.2.1 y0.2.2.2.2.1).2.2.2.2.2)))))] : List (Int × Int × Int × List (ByteArray) × List (Bool) × Int)) ≤ capMax then
(rec0 ((y0.1.1, ()), (((y0.2.1.1 ++ ([((Ty.rd (t := (.pair (.int .i64) (.pair (.int .i64) (.pair (.int .i64) (.pair (.list .str) (.pair (.list .bool) (.int .i64))))))) y0.2.2.1 y0.2.2.2.2.1).1, ((Ty.rd (t := (.pair (.int .i64) (.pair (.int .i64) (.pair (.int .i64) (.pair (.list .str) (.pair (.list .bool) (.int .i64))))))) y0.2.2.1 y0.2.2.2.2.1).2.1, ((Ty.rd (t := (.pair (.int .i64) (.pair (.int .i64) (.pair (.int .i64) (.pair (.list .str) (.pair (.list .bool) (.int .i64))))))) y0.2.2.1 y0.2.2.2.2.1).2.2.1, (p1.1, ((([] : List (Bool)) ++ (Ty.rd (t := (.pair (.int .i64) (.pair (.int .i64) (.pair (.int .i64) (.pair (.list .str) (.pair (.list .bool) (.int .i64))))))) y0.2.2.1 y0.2.2.2.2.1).2.2.2.2.1), (Ty.rd (t := (.pair (.int .i64) (.pair (.int .i64) (.pair (.int .i64) (.pair (.list .str) (.pair (.list .bool) (.int .i64))))))) y0.2.2.1 y0.2.2.2.2.1).2.2.2.2.2)))))] : List (Int × Int × Int × List (ByteArray) × List (Bool) × Int))), ()), (y0.2.2.1, (y0.2.2.2.1, ((wi64 (y0.2.2.2.2.1 + (1 : Int))), ()))))))
else none)
else none))
else none)
else
((fun (z1 : ((List (Int × Int × Int × List (ByteArray) × List (Bool) × Int)) × Unit) × ((List (Int × Int × Int × List (ByteArray) × List (Bool) × Int)) × Unit) × Unit) =>
some ((z1.2.1.1, ()), ((), ()))) ((y0.1.1, ()), ((y0.2.1.1, ()), ()))))) k (([], ()), (([], ()), (x.1.1, ((List.length x.1.1 : Int), ((0 : Int), ()))))))
theorem t_i_copyShelf (k : Nat) (x) : evF TTabO k [⟨114, 0, (.cons (.il true .str) .nil), (.own false 9 .str), i_copyTexts k⟩] [(0, ⟨[2, 3, 8, 9, 10], (.cons (.ptr 0 (.cons (.own false 53 (.pair (.int .i64) (.pair (.int .i64) (.pair (.int .i64) (.pair (.ols 9 .str) (.pair (.ols 4 .bool) (.int .i64))))))) .nil)) (.cons (.ptr 0 (.cons (.own false 53 (.pair (.int .i64) (.pair (.int .i64) (.pair (.int .i64) (.pair (.ols 9 .str) (.pair (.ols 4 .bool) (.int .i64))))))) .nil)) (.cons (.il true (.pair (.int .i64) (.pair (.int .i64) (.pair (.int .i64) (.pair (.list .str) (.pair (.list .bool) (.int .i64))))))) (.cons (.int .i64) (.cons (.int .i64) .nil)))))⟩, ⟨[2, 3], (.cons (.ptr 0 (.cons (.own false 53 (.pair (.int .i64) (.pair (.int .i64) (.pair (.int .i64) (.pair (.ols 9 .str) (.pair (.ols 4 .bool) (.int .i64))))))) .nil)) (.cons (.ptr 0 (.cons (.own false 53 (.pair (.int .i64) (.pair (.int .i64) (.pair (.int .i64) (.pair (.ols 9 .str) (.pair (.ols 4 .bool) (.int .i64))))))) .nil)) .nil))⟩)] Try.f59 (.cons (.agg (.cons (.il true (.pair (.int .i64) (.pair (.int .i64) (.pair (.int .i64) (.pair (.list .str) (.pair (.list .bool) (.int .i64))))))) .nil)) .nil) (.agg (.cons (.own false 53 (.pair (.int .i64) (.pair (.int .i64) (.pair (.int .i64) (.pair (.ols 9 .str) (.pair (.ols 4 .bool) (.int .i64))))))) .nil)) x = i_copyShelf k x := by kernel_rfl
theorem e_i_copyShelf [Names] (k : Nat) : EntryOk Try.prog ⟨59, 0, (.cons (.agg (.cons (.il true (.pair (.int .i64) (.pair (.int .i64) (.pair (.int .i64) (.pair (.list .str) (.pair (.list .bool) (.int .i64))))))) .nil)) .nil), (.agg (.cons (.own false 53 (.pair (.int .i64) (.pair (.int .i64) (.pair (.int .i64) (.pair (.ols 9 .str) (.pair (.ols 4 .bool) (.int .i64))))))) .nil)), i_copyShelf k⟩ := entry_ok tokO (by intro e he; simp only [List.mem_cons, List.not_mem_nil, or_false] at he; rcases he with rfl <;> first | exact e_i_copyTexts k) (by kernel_rfl) (fn := Try.f59) (k := k) (es := [⟨114, 0, (.cons (.il true .str) .nil), (.own false 9 .str), i_copyTexts k⟩]) (loops := [(0, ⟨[2, 3, 8, 9, 10], (.cons (.ptr 0 (.cons (.own false 53 (.pair (.int .i64) (.pair (.int .i64) (.pair (.int .i64) (.pair (.ols 9 .str) (.pair (.ols 4 .bool) (.int .i64))))))) .nil)) (.cons (.ptr 0 (.cons (.own false 53 (.pair (.int .i64) (.pair (.int .i64) (.pair (.int .i64) (.pair (.ols 9 .str) (.pair (.ols 4 .bool) (.int .i64))))))) .nil)) (.cons (.il true (.pair (.int .i64) (.pair (.int .i64) (.pair (.int .i64) (.pair (.list .str) (.pair (.list .bool) (.int .i64))))))) (.cons (.int .i64) (.cons (.int .i64) .nil)))))⟩, ⟨[2, 3], (.cons (.ptr 0 (.cons (.own false 53 (.pair (.int .i64) (.pair (.int .i64) (.pair (.int .i64) (.pair (.ols 9 .str) (.pair (.ols 4 .bool) (.int .i64))))))) .nil)) (.cons (.ptr 0 (.cons (.own false 53 (.pair (.int .i64) (.pair (.int .i64) (.pair (.int .i64) (.pair (.ols 9 .str) (.pair (.ols 4 .bool) (.int .i64))))))) .nil)) .nil))⟩)]) (by kernel_rfl) (by kernel_rfl) (fun x r h => (t_i_copyShelf k x).trans h)
def w_szStringS (k : Nat) (x : List (ByteArray) × Int × Unit) : Option (Int × Unit × Unit × Unit) :=
(if (decide ((wi64 (x.2.1 - (List.length x.1 : Int))) < (0 : Int))) = true then
some ((-1 : Int), ((), ((), ())))
else
(whileK (fun (rec0 : (List (ByteArray) × Int × Int × Unit) → Option _) (y0 : List (ByteArray) × Int × Int × Unit) =>
(if (decide (y0.2.2.1 < (List.length y0.1 : Int))) = true then
(if 0 ≤ y0.2.2.1 ∧ y0.2.2.1 < (List.length y0.1 : Int) then
(if (decide ((wi64 (y0.2.1 - (ByteArray.size (Ty.rd (t := .str) y0.1 y0.2.2.1) : Int))) < (0 : Int))) = true then
some ((-1 : Int), ((), ((), ())))
else
(rec0 (y0.1, ((wi64 (y0.2.1 - (ByteArray.size (Ty.rd (t := .str) y0.1 y0.2.2.1) : Int))), ((wi64 (y0.2.2.1 + (1 : Int))), ())))))
else none)
else
((fun (z1 : Int × Unit) =>
some (z1.1, ((), ((), ())))) (y0.2.1, ())))) k (x.1, ((wi64 (x.2.1 - (List.length x.1 : Int))), ((0 : Int), ())))))
theorem t_w_szStringS (k : Nat) (x) : evF TTab k [] [(0, ⟨[0, 1, 5], (.cons (.il true .str) (.cons (.int .i64) (.cons (.int .i64) .nil)))⟩, ⟨[1], (.cons (.int .i64) .nil)⟩)] Try.f37 (.cons (.il true .str) (.cons (.int .i64) .nil)) (.int .i64) x = w_szStringS k x := by kernel_rfl
theorem e_w_szStringS [Names] (k : Nat) : EntryOk Try.prog ⟨37, 0, (.cons (.il true .str) (.cons (.int .i64) .nil)), (.int .i64), w_szStringS k⟩ := entry_ok tok (by simp) (by kernel_rfl) (fn := Try.f37) (k := k) (es := []) (loops := [(0, ⟨[0, 1, 5], (.cons (.il true .str) (.cons (.int .i64) (.cons (.int .i64) .nil)))⟩, ⟨[1], (.cons (.int .i64) .nil)⟩)]) (by kernel_rfl) (by kernel_rfl) (fun x r h => (t_w_szStringS k x).trans h)
def w_szBoolS (k : Nat) (x : List (Bool) × Int × Unit) : Option (Int × Unit × Unit × Unit) :=
(if (decide ((wi64 (x.2.1 - (List.length x.1 : Int))) < (0 : Int))) = true then
some ((-1 : Int), ((), ((), ())))
else
some ((wi64 (x.2.1 - (List.length x.1 : Int))), ((), ((), ()))))
theorem t_w_szBoolS (k : Nat) (x) : evF TTab k [] [] Try.f152 (.cons (.il true .bool) (.cons (.int .i64) .nil)) (.int .i64) x = w_szBoolS k x := by kernel_rfl
theorem e_w_szBoolS [Names] (k : Nat) : EntryOk Try.prog ⟨152, 0, (.cons (.il true .bool) (.cons (.int .i64) .nil)), (.int .i64), w_szBoolS k⟩ := entry_ok tok (by simp) (by kernel_rfl) (fn := Try.f152) (k := k) (es := []) (loops := []) (by kernel_rfl) (by kernel_rfl) (fun x r h => (t_w_szBoolS k x).trans h)
def w_szHeld (k : Nat) (x : (Int × Int × Int × List (ByteArray) × List (Bool) × Int × Unit) × Int × Unit) : Option (Int × Unit × Unit × Unit) :=
((w_szStringS k (x.1.2.2.2.1, (x.2.1, ()))).bind fun p1 =>
(if (decide (p1.1 < (0 : Int))) = true then
some ((-1 : Int), ((), ((), ())))
else
((w_szBoolS k (x.1.2.2.2.2.1, (p1.1, ()))).bind fun p2 =>
(if (decide (p2.1 < (0 : Int))) = true then
some ((-1 : Int), ((), ((), ())))
else
some (p2.1, ((), ((), ())))))))
theorem t_w_szHeld (k : Nat) (x) : evF TTab k [⟨37, 0, (.cons (.il true .str) (.cons (.int .i64) .nil)), (.int .i64), w_szStringS k⟩, ⟨152, 0, (.cons (.il true .bool) (.cons (.int .i64) .nil)), (.int .i64), w_szBoolS k⟩] [] Try.f121 (.cons (.agg (.cons (.int .i64) (.cons (.int .i64) (.cons (.int .i64) (.cons (.il true .str) (.cons (.il true .bool) (.cons (.int .i64) .nil))))))) (.cons (.int .i64) .nil)) (.int .i64) x = w_szHeld k x := by kernel_rfl
theorem e_w_szHeld [Names] (k : Nat) : EntryOk Try.prog ⟨121, 0, (.cons (.agg (.cons (.int .i64) (.cons (.int .i64) (.cons (.int .i64) (.cons (.il true .str) (.cons (.il true .bool) (.cons (.int .i64) .nil))))))) (.cons (.int .i64) .nil)), (.int .i64), w_szHeld k⟩ := entry_ok tok (by intro e he; simp only [List.mem_cons, List.not_mem_nil, or_false] at he; rcases he with rfl | rfl <;> first | exact e_w_szStringS k | exact e_w_szBoolS k) (by kernel_rfl) (fn := Try.f121) (k := k) (es := [⟨37, 0, (.cons (.il true .str) (.cons (.int .i64) .nil)), (.int .i64), w_szStringS k⟩, ⟨152, 0, (.cons (.il true .bool) (.cons (.int .i64) .nil)), (.int .i64), w_szBoolS k⟩]) (loops := []) (by kernel_rfl) (by kernel_rfl) (fun x r h => (t_w_szHeld k x).trans h)
def w_szHeldS (k : Nat) (x : (List (Int × Int × Int × List (ByteArray) × List (Bool) × Int)) × Int × Unit) : Option (Int × Unit × Unit × Unit) :=
(if (decide ((wi64 (x.2.1 - (List.length x.1 : Int))) < (0 : Int))) = true then
some ((-1 : Int), ((), ((), ())))
else
(whileK (fun (rec0 : ((List (Int × Int × Int × List (ByteArray) × List (Bool) × Int)) × Int × Int × Unit) → Option _) (y0 : (List (Int × Int × Int × List (ByteArray) × List (Bool) × Int)) × Int × Int × Unit) =>
(if (decide (y0.2.2.1 < (List.length y0.1 : Int))) = true then
(if 0 ≤ y0.2.2.1 ∧ y0.2.2.1 < (List.length y0.1 : Int) then
((w_szHeld k (((Ty.rd (t := (.pair (.int .i64) (.pair (.int .i64) (.pair (.int .i64) (.pair (.list .str) (.pair (.list .bool) (.int .i64))))))) y0.1 y0.2.2.1).1, ((Ty.rd (t := (.pair (.int .i64) (.pair (.int .i64) (.pair (.int .i64) (.pair (.list .str) (.pair (.list .bool) (.int .i64))))))) y0.1 y0.2.2.1).2.1, ((Ty.rd (t := (.pair (.int .i64) (.pair (.int .i64) (.pair (.int .i64) (.pair (.list .str) (.pair (.list .bool) (.int .i64))))))) y0.1 y0.2.2.1).2.2.1, ((Ty.rd (t := (.pair (.int .i64) (.pair (.int .i64) (.pair (.int .i64) (.pair (.list .str) (.pair (.list .bool) (.int .i64))))))) y0.1 y0.2.2.1).2.2.2.1, ((Ty.rd (t := (.pair (.int .i64) (.pair (.int .i64) (.pair (.int .i64) (.pair (.list .str) (.pair (.list .bool) (.int .i64))))))) y0.1 y0.2.2.1).2.2.2.2.1, ((Ty.rd (t := (.pair (.int .i64) (.pair (.int .i64) (.pair (.int .i64) (.pair (.list .str) (.pair (.list .bool) (.int .i64))))))) y0.1 y0.2.2.1).2.2.2.2.2, ())))))), (y0.2.1, ()))).bind fun p1 =>
(if (decide (p1.1 < (0 : Int))) = true then
some ((-1 : Int), ((), ((), ())))
else
(rec0 (y0.1, (p1.1, ((wi64 (y0.2.2.1 + (1 : Int))), ()))))))
else none)
else
((fun (z1 : Int × Unit) =>
some (z1.1, ((), ((), ())))) (y0.2.1, ())))) k (x.1, ((wi64 (x.2.1 - (List.length x.1 : Int))), ((0 : Int), ())))))
theorem t_w_szHeldS (k : Nat) (x) : evF TTabO k [⟨121, 0, (.cons (.agg (.cons (.int .i64) (.cons (.int .i64) (.cons (.int .i64) (.cons (.il true .str) (.cons (.il true .bool) (.cons (.int .i64) .nil))))))) (.cons (.int .i64) .nil)), (.int .i64), w_szHeld k⟩] [(0, ⟨[0, 1, 5], (.cons (.il true (.pair (.int .i64) (.pair (.int .i64) (.pair (.int .i64) (.pair (.list .str) (.pair (.list .bool) (.int .i64))))))) (.cons (.int .i64) (.cons (.int .i64) .nil)))⟩, ⟨[1], (.cons (.int .i64) .nil)⟩)] Try.f66 (.cons (.il true (.pair (.int .i64) (.pair (.int .i64) (.pair (.int .i64) (.pair (.list .str) (.pair (.list .bool) (.int .i64))))))) (.cons (.int .i64) .nil)) (.int .i64) x = w_szHeldS k x := by kernel_rfl
theorem e_w_szHeldS [Names] (k : Nat) : EntryOk Try.prog ⟨66, 0, (.cons (.il true (.pair (.int .i64) (.pair (.int .i64) (.pair (.int .i64) (.pair (.list .str) (.pair (.list .bool) (.int .i64))))))) (.cons (.int .i64) .nil)), (.int .i64), w_szHeldS k⟩ := entry_ok tokO (by intro e he; simp only [List.mem_cons, List.not_mem_nil, or_false] at he; rcases he with rfl <;> first | exact e_w_szHeld k) (by kernel_rfl) (fn := Try.f66) (k := k) (es := [⟨121, 0, (.cons (.agg (.cons (.int .i64) (.cons (.int .i64) (.cons (.int .i64) (.cons (.il true .str) (.cons (.il true .bool) (.cons (.int .i64) .nil))))))) (.cons (.int .i64) .nil)), (.int .i64), w_szHeld k⟩]) (loops := [(0, ⟨[0, 1, 5], (.cons (.il true (.pair (.int .i64) (.pair (.int .i64) (.pair (.int .i64) (.pair (.list .str) (.pair (.list .bool) (.int .i64))))))) (.cons (.int .i64) (.cons (.int .i64) .nil)))⟩, ⟨[1], (.cons (.int .i64) .nil)⟩)]) (by kernel_rfl) (by kernel_rfl) (fun x r h => (t_w_szHeldS k x).trans h)
def w_szShelf (k : Nat) (x : ((List (Int × Int × Int × List (ByteArray) × List (Bool) × Int)) × Unit) × Int × Unit) : Option (Int × Unit × Unit × Unit) :=
((w_szHeldS k (x.1.1, (x.2.1, ()))).bind fun p1 =>
(if (decide (p1.1 < (0 : Int))) = true then
some ((-1 : Int), ((), ((), ())))
else
some (p1.1, ((), ((), ())))))
theorem t_w_szShelf (k : Nat) (x) : evF TTabO k [⟨66, 0, (.cons (.il true (.pair (.int .i64) (.pair (.int .i64) (.pair (.int .i64) (.pair (.list .str) (.pair (.list .bool) (.int .i64))))))) (.cons (.int .i64) .nil)), (.int .i64), w_szHeldS k⟩] [] Try.f20 (.cons (.agg (.cons (.il true (.pair (.int .i64) (.pair (.int .i64) (.pair (.int .i64) (.pair (.list .str) (.pair (.list .bool) (.int .i64))))))) .nil)) (.cons (.int .i64) .nil)) (.int .i64) x = w_szShelf k x := by kernel_rfl
theorem e_w_szShelf [Names] (k : Nat) : EntryOk Try.prog ⟨20, 0, (.cons (.agg (.cons (.il true (.pair (.int .i64) (.pair (.int .i64) (.pair (.int .i64) (.pair (.list .str) (.pair (.list .bool) (.int .i64))))))) .nil)) (.cons (.int .i64) .nil)), (.int .i64), w_szShelf k⟩ := entry_ok tokO (by intro e he; simp only [List.mem_cons, List.not_mem_nil, or_false] at he; rcases he with rfl <;> first | exact e_w_szHeldS k) (by kernel_rfl) (fn := Try.f20) (k := k) (es := [⟨66, 0, (.cons (.il true (.pair (.int .i64) (.pair (.int .i64) (.pair (.int .i64) (.pair (.list .str) (.pair (.list .bool) (.int .i64))))))) (.cons (.int .i64) .nil)), (.int .i64), w_szHeldS k⟩]) (loops := []) (by kernel_rfl) (by kernel_rfl) (fun x r h => (t_w_szShelf k x).trans h)
def s_l20Copy (k : Nat) (x : ((List (Int × Int × Int × List (ByteArray) × List (Bool) × Int)) × Unit) × Unit) : Option (((List (Int × Int × Int × List (ByteArray) × List (Bool) × Int)) × Unit) × Unit × Unit) :=
(whileK (fun (rec0 : (((List (Int × Int × Int × List (ByteArray) × List (Bool) × Int)) × Unit) × ((List (Int × Int × Int × List (ByteArray) × List (Bool) × Int)) × Unit) × ((List (Int × Int × Int × List (ByteArray) × List (Bool) × Int)) × Unit) × Int × Unit) → Option _) (y0 : ((List (Int × Int × Int × List (ByteArray) × List (Bool) × Int)) × Unit) × ((List (Int × Int × Int × List (ByteArray) × List (Bool) × Int)) × Unit) × ((List (Int × Int × Int × List (ByteArray) × List (Bool) × Int)) × Unit) × Int × Unit) =>
(if (decide (y0.2.2.2.1 < (List.length y0.1.1 : Int))) = true then
(if 0 ≤ y0.2.2.2.1 ∧ y0.2.2.2.1 < (List.length y0.1.1 : Int) then
(if List.length ([] : List (ByteArray)) + List.length (Ty.rd (t := (.pair (.int .i64) (.pair (.int .i64) (.pair (.int .i64) (.pair (.list .str) (.pair (.list .bool) (.int .i64))))))) y0.1.1 y0.2.2.2.1).2.2.2.1 ≤ capMax then
(if List.length ([] : List (Bool)) + List.length (Ty.rd (t := (.pair (.int .i64) (.pair (.int .i64) (.pair (.int .i64) (.pair (.list .str) (.pair (.list .bool) (.int .i64))))))) y0.1.1 y0.2.2.2.1).2.2.2.2.1 ≤ capMax then
(if List.length y0.2.2.1.1 + List.length ([((Ty.rd (t := (.pair (.int .i64) (.pair (.int .i64) (.pair (.int .i64) (.pair (.list .str) (.pair (.list .bool) (.int .i64))))))) y0.1.1 y0.2.2.2.1).1, ((Ty.rd (t := (.pair (.int .i64) (.pair (.int .i64) (.pair (.int .i64) (.pair (.list .str) (.pair (.list .bool) (.int .i64))))))) y0.1.1 y0.2.2.2.1).2.1, ((Ty.rd (t := (.pair (.int .i64) (.pair (.int .i64) (.pair (.int .i64) (.pair (.list .str) (.pair (.list .bool) (.int .i64))))))) y0.1.1 y0.2.2.2.1).2.2.1, ((([] : List (ByteArray)) ++ (Ty.rd (t := (.pair (.int .i64) (.pair (.int .i64) (.pair (.int .i64) (.pair (.list .str) (.pair (.list .bool) (.int .i64))))))) y0.1.1 y0.2.2.2.1).2.2.2.1), ((([] : List (Bool)) ++ (Ty.rd (t := (.pair (.int .i64) (.pair (.int .i64) (.pair (.int .i64) (.pair (.list .str) (.pair (.list .bool) (.int .i64))))))) y0.1.1 y0.2.2.2.1).2.2.2.2.1), (Ty.rd (t := (.pair (.int .i64) (.pair (.int .i64) (.pair (.int .i64) (.pair (.list .str) (.pair (.list .bool) (.int .i64))))))) y0.1.1 y0.2.2.2.1).2.2.2.2.2)))))] : List (Int × Int × Int × List (ByteArray) × List (Bool) × Int)) ≤ capMax then
(rec0 ((y0.1.1, ()), ((y0.2.1.1, ()), (((y0.2.2.1.1 ++ ([((Ty.rd (t := (.pair (.int .i64) (.pair (.int .i64) (.pair (.int .i64) (.pair (.list .str) (.pair (.list .bool) (.int .i64))))))) y0.1.1 y0.2.2.2.1).1, ((Ty.rd (t := (.pair (.int .i64) (.pair (.int .i64) (.pair (.int .i64) (.pair (.list .str) (.pair (.list .bool) (.int .i64))))))) y0.1.1 y0.2.2.2.1).2.1, ((Ty.rd (t := (.pair (.int .i64) (.pair (.int .i64) (.pair (.int .i64) (.pair (.list .str) (.pair (.list .bool) (.int .i64))))))) y0.1.1 y0.2.2.2.1).2.2.1, ((([] : List (ByteArray)) ++ (Ty.rd (t := (.pair (.int .i64) (.pair (.int .i64) (.pair (.int .i64) (.pair (.list .str) (.pair (.list .bool) (.int .i64))))))) y0.1.1 y0.2.2.2.1).2.2.2.1), ((([] : List (Bool)) ++ (Ty.rd (t := (.pair (.int .i64) (.pair (.int .i64) (.pair (.int .i64) (.pair (.list .str) (.pair (.list .bool) (.int .i64))))))) y0.1.1 y0.2.2.2.1).2.2.2.2.1), (Ty.rd (t := (.pair (.int .i64) (.pair (.int .i64) (.pair (.int .i64) (.pair (.list .str) (.pair (.list .bool) (.int .i64))))))) y0.1.1 y0.2.2.2.1).2.2.2.2.2)))))] : List (Int × Int × Int × List (ByteArray) × List (Bool) × Int))), ()), ((wi64 (y0.2.2.2.1 + (1 : Int))), ())))))
else none)
else none)
else none)
else none)
else
((fun (z1 : ((List (Int × Int × Int × List (ByteArray) × List (Bool) × Int)) × Unit) × ((List (Int × Int × Int × List (ByteArray) × List (Bool) × Int)) × Unit) × Unit) =>
some ((z1.2.1.1, ()), ((), ()))) ((y0.2.1.1, ()), ((y0.2.2.1.1, ()), ()))))) k ((x.1.1, ()), (([], ()), (([], ()), ((0 : Int), ())))))
theorem t_s_l20Copy (k : Nat) (x) : evF TTab k [] [(0, ⟨[1, 2, 3, 4], (.cons (.ptr 0 (.cons (.il true (.pair (.int .i64) (.pair (.int .i64) (.pair (.int .i64) (.pair (.list .str) (.pair (.list .bool) (.int .i64))))))) .nil)) (.cons (.ptr 0 (.cons (.own false 53 (.pair (.int .i64) (.pair (.int .i64) (.pair (.int .i64) (.pair (.list .str) (.pair (.list .bool) (.int .i64))))))) .nil)) (.cons (.ptr 0 (.cons (.own false 53 (.pair (.int .i64) (.pair (.int .i64) (.pair (.int .i64) (.pair (.list .str) (.pair (.list .bool) (.int .i64))))))) .nil)) (.cons (.int .i64) .nil))))⟩, ⟨[2, 3], (.cons (.ptr 0 (.cons (.own false 53 (.pair (.int .i64) (.pair (.int .i64) (.pair (.int .i64) (.pair (.list .str) (.pair (.list .bool) (.int .i64))))))) .nil)) (.cons (.ptr 0 (.cons (.own false 53 (.pair (.int .i64) (.pair (.int .i64) (.pair (.int .i64) (.pair (.list .str) (.pair (.list .bool) (.int .i64))))))) .nil)) .nil))⟩)] Try.f67 (.cons (.agg (.cons (.il true (.pair (.int .i64) (.pair (.int .i64) (.pair (.int .i64) (.pair (.list .str) (.pair (.list .bool) (.int .i64))))))) .nil)) .nil) (.agg (.cons (.own false 53 (.pair (.int .i64) (.pair (.int .i64) (.pair (.int .i64) (.pair (.list .str) (.pair (.list .bool) (.int .i64))))))) .nil)) x = s_l20Copy k x := by kernel_rfl
theorem e_s_l20Copy [Names] (k : Nat) : EntryOk Try.prog ⟨67, 0, (.cons (.agg (.cons (.il true (.pair (.int .i64) (.pair (.int .i64) (.pair (.int .i64) (.pair (.list .str) (.pair (.list .bool) (.int .i64))))))) .nil)) .nil), (.agg (.cons (.own false 53 (.pair (.int .i64) (.pair (.int .i64) (.pair (.int .i64) (.pair (.list .str) (.pair (.list .bool) (.int .i64))))))) .nil)), s_l20Copy k⟩ := entry_ok tok (by simp) (by kernel_rfl) (fn := Try.f67) (k := k) (es := []) (loops := [(0, ⟨[1, 2, 3, 4], (.cons (.ptr 0 (.cons (.il true (.pair (.int .i64) (.pair (.int .i64) (.pair (.int .i64) (.pair (.list .str) (.pair (.list .bool) (.int .i64))))))) .nil)) (.cons (.ptr 0 (.cons (.own false 53 (.pair (.int .i64) (.pair (.int .i64) (.pair (.int .i64) (.pair (.list .str) (.pair (.list .bool) (.int .i64))))))) .nil)) (.cons (.ptr 0 (.cons (.own false 53 (.pair (.int .i64) (.pair (.int .i64) (.pair (.int .i64) (.pair (.list .str) (.pair (.list .bool) (.int .i64))))))) .nil)) (.cons (.int .i64) .nil))))⟩, ⟨[2, 3], (.cons (.ptr 0 (.cons (.own false 53 (.pair (.int .i64) (.pair (.int .i64) (.pair (.int .i64) (.pair (.list .str) (.pair (.list .bool) (.int .i64))))))) .nil)) (.cons (.ptr 0 (.cons (.own false 53 (.pair (.int .i64) (.pair (.int .i64) (.pair (.int .i64) (.pair (.list .str) (.pair (.list .bool) (.int .i64))))))) .nil)) .nil))⟩)]) (by kernel_rfl) (by kernel_rfl) (fun x r h => (t_s_l20Copy k x).trans h)
def s_TidyShelf (k : Nat) (x : ((List (Int × Int × Int × List (ByteArray) × List (Bool) × Int)) × Unit) × Int × Unit) : Option (((List (Int × Int × Int × List (ByteArray) × List (Bool) × Int)) × Unit) × Unit × Unit × Unit) :=
(whileK (fun (rec0 : (Int × ((List (Int × Int × Int × List (ByteArray) × List (Bool) × Int)) × Unit) × ((List (Int × Int × Int × List (ByteArray) × List (Bool) × Int)) × Unit) × ((List (Int × Int × Int × List (ByteArray) × List (Bool) × Int)) × Unit) × Int × Unit) → Option _) (y0 : Int × ((List (Int × Int × Int × List (ByteArray) × List (Bool) × Int)) × Unit) × ((List (Int × Int × Int × List (ByteArray) × List (Bool) × Int)) × Unit) × ((List (Int × Int × Int × List (ByteArray) × List (Bool) × Int)) × Unit) × Int × Unit) =>
(if (decide (y0.2.2.2.2.1 < (List.length y0.2.1.1 : Int))) = true then
(if 0 ≤ y0.2.2.2.2.1 ∧ y0.2.2.2.2.1 < (List.length y0.2.1.1 : Int) then
(if (decide (y0.1 < (Ty.rd (t := (.pair (.int .i64) (.pair (.int .i64) (.pair (.int .i64) (.pair (.list .str) (.pair (.list .bool) (.int .i64))))))) y0.2.1.1 y0.2.2.2.2.1).2.2.2.2.2)) = true then
(if 0 ≤ y0.2.2.2.2.1 ∧ y0.2.2.2.2.1 < (List.length y0.2.1.1 : Int) then
(if List.length y0.2.2.2.1.1 + List.length ([((Ty.rd (t := (.pair (.int .i64) (.pair (.int .i64) (.pair (.int .i64) (.pair (.list .str) (.pair (.list .bool) (.int .i64))))))) y0.2.1.1 y0.2.2.2.2.1).1, ((Ty.rd (t := (.pair (.int .i64) (.pair (.int .i64) (.pair (.int .i64) (.pair (.list .str) (.pair (.list .bool) (.int .i64))))))) y0.2.1.1 y0.2.2.2.2.1).2.1, ((Ty.rd (t := (.pair (.int .i64) (.pair (.int .i64) (.pair (.int .i64) (.pair (.list .str) (.pair (.list .bool) (.int .i64))))))) y0.2.1.1 y0.2.2.2.2.1).2.2.1, ((Ty.rd (t := (.pair (.int .i64) (.pair (.int .i64) (.pair (.int .i64) (.pair (.list .str) (.pair (.list .bool) (.int .i64))))))) y0.2.1.1 y0.2.2.2.2.1).2.2.2.1, ((Ty.rd (t := (.pair (.int .i64) (.pair (.int .i64) (.pair (.int .i64) (.pair (.list .str) (.pair (.list .bool) (.int .i64))))))) y0.2.1.1 y0.2.2.2.2.1).2.2.2.2.1, (Ty.rd (t := (.pair (.int .i64) (.pair (.int .i64) (.pair (.int .i64) (.pair (.list .str) (.pair (.list .bool) (.int .i64))))))) y0.2.1.1 y0.2.2.2.2.1).2.2.2.2.2)))))] : List (Int × Int × Int × List (ByteArray) × List (Bool) × Int)) ≤ capMax then
(rec0 (y0.1, ((y0.2.1.1, ()), ((y0.2.2.1.1, ()), (((y0.2.2.2.1.1 ++ ([((Ty.rd (t := (.pair (.int .i64) (.pair (.int .i64) (.pair (.int .i64) (.pair (.list .str) (.pair (.list .bool) (.int .i64))))))) y0.2.1.1 y0.2.2.2.2.1).1, ((Ty.rd (t := (.pair (.int .i64) (.pair (.int .i64) (.pair (.int .i64) (.pair (.list .str) (.pair (.list .bool) (.int .i64))))))) y0.2.1.1 y0.2.2.2.2.1).2.1, ((Ty.rd (t := (.pair (.int .i64) (.pair (.int .i64) (.pair (.int .i64) (.pair (.list .str) (.pair (.list .bool) (.int .i64))))))) y0.2.1.1 y0.2.2.2.2.1).2.2.1, ((Ty.rd (t := (.pair (.int .i64) (.pair (.int .i64) (.pair (.int .i64) (.pair (.list .str) (.pair (.list .bool) (.int .i64))))))) y0.2.1.1 y0.2.2.2.2.1).2.2.2.1, ((Ty.rd (t := (.pair (.int .i64) (.pair (.int .i64) (.pair (.int .i64) (.pair (.list .str) (.pair (.list .bool) (.int .i64))))))) y0.2.1.1 y0.2.2.2.2.1).2.2.2.2.1, (Ty.rd (t := (.pair (.int .i64) (.pair (.int .i64) (.pair (.int .i64) (.pair (.list .str) (.pair (.list .bool) (.int .i64))))))) y0.2.1.1 y0.2.2.2.2.1).2.2.2.2.2)))))] : List (Int × Int × Int × List (ByteArray) × List (Bool) × Int))), ()), ((wi64 (y0.2.2.2.2.1 + (1 : Int))), ()))))))
else none)
else none)
else
(rec0 (y0.1, ((y0.2.1.1, ()), ((y0.2.2.1.1, ()), ((y0.2.2.2.1.1, ()), ((wi64 (y0.2.2.2.2.1 + (1 : Int))), ())))))))
else none)
else
((fun (z1 : ((List (Int × Int × Int × List (ByteArray) × List (Bool) × Int)) × Unit) × ((List (Int × Int × Int × List (ByteArray) × List (Bool) × Int)) × Unit) × Unit) =>
((s_l20Copy k ((z1.2.1.1, ()), ())).bind fun p1 =>
some ((p1.1.1, ()), ((), ((), ()))))) ((y0.2.2.1.1, ()), ((y0.2.2.2.1.1, ()), ()))))) k (x.2.1, ((x.1.1, ()), (([], ()), (([], ()), ((0 : Int), ()))))))
theorem t_s_TidyShelf (k : Nat) (x) : evF TTab k [⟨67, 0, (.cons (.agg (.cons (.il true (.pair (.int .i64) (.pair (.int .i64) (.pair (.int .i64) (.pair (.list .str) (.pair (.list .bool) (.int .i64))))))) .nil)) .nil), (.agg (.cons (.own false 53 (.pair (.int .i64) (.pair (.int .i64) (.pair (.int .i64) (.pair (.list .str) (.pair (.list .bool) (.int .i64))))))) .nil)), s_l20Copy k⟩] [(0, ⟨[1, 2, 4, 5, 6], (.cons (.int .i64) (.cons (.ptr 0 (.cons (.il false (.pair (.int .i64) (.pair (.int .i64) (.pair (.int .i64) (.pair (.list .str) (.pair (.list .bool) (.int .i64))))))) .nil)) (.cons (.ptr 0 (.cons (.own false 53 (.pair (.int .i64) (.pair (.int .i64) (.pair (.int .i64) (.pair (.list .str) (.pair (.list .bool) (.int .i64))))))) .nil)) (.cons (.ptr 0 (.cons (.own false 53 (.pair (.int .i64) (.pair (.int .i64) (.pair (.int .i64) (.pair (.list .str) (.pair (.list .bool) (.int .i64))))))) .nil)) (.cons (.int .i64) .nil)))))⟩, ⟨[4, 5], (.cons (.ptr 0 (.cons (.own false 53 (.pair (.int .i64) (.pair (.int .i64) (.pair (.int .i64) (.pair (.list .str) (.pair (.list .bool) (.int .i64))))))) .nil)) (.cons (.ptr 0 (.cons (.own false 53 (.pair (.int .i64) (.pair (.int .i64) (.pair (.int .i64) (.pair (.list .str) (.pair (.list .bool) (.int .i64))))))) .nil)) .nil))⟩)] Try.f21 (.cons (.agg (.cons (.il false (.pair (.int .i64) (.pair (.int .i64) (.pair (.int .i64) (.pair (.list .str) (.pair (.list .bool) (.int .i64))))))) .nil)) (.cons (.int .i64) .nil)) (.agg (.cons (.own false 53 (.pair (.int .i64) (.pair (.int .i64) (.pair (.int .i64) (.pair (.list .str) (.pair (.list .bool) (.int .i64))))))) .nil)) x = s_TidyShelf k x := by kernel_rfl
theorem e_s_TidyShelf [Names] (k : Nat) : EntryOk Try.prog ⟨21, 0, (.cons (.agg (.cons (.il false (.pair (.int .i64) (.pair (.int .i64) (.pair (.int .i64) (.pair (.list .str) (.pair (.list .bool) (.int .i64))))))) .nil)) (.cons (.int .i64) .nil)), (.agg (.cons (.own false 53 (.pair (.int .i64) (.pair (.int .i64) (.pair (.int .i64) (.pair (.list .str) (.pair (.list .bool) (.int .i64))))))) .nil)), s_TidyShelf k⟩ := entry_ok tok (by intro e he; simp only [List.mem_cons, List.not_mem_nil, or_false] at he; rcases he with rfl <;> first | exact e_s_l20Copy k) (by kernel_rfl) (fn := Try.f21) (k := k) (es := [⟨67, 0, (.cons (.agg (.cons (.il true (.pair (.int .i64) (.pair (.int .i64) (.pair (.int .i64) (.pair (.list .str) (.pair (.list .bool) (.int .i64))))))) .nil)) .nil), (.agg (.cons (.own false 53 (.pair (.int .i64) (.pair (.int .i64) (.pair (.int .i64) (.pair (.list .str) (.pair (.list .bool) (.int .i64))))))) .nil)), s_l20Copy k⟩]) (loops := [(0, ⟨[1, 2, 4, 5, 6], (.cons (.int .i64) (.cons (.ptr 0 (.cons (.il false (.pair (.int .i64) (.pair (.int .i64) (.pair (.int .i64) (.pair (.list .str) (.pair (.list .bool) (.int .i64))))))) .nil)) (.cons (.ptr 0 (.cons (.own false 53 (.pair (.int .i64) (.pair (.int .i64) (.pair (.int .i64) (.pair (.list .str) (.pair (.list .bool) (.int .i64))))))) .nil)) (.cons (.ptr 0 (.cons (.own false 53 (.pair (.int .i64) (.pair (.int .i64) (.pair (.int .i64) (.pair (.list .str) (.pair (.list .bool) (.int .i64))))))) .nil)) (.cons (.int .i64) .nil)))))⟩, ⟨[4, 5], (.cons (.ptr 0 (.cons (.own false 53 (.pair (.int .i64) (.pair (.int .i64) (.pair (.int .i64) (.pair (.list .str) (.pair (.list .bool) (.int .i64))))))) .nil)) (.cons (.ptr 0 (.cons (.own false 53 (.pair (.int .i64) (.pair (.int .i64) (.pair (.int .i64) (.pair (.list .str) (.pair (.list .bool) (.int .i64))))))) .nil)) .nil))⟩)]) (by kernel_rfl) (by kernel_rfl) (fun x r h => (t_s_TidyShelf k x).trans h)
def w_toStringS (k : Nat) (x : List (ByteArray) × Unit) : Option (List (ByteArray) × Unit × Unit) :=
(if (List.length x.1 : Int) = (List.length x.1 : Int) then
(if 0 ≤ (List.length x.1 : Int) ∧ (List.length x.1 : Int) ≤ (capMax : Int) then
(whileK (fun (rec0 : (List (ByteArray) × List (ByteArray) × Int × Unit) → Option _) (y0 : List (ByteArray) × List (ByteArray) × Int × Unit) =>
(if (decide (y0.2.2.1 < (List.length y0.1 : Int))) = true then
(if 0 ≤ y0.2.2.1 ∧ y0.2.2.1 < (List.length y0.1 : Int) then
(if 0 ≤ y0.2.2.1 ∧ y0.2.2.1 < (List.length y0.2.1 : Int) then
(rec0 (y0.1, ((List.set y0.2.1 (Int.toNat y0.2.2.1) (Ty.rd (t := .str) y0.1 y0.2.2.1)), ((wi64 (y0.2.2.1 + (1 : Int))), ()))))
else none)
else none)
else
((fun (z1 : List (ByteArray) × Unit) =>
some (z1.1, ((), ()))) (y0.2.1, ())))) k (x.1, ((List.replicate (Int.toNat (List.length x.1 : Int)) (⟨#[]⟩ : ByteArray)), ((0 : Int), ()))))
else none)
else none)
theorem t_w_toStringS (k : Nat) (x) : evF TTab k [] [(0, ⟨[0, 3, 4], (.cons (.il true .str) (.cons (.own false 9 .str) (.cons (.int .i64) .nil)))⟩, ⟨[3], (.cons (.own false 9 .str) .nil)⟩)] Try.f39 (.cons (.il true .str) .nil) (.own false 9 .str) x = w_toStringS k x := by kernel_rfl
theorem e_w_toStringS [Names] (k : Nat) : EntryOk Try.prog ⟨39, 0, (.cons (.il true .str) .nil), (.own false 9 .str), w_toStringS k⟩ := entry_ok tok (by simp) (by kernel_rfl) (fn := Try.f39) (k := k) (es := []) (loops := [(0, ⟨[0, 3, 4], (.cons (.il true .str) (.cons (.own false 9 .str) (.cons (.int .i64) .nil)))⟩, ⟨[3], (.cons (.own false 9 .str) .nil)⟩)]) (by kernel_rfl) (by kernel_rfl) (fun x r h => (t_w_toStringS k x).trans h)
def w_toBoolS (k : Nat) (x : List (Bool) × Unit) : Option (List (Bool) × Unit × Unit) :=
(if (List.length x.1 : Int) = (List.length x.1 : Int) then
(if 0 ≤ (List.length x.1 : Int) ∧ (List.length x.1 : Int) ≤ (capMax : Int) then
(whileK (fun (rec0 : (List (Bool) × List (Bool) × Int × Unit) → Option _) (y0 : List (Bool) × List (Bool) × Int × Unit) =>
(if (decide (y0.2.2.1 < (List.length y0.1 : Int))) = true then
(if 0 ≤ y0.2.2.1 ∧ y0.2.2.1 < (List.length y0.1 : Int) then
(if 0 ≤ y0.2.2.1 ∧ y0.2.2.1 < (List.length y0.2.1 : Int) then
(rec0 (y0.1, ((List.set y0.2.1 (Int.toNat y0.2.2.1) (Ty.rd (t := .bool) y0.1 y0.2.2.1)), ((wi64 (y0.2.2.1 + (1 : Int))), ()))))
else none)
else none)
else
((fun (z1 : List (Bool) × Unit) =>
some (z1.1, ((), ()))) (y0.2.1, ())))) k (x.1, ((List.replicate (Int.toNat (List.length x.1 : Int)) false), ((0 : Int), ()))))
else none)
else none)
theorem t_w_toBoolS (k : Nat) (x) : evF TTab k [] [(0, ⟨[0, 3, 4], (.cons (.il true .bool) (.cons (.own false 4 .bool) (.cons (.int .i64) .nil)))⟩, ⟨[3], (.cons (.own false 4 .bool) .nil)⟩)] Try.f153 (.cons (.il true .bool) .nil) (.own false 4 .bool) x = w_toBoolS k x := by kernel_rfl
theorem e_w_toBoolS [Names] (k : Nat) : EntryOk Try.prog ⟨153, 0, (.cons (.il true .bool) .nil), (.own false 4 .bool), w_toBoolS k⟩ := entry_ok tok (by simp) (by kernel_rfl) (fn := Try.f153) (k := k) (es := []) (loops := [(0, ⟨[0, 3, 4], (.cons (.il true .bool) (.cons (.own false 4 .bool) (.cons (.int .i64) .nil)))⟩, ⟨[3], (.cons (.own false 4 .bool) .nil)⟩)]) (by kernel_rfl) (by kernel_rfl) (fun x r h => (t_w_toBoolS k x).trans h)
def w_toHeld (k : Nat) (x : (Int × Int × Int × List (ByteArray) × List (Bool) × Int × Unit) × Unit) : Option ((Int × Int × Int × List (ByteArray) × List (Bool) × Int × Unit) × Unit × Unit) :=
((w_toStringS k (x.1.2.2.2.1, ())).bind fun p1 =>
((w_toBoolS k (x.1.2.2.2.2.1, ())).bind fun p2 =>
some ((x.1.1, (x.1.2.1, (x.1.2.2.1, (p1.1, (p2.1, (x.1.2.2.2.2.2.1, ())))))), ((), ()))))
theorem t_w_toHeld (k : Nat) (x) : evF TTab k [⟨39, 0, (.cons (.il true .str) .nil), (.own false 9 .str), w_toStringS k⟩, ⟨153, 0, (.cons (.il true .bool) .nil), (.own false 4 .bool), w_toBoolS k⟩] [] Try.f122 (.cons (.agg (.cons (.int .i64) (.cons (.int .i64) (.cons (.int .i64) (.cons (.il true .str) (.cons (.il true .bool) (.cons (.int .i64) .nil))))))) .nil) (.agg (.cons (.int .i64) (.cons (.int .i64) (.cons (.int .i64) (.cons (.own false 9 .str) (.cons (.own false 4 .bool) (.cons (.int .i64) .nil))))))) x = w_toHeld k x := by kernel_rfl
theorem e_w_toHeld [Names] (k : Nat) : EntryOk Try.prog ⟨122, 0, (.cons (.agg (.cons (.int .i64) (.cons (.int .i64) (.cons (.int .i64) (.cons (.il true .str) (.cons (.il true .bool) (.cons (.int .i64) .nil))))))) .nil), (.agg (.cons (.int .i64) (.cons (.int .i64) (.cons (.int .i64) (.cons (.own false 9 .str) (.cons (.own false 4 .bool) (.cons (.int .i64) .nil))))))), w_toHeld k⟩ := entry_ok tok (by intro e he; simp only [List.mem_cons, List.not_mem_nil, or_false] at he; rcases he with rfl | rfl <;> first | exact e_w_toStringS k | exact e_w_toBoolS k) (by kernel_rfl) (fn := Try.f122) (k := k) (es := [⟨39, 0, (.cons (.il true .str) .nil), (.own false 9 .str), w_toStringS k⟩, ⟨153, 0, (.cons (.il true .bool) .nil), (.own false 4 .bool), w_toBoolS k⟩]) (loops := []) (by kernel_rfl) (by kernel_rfl) (fun x r h => (t_w_toHeld k x).trans h)
def w_toHeldS (k : Nat) (x : (List (Int × Int × Int × List (ByteArray) × List (Bool) × Int)) × Unit) : Option ((List (Int × Int × Int × List (ByteArray) × List (Bool) × Int)) × Unit × Unit) :=
(if (List.length x.1 : Int) = (List.length x.1 : Int) then
(if 0 ≤ (List.length x.1 : Int) ∧ (List.length x.1 : Int) ≤ (capMax : Int) then
(whileK (fun (rec0 : ((List (Int × Int × Int × List (ByteArray) × List (Bool) × Int)) × (List (Int × Int × Int × List (ByteArray) × List (Bool) × Int)) × Int × Unit) → Option _) (y0 : (List (Int × Int × Int × List (ByteArray) × List (Bool) × Int)) × (List (Int × Int × Int × List (ByteArray) × List (Bool) × Int)) × Int × Unit) =>
(if (decide (y0.2.2.1 < (List.length y0.1 : Int))) = true then
(if 0 ≤ y0.2.2.1 ∧ y0.2.2.1 < (List.length y0.1 : Int) then
((w_toHeld k (((Ty.rd (t := (.pair (.int .i64) (.pair (.int .i64) (.pair (.int .i64) (.pair (.list .str) (.pair (.list .bool) (.int .i64))))))) y0.1 y0.2.2.1).1, ((Ty.rd (t := (.pair (.int .i64) (.pair (.int .i64) (.pair (.int .i64) (.pair (.list .str) (.pair (.list .bool) (.int .i64))))))) y0.1 y0.2.2.1).2.1, ((Ty.rd (t := (.pair (.int .i64) (.pair (.int .i64) (.pair (.int .i64) (.pair (.list .str) (.pair (.list .bool) (.int .i64))))))) y0.1 y0.2.2.1).2.2.1, ((Ty.rd (t := (.pair (.int .i64) (.pair (.int .i64) (.pair (.int .i64) (.pair (.list .str) (.pair (.list .bool) (.int .i64))))))) y0.1 y0.2.2.1).2.2.2.1, ((Ty.rd (t := (.pair (.int .i64) (.pair (.int .i64) (.pair (.int .i64) (.pair (.list .str) (.pair (.list .bool) (.int .i64))))))) y0.1 y0.2.2.1).2.2.2.2.1, ((Ty.rd (t := (.pair (.int .i64) (.pair (.int .i64) (.pair (.int .i64) (.pair (.list .str) (.pair (.list .bool) (.int .i64))))))) y0.1 y0.2.2.1).2.2.2.2.2, ())))))), ())).bind fun p1 =>
(if 0 ≤ y0.2.2.1 ∧ y0.2.2.1 < (List.length y0.2.1 : Int) then
(rec0 (y0.1, ((List.set y0.2.1 (Int.toNat y0.2.2.1) (p1.1.1, (p1.1.2.1, (p1.1.2.2.1, (p1.1.2.2.2.1, (p1.1.2.2.2.2.1, p1.1.2.2.2.2.2.1)))))), ((wi64 (y0.2.2.1 + (1 : Int))), ()))))
else none))
else none)
else
((fun (z1 : (List (Int × Int × Int × List (ByteArray) × List (Bool) × Int)) × Unit) =>
some (z1.1, ((), ()))) (y0.2.1, ())))) k (x.1, ((List.replicate (Int.toNat (List.length x.1 : Int)) ((0 : Int), ((0 : Int), ((0 : Int), ([], ([], (0 : Int))))))), ((0 : Int), ()))))
else none)
else none)
theorem t_w_toHeldS (k : Nat) (x) : evF TTabO k [⟨122, 0, (.cons (.agg (.cons (.int .i64) (.cons (.int .i64) (.cons (.int .i64) (.cons (.il true .str) (.cons (.il true .bool) (.cons (.int .i64) .nil))))))) .nil), (.agg (.cons (.int .i64) (.cons (.int .i64) (.cons (.int .i64) (.cons (.own false 9 .str) (.cons (.own false 4 .bool) (.cons (.int .i64) .nil))))))), w_toHeld k⟩] [(0, ⟨[0, 3, 4], (.cons (.il true (.pair (.int .i64) (.pair (.int .i64) (.pair (.int .i64) (.pair (.list .str) (.pair (.list .bool) (.int .i64))))))) (.cons (.own false 53 (.pair (.int .i64) (.pair (.int .i64) (.pair (.int .i64) (.pair (.ols 9 .str) (.pair (.ols 4 .bool) (.int .i64))))))) (.cons (.int .i64) .nil)))⟩, ⟨[3], (.cons (.own false 53 (.pair (.int .i64) (.pair (.int .i64) (.pair (.int .i64) (.pair (.ols 9 .str) (.pair (.ols 4 .bool) (.int .i64))))))) .nil)⟩)] Try.f68 (.cons (.il true (.pair (.int .i64) (.pair (.int .i64) (.pair (.int .i64) (.pair (.list .str) (.pair (.list .bool) (.int .i64))))))) .nil) (.own false 53 (.pair (.int .i64) (.pair (.int .i64) (.pair (.int .i64) (.pair (.ols 9 .str) (.pair (.ols 4 .bool) (.int .i64))))))) x = w_toHeldS k x := by kernel_rfl
theorem e_w_toHeldS [Names] (k : Nat) : EntryOk Try.prog ⟨68, 0, (.cons (.il true (.pair (.int .i64) (.pair (.int .i64) (.pair (.int .i64) (.pair (.list .str) (.pair (.list .bool) (.int .i64))))))) .nil), (.own false 53 (.pair (.int .i64) (.pair (.int .i64) (.pair (.int .i64) (.pair (.ols 9 .str) (.pair (.ols 4 .bool) (.int .i64))))))), w_toHeldS k⟩ := entry_ok tokO (by intro e he; simp only [List.mem_cons, List.not_mem_nil, or_false] at he; rcases he with rfl <;> first | exact e_w_toHeld k) (by kernel_rfl) (fn := Try.f68) (k := k) (es := [⟨122, 0, (.cons (.agg (.cons (.int .i64) (.cons (.int .i64) (.cons (.int .i64) (.cons (.il true .str) (.cons (.il true .bool) (.cons (.int .i64) .nil))))))) .nil), (.agg (.cons (.int .i64) (.cons (.int .i64) (.cons (.int .i64) (.cons (.own false 9 .str) (.cons (.own false 4 .bool) (.cons (.int .i64) .nil))))))), w_toHeld k⟩]) (loops := [(0, ⟨[0, 3, 4], (.cons (.il true (.pair (.int .i64) (.pair (.int .i64) (.pair (.int .i64) (.pair (.list .str) (.pair (.list .bool) (.int .i64))))))) (.cons (.own false 53 (.pair (.int .i64) (.pair (.int .i64) (.pair (.int .i64) (.pair (.ols 9 .str) (.pair (.ols 4 .bool) (.int .i64))))))) (.cons (.int .i64) .nil)))⟩, ⟨[3], (.cons (.own false 53 (.pair (.int .i64) (.pair (.int .i64) (.pair (.int .i64) (.pair (.ols 9 .str) (.pair (.ols 4 .bool) (.int .i64))))))) .nil)⟩)]) (by kernel_rfl) (by kernel_rfl) (fun x r h => (t_w_toHeldS k x).trans h)
def w_toShelf (k : Nat) (x : ((List (Int × Int × Int × List (ByteArray) × List (Bool) × Int)) × Unit) × Unit) : Option (((List (Int × Int × Int × List (ByteArray) × List (Bool) × Int)) × Unit) × Unit × Unit) :=
((w_toHeldS k (x.1.1, ())).bind fun p1 =>
some ((p1.1, ()), ((), ())))
theorem t_w_toShelf (k : Nat) (x) : evF TTabO k [⟨68, 0, (.cons (.il true (.pair (.int .i64) (.pair (.int .i64) (.pair (.int .i64) (.pair (.list .str) (.pair (.list .bool) (.int .i64))))))) .nil), (.own false 53 (.pair (.int .i64) (.pair (.int .i64) (.pair (.int .i64) (.pair (.ols 9 .str) (.pair (.ols 4 .bool) (.int .i64))))))), w_toHeldS k⟩] [] Try.f22 (.cons (.agg (.cons (.il true (.pair (.int .i64) (.pair (.int .i64) (.pair (.int .i64) (.pair (.list .str) (.pair (.list .bool) (.int .i64))))))) .nil)) .nil) (.agg (.cons (.own false 53 (.pair (.int .i64) (.pair (.int .i64) (.pair (.int .i64) (.pair (.ols 9 .str) (.pair (.ols 4 .bool) (.int .i64))))))) .nil)) x = w_toShelf k x := by kernel_rfl
theorem e_w_toShelf [Names] (k : Nat) : EntryOk Try.prog ⟨22, 0, (.cons (.agg (.cons (.il true (.pair (.int .i64) (.pair (.int .i64) (.pair (.int .i64) (.pair (.list .str) (.pair (.list .bool) (.int .i64))))))) .nil)) .nil), (.agg (.cons (.own false 53 (.pair (.int .i64) (.pair (.int .i64) (.pair (.int .i64) (.pair (.ols 9 .str) (.pair (.ols 4 .bool) (.int .i64))))))) .nil)), w_toShelf k⟩ := entry_ok tokO (by intro e he; simp only [List.mem_cons, List.not_mem_nil, or_false] at he; rcases he with rfl <;> first | exact e_w_toHeldS k) (by kernel_rfl) (fn := Try.f22) (k := k) (es := [⟨68, 0, (.cons (.il true (.pair (.int .i64) (.pair (.int .i64) (.pair (.int .i64) (.pair (.list .str) (.pair (.list .bool) (.int .i64))))))) .nil), (.own false 53 (.pair (.int .i64) (.pair (.int .i64) (.pair (.int .i64) (.pair (.ols 9 .str) (.pair (.ols 4 .bool) (.int .i64))))))), w_toHeldS k⟩]) (loops := []) (by kernel_rfl) (by kernel_rfl) (fun x r h => (t_w_toShelf k x).trans h)
def i_TidyShelf_1 (k : Nat) (x : (Int × Int × Int × Nat × Nat × Int × Unit) × (Int × Unit) × Unit) : Option (Bool × Unit × (Int × Unit) × Unit) :=
some ((decide (x.1.2.2.2.2.2.1 ≤ x.2.1.1)), ((), ((x.2.1.1, ()), ())))
theorem t_i_TidyShelf_1 (k : Nat) (x) : evF TTabN k [] [] Try.f70 (.cons (.agg (.cons (.int .i64) (.cons (.int .i64) (.cons (.int .i64) (.cons .nm (.cons .nm (.cons (.int .i64) .nil))))))) (.cons (.ptr 0 (.cons (.int .i64) .nil)) .nil)) .bool x = i_TidyShelf_1 k x := by kernel_rfl
theorem e_i_TidyShelf_1 [Names] (k : Nat) : EntryOk Try.prog ⟨70, 0, (.cons (.agg (.cons (.int .i64) (.cons (.int .i64) (.cons (.int .i64) (.cons .nm (.cons .nm (.cons (.int .i64) .nil))))))) (.cons (.ptr 0 (.cons (.int .i64) .nil)) .nil)), .bool, i_TidyShelf_1 k⟩ := entry_ok tokN (by simp) (by kernel_rfl) (fn := Try.f70) (k := k) (es := []) (loops := []) (by kernel_rfl) (by kernel_rfl) (fun x r h => (t_i_TidyShelf_1 k x).trans h)
def x_slices_IndexFunc_impl_Held_impl_Held_of_i_TidyShelf_1 (k : Nat) (x : (List (Int × Int × Int × Nat × Nat × Int)) × ((Int × Unit) × Unit) × Unit) : Option (Int × Unit × ((Int × Unit) × Unit) × Unit) :=
(whileK (fun (rec0 : ((List (Int × Int × Int × Nat × Nat × Int)) × ((Int × Unit) × Unit) × Int × Int × Unit) → Option _) (y0 : (List (Int × Int × Int × Nat × Nat × Int)) × ((Int × Unit) × Unit) × Int × Int × Unit) =>
(if (decide (y0.2.2.2.1 < y0.2.2.1)) = true then
(if 0 ≤ y0.2.2.2.1 ∧ y0.2.2.2.1 < (List.length y0.1 : Int) then
((i_TidyShelf_1 k (((Ty.rd (t := (.pair (.int .i64) (.pair (.int .i64) (.pair (.int .i64) (.pair .nm (.pair .nm (.int .i64))))))) y0.1 y0.2.2.2.1).1, ((Ty.rd (t := (.pair (.int .i64) (.pair (.int .i64) (.pair (.int .i64) (.pair .nm (.pair .nm (.int .i64))))))) y0.1 y0.2.2.2.1).2.1, ((Ty.rd (t := (.pair (.int .i64) (.pair (.int .i64) (.pair (.int .i64) (.pair .nm (.pair .nm (.int .i64))))))) y0.1 y0.2.2.2.1).2.2.1, ((Ty.rd (t := (.pair (.int .i64) (.pair (.int .i64) (.pair (.int .i64) (.pair .nm (.pair .nm (.int .i64))))))) y0.1 y0.2.2.2.1).2.2.2.1, ((Ty.rd (t := (.pair (.int .i64) (.pair (.int .i64) (.pair (.int .i64) (.pair .nm (.pair .nm (.int .i64))))))) y0.1 y0.2.2.2.1).2.2.2.2.1, ((Ty.rd (t := (.pair (.int .i64) (.pair (.int .i64) (.pair (.int .i64) (.pair .nm (.pair .nm (.int .i64))))))) y0.1 y0.2.2.2.1).2.2.2.2.2, ())))))), ((y0.2.1.1.1, ()), ()))).bind fun p1 =>
(if p1.1 = true then
some (y0.2.2.2.1, ((), (((p1.2.2.1.1, ()), ()), ())))
else
(rec0 (y0.1, (((p1.2.2.1.1, ()), ()), (y0.2.2.1, ((wi64 (y0.2.2.2.1 + (1 : Int))), ())))))))
else none)
else
((fun (z1 : ((Int × Unit) × Unit) × Unit) =>
some ((-1 : Int), ((), (((z1.1.1.1, ()), ()), ())))) (((y0.2.1.1.1, ()), ()), ())))) k (x.1, (((x.2.1.1.1, ()), ()), ((List.length x.1 : Int), ((0 : Int), ())))))
theorem t_x_slices_IndexFunc_impl_Held_impl_Held_of_i_TidyShelf_1 (k : Nat) (x) : evF TTabN k [⟨70, 0, (.cons (.agg (.cons (.int .i64) (.cons (.int .i64) (.cons (.int .i64) (.cons .nm (.cons .nm (.cons (.int .i64) .nil))))))) (.cons (.ptr 0 (.cons (.int .i64) .nil)) .nil)), .bool, i_TidyShelf_1 k⟩] [(0, ⟨[0, 1, 7, 8], (.cons (.il true (.pair (.int .i64) (.pair (.int .i64) (.pair (.int .i64) (.pair .nm (.pair .nm (.int .i64))))))) (.cons (.fn 70 (.cons (.ptr 0 (.cons (.int .i64) .nil)) .nil)) (.cons (.int .i64) (.cons (.int .i64) .nil))))⟩, ⟨[1], (.cons (.fn 70 (.cons (.ptr 0 (.cons (.int .i64) .nil)) .nil)) .nil)⟩)] Try.f115 (.cons (.il true (.pair (.int .i64) (.pair (.int .i64) (.pair (.int .i64) (.pair .nm (.pair .nm (.int .i64))))))) (.cons (.fn 70 (.cons (.ptr 0 (.cons (.int .i64) .nil)) .nil)) .nil)) (.int .i64) x = x_slices_IndexFunc_impl_Held_impl_Held_of_i_TidyShelf_1 k x := by kernel_rfl
theorem e_x_slices_IndexFunc_impl_Held_impl_Held_of_i_TidyShelf_1 [Names] (k : Nat) : EntryOk Try.prog ⟨115, 71, (.cons (.il true (.pair (.int .i64) (.pair (.int .i64) (.pair (.int .i64) (.pair .nm (.pair .nm (.int .i64))))))) (.cons (.fn 70 (.cons (.ptr 0 (.cons (.int .i64) .nil)) .nil)) .nil)), (.int .i64), x_slices_IndexFunc_impl_Held_impl_Held_of_i_TidyShelf_1 k⟩ := entry_ok tokN (by intro e he; simp only [List.mem_cons, List.not_mem_nil, or_false] at he; rcases he with rfl <;> first | exact e_i_TidyShelf_1 k) (by kernel_rfl) (fn := Try.f115) (k := k) (es := [⟨70, 0, (.cons (.agg (.cons (.int .i64) (.cons (.int .i64) (.cons (.int .i64) (.cons .nm (.cons .nm (.cons (.int .i64) .nil))))))) (.cons (.ptr 0 (.cons (.int .i64) .nil)) .nil)), .bool, i_TidyShelf_1 k⟩]) (loops := [(0, ⟨[0, 1, 7, 8], (.cons (.il true (.pair (.int .i64) (.pair (.int .i64) (.pair (.int .i64) (.pair .nm (.pair .nm (.int .i64))))))) (.cons (.fn 70 (.cons (.ptr 0 (.cons (.int .i64) .nil)) .nil)) (.cons (.int .i64) (.cons (.int .i64) .nil))))⟩, ⟨[1], (.cons (.fn 70 (.cons (.ptr 0 (.cons (.int .i64) .nil)) .nil)) .nil)⟩)]) (by kernel_rfl) (by kernel_rfl) (fun x r h => (t_x_slices_IndexFunc_impl_Held_impl_Held_of_i_TidyShelf_1 k x).trans h)
def x_slices_DeleteFunc_impl_Held_impl_Held_of_i_TidyShelf_1_n (k : Nat) (x : (List (Int × Int × Int × Nat × Nat × Int)) × ((Int × Unit) × Unit) × Unit) : Option ((List (Int × Int × Int × Nat × Nat × Int)) × Unit × ((Int × Unit) × Unit) × Unit) :=
((x_slices_IndexFunc_impl_Held_impl_Held_of_i_TidyShelf_1 k (x.1, (((x.2.1.1.1, ()), ()), ()))).bind fun p1 =>
(if (decide (p1.1 = (-1 : Int))) = true then
some (x.1, ((), (((p1.2.2.1.1.1, ()), ()), ())))
else
(whileK (fun (rec0 : ((List (Int × Int × Int × Nat × Nat × Int)) × ((Int × Unit) × Unit) × Int × Int × Unit) → Option _) (y0 : (List (Int × Int × Int × Nat × Nat × Int)) × ((Int × Unit) × Unit) × Int × Int × Unit) =>
(if (decide (y0.2.2.2.1 < (List.length y0.1 : Int))) = true then
(if 0 ≤ y0.2.2.2.1 ∧ y0.2.2.2.1 < (List.length y0.1 : Int) then
((i_TidyShelf_1 k (((Ty.rd (t := (.pair (.int .i64) (.pair (.int .i64) (.pair (.int .i64) (.pair .nm (.pair .nm (.int .i64))))))) y0.1 y0.2.2.2.1).1, ((Ty.rd (t := (.pair (.int .i64) (.pair (.int .i64) (.pair (.int .i64) (.pair .nm (.pair .nm (.int .i64))))))) y0.1 y0.2.2.2.1).2.1, ((Ty.rd (t := (.pair (.int .i64) (.pair (.int .i64) (.pair (.int .i64) (.pair .nm (.pair .nm (.int .i64))))))) y0.1 y0.2.2.2.1).2.2.1, ((Ty.rd (t := (.pair (.int .i64) (.pair (.int .i64) (.pair (.int .i64) (.pair .nm (.pair .nm (.int .i64))))))) y0.1 y0.2.2.2.1).2.2.2.1, ((Ty.rd (t := (.pair (.int .i64) (.pair (.int .i64) (.pair (.int .i64) (.pair .nm (.pair .nm (.int .i64))))))) y0.1 y0.2.2.2.1).2.2.2.2.1, ((Ty.rd (t := (.pair (.int .i64) (.pair (.int .i64) (.pair (.int .i64) (.pair .nm (.pair .nm (.int .i64))))))) y0.1 y0.2.2.2.1).2.2.2.2.2, ())))))), ((y0.2.1.1.1, ()), ()))).bind fun p2 =>
(if (!p2.1) = true then
(if 0 ≤ y0.2.2.1 ∧ y0.2.2.1 < (List.length y0.1 : Int) then
(jn (List.set y0.1 (Int.toNat y0.2.2.1) ((Ty.rd (t := (.pair (.int .i64) (.pair (.int .i64) (.pair (.int .i64) (.pair .nm (.pair .nm (.int .i64))))))) y0.1 y0.2.2.2.1).1, ((Ty.rd (t := (.pair (.int .i64) (.pair (.int .i64) (.pair (.int .i64) (.pair .nm (.pair .nm (.int .i64))))))) y0.1 y0.2.2.2.1).2.1, ((Ty.rd (t := (.pair (.int .i64) (.pair (.int .i64) (.pair (.int .i64) (.pair .nm (.pair .nm (.int .i64))))))) y0.1 y0.2.2.2.1).2.2.1, ((Ty.rd (t := (.pair (.int .i64) (.pair (.int .i64) (.pair (.int .i64) (.pair .nm (.pair .nm (.int .i64))))))) y0.1 y0.2.2.2.1).2.2.2.1, ((Ty.rd (t := (.pair (.int .i64) (.pair (.int .i64) (.pair (.int .i64) (.pair .nm (.pair .nm (.int .i64))))))) y0.1 y0.2.2.2.1).2.2.2.2.1, (Ty.rd (t := (.pair (.int .i64) (.pair (.int .i64) (.pair (.int .i64) (.pair .nm (.pair .nm (.int .i64))))))) y0.1 y0.2.2.2.1).2.2.2.2.2)))))) (fun (q9 : List (Int × Int × Int × Nat × Nat × Int)) =>
(rec0 (q9, (((p2.2.2.1.1, ()), ()), ((wi64 (y0.2.2.1 + (1 : Int))), ((wi64 (y0.2.2.2.1 + (1 : Int))), ())))))))
else none)
else
(rec0 (y0.1, (((p2.2.2.1.1, ()), ()), (y0.2.2.1, ((wi64 (y0.2.2.2.1 + (1 : Int))), ())))))))
else none)
else
((fun (z1 : (List (Int × Int × Int × Nat × Nat × Int)) × ((Int × Unit) × Unit) × Int × Unit) =>
(if 0 ≤ z1.2.2.1 ∧ z1.2.2.1 ≤ (List.length z1.1 : Int) then
(if 0 ≤ z1.2.2.1 ∧ z1.2.2.1 ≤ (List.length (List.take (Int.toNat z1.2.2.1) z1.1 ++ (List.replicate (Int.toNat ((List.length z1.1 : Int) - z1.2.2.1)) ((0 : Int), ((0 : Int), ((0 : Int), ((0 : Nat), ((0 : Nat), (0 : Int)))))) ++ List.drop (Int.toNat (List.length z1.1 : Int)) z1.1)) : Int) then
some ((List.drop (Int.toNat (0 : Int)) (List.take (Int.toNat z1.2.2.1) (List.take (Int.toNat z1.2.2.1) z1.1 ++ (List.replicate (Int.toNat ((List.length z1.1 : Int) - z1.2.2.1)) ((0 : Int), ((0 : Int), ((0 : Int), ((0 : Nat), ((0 : Nat), (0 : Int)))))) ++ List.drop (Int.toNat (List.length z1.1 : Int)) z1.1)))), ((), (((z1.2.1.1.1, ()), ()), ())))
else none)
else none)) (y0.1, (((y0.2.1.1.1, ()), ()), (y0.2.2.1, ())))))) k (x.1, (((p1.2.2.1.1.1, ()), ()), (p1.1, ((wi64 (p1.1 + (1 : Int))), ())))))))
theorem t_x_slices_DeleteFunc_impl_Held_impl_Held_of_i_TidyShelf_1_n (k : Nat) (x) : evF TTabN k [⟨70, 0, (.cons (.agg (.cons (.int .i64) (.cons (.int .i64) (.cons (.int .i64) (.cons .nm (.cons .nm (.cons (.int .i64) .nil))))))) (.cons (.ptr 0 (.cons (.int .i64) .nil)) .nil)), .bool, i_TidyShelf_1 k⟩, ⟨115, 71, (.cons (.il true (.pair (.int .i64) (.pair (.int .i64) (.pair (.int .i64) (.pair .nm (.pair .nm (.int .i64))))))) (.cons (.fn 70 (.cons (.ptr 0 (.cons (.int .i64) .nil)) .nil)) .nil)), (.int .i64), x_slices_IndexFunc_impl_Held_impl_Held_of_i_TidyShelf_1 k⟩] [(0, ⟨[0, 1, 5, 6], (.cons (.own false 53 (.pair (.int .i64) (.pair (.int .i64) (.pair (.int .i64) (.pair .nm (.pair .nm (.int .i64))))))) (.cons (.fn 70 (.cons (.ptr 0 (.cons (.int .i64) .nil)) .nil)) (.cons (.int .i64) (.cons (.int .i64) .nil))))⟩, ⟨[0, 1, 5], (.cons (.own false 53 (.pair (.int .i64) (.pair (.int .i64) (.pair (.int .i64) (.pair .nm (.pair .nm (.int .i64))))))) (.cons (.fn 70 (.cons (.ptr 0 (.cons (.int .i64) .nil)) .nil)) (.cons (.int .i64) .nil)))⟩)] Try.f69 (.cons (.own false 53 (.pair (.int .i64) (.pair (.int .i64) (.pair (.int .i64) (.pair .nm (.pair .nm (.int .i64))))))) (.cons (.fn 70 (.cons (.ptr 0 (.cons (.int .i64) .nil)) .nil)) .nil)) (.own false 53 (.pair (.int .i64) (.pair (.int .i64) (.pair (.int .i64) (.pair .nm (.pair .nm (.int .i64))))))) x = x_slices_DeleteFunc_impl_Held_impl_Held_of_i_TidyShelf_1_n k x := by kernel_rfl
theorem e_x_slices_DeleteFunc_impl_Held_impl_Held_of_i_TidyShelf_1_n [Names] (k : Nat) : EntryOk Try.prog ⟨69, 71, (.cons (.own false 53 (.pair (.int .i64) (.pair (.int .i64) (.pair (.int .i64) (.pair .nm (.pair .nm (.int .i64))))))) (.cons (.fn 70 (.cons (.ptr 0 (.cons (.int .i64) .nil)) .nil)) .nil)), (.own false 53 (.pair (.int .i64) (.pair (.int .i64) (.pair (.int .i64) (.pair .nm (.pair .nm (.int .i64))))))), x_slices_DeleteFunc_impl_Held_impl_Held_of_i_TidyShelf_1_n k⟩ := entry_ok tokN (by intro e he; simp only [List.mem_cons, List.not_mem_nil, or_false] at he; rcases he with rfl | rfl <;> first | exact e_i_TidyShelf_1 k | exact e_x_slices_IndexFunc_impl_Held_impl_Held_of_i_TidyShelf_1 k) (by kernel_rfl) (fn := Try.f69) (k := k) (es := [⟨70, 0, (.cons (.agg (.cons (.int .i64) (.cons (.int .i64) (.cons (.int .i64) (.cons .nm (.cons .nm (.cons (.int .i64) .nil))))))) (.cons (.ptr 0 (.cons (.int .i64) .nil)) .nil)), .bool, i_TidyShelf_1 k⟩, ⟨115, 71, (.cons (.il true (.pair (.int .i64) (.pair (.int .i64) (.pair (.int .i64) (.pair .nm (.pair .nm (.int .i64))))))) (.cons (.fn 70 (.cons (.ptr 0 (.cons (.int .i64) .nil)) .nil)) .nil)), (.int .i64), x_slices_IndexFunc_impl_Held_impl_Held_of_i_TidyShelf_1 k⟩]) (loops := [(0, ⟨[0, 1, 5, 6], (.cons (.own false 53 (.pair (.int .i64) (.pair (.int .i64) (.pair (.int .i64) (.pair .nm (.pair .nm (.int .i64))))))) (.cons (.fn 70 (.cons (.ptr 0 (.cons (.int .i64) .nil)) .nil)) (.cons (.int .i64) (.cons (.int .i64) .nil))))⟩, ⟨[0, 1, 5], (.cons (.own false 53 (.pair (.int .i64) (.pair (.int .i64) (.pair (.int .i64) (.pair .nm (.pair .nm (.int .i64))))))) (.cons (.fn 70 (.cons (.ptr 0 (.cons (.int .i64) .nil)) .nil)) (.cons (.int .i64) .nil)))⟩)]) (by kernel_rfl) (by kernel_rfl) (fun x r h => (t_x_slices_DeleteFunc_impl_Held_impl_Held_of_i_TidyShelf_1_n k x).trans h)
def x_slices_DeleteFunc_impl_Held_impl_Held_of_i_TidyShelf_1 (k : Nat) (x : (List (Int × Int × Int × List (ByteArray) × List (Bool) × Int)) × ((Int × Unit) × Unit) × Unit) : Option ((List (Int × Int × Int × List (ByteArray) × List (Bool) × Int)) × Unit × ((Int × Unit) × Unit) × Unit) :=
treeF (.pair (.int .i64) (.pair (.int .i64) (.pair (.int .i64) (.pair (.ols 9 .str) (.pair (.ols 4 .bool) (.int .i64)))))) (x_slices_DeleteFunc_impl_Held_impl_Held_of_i_TidyShelf_1_n k) x
theorem e_x_slices_DeleteFunc_impl_Held_impl_Held_of_i_TidyShelf_1 [Names] (k : Nat) : EntryOk Try.prog ⟨69, 71, (.cons (.own false 53 (.pair (.int .i64) (.pair (.int .i64) (.pair (.int .i64) (.pair (.ols 9 .str) (.pair (.ols 4 .bool) (.int .i64))))))) (.cons (.fn 70 (.cons (.ptr 0 (.cons (.int .i64) .nil)) .nil)) .nil)), (.own false 53 (.pair (.int .i64) (.pair (.int .i64) (.pair (.int .i64) (.pair (.ols 9 .str) (.pair (.ols 4 .bool) (.int .i64))))))), x_slices_DeleteFunc_impl_Held_impl_Held_of_i_TidyShelf_1 k⟩ := names_entry (t := (.pair (.int .i64) (.pair (.int .i64) (.pair (.int .i64) (.pair (.ols 9 .str) (.pair (.ols 4 .bool) (.int .i64))))))) (by kernel_rfl) (by kernel_rfl) (fun N => @e_x_slices_DeleteFunc_impl_Held_impl_Held_of_i_TidyShelf_1_n N k) inferInstance
def i_TidyShelf (k : Nat) (x : ((List (Int × Int × Int × List (ByteArray) × List (Bool) × Int)) × Unit) × Int × Unit) : Option (((List (Int × Int × Int × List (ByteArray) × List (Bool) × Int)) × Unit) × Unit × Unit × Unit) :=
((i_copyShelf k ((x.1.1, ()), ())).bind fun p1 =>
((x_slices_DeleteFunc_impl_Held_impl_Held_of_i_TidyShelf_1 k (p1.1.1, (((x.2.1, ()), ()), ()))).bind fun p2 =>
some ((p2.1, ()), ((), ((), ())))))
theorem t_i_TidyShelf (k : Nat) (x) : evF TTabO k [⟨59, 0, (.cons (.agg (.cons (.il true (.pair (.int .i64) (.pair (.int .i64) (.pair (.int .i64) (.pair (.list .str) (.pair (.list .bool) (.int .i64))))))) .nil)) .nil), (.agg (.cons (.own false 53 (.pair (.int .i64) (.pair (.int .i64) (.pair (.int .i64) (.pair (.ols 9 .str) (.pair (.ols 4 .bool) (.int .i64))))))) .nil)), i_copyShelf k⟩, ⟨69, 71, (.cons (.own false 53 (.pair (.int .i64) (.pair (.int .i64) (.pair (.int .i64) (.pair (.ols 9 .str) (.pair (.ols 4 .bool) (.int .i64))))))) (.cons (.fn 70 (.cons (.ptr 0 (.cons (.int .i64) .nil)) .nil)) .nil)), (.own false 53 (.pair (.int .i64) (.pair (.int .i64) (.pair (.int .i64) (.pair (.ols 9 .str) (.pair (.ols 4 .bool) (.int .i64))))))), x_slices_DeleteFunc_impl_Held_impl_Held_of_i_TidyShelf_1 k⟩] [] Try.f23 (.cons (.agg (.cons (.il true (.pair (.int .i64) (.pair (.int .i64) (.pair (.int .i64) (.pair (.list .str) (.pair (.list .bool) (.int .i64))))))) .nil)) (.cons (.int .i64) .nil)) (.agg (.cons (.own false 53 (.pair (.int .i64) (.pair (.int .i64) (.pair (.int .i64) (.pair (.ols 9 .str) (.pair (.ols 4 .bool) (.int .i64))))))) .nil)) x = i_TidyShelf k x := by kernel_rfl
theorem e_i_TidyShelf [Names] (k : Nat) : EntryOk Try.prog ⟨23, 0, (.cons (.agg (.cons (.il true (.pair (.int .i64) (.pair (.int .i64) (.pair (.int .i64) (.pair (.list .str) (.pair (.list .bool) (.int .i64))))))) .nil)) (.cons (.int .i64) .nil)), (.agg (.cons (.own false 53 (.pair (.int .i64) (.pair (.int .i64) (.pair (.int .i64) (.pair (.ols 9 .str) (.pair (.ols 4 .bool) (.int .i64))))))) .nil)), i_TidyShelf k⟩ := entry_ok tokO (by intro e he; simp only [List.mem_cons, List.not_mem_nil, or_false] at he; rcases he with rfl | rfl <;> first | exact e_i_copyShelf k | exact e_x_slices_DeleteFunc_impl_Held_impl_Held_of_i_TidyShelf_1 k) (by kernel_rfl) (fn := Try.f23) (k := k) (es := [⟨59, 0, (.cons (.agg (.cons (.il true (.pair (.int .i64) (.pair (.int .i64) (.pair (.int .i64) (.pair (.list .str) (.pair (.list .bool) (.int .i64))))))) .nil)) .nil), (.agg (.cons (.own false 53 (.pair (.int .i64) (.pair (.int .i64) (.pair (.int .i64) (.pair (.ols 9 .str) (.pair (.ols 4 .bool) (.int .i64))))))) .nil)), i_copyShelf k⟩, ⟨69, 71, (.cons (.own false 53 (.pair (.int .i64) (.pair (.int .i64) (.pair (.int .i64) (.pair (.ols 9 .str) (.pair (.ols 4 .bool) (.int .i64))))))) (.cons (.fn 70 (.cons (.ptr 0 (.cons (.int .i64) .nil)) .nil)) .nil)), (.own false 53 (.pair (.int .i64) (.pair (.int .i64) (.pair (.int .i64) (.pair (.ols 9 .str) (.pair (.ols 4 .bool) (.int .i64))))))), x_slices_DeleteFunc_impl_Held_impl_Held_of_i_TidyShelf_1 k⟩]) (loops := []) (by kernel_rfl) (by kernel_rfl) (fun x r h => (t_i_TidyShelf k x).trans h)
def w_eqStringS (k : Nat) (x : List (ByteArray) × List (ByteArray) × Unit) : Option (Bool × Unit × Unit × Unit) :=
(if (!decide ((List.length x.1 : Int) = (List.length x.2.1 : Int))) = true then
some (false, ((), ((), ())))
else
(whileK (fun (rec0 : (List (ByteArray) × List (ByteArray) × Int × Unit) → Option _) (y0 : List (ByteArray) × List (ByteArray) × Int × Unit) =>
(if (decide (y0.2.2.1 < (List.length y0.1 : Int))) = true then
(if 0 ≤ y0.2.2.1 ∧ y0.2.2.1 < (List.length y0.1 : Int) then
(if 0 ≤ y0.2.2.1 ∧ y0.2.2.1 < (List.length y0.2.1 : Int) then
(if (!decide ((Ty.rd (t := .str) y0.1 y0.2.2.1) = (Ty.rd (t := .str) y0.2.1 y0.2.2.1))) = true then
some (false, ((), ((), ())))
else
(rec0 (y0.1, (y0.2.1, ((wi64 (y0.2.2.1 + (1 : Int))), ())))))
else none)
else none)
else
((fun (z1 : Unit) =>
some (true, ((), ((), ())))) ()))) k (x.1, (x.2.1, ((0 : Int), ())))))
theorem t_w_eqStringS (k : Nat) (x) : evF TTab k [] [(0, ⟨[0, 1, 5], (.cons (.il true .str) (.cons (.il true .str) (.cons (.int .i64) .nil)))⟩, ⟨[], .nil⟩)] Try.f42 (.cons (.il true .str) (.cons (.il true .str) .nil)) .bool x = w_eqStringS k x := by kernel_rfl
theorem e_w_eqStringS [Names] (k : Nat) : EntryOk Try.prog ⟨42, 0, (.cons (.il true .str) (.cons (.il true .str) .nil)), .bool, w_eqStringS k⟩ := entry_ok tok (by simp) (by kernel_rfl) (fn := Try.f42) (k := k) (es := []) (loops := [(0, ⟨[0, 1, 5], (.cons (.il true .str) (.cons (.il true .str) (.cons (.int .i64) .nil)))⟩, ⟨[], .nil⟩)]) (by kernel_rfl) (by kernel_rfl) (fun x r h => (t_w_eqStringS k x).trans h)
def w_eqBoolS (k : Nat) (x : List (Bool) × List (Bool) × Unit) : Option (Bool × Unit × Unit × Unit) :=
(if (!decide ((List.length x.1 : Int) = (List.length x.2.1 : Int))) = true then
some (false, ((), ((), ())))
else
(whileK (fun (rec0 : (List (Bool) × List (Bool) × Int × Unit) → Option _) (y0 : List (Bool) × List (Bool) × Int × Unit) =>
(if (decide (y0.2.2.1 < (List.length y0.1 : Int))) = true then
(if 0 ≤ y0.2.2.1 ∧ y0.2.2.1 < (List.length y0.1 : Int) then
(if 0 ≤ y0.2.2.1 ∧ y0.2.2.1 < (List.length y0.2.1 : Int) then
(if (!decide ((Ty.rd (t := .bool) y0.1 y0.2.2.1) = (Ty.rd (t := .bool) y0.2.1 y0.2.2.1))) = true then
some (false, ((), ((), ())))
else
(rec0 (y0.1, (y0.2.1, ((wi64 (y0.2.2.1 + (1 : Int))), ())))))
else none)
else none)
else
((fun (z1 : Unit) =>
some (true, ((), ((), ())))) ()))) k (x.1, (x.2.1, ((0 : Int), ())))))
theorem t_w_eqBoolS (k : Nat) (x) : evF TTab k [] [(0, ⟨[0, 1, 5], (.cons (.il true .bool) (.cons (.il true .bool) (.cons (.int .i64) .nil)))⟩, ⟨[], .nil⟩)] Try.f154 (.cons (.il true .bool) (.cons (.il true .bool) .nil)) .bool x = w_eqBoolS k x := by kernel_rfl
theorem e_w_eqBoolS [Names] (k : Nat) : EntryOk Try.prog ⟨154, 0, (.cons (.il true .bool) (.cons (.il true .bool) .nil)), .bool, w_eqBoolS k⟩ := entry_ok tok (by simp) (by kernel_rfl) (fn := Try.f154) (k := k) (es := []) (loops := [(0, ⟨[0, 1, 5], (.cons (.il true .bool) (.cons (.il true .bool) (.cons (.int .i64) .nil)))⟩, ⟨[], .nil⟩)]) (by kernel_rfl) (by kernel_rfl) (fun x r h => (t_w_eqBoolS k x).trans h)
def w_eqHeld (k : Nat) (x : (Int × Int × Int × List (ByteArray) × List (Bool) × Int × Unit) × (Int × Int × Int × List (ByteArray) × List (Bool) × Int × Unit) × Unit) : Option (Bool × Unit × Unit × Unit) :=
(if (!decide (x.1.1 = x.2.1.1)) = true then
some (false, ((), ((), ())))
else
(if (!decide (x.1.2.1 = x.2.1.2.1)) = true then
some (false, ((), ((), ())))
else
(if (!decide (x.1.2.2.1 = x.2.1.2.2.1)) = true then
some (false, ((), ((), ())))
else
((w_eqStringS k (x.1.2.2.2.1, (x.2.1.2.2.2.1, ()))).bind fun p1 =>
(if (!p1.1) = true then
some (false, ((), ((), ())))
else
((w_eqBoolS k (x.1.2.2.2.2.1, (x.2.1.2.2.2.2.1, ()))).bind fun p2 =>
(if (!p2.1) = true then
some (false, ((), ((), ())))
else
(if (!decide (x.1.2.2.2.2.2.1 = x.2.1.2.2.2.2.2.1)) = true then
some (false, ((), ((), ())))
else
some (true, ((), ((), ())))))))))))
theorem t_w_eqHeld (k : Nat) (x) : evF TTab k [⟨42, 0, (.cons (.il true .str) (.cons (.il true .str) .nil)), .bool, w_eqStringS k⟩, ⟨154, 0, (.cons (.il true .bool) (.cons (.il true .bool) .nil)), .bool, w_eqBoolS k⟩] [] Try.f123 (.cons (.agg (.cons (.int .i64) (.cons (.int .i64) (.cons (.int .i64) (.cons (.il true .str) (.cons (.il true .bool) (.cons (.int .i64) .nil))))))) (.cons (.agg (.cons (.int .i64) (.cons (.int .i64) (.cons (.int .i64) (.cons (.il true .str) (.cons (.il true .bool) (.cons (.int .i64) .nil))))))) .nil)) .bool x = w_eqHeld k x := by kernel_rfl
theorem e_w_eqHeld [Names] (k : Nat) : EntryOk Try.prog ⟨123, 0, (.cons (.agg (.cons (.int .i64) (.cons (.int .i64) (.cons (.int .i64) (.cons (.il true .str) (.cons (.il true .bool) (.cons (.int .i64) .nil))))))) (.cons (.agg (.cons (.int .i64) (.cons (.int .i64) (.cons (.int .i64) (.cons (.il true .str) (.cons (.il true .bool) (.cons (.int .i64) .nil))))))) .nil)), .bool, w_eqHeld k⟩ := entry_ok tok (by intro e he; simp only [List.mem_cons, List.not_mem_nil, or_false] at he; rcases he with rfl | rfl <;> first | exact e_w_eqStringS k | exact e_w_eqBoolS k) (by kernel_rfl) (fn := Try.f123) (k := k) (es := [⟨42, 0, (.cons (.il true .str) (.cons (.il true .str) .nil)), .bool, w_eqStringS k⟩, ⟨154, 0, (.cons (.il true .bool) (.cons (.il true .bool) .nil)), .bool, w_eqBoolS k⟩]) (loops := []) (by kernel_rfl) (by kernel_rfl) (fun x r h => (t_w_eqHeld k x).trans h)
def w_eqHeldS (k : Nat) (x : (List (Int × Int × Int × List (ByteArray) × List (Bool) × Int)) × (List (Int × Int × Int × List (ByteArray) × List (Bool) × Int)) × Unit) : Option (Bool × Unit × Unit × Unit) :=
(if (!decide ((List.length x.1 : Int) = (List.length x.2.1 : Int))) = true then
some (false, ((), ((), ())))
else
(whileK (fun (rec0 : ((List (Int × Int × Int × List (ByteArray) × List (Bool) × Int)) × (List (Int × Int × Int × List (ByteArray) × List (Bool) × Int)) × Int × Unit) → Option _) (y0 : (List (Int × Int × Int × List (ByteArray) × List (Bool) × Int)) × (List (Int × Int × Int × List (ByteArray) × List (Bool) × Int)) × Int × Unit) =>
(if (decide (y0.2.2.1 < (List.length y0.1 : Int))) = true then
(if 0 ≤ y0.2.2.1 ∧ y0.2.2.1 < (List.length y0.1 : Int) then
(if 0 ≤ y0.2.2.1 ∧ y0.2.2.1 < (List.length y0.2.1 : Int) then
((w_eqHeld k (((Ty.rd (t := (.pair (.int .i64) (.pair (.int .i64) (.pair (.int .i64) (.pair (.list .str) (.pair (.list .bool) (.int .i64))))))) y0.1 y0.2.2.1).1, ((Ty.rd (t := (.pair (.int .i64) (.pair (.int .i64) (.pair (.int .i64) (.pair (.list .str) (.pair (.list .bool) (.int .i64))))))) y0.1 y0.2.2.1).2.1, ((Ty.rd (t := (.pair (.int .i64) (.pair (.int .i64) (.pair (.int .i64) (.pair (.list .str) (.pair (.list .bool) (.int .i64))))))) y0.1 y0.2.2.1).2.2.1, ((Ty.rd (t := (.pair (.int .i64) (.pair (.int .i64) (.pair (.int .i64) (.pair (.list .str) (.pair (.list .bool) (.int .i64))))))) y0.1 y0.2.2.1).2.2.2.1, ((Ty.rd (t := (.pair (.int .i64) (.pair (.int .i64) (.pair (.int .i64) (.pair (.list .str) (.pair (.list .bool) (.int .i64))))))) y0.1 y0.2.2.1).2.2.2.2.1, ((Ty.rd (t := (.pair (.int .i64) (.pair (.int .i64) (.pair (.int .i64) (.pair (.list .str) (.pair (.list .bool) (.int .i64))))))) y0.1 y0.2.2.1).2.2.2.2.2, ())))))), (((Ty.rd (t := (.pair (.int .i64) (.pair (.int .i64) (.pair (.int .i64) (.pair (.list .str) (.pair (.list .bool) (.int .i64))))))) y0.2.1 y0.2.2.1).1, ((Ty.rd (t := (.pair (.int .i64) (.pair (.int .i64) (.pair (.int .i64) (.pair (.list .str) (.pair (.list .bool) (.int .i64))))))) y0.2.1 y0.2.2.1).2.1, ((Ty.rd (t := (.pair (.int .i64) (.pair (.int .i64) (.pair (.int .i64) (.pair (.list .str) (.pair (.list .bool) (.int .i64))))))) y0.2.1 y0.2.2.1).2.2.1, ((Ty.rd (t := (.pair (.int .i64) (.pair (.int .i64) (.pair (.int .i64) (.pair (.list .str) (.pair (.list .bool) (.int .i64))))))) y0.2.1 y0.2.2.1).2.2.2.1, ((Ty.rd (t := (.pair (.int .i64) (.pair (.int .i64) (.pair (.int .i64) (.pair (.list .str) (.pair (.list .bool) (.int .i64))))))) y0.2.1 y0.2.2.1).2.2.2.2.1, ((Ty.rd (t := (.pair (.int .i64) (.pair (.int .i64) (.pair (.int .i64) (.pair (.list .str) (.pair (.list .bool) (.int .i64))))))) y0.2.1 y0.2.2.1).2.2.2.2.2, ())))))), ()))).bind fun p1 =>
(if (!p1.1) = true then
some (false, ((), ((), ())))
else
(rec0 (y0.1, (y0.2.1, ((wi64 (y0.2.2.1 + (1 : Int))), ()))))))
else none)
else none)
else
((fun (z1 : Unit) =>
some (true, ((), ((), ())))) ()))) k (x.1, (x.2.1, ((0 : Int), ())))))
theorem t_w_eqHeldS (k : Nat) (x) : evF TTabO k [⟨123, 0, (.cons (.agg (.cons (.int .i64) (.cons (.int .i64) (.cons (.int .i64) (.cons (.il true .str) (.cons (.il true .bool) (.cons (.int .i64) .nil))))))) (.cons (.agg (.cons (.int .i64) (.cons (.int .i64) (.cons (.int .i64) (.cons (.il true .str) (.cons (.il true .bool) (.cons (.int .i64) .nil))))))) .nil)), .bool, w_eqHeld k⟩] [(0, ⟨[0, 1, 5], (.cons (.il true (.pair (.int .i64) (.pair (.int .i64) (.pair (.int .i64) (.pair (.list .str) (.pair (.list .bool) (.int .i64))))))) (.cons (.il true (.pair (.int .i64) (.pair (.int .i64) (.pair (.int .i64) (.pair (.list .str) (.pair (.list .bool) (.int .i64))))))) (.cons (.int .i64) .nil)))⟩, ⟨[], .nil⟩)] Try.f71 (.cons (.il true (.pair (.int .i64) (.pair (.int .i64) (.pair (.int .i64) (.pair (.list .str) (.pair (.list .bool) (.int .i64))))))) (.cons (.il true (.pair (.int .i64) (.pair (.int .i64) (.pair (.int .i64) (.pair (.list .str) (.pair (.list .bool) (.int .i64))))))) .nil)) .bool x = w_eqHeldS k x := by kernel_rfl
theorem e_w_eqHeldS [Names] (k : Nat) : EntryOk Try.prog ⟨71, 0, (.cons (.il true (.pair (.int .i64) (.pair (.int .i64) (.pair (.int .i64) (.pair (.list .str) (.pair (.list .bool) (.int .i64))))))) (.cons (.il true (.pair (.int .i64) (.pair (.int .i64) (.pair (.int .i64) (.pair (.list .str) (.pair (.list .bool) (.int .i64))))))) .nil)), .bool, w_eqHeldS k⟩ := entry_ok tokO (by intro e he; simp only [List.mem_cons, List.not_mem_nil, or_false] at he; rcases he with rfl <;> first | exact e_w_eqHeld k) (by kernel_rfl) (fn := Try.f71) (k := k) (es := [⟨123, 0, (.cons (.agg (.cons (.int .i64) (.cons (.int .i64) (.cons (.int .i64) (.cons (.il true .str) (.cons (.il true .bool) (.cons (.int .i64) .nil))))))) (.cons (.agg (.cons (.int .i64) (.cons (.int .i64) (.cons (.int .i64) (.cons (.il true .str) (.cons (.il true .bool) (.cons (.int .i64) .nil))))))) .nil)), .bool, w_eqHeld k⟩]) (loops := [(0, ⟨[0, 1, 5], (.cons (.il true (.pair (.int .i64) (.pair (.int .i64) (.pair (.int .i64) (.pair (.list .str) (.pair (.list .bool) (.int .i64))))))) (.cons (.il true (.pair (.int .i64) (.pair (.int .i64) (.pair (.int .i64) (.pair (.list .str) (.pair (.list .bool) (.int .i64))))))) (.cons (.int .i64) .nil)))⟩, ⟨[], .nil⟩)]) (by kernel_rfl) (by kernel_rfl) (fun x r h => (t_w_eqHeldS k x).trans h)
def w_eqShelf (k : Nat) (x : ((List (Int × Int × Int × List (ByteArray) × List (Bool) × Int)) × Unit) × ((List (Int × Int × Int × List (ByteArray) × List (Bool) × Int)) × Unit) × Unit) : Option (Bool × Unit × Unit × Unit) :=
((w_eqHeldS k (x.1.1, (x.2.1.1, ()))).bind fun p1 =>
(if (!p1.1) = true then
some (false, ((), ((), ())))
else
some (true, ((), ((), ())))))
theorem t_w_eqShelf (k : Nat) (x) : evF TTabO k [⟨71, 0, (.cons (.il true (.pair (.int .i64) (.pair (.int .i64) (.pair (.int .i64) (.pair (.list .str) (.pair (.list .bool) (.int .i64))))))) (.cons (.il true (.pair (.int .i64) (.pair (.int .i64) (.pair (.int .i64) (.pair (.list .str) (.pair (.list .bool) (.int .i64))))))) .nil)), .bool, w_eqHeldS k⟩] [] Try.f24 (.cons (.agg (.cons (.il true (.pair (.int .i64) (.pair (.int .i64) (.pair (.int .i64) (.pair (.list .str) (.pair (.list .bool) (.int .i64))))))) .nil)) (.cons (.agg (.cons (.il true (.pair (.int .i64) (.pair (.int .i64) (.pair (.int .i64) (.pair (.list .str) (.pair (.list .bool) (.int .i64))))))) .nil)) .nil)) .bool x = w_eqShelf k x := by kernel_rfl
theorem e_w_eqShelf [Names] (k : Nat) : EntryOk Try.prog ⟨24, 0, (.cons (.agg (.cons (.il true (.pair (.int .i64) (.pair (.int .i64) (.pair (.int .i64) (.pair (.list .str) (.pair (.list .bool) (.int .i64))))))) .nil)) (.cons (.agg (.cons (.il true (.pair (.int .i64) (.pair (.int .i64) (.pair (.int .i64) (.pair (.list .str) (.pair (.list .bool) (.int .i64))))))) .nil)) .nil)), .bool, w_eqShelf k⟩ := entry_ok tokO (by intro e he; simp only [List.mem_cons, List.not_mem_nil, or_false] at he; rcases he with rfl <;> first | exact e_w_eqHeldS k) (by kernel_rfl) (fn := Try.f24) (k := k) (es := [⟨71, 0, (.cons (.il true (.pair (.int .i64) (.pair (.int .i64) (.pair (.int .i64) (.pair (.list .str) (.pair (.list .bool) (.int .i64))))))) (.cons (.il true (.pair (.int .i64) (.pair (.int .i64) (.pair (.int .i64) (.pair (.list .str) (.pair (.list .bool) (.int .i64))))))) .nil)), .bool, w_eqHeldS k⟩]) (loops := []) (by kernel_rfl) (by kernel_rfl) (fun x r h => (t_w_eqShelf k x).trans h)
def w_markText (k : Nat) (x : Int × Unit) : Option (ByteArray × Unit × Unit) :=
(if (decide (x.1 ≤ (0 : Int))) = true then
some ((⟨#[109, 48]⟩ : ByteArray), ((), ()))
else
(whileK (fun (rec0 : (Int × ByteArray × Unit) → Option _) (y0 : Int × ByteArray × Unit) =>
(if (decide ((0 : Int) < y0.1)) = true then
(if ByteArray.size (strOf ([(wu8 ((wi64 ((48 : Int) + (Int.tmod y0.1 (10 : Int))))))] : List (Int))) + ByteArray.size y0.2.1 ≤ maxStr then
(rec0 ((wi64 (Int.tdiv y0.1 (10 : Int))), (((strOf ([(wu8 ((wi64 ((48 : Int) + (Int.tmod y0.1 (10 : Int))))))] : List (Int))) ++ y0.2.1), ())))
else none)
else
((fun (z1 : ByteArray × Unit) =>
(if ByteArray.size (⟨#[109]⟩ : ByteArray) + ByteArray.size z1.1 ≤ maxStr then
some (((⟨#[109]⟩ : ByteArray) ++ z1.1), ((), ()))
else none)) (y0.2.1, ())))) k (x.1, ((⟨#[]⟩ : ByteArray), ()))))
theorem t_w_markText (k : Nat) (x) : evF TTab k [] [(0, ⟨[0, 3], (.cons (.int .i64) (.cons .str .nil))⟩, ⟨[3], (.cons .str .nil)⟩)] Try.f100 (.cons (.int .i64) .nil) .str x = w_markText k x := by kernel_rfl
theorem e_w_markText [Names] (k : Nat) : EntryOk Try.prog ⟨100, 0, (.cons (.int .i64) .nil), .str, w_markText k⟩ := entry_ok tok (by simp) (by kernel_rfl) (fn := Try.f100) (k := k) (es := []) (loops := [(0, ⟨[0, 3], (.cons (.int .i64) (.cons .str .nil))⟩, ⟨[3], (.cons .str .nil)⟩)]) (by kernel_rfl) (by kernel_rfl) (fun x r h => (t_w_markText k x).trans h)
def w_markStringS (k : Nat) (x : List (ByteArray) × Int × Unit) : Option (Int × List (ByteArray) × Unit × Unit) :=
(whileK (fun (rec0 : (List (ByteArray) × Int × Int × Unit) → Option _) (y0 : List (ByteArray) × Int × Int × Unit) =>
(if (decide (y0.2.2.1 < (List.length y0.1 : Int))) = true then
((w_markText k (y0.2.1, ())).bind fun p1 =>
(if 0 ≤ y0.2.2.1 ∧ y0.2.2.1 < (List.length y0.1 : Int) then
(rec0 ((List.set y0.1 (Int.toNat y0.2.2.1) p1.1), ((wi64 (y0.2.1 + (1 : Int))), ((wi64 (y0.2.2.1 + (1 : Int))), ()))))
else none))
else
((fun (z1 : List (ByteArray) × Int × Unit) =>
some (z1.2.1, (z1.1, ((), ())))) (y0.1, (y0.2.1, ()))))) k (x.1, (x.2.1, ((0 : Int), ()))))
theorem t_w_markStringS (k : Nat) (x) : evF TTab k [⟨100, 0, (.cons (.int .i64) .nil), .str, w_markText k⟩] [(0, ⟨[0, 1, 5], (.cons (.own false 9 .str) (.cons (.int .i64) (.cons (.int .i64) .nil)))⟩, ⟨[0, 1], (.cons (.own false 9 .str) (.cons (.int .i64) .nil))⟩)] Try.f44 (.cons (.mut false 9 .str) (.cons (.int .i64) .nil)) (.int .i64) x = w_markStringS k x := by kernel_rfl
theorem e_w_markStringS [Names] (k : Nat) : EntryOk Try.prog ⟨44, 0, (.cons (.mut false 9 .str) (.cons (.int .i64) .nil)), (.int .i64), w_markStringS k⟩ := entry_ok tok (by intro e he; simp only [List.mem_cons, List.not_mem_nil, or_false] at he; rcases he with rfl <;> first | exact e_w_markText k) (by kernel_rfl) (fn := Try.f44) (k := k) (es := [⟨100, 0, (.cons (.int .i64) .nil), .str, w_markText k⟩]) (loops := [(0, ⟨[0, 1, 5], (.cons (.own false 9 .str) (.cons (.int .i64) (.cons (.int .i64) .nil)))⟩, ⟨[0, 1], (.cons (.own false 9 .str) (.cons (.int .i64) .nil))⟩)]) (by kernel_rfl) (by kernel_rfl) (fun x r h => (t_w_markStringS k x).trans h)
def w_markBoolS (k : Nat) (x : List (Bool) × Int × Unit) : Option (Int × List (Bool) × Unit × Unit) :=
(whileK (fun (rec0 : (List (Bool) × Int × Int × Unit) → Option _) (y0 : List (Bool) × Int × Int × Unit) =>
(if (decide (y0.2.2.1 < (List.length y0.1 : Int))) = true then
(if 0 ≤ y0.2.2.1 ∧ y0.2.2.1 < (List.length y0.1 : Int) then
(rec0 ((List.set y0.1 (Int.toNat y0.2.2.1) (decide ((Int.tmod y0.2.1 (3 : Int)) = (0 : Int)))), ((wi64 (y0.2.1 + (1 : Int))), ((wi64 (y0.2.2.1 + (1 : Int))), ()))))
else none)
else
((fun (z1 : List (Bool) × Int × Unit) =>
some (z1.2.1, (z1.1, ((), ())))) (y0.1, (y0.2.1, ()))))) k (x.1, (x.2.1, ((0 : Int), ()))))
theorem t_w_markBoolS (k : Nat) (x) : evF TTab k [] [(0, ⟨[0, 1, 5], (.cons (.own false 4 .bool) (.cons (.int .i64) (.cons (.int .i64) .nil)))⟩, ⟨[0, 1], (.cons (.own false 4 .bool) (.cons (.int .i64) .nil))⟩)] Try.f124 (.cons (.mut false 4 .bool) (.cons (.int .i64) .nil)) (.int .i64) x = w_markBoolS k x := by kernel_rfl
theorem e_w_markBoolS [Names] (k : Nat) : EntryOk Try.prog ⟨124, 0, (.cons (.mut false 4 .bool) (.cons (.int .i64) .nil)), (.int .i64), w_markBoolS k⟩ := entry_ok tok (by simp) (by kernel_rfl) (fn := Try.f124) (k := k) (es := []) (loops := [(0, ⟨[0, 1, 5], (.cons (.own false 4 .bool) (.cons (.int .i64) (.cons (.int .i64) .nil)))⟩, ⟨[0, 1], (.cons (.own false 4 .bool) (.cons (.int .i64) .nil))⟩)]) (by kernel_rfl) (by kernel_rfl) (fun x r h => (t_w_markBoolS k x).trans h)
def w_markHeldS (k : Nat) (x : (List (Int × Int × Int × List (ByteArray) × List (Bool) × Int)) × Int × Unit) : Option (Int × (List (Int × Int × Int × List (ByteArray) × List (Bool) × Int)) × Unit × Unit) :=
(whileK (fun (rec0 : ((List (Int × Int × Int × List (ByteArray) × List (Bool) × Int)) × Int × Int × Unit) → Option _) (y0 : (List (Int × Int × Int × List (ByteArray) × List (Bool) × Int)) × Int × Int × Unit) =>
(if (decide (y0.2.2.1 < (List.length y0.1 : Int))) = true then
(if 0 ≤ y0.2.2.1 ∧ y0.2.2.1 < (List.length y0.1 : Int) then
(if 0 ≤ y0.2.2.1 ∧ y0.2.2.1 < (List.length (List.set y0.1 (Int.toNat y0.2.2.1) (y0.2.1, (Ty.rd (t := (.pair (.int .i64) (.pair (.int .i64) (.pair (.int .i64) (.pair (.ols 9 .str) (.pair (.ols 4 .bool) (.int .i64))))))) y0.1 y0.2.2.1).2)) : Int) then
(jn (List.set (List.set y0.1 (Int.toNat y0.2.2.1) (y0.2.1, (Ty.rd (t := (.pair (.int .i64) (.pair (.int .i64) (.pair (.int .i64) (.pair (.ols 9 .str) (.pair (.ols 4 .bool) (.int .i64))))))) y0.1 y0.2.2.1).2)) (Int.toNat y0.2.2.1) ((Ty.rd (t := (.pair (.int .i64) (.pair (.int .i64) (.pair (.int .i64) (.pair (.ols 9 .str) (.pair (.ols 4 .bool) (.int .i64))))))) (List.set y0.1 (Int.toNat y0.2.2.1) (y0.2.1, (Ty.rd (t := (.pair (.int .i64) (.pair (.int .i64) (.pair (.int .i64) (.pair (.ols 9 .str) (.pair (.ols 4 .bool) (.int .i64))))))) y0.1 y0.2.2.1).2)) y0.2.2.1).1, ((wi64 (y0.2.1 + (1 : Int))), (Ty.rd (t := (.pair (.int .i64) (.pair (.int .i64) (.pair (.int .i64) (.pair (.ols 9 .str) (.pair (.ols 4 .bool) (.int .i64))))))) (List.set y0.1 (Int.toNat y0.2.2.1) (y0.2.1, (Ty.rd (t := (.pair (.int .i64) (.pair (.int .i64) (.pair (.int .i64) (.pair (.ols 9 .str) (.pair (.ols 4 .bool) (.int .i64))))))) y0.1 y0.2.2.1).2)) y0.2.2.1).2.2))) (fun (q10 : List (Int × Int × Int × List (ByteArray) × List (Bool) × Int)) =>
(if 0 ≤ y0.2.2.1 ∧ y0.2.2.1 < (List.length q10 : Int) then
(jn (List.set q10 (Int.toNat y0.2.2.1) ((Ty.rd (t := (.pair (.int .i64) (.pair (.int .i64) (.pair (.int .i64) (.pair (.ols 9 .str) (.pair (.ols 4 .bool) (.int .i64))))))) q10 y0.2.2.1).1, ((Ty.rd (t := (.pair (.int .i64) (.pair (.int .i64) (.pair (.int .i64) (.pair (.ols 9 .str) (.pair (.ols 4 .bool) (.int .i64))))))) q10 y0.2.2.1).2.1, ((wi64 ((wi64 (y0.2.1 + (1 : Int))) + (1 : Int))), (Ty.rd (t := (.pair (.int .i64) (.pair (.int .i64) (.pair (.int .i64) (.pair (.ols 9 .str) (.pair (.ols 4 .bool) (.int .i64))))))) q10 y0.2.2.1).2.2.2)))) (fun (q11 : List (Int × Int × Int × List (ByteArray) × List (Bool) × Int)) =>
(if 0 ≤ y0.2.2.1 ∧ y0.2.2.1 < (List.length q11 : Int) then
((w_markStringS k ((Ty.rd (t := (.pair (.int .i64) (.pair (.int .i64) (.pair (.int .i64) (.pair (.ols 9 .str) (.pair (.ols 4 .bool) (.int .i64))))))) q11 y0.2.2.1).2.2.2.1, ((wi64 ((wi64 ((wi64 (y0.2.1 + (1 : Int))) + (1 : Int))) + (1 : Int))), ()))).bind fun p1 =>
(jn (List.set q11 (Int.toNat y0.2.2.1) ((Ty.rd (t := (.pair (.int .i64) (.pair (.int .i64) (.pair (.int .i64) (.pair (.ols 9 .str) (.pair (.ols 4 .bool) (.int .i64))))))) q11 y0.2.2.1).1, ((Ty.rd (t := (.pair (.int .i64) (.pair (.int .i64) (.pair (.int .i64) (.pair (.ols 9 .str) (.pair (.ols 4 .bool) (.int .i64))))))) q11 y0.2.2.1).2.1, ((Ty.rd (t := (.pair (.int .i64) (.pair (.int .i64) (.pair (.int .i64) (.pair (.ols 9 .str) (.pair (.ols 4 .bool) (.int .i64))))))) q11 y0.2.2.1).2.2.1, (p1.2.1, (Ty.rd (t := (.pair (.int .i64) (.pair (.int .i64) (.pair (.int .i64) (.pair (.ols 9 .str) (.pair (.ols 4 .bool) (.int .i64))))))) q11 y0.2.2.1).2.2.2.2))))) (fun (q12 : List (Int × Int × Int × List (ByteArray) × List (Bool) × Int)) =>
(if 0 ≤ y0.2.2.1 ∧ y0.2.2.1 < (List.length q12 : Int) then
((w_markBoolS k ((Ty.rd (t := (.pair (.int .i64) (.pair (.int .i64) (.pair (.int .i64) (.pair (.ols 9 .str) (.pair (.ols 4 .bool) (.int .i64))))))) q12 y0.2.2.1).2.2.2.2.1, (p1.1, ()))).bind fun p2 =>
(jn (List.set q12 (Int.toNat y0.2.2.1) ((Ty.rd (t := (.pair (.int .i64) (.pair (.int .i64) (.pair (.int .i64) (.pair (.ols 9 .str) (.pair (.ols 4 .bool) (.int .i64))))))) q12 y0.2.2.1).1, ((Ty.rd (t := (.pair (.int .i64) (.pair (.int .i64) (.pair (.int .i64) (.pair (.ols 9 .str) (.pair (.ols 4 .bool) (.int .i64))))))) q12 y0.2.2.1).2.1, ((Ty.rd (t := (.pair (.int .i64) (.pair (.int .i64) (.pair (.int .i64) (.pair (.ols 9 .str) (.pair (.ols 4 .bool) (.int .i64))))))) q12 y0.2.2.1).2.2.1, ((Ty.rd (t := (.pair (.int .i64) (.pair (.int .i64) (.pair (.int .i64) (.pair (.ols 9 .str) (.pair (.ols 4 .bool) (.int .i64))))))) q12 y0.2.2.1).2.2.2.1, (p2.2.1, (Ty.rd (t := (.pair (.int .i64) (.pair (.int .i64) (.pair (.int .i64) (.pair (.ols 9 .str) (.pair (.ols 4 .bool) (.int .i64))))))) q12 y0.2.2.1).2.2.2.2.2)))))) (fun (q13 : List (Int × Int × Int × List (ByteArray) × List (Bool) × Int)) =>
(if 0 ≤ y0.2.2.1 ∧ y0.2.2.1 < (List.length q13 : Int) then
(jn (List.set q13 (Int.toNat y0.2.2.1) ((Ty.rd (t := (.pair (.int .i64) (.pair (.int .i64) (.pair (.int .i64) (.pair (.ols 9 .str) (.pair (.ols 4 .bool) (.int .i64))))))) q13 y0.2.2.1).1, ((Ty.rd (t := (.pair (.int .i64) (.pair (.int .i64) (.pair (.int .i64) (.pair (.ols 9 .str) (.pair (.ols 4 .bool) (.int .i64))))))) q13 y0.2.2.1).2.1, ((Ty.rd (t := (.pair (.int .i64) (.pair (.int .i64) (.pair (.int .i64) (.pair (.ols 9 .str) (.pair (.ols 4 .bool) (.int .i64))))))) q13 y0.2.2.1).2.2.1, ((Ty.rd (t := (.pair (.int .i64) (.pair (.int .i64) (.pair (.int .i64) (.pair (.ols 9 .str) (.pair (.ols 4 .bool) (.int .i64))))))) q13 y0.2.2.1).2.2.2.1, ((Ty.rd (t := (.pair (.int .i64) (.pair (.int .i64) (.pair (.int .i64) (.pair (.ols 9 .str) (.pair (.ols 4 .bool) (.int .i64))))))) q13 y0.2.2.1).2.2.2.2.1, p2.1)))))) (fun (q14 : List (Int × Int × Int × List (ByteArray) × List (Bool) × Int)) =>
(rec0 (q14, ((wi64 (p2.1 + (1 : Int))), ((wi64 (y0.2.2.1 + (1 : Int))), ()))))))
else none))))
else none))))
else none)))
else none)))
else none)
else none)
else
((fun (z1 : (List (Int × Int × Int × List (ByteArray) × List (Bool) × Int)) × Int × Unit) =>
some (z1.2.1, (z1.1, ((), ())))) (y0.1, (y0.2.1, ()))))) k (x.1, (x.2.1, ((0 : Int), ()))))
theorem t_w_markHeldS (k : Nat) (x) : evF TTabO k [⟨44, 0, (.cons (.mut false 9 .str) (.cons (.int .i64) .nil)), (.int .i64), w_markStringS k⟩, ⟨124, 0, (.cons (.mut false 4 .bool) (.cons (.int .i64) .nil)), (.int .i64), w_markBoolS k⟩] [(0, ⟨[0, 1, 5], (.cons (.own false 53 (.pair (.int .i64) (.pair (.int .i64) (.pair (.int .i64) (.pair (.ols 9 .str) (.pair (.ols 4 .bool) (.int .i64))))))) (.cons (.int .i64) (.cons (.int .i64) .nil)))⟩, ⟨[0, 1], (.cons (.own false 53 (.pair (.int .i64) (.pair (.int .i64) (.pair (.int .i64) (.pair (.ols 9 .str) (.pair (.ols 4 .bool) (.int .i64))))))) (.cons (.int .i64) .nil))⟩)] Try.f72 (.cons (.mut false 53 (.pair (.int .i64) (.pair (.int .i64) (.pair (.int .i64) (.pair (.ols 9 .str) (.pair (.ols 4 .bool) (.int .i64))))))) (.cons (.int .i64) .nil)) (.int .i64) x = w_markHeldS k x := by kernel_rfl
theorem e_w_markHeldS [Names] (k : Nat) : EntryOk Try.prog ⟨72, 0, (.cons (.mut false 53 (.pair (.int .i64) (.pair (.int .i64) (.pair (.int .i64) (.pair (.ols 9 .str) (.pair (.ols 4 .bool) (.int .i64))))))) (.cons (.int .i64) .nil)), (.int .i64), w_markHeldS k⟩ := entry_ok tokO (by intro e he; simp only [List.mem_cons, List.not_mem_nil, or_false] at he; rcases he with rfl | rfl <;> first | exact e_w_markStringS k | exact e_w_markBoolS k) (by kernel_rfl) (fn := Try.f72) (k := k) (es := [⟨44, 0, (.cons (.mut false 9 .str) (.cons (.int .i64) .nil)), (.int .i64), w_markStringS k⟩, ⟨124, 0, (.cons (.mut false 4 .bool) (.cons (.int .i64) .nil)), (.int .i64), w_markBoolS k⟩]) (loops := [(0, ⟨[0, 1, 5], (.cons (.own false 53 (.pair (.int .i64) (.pair (.int .i64) (.pair (.int .i64) (.pair (.ols 9 .str) (.pair (.ols 4 .bool) (.int .i64))))))) (.cons (.int .i64) (.cons (.int .i64) .nil)))⟩, ⟨[0, 1], (.cons (.own false 53 (.pair (.int .i64) (.pair (.int .i64) (.pair (.int .i64) (.pair (.ols 9 .str) (.pair (.ols 4 .bool) (.int .i64))))))) (.cons (.int .i64) .nil))⟩)]) (by kernel_rfl) (by kernel_rfl) (fun x r h => (t_w_markHeldS k x).trans h)
def w_markShelf (k : Nat) (x : ((List (Int × Int × Int × List (ByteArray) × List (Bool) × Int)) × Unit) × Int × Unit) : Option (Int × ((List (Int × Int × Int × List (ByteArray) × List (Bool) × Int)) × Unit) × Unit × Unit) :=
((w_markHeldS k (x.1.1, (x.2.1, ()))).bind fun p1 =>
some (p1.1, ((p1.2.1, ()), ((), ()))))
theorem t_w_markShelf (k : Nat) (x) : evF TTabO k [⟨72, 0, (.cons (.mut false 53 (.pair (.int .i64) (.pair (.int .i64) (.pair (.int .i64) (.pair (.ols 9 .str) (.pair (.ols 4 .bool) (.int .i64))))))) (.cons (.int .i64) .nil)), (.int .i64), w_markHeldS k⟩] [] Try.f25 (.cons (.mag (.cons (.mut false 53 (.pair (.int .i64) (.pair (.int .i64) (.pair (.int .i64) (.pair (.ols 9 .str) (.pair (.ols 4 .bool) (.int .i64))))))) .nil)) (.cons (.int .i64) .nil)) (.int .i64) x = w_markShelf k x := by kernel_rfl
theorem e_w_markShelf [Names] (k : Nat) : EntryOk Try.prog ⟨25, 0, (.cons (.mag (.cons (.mut false 53 (.pair (.int .i64) (.pair (.int .i64) (.pair (.int .i64) (.pair (.ols 9 .str) (.pair (.ols 4 .bool) (.int .i64))))))) .nil)) (.cons (.int .i64) .nil)), (.int .i64), w_markShelf k⟩ := entry_ok tokO (by intro e he; simp only [List.mem_cons, List.not_mem_nil, or_false] at he; rcases he with rfl <;> first | exact e_w_markHeldS k) (by kernel_rfl) (fn := Try.f25) (k := k) (es := [⟨72, 0, (.cons (.mut false 53 (.pair (.int .i64) (.pair (.int .i64) (.pair (.int .i64) (.pair (.ols 9 .str) (.pair (.ols 4 .bool) (.int .i64))))))) (.cons (.int .i64) .nil)), (.int .i64), w_markHeldS k⟩]) (loops := []) (by kernel_rfl) (by kernel_rfl) (fun x r h => (t_w_markShelf k x).trans h)
def w_heldStringS (k : Nat) (x : List (ByteArray) × Int × Unit) : Option (Int × Unit × Unit × Unit) :=
(whileK (fun (rec0 : (List (ByteArray) × Int × Int × Unit) → Option _) (y0 : List (ByteArray) × Int × Int × Unit) =>
(if (decide (y0.2.2.1 < (List.length y0.1 : Int))) = true then
(if 0 ≤ y0.2.2.1 ∧ y0.2.2.1 < (List.length y0.1 : Int) then
((w_markText k (y0.2.1, ())).bind fun p1 =>
(if (!decide ((Ty.rd (t := .str) y0.1 y0.2.2.1) = p1.1)) = true then
some ((-1 : Int), ((), ((), ())))
else
(rec0 (y0.1, ((wi64 (y0.2.1 + (1 : Int))), ((wi64 (y0.2.2.1 + (1 : Int))), ()))))))
else none)
else
((fun (z1 : Int × Unit) =>
some (z1.1, ((), ((), ())))) (y0.2.1, ())))) k (x.1, (x.2.1, ((0 : Int), ()))))
theorem t_w_heldStringS (k : Nat) (x) : evF TTab k [⟨100, 0, (.cons (.int .i64) .nil), .str, w_markText k⟩] [(0, ⟨[0, 1, 5], (.cons (.il true .str) (.cons (.int .i64) (.cons (.int .i64) .nil)))⟩, ⟨[1], (.cons (.int .i64) .nil)⟩)] Try.f125 (.cons (.il true .str) (.cons (.int .i64) .nil)) (.int .i64) x = w_heldStringS k x := by kernel_rfl
theorem e_w_heldStringS [Names] (k : Nat) : EntryOk Try.prog ⟨125, 0, (.cons (.il true .str) (.cons (.int .i64) .nil)), (.int .i64), w_heldStringS k⟩ := entry_ok tok (by intro e he; simp only [List.mem_cons, List.not_mem_nil, or_false] at he; rcases he with rfl <;> first | exact e_w_markText k) (by kernel_rfl) (fn := Try.f125) (k := k) (es := [⟨100, 0, (.cons (.int .i64) .nil), .str, w_markText k⟩]) (loops := [(0, ⟨[0, 1, 5], (.cons (.il true .str) (.cons (.int .i64) (.cons (.int .i64) .nil)))⟩, ⟨[1], (.cons (.int .i64) .nil)⟩)]) (by kernel_rfl) (by kernel_rfl) (fun x r h => (t_w_heldStringS k x).trans h)
def w_heldBoolS (k : Nat) (x : List (Bool) × Int × Unit) : Option (Int × Unit × Unit × Unit) :=
(whileK (fun (rec0 : (List (Bool) × Int × Int × Unit) → Option _) (y0 : List (Bool) × Int × Int × Unit) =>
(if (decide (y0.2.2.1 < (List.length y0.1 : Int))) = true then
(if 0 ≤ y0.2.2.1 ∧ y0.2.2.1 < (List.length y0.1 : Int) then
(if (!decide ((Ty.rd (t := .bool) y0.1 y0.2.2.1) = (decide ((Int.tmod y0.2.1 (3 : Int)) = (0 : Int))))) = true then
some ((-1 : Int), ((), ((), ())))
else
(rec0 (y0.1, ((wi64 (y0.2.1 + (1 : Int))), ((wi64 (y0.2.2.1 + (1 : Int))), ())))))
else none)
else
((fun (z1 : Int × Unit) =>
some (z1.1, ((), ((), ())))) (y0.2.1, ())))) k (x.1, (x.2.1, ((0 : Int), ()))))
theorem t_w_heldBoolS (k : Nat) (x) : evF TTab k [] [(0, ⟨[0, 1, 5], (.cons (.il true .bool) (.cons (.int .i64) (.cons (.int .i64) .nil)))⟩, ⟨[1], (.cons (.int .i64) .nil)⟩)] Try.f126 (.cons (.il true .bool) (.cons (.int .i64) .nil)) (.int .i64) x = w_heldBoolS k x := by kernel_rfl
theorem e_w_heldBoolS [Names] (k : Nat) : EntryOk Try.prog ⟨126, 0, (.cons (.il true .bool) (.cons (.int .i64) .nil)), (.int .i64), w_heldBoolS k⟩ := entry_ok tok (by simp) (by kernel_rfl) (fn := Try.f126) (k := k) (es := []) (loops := [(0, ⟨[0, 1, 5], (.cons (.il true .bool) (.cons (.int .i64) (.cons (.int .i64) .nil)))⟩, ⟨[1], (.cons (.int .i64) .nil)⟩)]) (by kernel_rfl) (by kernel_rfl) (fun x r h => (t_w_heldBoolS k x).trans h)
def w_heldHeldS (k : Nat) (x : (List (Int × Int × Int × List (ByteArray) × List (Bool) × Int)) × Int × Unit) : Option (Int × Unit × Unit × Unit) :=
(whileK (fun (rec0 : ((List (Int × Int × Int × List (ByteArray) × List (Bool) × Int)) × Int × Int × Unit) → Option _) (y0 : (List (Int × Int × Int × List (ByteArray) × List (Bool) × Int)) × Int × Int × Unit) =>
(if (decide (y0.2.2.1 < (List.length y0.1 : Int))) = true then
(if 0 ≤ y0.2.2.1 ∧ y0.2.2.1 < (List.length y0.1 : Int) then
(if (!decide ((Ty.rd (t := (.pair (.int .i64) (.pair (.int .i64) (.pair (.int .i64) (.pair (.list .str) (.pair (.list .bool) (.int .i64))))))) y0.1 y0.2.2.1).1 = y0.2.1)) = true then
some ((-1 : Int), ((), ((), ())))
else
(if 0 ≤ y0.2.2.1 ∧ y0.2.2.1 < (List.length y0.1 : Int) then
(if (!decide ((Ty.rd (t := (.pair (.int .i64) (.pair (.int .i64) (.pair (.int .i64) (.pair (.list .str) (.pair (.list .bool) (.int .i64))))))) y0.1 y0.2.2.1).2.1 = (wi64 (y0.2.1 + (1 : Int))))) = true then
some ((-1 : Int), ((), ((), ())))
else
(if 0 ≤ y0.2.2.1 ∧ y0.2.2.1 < (List.length y0.1 : Int) then
(if (!decide ((Ty.rd (t := (.pair (.int .i64) (.pair (.int .i64) (.pair (.int .i64) (.pair (.list .str) (.pair (.list .bool) (.int .i64))))))) y0.1 y0.2.2.1).2.2.1 = (wi64 ((wi64 (y0.2.1 + (1 : Int))) + (1 : Int))))) = true then
some ((-1 : Int), ((), ((), ())))
else
(if 0 ≤ y0.2.2.1 ∧ y0.2.2.1 < (List.length y0.1 : Int) then
((w_heldStringS k ((Ty.rd (t := (.pair (.int .i64) (.pair (.int .i64) (.pair (.int .i64) (.pair (.list .str) (.pair (.list .bool) (.int .i64))))))) y0.1 y0.2.2.1).2.2.2.1, ((wi64 ((wi64 ((wi64 (y0.2.1 + (1 : Int))) + (1 : Int))) + (1 : Int))), ()))).bind fun p1 =>
(if (decide (p1.1 < (0 : Int))) = true then
some ((-1 : Int), ((), ((), ())))
else
(if 0 ≤ y0.2.2.1 ∧ y0.2.2.1 < (List.length y0.1 : Int) then
((w_heldBoolS k ((Ty.rd (t := (.pair (.int .i64) (.pair (.int .i64) (.pair (.int .i64) (.pair (.list .str) (.pair (.list .bool) (.int .i64))))))) y0.1 y0.2.2.1).2.2.2.2.1, (p1.1, ()))).bind fun p2 =>
(if (decide (p2.1 < (0 : Int))) = true then
some ((-1 : Int), ((), ((), ())))
else
(if 0 ≤ y0.2.2.1 ∧ y0.2.2.1 < (List.length y0.1 : Int) then
(if (!decide ((Ty.rd (t := (.pair (.int .i64) (.pair (.int .i64) (.pair (.int .i64) (.pair (.list .str) (.pair (.list .bool) (.int .i64))))))) y0.1 y0.2.2.1).2.2.2.2.2 = p2.1)) = true then
some ((-1 : Int), ((), ((), ())))
else
(rec0 (y0.1, ((wi64 (p2.1 + (1 : Int))), ((wi64 (y0.2.2.1 + (1 : Int))), ())))))
else none)))
else none)))
else none))
else none))
else none))
else none)
else
((fun (z1 : Int × Unit) =>
some (z1.1, ((), ((), ())))) (y0.2.1, ())))) k (x.1, (x.2.1, ((0 : Int), ()))))
theorem t_w_heldHeldS (k : Nat) (x) : evF TTabO k [⟨125, 0, (.cons (.il true .str) (.cons (.int .i64) .nil)), (.int .i64), w_heldStringS k⟩, ⟨126, 0, (.cons (.il true .bool) (.cons (.int .i64) .nil)), (.int .i64), w_heldBoolS k⟩] [(0, ⟨[0, 1, 5], (.cons (.il true (.pair (.int .i64) (.pair (.int .i64) (.pair (.int .i64) (.pair (.list .str) (.pair (.list .bool) (.int .i64))))))) (.cons (.int .i64) (.cons (.int .i64) .nil)))⟩, ⟨[1], (.cons (.int .i64) .nil)⟩)] Try.f73 (.cons (.il true (.pair (.int .i64) (.pair (.int .i64) (.pair (.int .i64) (.pair (.list .str) (.pair (.list .bool) (.int .i64))))))) (.cons (.int .i64) .nil)) (.int .i64) x = w_heldHeldS k x := by kernel_rfl
theorem e_w_heldHeldS [Names] (k : Nat) : EntryOk Try.prog ⟨73, 0, (.cons (.il true (.pair (.int .i64) (.pair (.int .i64) (.pair (.int .i64) (.pair (.list .str) (.pair (.list .bool) (.int .i64))))))) (.cons (.int .i64) .nil)), (.int .i64), w_heldHeldS k⟩ := entry_ok tokO (by intro e he; simp only [List.mem_cons, List.not_mem_nil, or_false] at he; rcases he with rfl | rfl <;> first | exact e_w_heldStringS k | exact e_w_heldBoolS k) (by kernel_rfl) (fn := Try.f73) (k := k) (es := [⟨125, 0, (.cons (.il true .str) (.cons (.int .i64) .nil)), (.int .i64), w_heldStringS k⟩, ⟨126, 0, (.cons (.il true .bool) (.cons (.int .i64) .nil)), (.int .i64), w_heldBoolS k⟩]) (loops := [(0, ⟨[0, 1, 5], (.cons (.il true (.pair (.int .i64) (.pair (.int .i64) (.pair (.int .i64) (.pair (.list .str) (.pair (.list .bool) (.int .i64))))))) (.cons (.int .i64) (.cons (.int .i64) .nil)))⟩, ⟨[1], (.cons (.int .i64) .nil)⟩)]) (by kernel_rfl) (by kernel_rfl) (fun x r h => (t_w_heldHeldS k x).trans h)
def w_heldShelf (k : Nat) (x : ((List (Int × Int × Int × List (ByteArray) × List (Bool) × Int)) × Unit) × Int × Unit) : Option (Int × Unit × Unit × Unit) :=
((w_heldHeldS k (x.1.1, (x.2.1, ()))).bind fun p1 =>
(if (decide (p1.1 < (0 : Int))) = true then
some ((-1 : Int), ((), ((), ())))
else
some (p1.1, ((), ((), ())))))
theorem t_w_heldShelf (k : Nat) (x) : evF TTabO k [⟨73, 0, (.cons (.il true (.pair (.int .i64) (.pair (.int .i64) (.pair (.int .i64) (.pair (.list .str) (.pair (.list .bool) (.int .i64))))))) (.cons (.int .i64) .nil)), (.int .i64), w_heldHeldS k⟩] [] Try.f26 (.cons (.agg (.cons (.il true (.pair (.int .i64) (.pair (.int .i64) (.pair (.int .i64) (.pair (.list .str) (.pair (.list .bool) (.int .i64))))))) .nil)) (.cons (.int .i64) .nil)) (.int .i64) x = w_heldShelf k x := by kernel_rfl
theorem e_w_heldShelf [Names] (k : Nat) : EntryOk Try.prog ⟨26, 0, (.cons (.agg (.cons (.il true (.pair (.int .i64) (.pair (.int .i64) (.pair (.int .i64) (.pair (.list .str) (.pair (.list .bool) (.int .i64))))))) .nil)) (.cons (.int .i64) .nil)), (.int .i64), w_heldShelf k⟩ := entry_ok tokO (by intro e he; simp only [List.mem_cons, List.not_mem_nil, or_false] at he; rcases he with rfl <;> first | exact e_w_heldHeldS k) (by kernel_rfl) (fn := Try.f26) (k := k) (es := [⟨73, 0, (.cons (.il true (.pair (.int .i64) (.pair (.int .i64) (.pair (.int .i64) (.pair (.list .str) (.pair (.list .bool) (.int .i64))))))) (.cons (.int .i64) .nil)), (.int .i64), w_heldHeldS k⟩]) (loops := []) (by kernel_rfl) (by kernel_rfl) (fun x r h => (t_w_heldShelf k x).trans h)
def w_FnExactTidyShelf (k : Nat) (x : ((List (Int × Int × Int × List (ByteArray) × List (Bool) × Int)) × Unit) × Int × Unit) : Option (Bool × Unit × Unit × Unit) :=
((w_szShelf k ((x.1.1, ()), ((1048576 : Int), ()))).bind fun p1 =>
(if (decide (p1.1 < (0 : Int))) = true then
some (true, ((), ((), ())))
else
((w_toShelf k ((x.1.1, ()), ())).bind fun p2 =>
((s_TidyShelf k ((p2.1.1, ()), (x.2.1, ()))).bind fun p3 =>
((w_toShelf k ((x.1.1, ()), ())).bind fun p4 =>
((i_TidyShelf k ((p4.1.1, ()), (x.2.1, ()))).bind fun p5 =>
((w_eqShelf k ((p5.1.1, ()), ((p3.1.1, ()), ()))).bind fun p6 =>
(if (!p6.1) = true then
some (false, ((), ((), ())))
else
((w_toShelf k ((x.1.1, ()), ())).bind fun p7 =>
((w_eqShelf k ((p4.1.1, ()), ((p7.1.1, ()), ()))).bind fun p8 =>
(if (!p8.1) = true then
some (false, ((), ((), ())))
else
((w_markShelf k ((p4.1.1, ()), ((1 : Int), ()))).bind fun p9 =>
(if (decide (p9.1 < (0 : Int))) = false then
((w_eqShelf k ((p5.1.1, ()), ((p3.1.1, ()), ()))).bind fun p10 =>
(if (!p10.1) = true then
some (false, ((), ((), ())))
else
((w_markShelf k ((p5.1.1, ()), ((1 : Int), ()))).bind fun p11 =>
((w_heldShelf k ((p11.2.1.1, ()), ((1 : Int), ()))).bind fun p12 =>
(if (decide (p12.1 < (0 : Int))) = true then
some (false, ((), ((), ())))
else
(if (!decide (p12.1 = p11.1)) = true then
some (false, ((), ((), ())))
else
((w_toShelf k ((x.1.1, ()), ())).bind fun p13 =>
((i_TidyShelf k ((p13.1.1, ()), (x.2.1, ()))).bind fun p14 =>
((w_eqShelf k ((p14.1.1, ()), ((p3.1.1, ()), ()))).bind fun p15 =>
(if (!p15.1) = true then
some (false, ((), ((), ())))
else
((w_heldShelf k ((p11.2.1.1, ()), ((1 : Int), ()))).bind fun p16 =>
(if (decide (p16.1 < (0 : Int))) = true then
some (false, ((), ((), ())))
else
(if (!decide (p16.1 = p11.1)) = true then
some (false, ((), ((), ())))
else
some (true, ((), ((), ()))))))))))))))))
else
some (false, ((), ((), ()))))))))))))))))
theorem t_w_FnExactTidyShelf (k : Nat) (x) : evF TTabO k [⟨20, 0, (.cons (.agg (.cons (.il true (.pair (.int .i64) (.pair (.int .i64) (.pair (.int .i64) (.pair (.list .str) (.pair (.list .bool) (.int .i64))))))) .nil)) (.cons (.int .i64) .nil)), (.int .i64), w_szShelf k⟩, ⟨21, 0, (.cons (.agg (.cons (.il false (.pair (.int .i64) (.pair (.int .i64) (.pair (.int .i64) (.pair (.list .str) (.pair (.list .bool) (.int .i64))))))) .nil)) (.cons (.int .i64) .nil)), (.agg (.cons (.own false 53 (.pair (.int .i64) (.pair (.int .i64) (.pair (.int .i64) (.pair (.list .str) (.pair (.list .bool) (.int .i64))))))) .nil)), s_TidyShelf k⟩, ⟨22, 0, (.cons (.agg (.cons (.il true (.pair (.int .i64) (.pair (.int .i64) (.pair (.int .i64) (.pair (.list .str) (.pair (.list .bool) (.int .i64))))))) .nil)) .nil), (.agg (.cons (.own false 53 (.pair (.int .i64) (.pair (.int .i64) (.pair (.int .i64) (.pair (.ols 9 .str) (.pair (.ols 4 .bool) (.int .i64))))))) .nil)), w_toShelf k⟩, ⟨23, 0, (.cons (.agg (.cons (.il true (.pair (.int .i64) (.pair (.int .i64) (.pair (.int .i64) (.pair (.list .str) (.pair (.list .bool) (.int .i64))))))) .nil)) (.cons (.int .i64) .nil)), (.agg (.cons (.own false 53 (.pair (.int .i64) (.pair (.int .i64) (.pair (.int .i64) (.pair (.ols 9 .str) (.pair (.ols 4 .bool) (.int .i64))))))) .nil)), i_TidyShelf k⟩, ⟨24, 0, (.cons (.agg (.cons (.il true (.pair (.int .i64) (.pair (.int .i64) (.pair (.int .i64) (.pair (.list .str) (.pair (.list .bool) (.int .i64))))))) .nil)) (.cons (.agg (.cons (.il true (.pair (.int .i64) (.pair (.int .i64) (.pair (.int .i64) (.pair (.list .str) (.pair (.list .bool) (.int .i64))))))) .nil)) .nil)), .bool, w_eqShelf k⟩, ⟨25, 0, (.cons (.mag (.cons (.mut false 53 (.pair (.int .i64) (.pair (.int .i64) (.pair (.int .i64) (.pair (.ols 9 .str) (.pair (.ols 4 .bool) (.int .i64))))))) .nil)) (.cons (.int .i64) .nil)), (.int .i64), w_markShelf k⟩, ⟨26, 0, (.cons (.agg (.cons (.il true (.pair (.int .i64) (.pair (.int .i64) (.pair (.int .i64) (.pair (.list .str) (.pair (.list .bool) (.int .i64))))))) .nil)) (.cons (.int .i64) .nil)), (.int .i64), w_heldShelf k⟩] [] Try.f4 (.cons (.agg (.cons (.il true (.pair (.int .i64) (.pair (.int .i64) (.pair (.int .i64) (.pair (.list .str) (.pair (.list .bool) (.int .i64))))))) .nil)) (.cons (.int .i64) .nil)) .bool x = w_FnExactTidyShelf k x := by kernel_rfl
theorem e_w_FnExactTidyShelf [Names] (k : Nat) : EntryOk Try.prog ⟨4, 0, (.cons (.agg (.cons (.il true (.pair (.int .i64) (.pair (.int .i64) (.pair (.int .i64) (.pair (.list .str) (.pair (.list .bool) (.int .i64))))))) .nil)) (.cons (.int .i64) .nil)), .bool, w_FnExactTidyShelf k⟩ := entry_ok tokO (by intro e he; simp only [List.mem_cons, List.not_mem_nil, or_false] at he; rcases he with rfl | rfl | rfl | rfl | rfl | rfl | rfl <;> first | exact e_w_szShelf k | exact e_s_TidyShelf k | exact e_w_toShelf k | exact e_i_TidyShelf k | exact e_w_eqShelf k | exact e_w_markShelf k | exact e_w_heldShelf k) (by kernel_rfl) (fn := Try.f4) (k := k) (es := [⟨20, 0, (.cons (.agg (.cons (.il true (.pair (.int .i64) (.pair (.int .i64) (.pair (.int .i64) (.pair (.list .str) (.pair (.list .bool) (.int .i64))))))) .nil)) (.cons (.int .i64) .nil)), (.int .i64), w_szShelf k⟩, ⟨21, 0, (.cons (.agg (.cons (.il false (.pair (.int .i64) (.pair (.int .i64) (.pair (.int .i64) (.pair (.list .str) (.pair (.list .bool) (.int .i64))))))) .nil)) (.cons (.int .i64) .nil)), (.agg (.cons (.own false 53 (.pair (.int .i64) (.pair (.int .i64) (.pair (.int .i64) (.pair (.list .str) (.pair (.list .bool) (.int .i64))))))) .nil)), s_TidyShelf k⟩, ⟨22, 0, (.cons (.agg (.cons (.il true (.pair (.int .i64) (.pair (.int .i64) (.pair (.int .i64) (.pair (.list .str) (.pair (.list .bool) (.int .i64))))))) .nil)) .nil), (.agg (.cons (.own false 53 (.pair (.int .i64) (.pair (.int .i64) (.pair (.int .i64) (.pair (.ols 9 .str) (.pair (.ols 4 .bool) (.int .i64))))))) .nil)), w_toShelf k⟩, ⟨23, 0, (.cons (.agg (.cons (.il true (.pair (.int .i64) (.pair (.int .i64) (.pair (.int .i64) (.pair (.list .str) (.pair (.list .bool) (.int .i64))))))) .nil)) (.cons (.int .i64) .nil)), (.agg (.cons (.own false 53 (.pair (.int .i64) (.pair (.int .i64) (.pair (.int .i64) (.pair (.ols 9 .str) (.pair (.ols 4 .bool) (.int .i64))))))) .nil)), i_TidyShelf k⟩, ⟨24, 0, (.cons (.agg (.cons (.il true (.pair (.int .i64) (.pair (.int .i64) (.pair (.int .i64) (.pair (.list .str) (.pair (.list .bool) (.int .i64))))))) .nil)) (.cons (.agg (.cons (.il true (.pair (.int .i64) (.pair (.int .i64) (.pair (.int .i64) (.pair (.list .str) (.pair (.list .bool) (.int .i64))))))) .nil)) .nil)), .bool, w_eqShelf k⟩, ⟨25, 0, (.cons (.mag (.cons (.mut false 53 (.pair (.int .i64) (.pair (.int .i64) (.pair (.int .i64) (.pair (.ols 9 .str) (.pair (.ols 4 .bool) (.int .i64))))))) .nil)) (.cons (.int .i64) .nil)), (.int .i64), w_markShelf k⟩, ⟨26, 0, (.cons (.agg (.cons (.il true (.pair (.int .i64) (.pair (.int .i64) (.pair (.int .i64) (.pair (.list .str) (.pair (.list .bool) (.int .i64))))))) .nil)) (.cons (.int .i64) .nil)), (.int .i64), w_heldShelf k⟩]) (loops := []) (by kernel_rfl) (by kernel_rfl) (fun x r h => (t_w_FnExactTidyShelf k x).trans h)
end Go.Proofs.Ytaamcelinnnncaa
