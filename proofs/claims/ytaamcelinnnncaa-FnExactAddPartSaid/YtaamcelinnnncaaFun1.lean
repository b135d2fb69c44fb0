import Derived.Test.YtaamcelinnnncaaFun0
/- What functions of the program compute, as plain functions, and that their calls do so (part 1). Conditions: the plain function answers. -/
set_option linter.unusedVariables false
namespace Go.Proofs.Ytaamcelinnnncaa
open Go Go.Eng Go.Proofs
/- Names of types and patterns that come often. -/
abbrev yT0 : Ty := (.pair (.int .i64) (.pair (.int .i64) (.pair (.int .i64) (.pair (.list .str) (.pair (.list .bool) (.int .i64))))))
abbrev yT1 : Ty := (.pair (.int .i64) (.pair (.int .i64) (.pair (.int .i64) (.pair (.ols 9 .str) (.pair (.ols 4 .bool) (.int .i64))))))
abbrev yP3 : Pat := (.cons (.int .i64) .nil)
abbrev yP2 : Pat := (.cons (.int .i64) (.cons (.int .i64) (.cons (.int .i64) (.cons (.il true .str) (.cons (.il true .bool) yP3)))))
abbrev yT4 : Ty := (.pair (.int .i64) (.pair (.int .i64) (.pair (.int .i64) (.pair (.olq 9 .str) (.pair (.olq 4 .bool) (.int .i64))))))
abbrev yP5 : Pat := (.cons (.il true yT0) .nil)
abbrev yP6 : Pat := (.cons (.int .i64) (.cons (.int .i64) (.cons (.int .i64) (.cons (.own false 9 .str) (.cons (.own false 4 .bool) yP3)))))
abbrev yP7 : Pat := (.cons (.own false 53 yT1) .nil)
abbrev yP8 : Pat := (.tup (.cons (.int .i64) (.cons (.int .i64) (.cons (.int .i64) (.cons .str (.cons .bool .nil))))))
abbrev yP9 : Pat := (.cons (.int .i64) (.cons (.int .i64) yP3))
abbrev yP10 : Pat := (.cons (.ptr 0 yP3) (.cons (.ptr 0 yP3) .nil))
abbrev yP11 : Pat := (.cons (.agg yP5) (.cons (.int .i64) (.cons .str yP3)))

def i_within (k : Nat) (x : Int × Int × Int × Unit) : Option (Bool × Unit × Unit × Unit × Unit) :=
(if (decide (x.2.1 ≤ x.1)) = true then
some ((decide (x.1 ≤ x.2.2.1)), ((), ((), ((), ()))))
else
some (false, ((), ((), ((), ())))))
theorem t_i_within (k : Nat) (x) : evF TTab k [] [] Try.f54 yP9 .bool x = i_within k x := by kernel_rfl
theorem e_i_within [Names] (k : Nat) : EntryOk Try.prog ⟨54, 0, yP9, .bool, i_within k⟩ := entry_ok tok (by simp) (by kernel_rfl) (fn := Try.f54) (k := k) (es := []) (loops := []) (by kernel_rfl) (by kernel_rfl) (fun x r h => (t_i_within k x).trans h)
def s_l01In (k : Nat) (x : Int × Int × Int × Unit) : Option (Bool × Unit × Unit × Unit × Unit) :=
(if (decide (x.2.1 ≤ x.1)) = true then
some ((decide (x.1 ≤ x.2.2.1)), ((), ((), ((), ()))))
else
some (false, ((), ((), ((), ())))))
theorem t_s_l01In (k : Nat) (x) : evF TTab k [] [] Try.f56 yP9 .bool x = s_l01In k x := by kernel_rfl
theorem e_s_l01In [Names] (k : Nat) : EntryOk Try.prog ⟨56, 0, yP9, .bool, s_l01In k⟩ := entry_ok tok (by simp) (by kernel_rfl) (fn := Try.f56) (k := k) (es := []) (loops := []) (by kernel_rfl) (by kernel_rfl) (fun x r h => (t_s_l01In k x).trans h)
def i_ReadPart (k : Nat) (x : ByteArray × Unit) : Option ((Int × Int × Int × ByteArray × Bool × Unit) × Unit × Unit) :=
(if (decide ((ByteArray.size x.1 : Int) < (3 : Int))) = false then
(if 0 ≤ (2 : Int) ∧ (2 : Int) < (ByteArray.size x.1 : Int) then
((i_within k ((wi64 ((bt x.1 (2 : Int)))), ((1 : Int), ((15 : Int), ())))).bind fun p1 =>
(if (!p1.1) = false then
(if 0 ≤ (1 : Int) ∧ (1 : Int) < (ByteArray.size x.1 : Int) then
(if 0 ≤ (2 : Int) ∧ (2 : Int) < (ByteArray.size x.1 : Int) then
(if (decide ((bt x.1 (2 : Int)) ≤ (bt x.1 (1 : Int)))) = true then
some (((0 : Int), ((0 : Int), ((0 : Int), ((⟨#[]⟩ : ByteArray), (false, ()))))), ((), ()))
else
(if 0 ≤ (0 : Int) ∧ (0 : Int) < (ByteArray.size x.1 : Int) then
(if 0 ≤ (1 : Int) ∧ (1 : Int) < (ByteArray.size x.1 : Int) then
(if 0 ≤ (2 : Int) ∧ (2 : Int) < (ByteArray.size x.1 : Int) then
(if 0 ≤ (3 : Int) ∧ (3 : Int) ≤ (ByteArray.size x.1 : Int) then
some (((wi64 ((bt x.1 (0 : Int)))), ((wi64 ((bt x.1 (1 : Int)))), ((wi64 ((bt x.1 (2 : Int)))), ((ByteArray.extract x.1 (Int.toNat (3 : Int)) (Int.toNat (ByteArray.size x.1 : Int))), (true, ()))))), ((), ()))
else none)
else none)
else none)
else none))
else none)
else none)
else
some (((0 : Int), ((0 : Int), ((0 : Int), ((⟨#[]⟩ : ByteArray), (false, ()))))), ((), ()))))
else none)
else
some (((0 : Int), ((0 : Int), ((0 : Int), ((⟨#[]⟩ : ByteArray), (false, ()))))), ((), ())))
theorem t_i_ReadPart (k : Nat) (x) : evF TTab k [⟨54, 0, yP9, .bool, i_within k⟩] [] Try.f17 (.cons .str .nil) yP8 x = i_ReadPart k x := by kernel_rfl
theorem e_i_ReadPart [Names] (k : Nat) : EntryOk Try.prog ⟨17, 0, (.cons .str .nil), yP8, i_ReadPart k⟩ := entry_ok tok (by intro e he; simp only [List.mem_cons, List.not_mem_nil, or_false] at he; rcases he with rfl <;> first | exact e_i_within k) (by kernel_rfl) (fn := Try.f17) (k := k) (es := [⟨54, 0, yP9, .bool, i_within k⟩]) (loops := []) (by kernel_rfl) (by kernel_rfl) (fun x r h => (t_i_ReadPart k x).trans h)
def i_heldAt_1 (k : Nat) (x : (Int × Int × Int × List (ByteArray) × List (Bool) × Int × Unit) × (Int × Unit) × (Int × Unit) × Unit) : Option (Bool × Unit × (Int × Unit) × (Int × Unit) × Unit) :=
(if (decide (x.1.1 = x.2.1.1)) = true then
some ((decide (x.1.2.1 = x.2.2.1.1)), ((), ((x.2.1.1, ()), ((x.2.2.1.1, ()), ()))))
else
some (false, ((), ((x.2.1.1, ()), ((x.2.2.1.1, ()), ())))))
theorem t_i_heldAt_1 (k : Nat) (x) : evF TTabO k [] [] Try.f116 (.cons (.agg yP2) yP10) .bool x = i_heldAt_1 k x := by kernel_rfl
theorem e_i_heldAt_1 [Names] (k : Nat) : EntryOk Try.prog ⟨116, 0, (.cons (.agg yP2) yP10), .bool, i_heldAt_1 k⟩ := entry_ok tokO (by simp) (by kernel_rfl) (fn := Try.f116) (k := k) (es := []) (loops := []) (by kernel_rfl) (by kernel_rfl) (fun x r h => (t_i_heldAt_1 k x).trans h)
def x_slices_IndexFunc_impl_Held_impl_Held_of_i_heldAt_1 (k : Nat) (x : (List (Int × Int × Int × List (ByteArray) × List (Bool) × Int)) × ((Int × Unit) × (Int × Unit) × Unit) × Unit) : Option (Int × Unit × ((Int × Unit) × (Int × Unit) × Unit) × Unit) :=
(whileK (fun (rec0 : ((List (Int × Int × Int × List (ByteArray) × List (Bool) × Int)) × ((Int × Unit) × (Int × Unit) × Unit) × Int × Int × Unit) → Option _) (y0 : (List (Int × Int × Int × List (ByteArray) × List (Bool) × Int)) × ((Int × Unit) × (Int × Unit) × Unit) × Int × Int × Unit) =>
(if (decide (y0.2.2.2.1 < y0.2.2.1)) = true then
(if 0 ≤ y0.2.2.2.1 ∧ y0.2.2.2.1 < (List.length y0.1 : Int) then
((i_heldAt_1 k (((Ty.rd (t := yT0) y0.1 y0.2.2.2.1).1, ((Ty.rd (t := yT0) y0.1 y0.2.2.2.1).2.1, ((Ty.rd (t := yT0) y0.1 y0.2.2.2.1).2.2.1, ((Ty.rd (t := yT0) y0.1 y0.2.2.2.1).2.2.2.1, ((Ty.rd (t := yT0) y0.1 y0.2.2.2.1).2.2.2.2.1, ((Ty.rd (t := yT0) y0.1 y0.2.2.2.1).2.2.2.2.2, ())))))), ((y0.2.1.1.1, ()), ((y0.2.1.2.1.1, ()), ())))).bind fun p1 =>
(if p1.1 = true then
some (y0.2.2.2.1, ((), (((p1.2.2.1.1, ()), ((p1.2.2.2.1.1, ()), ())), ())))
else
(rec0 (y0.1, (((p1.2.2.1.1, ()), ((p1.2.2.2.1.1, ()), ())), (y0.2.2.1, ((wi64 (y0.2.2.2.1 + (1 : Int))), ())))))))
else none)
else
((fun (z1 : ((Int × Unit) × (Int × Unit) × Unit) × Unit) =>
some ((-1 : Int), ((), (((z1.1.1.1, ()), ((z1.1.2.1.1, ()), ())), ())))) (((y0.2.1.1.1, ()), ((y0.2.1.2.1.1, ()), ())), ())))) k (x.1, (((x.2.1.1.1, ()), ((x.2.1.2.1.1, ()), ())), ((List.length x.1 : Int), ((0 : Int), ())))))
theorem t_x_slices_IndexFunc_impl_Held_impl_Held_of_i_heldAt_1 (k : Nat) (x) : evF TTabO k [⟨116, 0, (.cons (.agg yP2) yP10), .bool, i_heldAt_1 k⟩] [(0, ⟨[0, 1, 7, 8], (.cons (.il true yT0) (.cons (.fn 116 yP10) (.cons (.int .i64) yP3)))⟩, ⟨[1], (.cons (.fn 116 yP10) .nil)⟩)] Try.f115 (.cons (.il true yT0) (.cons (.fn 116 yP10) .nil)) (.int .i64) x = x_slices_IndexFunc_impl_Held_impl_Held_of_i_heldAt_1 k x := by kernel_rfl
theorem e_x_slices_IndexFunc_impl_Held_impl_Held_of_i_heldAt_1 [Names] (k : Nat) : EntryOk Try.prog ⟨115, 117, (.cons (.il true yT0) (.cons (.fn 116 yP10) .nil)), (.int .i64), x_slices_IndexFunc_impl_Held_impl_Held_of_i_heldAt_1 k⟩ := entry_ok tokO (by intro e he; simp only [List.mem_cons, List.not_mem_nil, or_false] at he; rcases he with rfl <;> first | exact e_i_heldAt_1 k) (by kernel_rfl) (fn := Try.f115) (k := k) (es := [⟨116, 0, (.cons (.agg yP2) yP10), .bool, i_heldAt_1 k⟩]) (loops := [(0, ⟨[0, 1, 7, 8], (.cons (.il true yT0) (.cons (.fn 116 yP10) (.cons (.int .i64) yP3)))⟩, ⟨[1], (.cons (.fn 116 yP10) .nil)⟩)]) (by kernel_rfl) (by kernel_rfl) (fun x r h => (t_x_slices_IndexFunc_impl_Held_impl_Held_of_i_heldAt_1 k x).trans h)
def i_heldAt (k : Nat) (x : ((List (Int × Int × Int × List (ByteArray) × List (Bool) × Int)) × Unit) × Int × Int × Unit) : Option (Int × Unit × Unit × Unit × Unit) :=
((x_slices_IndexFunc_impl_Held_impl_Held_of_i_heldAt_1 k (x.1.1, (((x.2.1, ()), ((x.2.2.1, ()), ())), ()))).bind fun p1 =>
some (p1.1, ((), ((), ((), ())))))
theorem t_i_heldAt (k : Nat) (x) : evF TTabO k [⟨115, 117, (.cons (.il true yT0) (.cons (.fn 116 yP10) .nil)), (.int .i64), x_slices_IndexFunc_impl_Held_impl_Held_of_i_heldAt_1 k⟩] [] Try.f61 (.cons (.agg yP5) (.cons (.int .i64) yP3)) (.int .i64) x = i_heldAt k x := by kernel_rfl
theorem e_i_heldAt [Names] (k : Nat) : EntryOk Try.prog ⟨61, 0, (.cons (.agg yP5) (.cons (.int .i64) yP3)), (.int .i64), i_heldAt k⟩ := entry_ok tokO (by intro e he; simp only [List.mem_cons, List.not_mem_nil, or_false] at he; rcases he with rfl <;> first | exact e_x_slices_IndexFunc_impl_Held_impl_Held_of_i_heldAt_1 k) (by kernel_rfl) (fn := Try.f61) (k := k) (es := [⟨115, 117, (.cons (.il true yT0) (.cons (.fn 116 yP10) .nil)), (.int .i64), x_slices_IndexFunc_impl_Held_impl_Held_of_i_heldAt_1 k⟩]) (loops := []) (by kernel_rfl) (by kernel_rfl) (fun x r h => (t_i_heldAt k x).trans h)
def i_isId (k : Nat) (x : Int × Unit) : Option (Bool × Unit × Unit) :=
((i_within k (x.1, ((1 : Int), ((99 : Int), ())))).bind fun p1 =>
some (p1.1, ((), ())))
theorem t_i_isId (k : Nat) (x) : evF TTab k [⟨54, 0, yP9, .bool, i_within k⟩] [] Try.f60 yP3 .bool x = i_isId k x := by kernel_rfl
theorem e_i_isId [Names] (k : Nat) : EntryOk Try.prog ⟨60, 0, yP3, .bool, i_isId k⟩ := entry_ok tok (by intro e he; simp only [List.mem_cons, List.not_mem_nil, or_false] at he; rcases he with rfl <;> first | exact e_i_within k) (by kernel_rfl) (fn := Try.f60) (k := k) (es := [⟨54, 0, yP9, .bool, i_within k⟩]) (loops := []) (by kernel_rfl) (by kernel_rfl) (fun x r h => (t_i_isId k x).trans h)
def i_heldOk (k : Nat) (x : (Int × Int × Int × List (ByteArray) × List (Bool) × Int × Unit) × Unit) : Option (Bool × Unit × Unit) :=
((i_isId k (x.1.1, ())).bind fun p1 =>
(if (!p1.1) = false then
((i_within k (x.1.2.1, ((0 : Int), ((255 : Int), ())))).bind fun p2 =>
(if (!p2.1) = false then
((i_within k (x.1.2.2.1, ((2 : Int), ((15 : Int), ())))).bind fun p3 =>
(if (!p3.1) = false then
(if (!decide ((List.length x.1.2.2.2.1 : Int) = x.1.2.2.1)) = false then
(if (!decide ((List.length x.1.2.2.2.2.1 : Int) = x.1.2.2.1)) = true then
some (false, ((), ()))
else
(whileK (fun (rec0 : ((Int × Int × Int × List (ByteArray) × List (Bool) × Int × Unit) × Int × List (Bool) × Int × Int × Unit) → Option _) (y0 : (Int × Int × Int × List (ByteArray) × List (Bool) × Int × Unit) × Int × List (Bool) × Int × Int × Unit) =>
(if (decide (y0.2.2.2.2.1 < y0.2.2.2.1)) = true then
(if 0 ≤ y0.2.2.2.2.1 ∧ y0.2.2.2.2.1 < (List.length y0.2.2.1 : Int) then
(if (Ty.rd (t := .bool) y0.2.2.1 y0.2.2.2.2.1) = true then
(if 0 ≤ y0.2.2.2.2.1 ∧ y0.2.2.2.2.1 < (List.length y0.1.2.2.2.1 : Int) then
(if (decide ((120 : Int) < (ByteArray.size (Ty.rd (t := .str) y0.1.2.2.2.1 y0.2.2.2.2.1) : Int))) = false then
(if (!(Ty.rd (t := .bool) y0.2.2.1 y0.2.2.2.2.1)) = true then
(if 0 ≤ y0.2.2.2.2.1 ∧ y0.2.2.2.2.1 < (List.length y0.1.2.2.2.1 : Int) then
(if (!decide ((Ty.rd (t := .str) y0.1.2.2.2.1 y0.2.2.2.2.1) = (⟨#[]⟩ : ByteArray))) = true then
some (false, ((), ()))
else
(rec0 ((y0.1.1, (y0.1.2.1, (y0.1.2.2.1, (y0.1.2.2.2.1, (y0.1.2.2.2.2.1, (y0.1.2.2.2.2.2.1, ())))))), ((wi64 (y0.2.1 + (1 : Int))), (y0.2.2.1, (y0.2.2.2.1, ((wi64 (y0.2.2.2.2.1 + (1 : Int))), ())))))))
else none)
else
(rec0 ((y0.1.1, (y0.1.2.1, (y0.1.2.2.1, (y0.1.2.2.2.1, (y0.1.2.2.2.2.1, (y0.1.2.2.2.2.2.1, ())))))), ((wi64 (y0.2.1 + (1 : Int))), (y0.2.2.1, (y0.2.2.2.1, ((wi64 (y0.2.2.2.2.1 + (1 : Int))), ())))))))
else
some (false, ((), ())))
else none)
else
(if 0 ≤ y0.2.2.2.2.1 ∧ y0.2.2.2.2.1 < (List.length y0.1.2.2.2.1 : Int) then
(if (decide ((120 : Int) < (ByteArray.size (Ty.rd (t := .str) y0.1.2.2.2.1 y0.2.2.2.2.1) : Int))) = false then
(if (!(Ty.rd (t := .bool) y0.2.2.1 y0.2.2.2.2.1)) = true then
(if 0 ≤ y0.2.2.2.2.1 ∧ y0.2.2.2.2.1 < (List.length y0.1.2.2.2.1 : Int) then
(if (!decide ((Ty.rd (t := .str) y0.1.2.2.2.1 y0.2.2.2.2.1) = (⟨#[]⟩ : ByteArray))) = true then
some (false, ((), ()))
else
(rec0 ((y0.1.1, (y0.1.2.1, (y0.1.2.2.1, (y0.1.2.2.2.1, (y0.1.2.2.2.2.1, (y0.1.2.2.2.2.2.1, ())))))), (y0.2.1, (y0.2.2.1, (y0.2.2.2.1, ((wi64 (y0.2.2.2.2.1 + (1 : Int))), ())))))))
else none)
else
(rec0 ((y0.1.1, (y0.1.2.1, (y0.1.2.2.1, (y0.1.2.2.2.1, (y0.1.2.2.2.2.1, (y0.1.2.2.2.2.2.1, ())))))), (y0.2.1, (y0.2.2.1, (y0.2.2.2.1, ((wi64 (y0.2.2.2.2.1 + (1 : Int))), ())))))))
else
some (false, ((), ())))
else none))
else none)
else
((fun (z1 : (Int × Int × Int × List (ByteArray) × List (Bool) × Int × Unit) × Int × Unit) =>
((i_within k (z1.2.1, ((1 : Int), ((wi64 (z1.1.2.2.1 - (1 : Int))), ())))).bind fun p4 =>
(if p4.1 = true then
((i_within k (z1.1.2.2.2.2.2.1, ((0 : Int), ((1000000000 : Int), ())))).bind fun p5 =>
some (p5.1, ((), ())))
else
some (false, ((), ()))))) ((y0.1.1, (y0.1.2.1, (y0.1.2.2.1, (y0.1.2.2.2.1, (y0.1.2.2.2.2.1, (y0.1.2.2.2.2.2.1, ())))))), (y0.2.1, ()))))) k ((x.1.1, (x.1.2.1, (x.1.2.2.1, (x.1.2.2.2.1, (x.1.2.2.2.2.1, (x.1.2.2.2.2.2.1, ())))))), ((0 : Int), (x.1.2.2.2.2.1, ((List.length x.1.2.2.2.2.1 : Int), ((0 : Int), ())))))))
else
some (false, ((), ())))
else
some (false, ((), ()))))
else
some (false, ((), ()))))
else
some (false, ((), ()))))
theorem t_i_heldOk (k : Nat) (x) : evF TTab k [⟨54, 0, yP9, .bool, i_within k⟩, ⟨60, 0, yP3, .bool, i_isId k⟩] [(0, ⟨[1, 3, 39, 40, 41], (.cons (.ptr 0 yP2) (.cons (.int .i64) (.cons (.il true .bool) (.cons (.int .i64) yP3))))⟩, ⟨[1, 3], (.cons (.ptr 0 yP2) yP3)⟩)] Try.f65 (.cons (.agg yP2) .nil) .bool x = i_heldOk k x := by kernel_rfl
theorem e_i_heldOk [Names] (k : Nat) : EntryOk Try.prog ⟨65, 0, (.cons (.agg yP2) .nil), .bool, i_heldOk k⟩ := entry_ok tok (by intro e he; simp only [List.mem_cons, List.not_mem_nil, or_false] at he; rcases he with rfl | rfl <;> first | exact e_i_within k | exact e_i_isId k) (by kernel_rfl) (fn := Try.f65) (k := k) (es := [⟨54, 0, yP9, .bool, i_within k⟩, ⟨60, 0, yP3, .bool, i_isId k⟩]) (loops := [(0, ⟨[1, 3, 39, 40, 41], (.cons (.ptr 0 yP2) (.cons (.int .i64) (.cons (.il true .bool) (.cons (.int .i64) yP3))))⟩, ⟨[1, 3], (.cons (.ptr 0 yP2) yP3)⟩)]) (by kernel_rfl) (by kernel_rfl) (fun x r h => (t_i_heldOk k x).trans h)
def i_ShelfOk (k : Nat) (x : ((List (Int × Int × Int × List (ByteArray) × List (Bool) × Int)) × Unit) × Unit) : Option (Bool × Unit × Unit) :=
(whileK (fun (rec0 : (((List (Int × Int × Int × List (ByteArray) × List (Bool) × Int)) × Unit) × (List (Int × Int × Int × List (ByteArray) × List (Bool) × Int)) × Int × Int × Unit) → Option _) (y0 : ((List (Int × Int × Int × List (ByteArray) × List (Bool) × Int)) × Unit) × (List (Int × Int × Int × List (ByteArray) × List (Bool) × Int)) × Int × Int × Unit) =>
(if (decide (y0.2.2.2.1 < y0.2.2.1)) = true then
(if 0 ≤ y0.2.2.2.1 ∧ y0.2.2.2.1 < (List.length y0.2.1 : Int) then
((i_heldOk k (((Ty.rd (t := yT0) y0.2.1 y0.2.2.2.1).1, ((Ty.rd (t := yT0) y0.2.1 y0.2.2.2.1).2.1, ((Ty.rd (t := yT0) y0.2.1 y0.2.2.2.1).2.2.1, ((Ty.rd (t := yT0) y0.2.1 y0.2.2.2.1).2.2.2.1, ((Ty.rd (t := yT0) y0.2.1 y0.2.2.2.1).2.2.2.2.1, ((Ty.rd (t := yT0) y0.2.1 y0.2.2.2.1).2.2.2.2.2, ())))))), ())).bind fun p1 =>
(if (!p1.1) = false then
((i_heldAt k ((y0.1.1, ()), ((Ty.rd (t := yT0) y0.2.1 y0.2.2.2.1).1, ((Ty.rd (t := yT0) y0.2.1 y0.2.2.2.1).2.1, ())))).bind fun p2 =>
(if (!decide (p2.1 = y0.2.2.2.1)) = true then
some (false, ((), ()))
else
(rec0 ((y0.1.1, ()), (y0.2.1, (y0.2.2.1, ((wi64 (y0.2.2.2.1 + (1 : Int))), ())))))))
else
some (false, ((), ()))))
else none)
else
((fun (z1 : ((List (Int × Int × Int × List (ByteArray) × List (Bool) × Int)) × Unit) × Unit) =>
some ((decide ((List.length z1.1.1 : Int) ≤ (3 : Int))), ((), ()))) ((y0.1.1, ()), ())))) k ((x.1.1, ()), (x.1.1, ((List.length x.1.1 : Int), ((0 : Int), ())))))
theorem t_i_ShelfOk (k : Nat) (x) : evF TTabO k [⟨61, 0, (.cons (.agg yP5) (.cons (.int .i64) yP3)), (.int .i64), i_heldAt k⟩, ⟨65, 0, (.cons (.agg yP2) .nil), .bool, i_heldOk k⟩] [(0, ⟨[1, 6, 7, 8], (.cons (.ptr 0 yP5) (.cons (.il true yT0) (.cons (.int .i64) yP3)))⟩, ⟨[1], (.cons (.ptr 0 yP5) .nil)⟩)] Try.f19 (.cons (.agg yP5) .nil) .bool x = i_ShelfOk k x := by kernel_rfl
theorem e_i_ShelfOk [Names] (k : Nat) : EntryOk Try.prog ⟨19, 0, (.cons (.agg yP5) .nil), .bool, i_ShelfOk k⟩ := entry_ok tokO (by intro e he; simp only [List.mem_cons, List.not_mem_nil, or_false] at he; rcases he with rfl | rfl <;> first | exact e_i_heldAt k | exact e_i_heldOk k) (by kernel_rfl) (fn := Try.f19) (k := k) (es := [⟨61, 0, (.cons (.agg yP5) (.cons (.int .i64) yP3)), (.int .i64), i_heldAt k⟩, ⟨65, 0, (.cons (.agg yP2) .nil), .bool, i_heldOk k⟩]) (loops := [(0, ⟨[1, 6, 7, 8], (.cons (.ptr 0 yP5) (.cons (.il true yT0) (.cons (.int .i64) yP3)))⟩, ⟨[1], (.cons (.ptr 0 yP5) .nil)⟩)]) (by kernel_rfl) (by kernel_rfl) (fun x r h => (t_i_ShelfOk k x).trans h)
def i_copyTexts (k : Nat) (x : List (ByteArray) × Unit) : Option (List (ByteArray) × Unit × Unit) :=
(if List.length ([] : List (ByteArray)) + List.length x.1 ≤ capMax then
some ((([] : List (ByteArray)) ++ x.1), ((), ()))
else none)
theorem t_i_copyTexts (k : Nat) (x) : evF TTab k [] [] Try.f114 (.cons (.il true .str) .nil) (.own false 9 .str) x = i_copyTexts k x := by kernel_rfl
theorem e_i_copyTexts [Names] (k : Nat) : EntryOk Try.prog ⟨114, 0, (.cons (.il true .str) .nil), (.own false 9 .str), i_copyTexts k⟩ := entry_ok tok (by simp) (by kernel_rfl) (fn := Try.f114) (k := k) (es := []) (loops := []) (by kernel_rfl) (by kernel_rfl) (fun x r h => (t_i_copyTexts k x).trans h)
def i_copyShelf (k : Nat) (x : ((List (Int × Int × Int × List (ByteArray) × List (Bool) × Int)) × Unit) × Unit) : Option (((List (Int × Int × Int × List (ByteArray) × List (Bool) × Int)) × Unit) × Unit × Unit) :=
(whileK (fun (rec0 : (((List (Int × Int × Int × List (ByteArray) × List (Bool) × Int)) × Unit) × ((List (Int × Int × Int × List (ByteArray) × List (Bool) × Int)) × Unit) × (List (Int × Int × Int × List (ByteArray) × List (Bool) × Int)) × Int × Int × Unit) → Option _) (y0 : ((List (Int × Int × Int × List (ByteArray) × List (Bool) × Int)) × Unit) × ((List (Int × Int × Int × List (ByteArray) × List (Bool) × Int)) × Unit) × (List (Int × Int × Int × List (ByteArray) × List (Bool) × Int)) × Int × Int × Unit) =>
(if (decide (y0.2.2.2.2.1 < y0.2.2.2.1)) = true then
(if 0 ≤ y0.2.2.2.2.1 ∧ y0.2.2.2.2.1 < (List.length y0.2.2.1 : Int) then
((i_copyTexts k ((Ty.rd (t := yT0) y0.2.2.1 y0.2.2.2.2.1).2.2.2.1, ())).bind fun p1 =>
(if List.length ([] : List (Bool)) + List.length (Ty.rd (t := yT0) y0.2.2.1 y0.2.2.2.2.1).2.2.2.2.1 ≤ capMax then
(if List.length y0.2.1.1 + List.length ([((Ty.rd (t := yT0) y0.2.2.1 y0.2.2.2.2.1).1, ((Ty.rd (t := yT0) y0.2.2.1 y0.2.2.2.2.1).2.1, ((Ty.rd (t := yT0) y0.2.2.1 y0.2.2.2.2.1).2.2.1, (p1.1, ((([] : List (Bool)) ++ (Ty.rd (t := yT0) y0.2.2.1 y0.2.2.2.2.1).2.2.2.2.1), (Ty.rd (t := yT0) y0.2.2.1 y0.2.2.2.2.1).2.2.2.2.2)))))] : List (Int × Int × Int × List (ByteArray) × List (Bool) × Int)) ≤ capMax then
(rec0 ((y0.1.1, ()), (((y0.2.1.1 ++ ([((Ty.rd (t := yT0) y0.2.2.1 y0.2.2.2.2.1).1, ((Ty.rd (t := yT0) y0.2.2.1 y0.2.2.2.2.1).2.1, ((Ty.rd (t := yT0) y0.2.2.1 y0.2.2.2.2.1).2.2.1, (p1.1, ((([] : List (Bool)) ++ (Ty.rd (t := yT0) y0.2.2.1 y0.2.2.2.2.1).2.2.2.2.1), (Ty.rd (t := yT0) y0.2.2.1 y0.2.2.2.2.1).2.2.2.2.2)))))] : List (Int × Int × Int × List (ByteArray) × List (Bool) × Int))), ()), (y0.2.2.1, (y0.2.2.2.1, ((wi64 (y0.2.2.2.2.1 + (1 : Int))), ()))))))
else none)
else none))
else none)
else
((fun (z1 : ((List (Int × Int × Int × List (ByteArray) × List (Bool) × Int)) × Unit) × ((List (Int × Int × Int × List (ByteArray) × List (Bool) × Int)) × Unit) × Unit) =>
some ((z1.2.1.1, ()), ((), ()))) ((y0.1.1, ()), ((y0.2.1.1, ()), ()))))) k (([], ()), (([], ()), (x.1.1, ((List.length x.1.1 : Int), ((0 : Int), ()))))))
theorem t_i_copyShelf (k : Nat) (x) : evF TTabO k [⟨114, 0, (.cons (.il true .str) .nil), (.own false 9 .str), i_copyTexts k⟩] [(0, ⟨[2, 3, 8, 9, 10], (.cons (.ptr 0 yP7) (.cons (.ptr 0 yP7) (.cons (.il true yT0) (.cons (.int .i64) yP3))))⟩, ⟨[2, 3], (.cons (.ptr 0 yP7) (.cons (.ptr 0 yP7) .nil))⟩)] Try.f59 (.cons (.agg yP5) .nil) (.agg yP7) x = i_copyShelf k x := by kernel_rfl
theorem e_i_copyShelf [Names] (k : Nat) : EntryOk Try.prog ⟨59, 0, (.cons (.agg yP5) .nil), (.agg yP7), i_copyShelf k⟩ := entry_ok tokO (by intro e he; simp only [List.mem_cons, List.not_mem_nil, or_false] at he; rcases he with rfl <;> first | exact e_i_copyTexts k) (by kernel_rfl) (fn := Try.f59) (k := k) (es := [⟨114, 0, (.cons (.il true .str) .nil), (.own false 9 .str), i_copyTexts k⟩]) (loops := [(0, ⟨[2, 3, 8, 9, 10], (.cons (.ptr 0 yP7) (.cons (.ptr 0 yP7) (.cons (.il true yT0) (.cons (.int .i64) yP3))))⟩, ⟨[2, 3], (.cons (.ptr 0 yP7) (.cons (.ptr 0 yP7) .nil))⟩)]) (by kernel_rfl) (by kernel_rfl) (fun x r h => (t_i_copyShelf k x).trans h)
def x_slices_Delete_impl_Held_impl_Held_n (k : Nat) (x : (List (Int × Int × Int × Nat × Nat × Int)) × Int × Int × Unit) : Option ((List (Int × Int × Int × Nat × Nat × Int)) × Unit × Unit × Unit × Unit) :=
(if 0 ≤ (List.length x.1 : Int) ∧ (List.length x.1 : Int) ≤ (List.length x.1 : Int) then
(if 0 ≤ x.2.2.1 ∧ x.2.2.1 ≤ (List.length x.1 : Int) then
(if 0 ≤ x.2.1 ∧ x.2.1 ≤ x.2.2.1 then
(if (decide (x.2.1 = x.2.2.1)) = true then
some (x.1, ((), ((), ((), ()))))
else
(if 0 ≤ x.2.1 ∧ x.2.1 ≤ (List.length x.1 : Int) then
(if 0 ≤ x.2.2.1 ∧ x.2.2.1 ≤ (List.length x.1 : Int) then
(if x.2.1 + List.length (List.drop (Int.toNat x.2.2.1) (List.take (Int.toNat (List.length x.1 : Int)) x.1)) ≤ List.length x.1 ∧ x.2.1 - (0 : Int) + List.length (List.drop (Int.toNat x.2.2.1) (List.take (Int.toNat (List.length x.1 : Int)) x.1)) ≤ capMax then
(if 0 ≤ (List.length x.1 : Int) ∧ (List.length x.1 : Int) ≤ ((List.length (List.take (Int.toNat x.2.1) x.1 ++ ((List.drop (Int.toNat x.2.2.1) (List.take (Int.toNat (List.length x.1 : Int)) x.1)) ++ List.drop (Int.toNat x.2.1 + List.length (List.drop (Int.toNat x.2.2.1) (List.take (Int.toNat (List.length x.1 : Int)) x.1))) x.1)) : Int) - (0 : Int)) then
(if 0 ≤ ((x.2.1 + List.length (List.drop (Int.toNat x.2.2.1) (List.take (Int.toNat (List.length x.1 : Int)) x.1))) - (0 : Int)) ∧ ((x.2.1 + List.length (List.drop (Int.toNat x.2.2.1) (List.take (Int.toNat (List.length x.1 : Int)) x.1))) - (0 : Int)) ≤ (List.length x.1 : Int) then
some ((List.drop (Int.toNat (0 : Int)) (List.take (Int.toNat (x.2.1 + List.length (List.drop (Int.toNat x.2.2.1) (List.take (Int.toNat (List.length x.1 : Int)) x.1)))) (List.take (Int.toNat ((0 : Int) + ((x.2.1 + List.length (List.drop (Int.toNat x.2.2.1) (List.take (Int.toNat (List.length x.1 : Int)) x.1))) - (0 : Int)))) (List.take (Int.toNat x.2.1) x.1 ++ ((List.drop (Int.toNat x.2.2.1) (List.take (Int.toNat (List.length x.1 : Int)) x.1)) ++ List.drop (Int.toNat x.2.1 + List.length (List.drop (Int.toNat x.2.2.1) (List.take (Int.toNat (List.length x.1 : Int)) x.1))) x.1)) ++ (List.replicate (Int.toNat (((0 : Int) + (List.length x.1 : Int)) - ((0 : Int) + ((x.2.1 + List.length (List.drop (Int.toNat x.2.2.1) (List.take (Int.toNat (List.length x.1 : Int)) x.1))) - (0 : Int))))) ((0 : Int), ((0 : Int), ((0 : Int), ((0 : Nat), ((0 : Nat), (0 : Int)))))) ++ List.drop (Int.toNat ((0 : Int) + (List.length x.1 : Int))) (List.take (Int.toNat x.2.1) x.1 ++ ((List.drop (Int.toNat x.2.2.1) (List.take (Int.toNat (List.length x.1 : Int)) x.1)) ++ List.drop (Int.toNat x.2.1 + List.length (List.drop (Int.toNat x.2.2.1) (List.take (Int.toNat (List.length x.1 : Int)) x.1))) x.1)))))), ((), ((), ((), ()))))
else none)
else none)
else none)
else none)
else none))
else none)
else none)
else none)
theorem t_x_slices_Delete_impl_Held_impl_Held_n (k : Nat) (x) : evF TTabN k [] [] Try.f62 (.cons (.own false 53 (.pair (.int .i64) (.pair (.int .i64) (.pair (.int .i64) (.pair .nm (.pair .nm (.int .i64))))))) (.cons (.int .i64) yP3)) (.own false 53 (.pair (.int .i64) (.pair (.int .i64) (.pair (.int .i64) (.pair .nm (.pair .nm (.int .i64))))))) x = x_slices_Delete_impl_Held_impl_Held_n k x := by kernel_rfl
theorem e_x_slices_Delete_impl_Held_impl_Held_n [Names] (k : Nat) : EntryOk Try.prog ⟨62, 0, (.cons (.own false 53 (.pair (.int .i64) (.pair (.int .i64) (.pair (.int .i64) (.pair .nm (.pair .nm (.int .i64))))))) (.cons (.int .i64) yP3)), (.own false 53 (.pair (.int .i64) (.pair (.int .i64) (.pair (.int .i64) (.pair .nm (.pair .nm (.int .i64))))))), x_slices_Delete_impl_Held_impl_Held_n k⟩ := entry_ok tokN (by simp) (by kernel_rfl) (fn := Try.f62) (k := k) (es := []) (loops := []) (by kernel_rfl) (by kernel_rfl) (fun x r h => (t_x_slices_Delete_impl_Held_impl_Held_n k x).trans h)
def x_slices_Delete_impl_Held_impl_Held (k : Nat) (x : (List (Int × Int × Int × List (ByteArray) × List (Bool) × Int)) × Int × Int × Unit) : Option ((List (Int × Int × Int × List (ByteArray) × List (Bool) × Int)) × Unit × Unit × Unit × Unit) :=
treeF yT1 (x_slices_Delete_impl_Held_impl_Held_n k) x
theorem e_x_slices_Delete_impl_Held_impl_Held [Names] (k : Nat) : EntryOk Try.prog ⟨62, 0, (.cons (.own false 53 yT1) (.cons (.int .i64) yP3)), (.own false 53 yT1), x_slices_Delete_impl_Held_impl_Held k⟩ := names_entry (t := yT1) (by kernel_rfl) (by kernel_rfl) (fun N => @e_x_slices_Delete_impl_Held_impl_Held_n N k) inferInstance
def x_slices_Index_bool_bool (k : Nat) (x : List (Bool) × Bool × Unit) : Option (Int × Unit × Unit × Unit) :=
(whileK (fun (rec0 : (List (Bool) × Bool × Int × Int × Unit) → Option _) (y0 : List (Bool) × Bool × Int × Int × Unit) =>
(if (decide (y0.2.2.2.1 < y0.2.2.1)) = true then
(if 0 ≤ y0.2.2.2.1 ∧ y0.2.2.2.1 < (List.length y0.1 : Int) then
(if (decide (y0.2.1 = (Ty.rd (t := .bool) y0.1 y0.2.2.2.1))) = true then
some (y0.2.2.2.1, ((), ((), ())))
else
(rec0 (y0.1, (y0.2.1, (y0.2.2.1, ((wi64 (y0.2.2.2.1 + (1 : Int))), ()))))))
else none)
else
((fun (z1 : Unit) =>
some ((-1 : Int), ((), ((), ())))) ()))) k (x.1, (x.2.1, ((List.length x.1 : Int), ((0 : Int), ())))))
theorem t_x_slices_Index_bool_bool (k : Nat) (x) : evF TTab k [] [(0, ⟨[0, 1, 7, 8], (.cons (.il true .bool) (.cons .bool (.cons (.int .i64) yP3)))⟩, ⟨[], .nil⟩)] Try.f117 (.cons (.il true .bool) (.cons .bool .nil)) (.int .i64) x = x_slices_Index_bool_bool k x := by kernel_rfl
theorem e_x_slices_Index_bool_bool [Names] (k : Nat) : EntryOk Try.prog ⟨117, 0, (.cons (.il true .bool) (.cons .bool .nil)), (.int .i64), x_slices_Index_bool_bool k⟩ := entry_ok tok (by simp) (by kernel_rfl) (fn := Try.f117) (k := k) (es := []) (loops := [(0, ⟨[0, 1, 7, 8], (.cons (.il true .bool) (.cons .bool (.cons (.int .i64) yP3)))⟩, ⟨[], .nil⟩)]) (by kernel_rfl) (by kernel_rfl) (fun x r h => (t_x_slices_Index_bool_bool k x).trans h)
def x_slices_Contains_bool_bool (k : Nat) (x : List (Bool) × Bool × Unit) : Option (Bool × Unit × Unit × Unit) :=
((x_slices_Index_bool_bool k (x.1, (x.2.1, ()))).bind fun p1 =>
some ((decide ((0 : Int) ≤ p1.1)), ((), ((), ()))))
theorem t_x_slices_Contains_bool_bool (k : Nat) (x) : evF TTab k [⟨117, 0, (.cons (.il true .bool) (.cons .bool .nil)), (.int .i64), x_slices_Index_bool_bool k⟩] [] Try.f63 (.cons (.il true .bool) (.cons .bool .nil)) .bool x = x_slices_Contains_bool_bool k x := by kernel_rfl
theorem e_x_slices_Contains_bool_bool [Names] (k : Nat) : EntryOk Try.prog ⟨63, 0, (.cons (.il true .bool) (.cons .bool .nil)), .bool, x_slices_Contains_bool_bool k⟩ := entry_ok tok (by intro e he; simp only [List.mem_cons, List.not_mem_nil, or_false] at he; rcases he with rfl <;> first | exact e_x_slices_Index_bool_bool k) (by kernel_rfl) (fn := Try.f63) (k := k) (es := [⟨117, 0, (.cons (.il true .bool) (.cons .bool .nil)), (.int .i64), x_slices_Index_bool_bool k⟩]) (loops := []) (by kernel_rfl) (by kernel_rfl) (fun x r h => (t_x_slices_Contains_bool_bool k x).trans h)
def x_strings_Join (k : Nat) (x : List (ByteArray) × ByteArray × Unit) : Option (ByteArray × Unit × Unit × Unit) := joinF x
theorem e_x_strings_Join [Names] (k : Nat) : EntryOk Try.prog ⟨64, 0, (.cons (.il true .str) (.cons .str .nil)), .str, x_strings_Join k⟩ := entry_join Try.func64 (by kernel_rfl) Try.strings_Join_none Try.strings_Join true
def i_AddPart (k : Nat) (x : ((List (Int × Int × Int × List (ByteArray) × List (Bool) × Int)) × Unit) × Int × ByteArray × Int × Unit) : Option ((((List (Int × Int × Int × List (ByteArray) × List (Bool) × Int)) × Unit) × ByteArray × Bool × Unit) × Unit × Unit × Unit × Unit × Unit) :=
((i_copyShelf k ((x.1.1, ()), ())).bind fun p1 =>
((i_ReadPart k (x.2.2.1, ())).bind fun p2 =>
((i_ShelfOk k ((x.1.1, ()), ())).bind fun p3 =>
(if (!p3.1) = false then
((i_isId k (x.2.1, ())).bind fun p4 =>
(if (!p4.1) = false then
(if (!p2.1.2.2.2.2.1) = false then
(if (decide ((120 : Int) < (ByteArray.size p2.1.2.2.2.1 : Int))) = false then
((i_within k (x.2.2.2.1, ((0 : Int), ((999999992 : Int), ())))).bind fun p5 =>
(if (!p5.1) = true then
some (((p1.1.1, ()), ((⟨#[]⟩ : ByteArray), (false, ()))), ((), ((), ((), ((), ())))))
else
(if (decide (p2.1.2.2.1 = (1 : Int))) = true then
some (((p1.1.1, ()), (p2.1.2.2.2.1, (true, ()))), ((), ((), ((), ((), ())))))
else
((i_heldAt k ((p1.1.1, ()), (x.2.1, (p2.1.1, ())))).bind fun p6 =>
(jn (
(jn (fun (j11v0 : Int) (j11v1 : List (Int × Int × Int × List (ByteArray) × List (Bool) × Int)) =>
(if 0 ≤ j11v0 ∧ j11v0 < (List.length j11v1 : Int) then
(jn (fun (j12v0 : List (Int × Int × Int × List (ByteArray) × List (Bool) × Int)) =>
((x_slices_Contains_bool_bool k ((Ty.rd (t := yT1) j12v0 j11v0).2.2.2.2.1, (false, ()))).bind fun p53 =>
(if p53.1 = true then
some (((j12v0, ()), ((⟨#[]⟩ : ByteArray), (false, ()))), ((), ((), ((), ((), ())))))
else
((x_strings_Join k ((Ty.rd (t := yT1) j12v0 j11v0).2.2.2.1, ((⟨#[]⟩ : ByteArray), ()))).bind fun p54 =>
((x_slices_Delete_impl_Held_impl_Held k (j12v0, (j11v0, ((wi64 (j11v0 + (1 : Int))), ())))).bind fun p55 =>
some (((p55.1, ()), (p54.1, (true, ()))), ((), ((), ((), ((), ())))))))))) (fun (j12 : (List (Int × Int × Int × List (ByteArray) × List (Bool) × Int)) → Option _) =>
(if 0 ≤ p2.1.2.1 ∧ p2.1.2.1 < (List.length (Ty.rd (t := yT1) j11v1 j11v0).2.2.2.2.1 : Int) then
(if (!(Ty.rd (t := .bool) (Ty.rd (t := yT1) j11v1 j11v0).2.2.2.2.1 p2.1.2.1)) = true then
(if 0 ≤ p2.1.2.1 ∧ p2.1.2.1 < (List.length (Ty.rd (t := yT1) j11v1 j11v0).2.2.2.2.1 : Int) then
(jn (List.set j11v1 (Int.toNat j11v0) ((Ty.rd (t := yT1) j11v1 j11v0).1, ((Ty.rd (t := yT1) j11v1 j11v0).2.1, ((Ty.rd (t := yT1) j11v1 j11v0).2.2.1, ((Ty.rd (t := yT1) j11v1 j11v0).2.2.2.1, ((List.set (Ty.rd (t := yT1) j11v1 j11v0).2.2.2.2.1 (Int.toNat p2.1.2.1) true), (Ty.rd (t := yT1) j11v1 j11v0).2.2.2.2.2)))))) (fun (q15 : List (Int × Int × Int × List (ByteArray) × List (Bool) × Int)) =>
(if 0 ≤ p2.1.2.1 ∧ p2.1.2.1 < (List.length (Ty.rd (t := yT1) q15 j11v0).2.2.2.1 : Int) then
(jn (List.set q15 (Int.toNat j11v0) ((Ty.rd (t := yT1) q15 j11v0).1, ((Ty.rd (t := yT1) q15 j11v0).2.1, ((Ty.rd (t := yT1) q15 j11v0).2.2.1, ((List.set (Ty.rd (t := yT1) q15 j11v0).2.2.2.1 (Int.toNat p2.1.2.1) p2.1.2.2.2.1), (Ty.rd (t := yT1) q15 j11v0).2.2.2.2))))) (fun (q16 : List (Int × Int × Int × List (ByteArray) × List (Bool) × Int)) =>
(j12 q16)))
else none)))
else none)
else
(j12 j11v1))
else none)))
else none)) (fun (j11 : Int → (List (Int × Int × Int × List (ByteArray) × List (Bool) × Int)) → Option _) =>
(if (decide (p6.1 < (0 : Int))) = true then
(if (decide ((List.length p1.1.1 : Int) = (3 : Int))) = true then
(if 0 ≤ (1 : Int) ∧ (1 : Int) ≤ (List.length p1.1.1 : Int) then
(if p2.1.2.2.1 = p2.1.2.2.1 then
(if 0 ≤ p2.1.2.2.1 ∧ p2.1.2.2.1 ≤ (capMax : Int) then
(if p2.1.2.2.1 = p2.1.2.2.1 then
(if 0 ≤ p2.1.2.2.1 ∧ p2.1.2.2.1 ≤ (capMax : Int) then
(if (List.length p1.1.1 : Int) = (List.length p1.1.1 : Int) ∧ List.length p1.1.1 + List.length ([(x.2.1, (p2.1.1, (p2.1.2.2.1, ((List.replicate (Int.toNat p2.1.2.2.1) (⟨#[]⟩ : ByteArray)), ((List.replicate (Int.toNat p2.1.2.2.1) false), (wi64 (x.2.2.2.1 + (8 : Int))))))))] : List (Int × Int × Int × List (ByteArray) × List (Bool) × Int)) ≤ capMax then
(j11 ((List.length p1.1.1 : Int) - (1 : Int)) ((List.drop (Int.toNat (1 : Int)) p1.1.1) ++ ([(x.2.1, (p2.1.1, (p2.1.2.2.1, ((List.replicate (Int.toNat p2.1.2.2.1) (⟨#[]⟩ : ByteArray)), ((List.replicate (Int.toNat p2.1.2.2.1) false), (wi64 (x.2.2.2.1 + (8 : Int))))))))] : List (Int × Int × Int × List (ByteArray) × List (Bool) × Int))))
else none)
else none)
else none)
else none)
else none)
else none)
else
(if p2.1.2.2.1 = p2.1.2.2.1 then
(if 0 ≤ p2.1.2.2.1 ∧ p2.1.2.2.1 ≤ (capMax : Int) then
(if p2.1.2.2.1 = p2.1.2.2.1 then
(if 0 ≤ p2.1.2.2.1 ∧ p2.1.2.2.1 ≤ (capMax : Int) then
(if List.length p1.1.1 + List.length ([(x.2.1, (p2.1.1, (p2.1.2.2.1, ((List.replicate (Int.toNat p2.1.2.2.1) (⟨#[]⟩ : ByteArray)), ((List.replicate (Int.toNat p2.1.2.2.1) false), (wi64 (x.2.2.2.1 + (8 : Int))))))))] : List (Int × Int × Int × List (ByteArray) × List (Bool) × Int)) ≤ capMax then
(j11 (List.length p1.1.1 : Int) (p1.1.1 ++ ([(x.2.1, (p2.1.1, (p2.1.2.2.1, ((List.replicate (Int.toNat p2.1.2.2.1) (⟨#[]⟩ : ByteArray)), ((List.replicate (Int.toNat p2.1.2.2.1) false), (wi64 (x.2.2.2.1 + (8 : Int))))))))] : List (Int × Int × Int × List (ByteArray) × List (Bool) × Int))))
else none)
else none)
else none)
else none)
else none))
else
(if 0 ≤ p6.1 ∧ p6.1 < (List.length p1.1.1 : Int) then
(jn (fun (j13v0 : List (Int × Int × Int × List (ByteArray) × List (Bool) × Int)) =>
((x_slices_Contains_bool_bool k ((Ty.rd (t := yT1) j13v0 p6.1).2.2.2.2.1, (false, ()))).bind fun p59 =>
(if p59.1 = true then
some (((j13v0, ()), ((⟨#[]⟩ : ByteArray), (false, ()))), ((), ((), ((), ((), ())))))
else
((x_strings_Join k ((Ty.rd (t := yT1) j13v0 p6.1).2.2.2.1, ((⟨#[]⟩ : ByteArray), ()))).bind fun p60 =>
((x_slices_Delete_impl_Held_impl_Held k (j13v0, (p6.1, ((wi64 (p6.1 + (1 : Int))), ())))).bind fun p61 =>
some (((p61.1, ()), (p60.1, (true, ()))), ((), ((), ((), ((), ())))))))))) (fun (j13 : (List (Int × Int × Int × List (ByteArray) × List (Bool) × Int)) → Option _) =>
(if 0 ≤ p2.1.2.1 ∧ p2.1.2.1 < (List.length (Ty.rd (t := yT1) p1.1.1 p6.1).2.2.2.2.1 : Int) then
(if (!(Ty.rd (t := .bool) (Ty.rd (t := yT1) p1.1.1 p6.1).2.2.2.2.1 p2.1.2.1)) = true then
(if 0 ≤ p2.1.2.1 ∧ p2.1.2.1 < (List.length (Ty.rd (t := yT1) p1.1.1 p6.1).2.2.2.2.1 : Int) then
(jn (List.set p1.1.1 (Int.toNat p6.1) ((Ty.rd (t := yT1) p1.1.1 p6.1).1, ((Ty.rd (t := yT1) p1.1.1 p6.1).2.1, ((Ty.rd (t := yT1) p1.1.1 p6.1).2.2.1, ((Ty.rd (t := yT1) p1.1.1 p6.1).2.2.2.1, ((List.set (Ty.rd (t := yT1) p1.1.1 p6.1).2.2.2.2.1 (Int.toNat p2.1.2.1) true), (Ty.rd (t := yT1) p1.1.1 p6.1).2.2.2.2.2)))))) (fun (q17 : List (Int × Int × Int × List (ByteArray) × List (Bool) × Int)) =>
(if 0 ≤ p2.1.2.1 ∧ p2.1.2.1 < (List.length (Ty.rd (t := yT1) q17 p6.1).2.2.2.1 : Int) then
(jn (List.set q17 (Int.toNat p6.1) ((Ty.rd (t := yT1) q17 p6.1).1, ((Ty.rd (t := yT1) q17 p6.1).2.1, ((Ty.rd (t := yT1) q17 p6.1).2.2.1, ((List.set (Ty.rd (t := yT1) q17 p6.1).2.2.2.1 (Int.toNat p2.1.2.1) p2.1.2.2.2.1), (Ty.rd (t := yT1) q17 p6.1).2.2.2.2))))) (fun (q18 : List (Int × Int × Int × List (ByteArray) × List (Bool) × Int)) =>
(j13 q18)))
else none)))
else none)
else
(j13 p1.1.1))
else none)))
else none))))) (fun (j9 : Option _) =>
(if (decide ((0 : Int) ≤ p6.1)) = true then
(if 0 ≤ p6.1 ∧ p6.1 < (List.length p1.1.1 : Int) then
(if (!decide ((Ty.rd (t := yT1) p1.1.1 p6.1).2.2.1 = p2.1.2.2.1)) = true then
((x_slices_Delete_impl_Held_impl_Held k (p1.1.1, (p6.1, ((wi64 (p6.1 + (1 : Int))), ())))).bind fun p7 =>
(jn (fun (j2v0 : Int) (j2v1 : List (Int × Int × Int × List (ByteArray) × List (Bool) × Int)) =>
(if 0 ≤ j2v0 ∧ j2v0 < (List.length j2v1 : Int) then
(jn (fun (j3v0 : List (Int × Int × Int × List (ByteArray) × List (Bool) × Int)) =>
((x_slices_Contains_bool_bool k ((Ty.rd (t := yT1) j3v0 j2v0).2.2.2.2.1, (false, ()))).bind fun p17 =>
(if p17.1 = true then
some (((j3v0, ()), ((⟨#[]⟩ : ByteArray), (false, ()))), ((), ((), ((), ((), ())))))
else
((x_strings_Join k ((Ty.rd (t := yT1) j3v0 j2v0).2.2.2.1, ((⟨#[]⟩ : ByteArray), ()))).bind fun p18 =>
((x_slices_Delete_impl_Held_impl_Held k (j3v0, (j2v0, ((wi64 (j2v0 + (1 : Int))), ())))).bind fun p19 =>
some (((p19.1, ()), (p18.1, (true, ()))), ((), ((), ((), ((), ())))))))))) (fun (j3 : (List (Int × Int × Int × List (ByteArray) × List (Bool) × Int)) → Option _) =>
(if 0 ≤ p2.1.2.1 ∧ p2.1.2.1 < (List.length (Ty.rd (t := yT1) j2v1 j2v0).2.2.2.2.1 : Int) then
(if (!(Ty.rd (t := .bool) (Ty.rd (t := yT1) j2v1 j2v0).2.2.2.2.1 p2.1.2.1)) = true then
(if 0 ≤ p2.1.2.1 ∧ p2.1.2.1 < (List.length (Ty.rd (t := yT1) j2v1 j2v0).2.2.2.2.1 : Int) then
(jn (List.set j2v1 (Int.toNat j2v0) ((Ty.rd (t := yT1) j2v1 j2v0).1, ((Ty.rd (t := yT1) j2v1 j2v0).2.1, ((Ty.rd (t := yT1) j2v1 j2v0).2.2.1, ((Ty.rd (t := yT1) j2v1 j2v0).2.2.2.1, ((List.set (Ty.rd (t := yT1) j2v1 j2v0).2.2.2.2.1 (Int.toNat p2.1.2.1) true), (Ty.rd (t := yT1) j2v1 j2v0).2.2.2.2.2)))))) (fun (q3 : List (Int × Int × Int × List (ByteArray) × List (Bool) × Int)) =>
(if 0 ≤ p2.1.2.1 ∧ p2.1.2.1 < (List.length (Ty.rd (t := yT1) q3 j2v0).2.2.2.1 : Int) then
(jn (List.set q3 (Int.toNat j2v0) ((Ty.rd (t := yT1) q3 j2v0).1, ((Ty.rd (t := yT1) q3 j2v0).2.1, ((Ty.rd (t := yT1) q3 j2v0).2.2.1, ((List.set (Ty.rd (t := yT1) q3 j2v0).2.2.2.1 (Int.toNat p2.1.2.1) p2.1.2.2.2.1), (Ty.rd (t := yT1) q3 j2v0).2.2.2.2))))) (fun (q4 : List (Int × Int × Int × List (ByteArray) × List (Bool) × Int)) =>
(j3 q4)))
else none)))
else none)
else
(j3 j2v1))
else none)))
else none)) (fun (j2 : Int → (List (Int × Int × Int × List (ByteArray) × List (Bool) × Int)) → Option _) =>
(if (decide ((-1 : Int) < (0 : Int))) = true then
(if (decide ((List.length p7.1 : Int) = (3 : Int))) = true then
(if 0 ≤ (1 : Int) ∧ (1 : Int) ≤ (List.length p7.1 : Int) then
(if p2.1.2.2.1 = p2.1.2.2.1 then
(if 0 ≤ p2.1.2.2.1 ∧ p2.1.2.2.1 ≤ (capMax : Int) then
(if p2.1.2.2.1 = p2.1.2.2.1 then
(if 0 ≤ p2.1.2.2.1 ∧ p2.1.2.2.1 ≤ (capMax : Int) then
(if (List.length p7.1 : Int) = (List.length p7.1 : Int) ∧ List.length p7.1 + List.length ([(x.2.1, (p2.1.1, (p2.1.2.2.1, ((List.replicate (Int.toNat p2.1.2.2.1) (⟨#[]⟩ : ByteArray)), ((List.replicate (Int.toNat p2.1.2.2.1) false), (wi64 (x.2.2.2.1 + (8 : Int))))))))] : List (Int × Int × Int × List (ByteArray) × List (Bool) × Int)) ≤ capMax then
(j2 ((List.length p7.1 : Int) - (1 : Int)) ((List.drop (Int.toNat (1 : Int)) p7.1) ++ ([(x.2.1, (p2.1.1, (p2.1.2.2.1, ((List.replicate (Int.toNat p2.1.2.2.1) (⟨#[]⟩ : ByteArray)), ((List.replicate (Int.toNat p2.1.2.2.1) false), (wi64 (x.2.2.2.1 + (8 : Int))))))))] : List (Int × Int × Int × List (ByteArray) × List (Bool) × Int))))
else none)
else none)
else none)
else none)
else none)
else none)
else
(if p2.1.2.2.1 = p2.1.2.2.1 then
(if 0 ≤ p2.1.2.2.1 ∧ p2.1.2.2.1 ≤ (capMax : Int) then
(if p2.1.2.2.1 = p2.1.2.2.1 then
(if 0 ≤ p2.1.2.2.1 ∧ p2.1.2.2.1 ≤ (capMax : Int) then
(if List.length p7.1 + List.length ([(x.2.1, (p2.1.1, (p2.1.2.2.1, ((List.replicate (Int.toNat p2.1.2.2.1) (⟨#[]⟩ : ByteArray)), ((List.replicate (Int.toNat p2.1.2.2.1) false), (wi64 (x.2.2.2.1 + (8 : Int))))))))] : List (Int × Int × Int × List (ByteArray) × List (Bool) × Int)) ≤ capMax then
(j2 (List.length p7.1 : Int) (p7.1 ++ ([(x.2.1, (p2.1.1, (p2.1.2.2.1, ((List.replicate (Int.toNat p2.1.2.2.1) (⟨#[]⟩ : ByteArray)), ((List.replicate (Int.toNat p2.1.2.2.1) false), (wi64 (x.2.2.2.1 + (8 : Int))))))))] : List (Int × Int × Int × List (ByteArray) × List (Bool) × Int))))
else none)
else none)
else none)
else none)
else none))
else
(if 0 ≤ (-1 : Int) ∧ (-1 : Int) < (List.length p7.1 : Int) then
(jn (fun (j4v0 : List (Int × Int × Int × List (ByteArray) × List (Bool) × Int)) =>
((x_slices_Contains_bool_bool k ((Ty.rd (t := yT1) j4v0 (-1 : Int)).2.2.2.2.1, (false, ()))).bind fun p23 =>
(if p23.1 = true then
some (((j4v0, ()), ((⟨#[]⟩ : ByteArray), (false, ()))), ((), ((), ((), ((), ())))))
else
((x_strings_Join k ((Ty.rd (t := yT1) j4v0 (-1 : Int)).2.2.2.1, ((⟨#[]⟩ : ByteArray), ()))).bind fun p24 =>
((x_slices_Delete_impl_Held_impl_Held k (j4v0, ((-1 : Int), ((wi64 ((-1 : Int) + (1 : Int))), ())))).bind fun p25 =>
some (((p25.1, ()), (p24.1, (true, ()))), ((), ((), ((), ((), ())))))))))) (fun (j4 : (List (Int × Int × Int × List (ByteArray) × List (Bool) × Int)) → Option _) =>
(if 0 ≤ p2.1.2.1 ∧ p2.1.2.1 < (List.length (Ty.rd (t := yT1) p7.1 (-1 : Int)).2.2.2.2.1 : Int) then
(if (!(Ty.rd (t := .bool) (Ty.rd (t := yT1) p7.1 (-1 : Int)).2.2.2.2.1 p2.1.2.1)) = true then
(if 0 ≤ p2.1.2.1 ∧ p2.1.2.1 < (List.length (Ty.rd (t := yT1) p7.1 (-1 : Int)).2.2.2.2.1 : Int) then
(jn (List.set p7.1 (Int.toNat (-1 : Int)) ((Ty.rd (t := yT1) p7.1 (-1 : Int)).1, ((Ty.rd (t := yT1) p7.1 (-1 : Int)).2.1, ((Ty.rd (t := yT1) p7.1 (-1 : Int)).2.2.1, ((Ty.rd (t := yT1) p7.1 (-1 : Int)).2.2.2.1, ((List.set (Ty.rd (t := yT1) p7.1 (-1 : Int)).2.2.2.2.1 (Int.toNat p2.1.2.1) true), (Ty.rd (t := yT1) p7.1 (-1 : Int)).2.2.2.2.2)))))) (fun (q5 : List (Int × Int × Int × List (ByteArray) × List (Bool) × Int)) =>
(if 0 ≤ p2.1.2.1 ∧ p2.1.2.1 < (List.length (Ty.rd (t := yT1) q5 (-1 : Int)).2.2.2.1 : Int) then
(jn (List.set q5 (Int.toNat (-1 : Int)) ((Ty.rd (t := yT1) q5 (-1 : Int)).1, ((Ty.rd (t := yT1) q5 (-1 : Int)).2.1, ((Ty.rd (t := yT1) q5 (-1 : Int)).2.2.1, ((List.set (Ty.rd (t := yT1) q5 (-1 : Int)).2.2.2.1 (Int.toNat p2.1.2.1) p2.1.2.2.2.1), (Ty.rd (t := yT1) q5 (-1 : Int)).2.2.2.2))))) (fun (q6 : List (Int × Int × Int × List (ByteArray) × List (Bool) × Int)) =>
(j4 q6)))
else none)))
else none)
else
(j4 p7.1))
else none)))
else none)))))
else
j9)
else none)
else
j9)))))))
else
some (((p1.1.1, ()), ((⟨#[]⟩ : ByteArray), (false, ()))), ((), ((), ((), ((), ()))))))
else
some (((p1.1.1, ()), ((⟨#[]⟩ : ByteArray), (false, ()))), ((), ((), ((), ((), ()))))))
else
some (((p1.1.1, ()), ((⟨#[]⟩ : ByteArray), (false, ()))), ((), ((), ((), ((), ())))))))
else
some (((p1.1.1, ()), ((⟨#[]⟩ : ByteArray), (false, ()))), ((), ((), ((), ((), ())))))))))
theorem t_i_AddPart (k : Nat) (x) : evF TTabO k [⟨17, 0, (.cons .str .nil), yP8, i_ReadPart k⟩, ⟨19, 0, (.cons (.agg yP5) .nil), .bool, i_ShelfOk k⟩, ⟨54, 0, yP9, .bool, i_within k⟩, ⟨59, 0, (.cons (.agg yP5) .nil), (.agg yP7), i_copyShelf k⟩, ⟨60, 0, yP3, .bool, i_isId k⟩, ⟨61, 0, (.cons (.agg yP5) (.cons (.int .i64) yP3)), (.int .i64), i_heldAt k⟩, ⟨62, 0, (.cons (.own false 53 yT1) (.cons (.int .i64) yP3)), (.own false 53 yT1), x_slices_Delete_impl_Held_impl_Held k⟩, ⟨63, 0, (.cons (.il true .bool) (.cons .bool .nil)), .bool, x_slices_Contains_bool_bool k⟩, ⟨64, 0, (.cons (.il true .str) (.cons .str .nil)), .str, x_strings_Join k⟩] [] Try.f18 yP11 (.tup (.cons (.agg yP7) (.cons .str (.cons .bool .nil)))) x = i_AddPart k x := by kernel_rfl
theorem e_i_AddPart [Names] (k : Nat) : EntryOk Try.prog ⟨18, 0, yP11, (.tup (.cons (.agg yP7) (.cons .str (.cons .bool .nil)))), i_AddPart k⟩ := entry_ok tokO (by intro e he; simp only [List.mem_cons, List.not_mem_nil, or_false] at he; rcases he with rfl | rfl | rfl | rfl | rfl | rfl | rfl | rfl | rfl <;> first | exact e_i_ReadPart k | exact e_i_ShelfOk k | exact e_i_within k | exact e_i_copyShelf k | exact e_i_isId k | exact e_i_heldAt k | exact e_x_slices_Delete_impl_Held_impl_Held k | exact e_x_slices_Contains_bool_bool k | exact e_x_strings_Join k) (by kernel_rfl) (fn := Try.f18) (k := k) (es := [⟨17, 0, (.cons .str .nil), yP8, i_ReadPart k⟩, ⟨19, 0, (.cons (.agg yP5) .nil), .bool, i_ShelfOk k⟩, ⟨54, 0, yP9, .bool, i_within k⟩, ⟨59, 0, (.cons (.agg yP5) .nil), (.agg yP7), i_copyShelf k⟩, ⟨60, 0, yP3, .bool, i_isId k⟩, ⟨61, 0, (.cons (.agg yP5) (.cons (.int .i64) yP3)), (.int .i64), i_heldAt k⟩, ⟨62, 0, (.cons (.own false 53 yT1) (.cons (.int .i64) yP3)), (.own false 53 yT1), x_slices_Delete_impl_Held_impl_Held k⟩, ⟨63, 0, (.cons (.il true .bool) (.cons .bool .nil)), .bool, x_slices_Contains_bool_bool k⟩, ⟨64, 0, (.cons (.il true .str) (.cons .str .nil)), .str, x_strings_Join k⟩]) (loops := []) (by kernel_rfl) (by kernel_rfl) (fun x r h => (t_i_AddPart k x).trans h)
def w_szStringS (k : Nat) (x : List (ByteArray) × Int × Unit) : Option (Int × Unit × Unit × Unit) :=
(if (decide ((wi64 (x.2.1 - (List.length x.1 : Int))) < (0 : Int))) = true then
some ((-1 : Int), ((), ((), ())))
else
(whileK (fun (rec0 : (List (ByteArray) × Int × Int × Unit) → Option _) (y0 : List (ByteArray) × Int × Int × Unit) =>
(if (decide (y0.2.2.1 < (List.length y0.1 : Int))) = true then
(if 0 ≤ y0.2.2.1 ∧ y0.2.2.1 < (List.length y0.1 : Int) then
(if (decide ((wi64 (y0.2.1 - (ByteArray.size (Ty.rd (t := .str) y0.1 y0.2.2.1) : Int))) < (0 : Int))) = true then
some ((-1 : Int), ((), ((), ())))
else
(rec0 (y0.1, ((wi64 (y0.2.1 - (ByteArray.size (Ty.rd (t := .str) y0.1 y0.2.2.1) : Int))), ((wi64 (y0.2.2.1 + (1 : Int))), ())))))
else none)
else
((fun (z1 : Int × Unit) =>
some (z1.1, ((), ((), ())))) (y0.2.1, ())))) k (x.1, ((wi64 (x.2.1 - (List.length x.1 : Int))), ((0 : Int), ())))))
theorem t_w_szStringS (k : Nat) (x) : evF TTab k [] [(0, ⟨[0, 1, 5], (.cons (.il true .str) (.cons (.int .i64) yP3))⟩, ⟨[1], yP3⟩)] Try.f37 (.cons (.il true .str) yP3) (.int .i64) x = w_szStringS k x := by kernel_rfl
theorem e_w_szStringS [Names] (k : Nat) : EntryOk Try.prog ⟨37, 0, (.cons (.il true .str) yP3), (.int .i64), w_szStringS k⟩ := entry_ok tok (by simp) (by kernel_rfl) (fn := Try.f37) (k := k) (es := []) (loops := [(0, ⟨[0, 1, 5], (.cons (.il true .str) (.cons (.int .i64) yP3))⟩, ⟨[1], yP3⟩)]) (by kernel_rfl) (by kernel_rfl) (fun x r h => (t_w_szStringS k x).trans h)
def w_szBoolS (k : Nat) (x : List (Bool) × Int × Unit) : Option (Int × Unit × Unit × Unit) :=
(if (decide ((wi64 (x.2.1 - (List.length x.1 : Int))) < (0 : Int))) = true then
some ((-1 : Int), ((), ((), ())))
else
some ((wi64 (x.2.1 - (List.length x.1 : Int))), ((), ((), ()))))
theorem t_w_szBoolS (k : Nat) (x) : evF TTab k [] [] Try.f152 (.cons (.il true .bool) yP3) (.int .i64) x = w_szBoolS k x := by kernel_rfl
theorem e_w_szBoolS [Names] (k : Nat) : EntryOk Try.prog ⟨152, 0, (.cons (.il true .bool) yP3), (.int .i64), w_szBoolS k⟩ := entry_ok tok (by simp) (by kernel_rfl) (fn := Try.f152) (k := k) (es := []) (loops := []) (by kernel_rfl) (by kernel_rfl) (fun x r h => (t_w_szBoolS k x).trans h)
def w_szHeld (k : Nat) (x : (Int × Int × Int × List (ByteArray) × List (Bool) × Int × Unit) × Int × Unit) : Option (Int × Unit × Unit × Unit) :=
((w_szStringS k (x.1.2.2.2.1, (x.2.1, ()))).bind fun p1 =>
(if (decide (p1.1 < (0 : Int))) = true then
some ((-1 : Int), ((), ((), ())))
else
((w_szBoolS k (x.1.2.2.2.2.1, (p1.1, ()))).bind fun p2 =>
(if (decide (p2.1 < (0 : Int))) = true then
some ((-1 : Int), ((), ((), ())))
else
some (p2.1, ((), ((), ())))))))
theorem t_w_szHeld (k : Nat) (x) : evF TTab k [⟨37, 0, (.cons (.il true .str) yP3), (.int .i64), w_szStringS k⟩, ⟨152, 0, (.cons (.il true .bool) yP3), (.int .i64), w_szBoolS k⟩] [] Try.f121 (.cons (.agg yP2) yP3) (.int .i64) x = w_szHeld k x := by kernel_rfl
theorem e_w_szHeld [Names] (k : Nat) : EntryOk Try.prog ⟨121, 0, (.cons (.agg yP2) yP3), (.int .i64), w_szHeld k⟩ := entry_ok tok (by intro e he; simp only [List.mem_cons, List.not_mem_nil, or_false] at he; rcases he with rfl | rfl <;> first | exact e_w_szStringS k | exact e_w_szBoolS k) (by kernel_rfl) (fn := Try.f121) (k := k) (es := [⟨37, 0, (.cons (.il true .str) yP3), (.int .i64), w_szStringS k⟩, ⟨152, 0, (.cons (.il true .bool) yP3), (.int .i64), w_szBoolS k⟩]) (loops := []) (by kernel_rfl) (by kernel_rfl) (fun x r h => (t_w_szHeld k x).trans h)
def w_szHeldS (k : Nat) (x : (List (Int × Int × Int × List (ByteArray) × List (Bool) × Int)) × Int × Unit) : Option (Int × Unit × Unit × Unit) :=
(if (decide ((wi64 (x.2.1 - (List.length x.1 : Int))) < (0 : Int))) = true then
some ((-1 : Int), ((), ((), ())))
else
(whileK (fun (rec0 : ((List (Int × Int × Int × List (ByteArray) × List (Bool) × Int)) × Int × Int × Unit) → Option _) (y0 : (List (Int × Int × Int × List (ByteArray) × List (Bool) × Int)) × Int × Int × Unit) =>
(if (decide (y0.2.2.1 < (List.length y0.1 : Int))) = true then
(if 0 ≤ y0.2.2.1 ∧ y0.2.2.1 < (List.length y0.1 : Int) then
((w_szHeld k (((Ty.rd (t := yT0) y0.1 y0.2.2.1).1, ((Ty.rd (t := yT0) y0.1 y0.2.2.1).2.1, ((Ty.rd (t := yT0) y0.1 y0.2.2.1).2.2.1, ((Ty.rd (t := yT0) y0.1 y0.2.2.1).2.2.2.1, ((Ty.rd (t := yT0) y0.1 y0.2.2.1).2.2.2.2.1, ((Ty.rd (t := yT0) y0.1 y0.2.2.1).2.2.2.2.2, ())))))), (y0.2.1, ()))).bind fun p1 =>
(if (decide (p1.1 < (0 : Int))) = true then
some ((-1 : Int), ((), ((), ())))
else
(rec0 (y0.1, (p1.1, ((wi64 (y0.2.2.1 + (1 : Int))), ()))))))
else none)
else
((fun (z1 : Int × Unit) =>
some (z1.1, ((), ((), ())))) (y0.2.1, ())))) k (x.1, ((wi64 (x.2.1 - (List.length x.1 : Int))), ((0 : Int), ())))))
theorem t_w_szHeldS (k : Nat) (x) : evF TTabO k [⟨121, 0, (.cons (.agg yP2) yP3), (.int .i64), w_szHeld k⟩] [(0, ⟨[0, 1, 5], (.cons (.il true yT0) (.cons (.int .i64) yP3))⟩, ⟨[1], yP3⟩)] Try.f66 (.cons (.il true yT0) yP3) (.int .i64) x = w_szHeldS k x := by kernel_rfl
theorem e_w_szHeldS [Names] (k : Nat) : EntryOk Try.prog ⟨66, 0, (.cons (.il true yT0) yP3), (.int .i64), w_szHeldS k⟩ := entry_ok tokO (by intro e he; simp only [List.mem_cons, List.not_mem_nil, or_false] at he; rcases he with rfl <;> first | exact e_w_szHeld k) (by kernel_rfl) (fn := Try.f66) (k := k) (es := [⟨121, 0, (.cons (.agg yP2) yP3), (.int .i64), w_szHeld k⟩]) (loops := [(0, ⟨[0, 1, 5], (.cons (.il true yT0) (.cons (.int .i64) yP3))⟩, ⟨[1], yP3⟩)]) (by kernel_rfl) (by kernel_rfl) (fun x r h => (t_w_szHeldS k x).trans h)
def w_szShelf (k : Nat) (x : ((List (Int × Int × Int × List (ByteArray) × List (Bool) × Int)) × Unit) × Int × Unit) : Option (Int × Unit × Unit × Unit) :=
((w_szHeldS k (x.1.1, (x.2.1, ()))).bind fun p1 =>
(if (decide (p1.1 < (0 : Int))) = true then
some ((-1 : Int), ((), ((), ())))
else
some (p1.1, ((), ((), ())))))
theorem t_w_szShelf (k : Nat) (x) : evF TTabO k [⟨66, 0, (.cons (.il true yT0) yP3), (.int .i64), w_szHeldS k⟩] [] Try.f20 (.cons (.agg yP5) yP3) (.int .i64) x = w_szShelf k x := by kernel_rfl
theorem e_w_szShelf [Names] (k : Nat) : EntryOk Try.prog ⟨20, 0, (.cons (.agg yP5) yP3), (.int .i64), w_szShelf k⟩ := entry_ok tokO (by intro e he; simp only [List.mem_cons, List.not_mem_nil, or_false] at he; rcases he with rfl <;> first | exact e_w_szHeldS k) (by kernel_rfl) (fn := Try.f20) (k := k) (es := [⟨66, 0, (.cons (.il true yT0) yP3), (.int .i64), w_szHeldS k⟩]) (loops := []) (by kernel_rfl) (by kernel_rfl) (fun x r h => (t_w_szShelf k x).trans h)
def w_toStringS (k : Nat) (x : List (ByteArray) × Unit) : Option (List (ByteArray) × Unit × Unit) :=
(if (List.length x.1 : Int) = (List.length x.1 : Int) then
(if 0 ≤ (List.length x.1 : Int) ∧ (List.length x.1 : Int) ≤ (capMax : Int) then
(whileK (fun (rec0 : (List (ByteArray) × List (ByteArray) × Int × Unit) → Option _) (y0 : List (ByteArray) × List (ByteArray) × Int × Unit) =>
(if (decide (y0.2.2.1 < (List.length y0.1 : Int))) = true then
(if 0 ≤ y0.2.2.1 ∧ y0.2.2.1 < (List.length y0.1 : Int) then
(if 0 ≤ y0.2.2.1 ∧ y0.2.2.1 < (List.length y0.2.1 : Int) then
(rec0 (y0.1, ((List.set y0.2.1 (Int.toNat y0.2.2.1) (Ty.rd (t := .str) y0.1 y0.2.2.1)), ((wi64 (y0.2.2.1 + (1 : Int))), ()))))
else none)
else none)
else
((fun (z1 : List (ByteArray) × Unit) =>
some (z1.1, ((), ()))) (y0.2.1, ())))) k (x.1, ((List.replicate (Int.toNat (List.length x.1 : Int)) (⟨#[]⟩ : ByteArray)), ((0 : Int), ()))))
else none)
else none)
theorem t_w_toStringS (k : Nat) (x) : evF TTab k [] [(0, ⟨[0, 3, 4], (.cons (.il true .str) (.cons (.own false 9 .str) yP3))⟩, ⟨[3], (.cons (.own false 9 .str) .nil)⟩)] Try.f39 (.cons (.il true .str) .nil) (.own false 9 .str) x = w_toStringS k x := by kernel_rfl
theorem e_w_toStringS [Names] (k : Nat) : EntryOk Try.prog ⟨39, 0, (.cons (.il true .str) .nil), (.own false 9 .str), w_toStringS k⟩ := entry_ok tok (by simp) (by kernel_rfl) (fn := Try.f39) (k := k) (es := []) (loops := [(0, ⟨[0, 3, 4], (.cons (.il true .str) (.cons (.own false 9 .str) yP3))⟩, ⟨[3], (.cons (.own false 9 .str) .nil)⟩)]) (by kernel_rfl) (by kernel_rfl) (fun x r h => (t_w_toStringS k x).trans h)
def w_toBoolS (k : Nat) (x : List (Bool) × Unit) : Option (List (Bool) × Unit × Unit) :=
(if (List.length x.1 : Int) = (List.length x.1 : Int) then
(if 0 ≤ (List.length x.1 : Int) ∧ (List.length x.1 : Int) ≤ (capMax : Int) then
(whileK (fun (rec0 : (List (Bool) × List (Bool) × Int × Unit) → Option _) (y0 : List (Bool) × List (Bool) × Int × Unit) =>
(if (decide (y0.2.2.1 < (List.length y0.1 : Int))) = true then
(if 0 ≤ y0.2.2.1 ∧ y0.2.2.1 < (List.length y0.1 : Int) then
(if 0 ≤ y0.2.2.1 ∧ y0.2.2.1 < (List.length y0.2.1 : Int) then
(rec0 (y0.1, ((List.set y0.2.1 (Int.toNat y0.2.2.1) (Ty.rd (t := .bool) y0.1 y0.2.2.1)), ((wi64 (y0.2.2.1 + (1 : Int))), ()))))
else none)
else none)
else
((fun (z1 : List (Bool) × Unit) =>
some (z1.1, ((), ()))) (y0.2.1, ())))) k (x.1, ((List.replicate (Int.toNat (List.length x.1 : Int)) false), ((0 : Int), ()))))
else none)
else none)
theorem t_w_toBoolS (k : Nat) (x) : evF TTab k [] [(0, ⟨[0, 3, 4], (.cons (.il true .bool) (.cons (.own false 4 .bool) yP3))⟩, ⟨[3], (.cons (.own false 4 .bool) .nil)⟩)] Try.f153 (.cons (.il true .bool) .nil) (.own false 4 .bool) x = w_toBoolS k x := by kernel_rfl
theorem e_w_toBoolS [Names] (k : Nat) : EntryOk Try.prog ⟨153, 0, (.cons (.il true .bool) .nil), (.own false 4 .bool), w_toBoolS k⟩ := entry_ok tok (by simp) (by kernel_rfl) (fn := Try.f153) (k := k) (es := []) (loops := [(0, ⟨[0, 3, 4], (.cons (.il true .bool) (.cons (.own false 4 .bool) yP3))⟩, ⟨[3], (.cons (.own false 4 .bool) .nil)⟩)]) (by kernel_rfl) (by kernel_rfl) (fun x r h => (t_w_toBoolS k x).trans h)
def w_toHeld (k : Nat) (x : (Int × Int × Int × List (ByteArray) × List (Bool) × Int × Unit) × Unit) : Option ((Int × Int × Int × List (ByteArray) × List (Bool) × Int × Unit) × Unit × Unit) :=
((w_toStringS k (x.1.2.2.2.1, ())).bind fun p1 =>
((w_toBoolS k (x.1.2.2.2.2.1, ())).bind fun p2 =>
some ((x.1.1, (x.1.2.1, (x.1.2.2.1, (p1.1, (p2.1, (x.1.2.2.2.2.2.1, ())))))), ((), ()))))
theorem t_w_toHeld (k : Nat) (x) : evF TTab k [⟨39, 0, (.cons (.il true .str) .nil), (.own false 9 .str), w_toStringS k⟩, ⟨153, 0, (.cons (.il true .bool) .nil), (.own false 4 .bool), w_toBoolS k⟩] [] Try.f122 (.cons (.agg yP2) .nil) (.agg yP6) x = w_toHeld k x := by kernel_rfl
theorem e_w_toHeld [Names] (k : Nat) : EntryOk Try.prog ⟨122, 0, (.cons (.agg yP2) .nil), (.agg yP6), w_toHeld k⟩ := entry_ok tok (by intro e he; simp only [List.mem_cons, List.not_mem_nil, or_false] at he; rcases he with rfl | rfl <;> first | exact e_w_toStringS k | exact e_w_toBoolS k) (by kernel_rfl) (fn := Try.f122) (k := k) (es := [⟨39, 0, (.cons (.il true .str) .nil), (.own false 9 .str), w_toStringS k⟩, ⟨153, 0, (.cons (.il true .bool) .nil), (.own false 4 .bool), w_toBoolS k⟩]) (loops := []) (by kernel_rfl) (by kernel_rfl) (fun x r h => (t_w_toHeld k x).trans h)
def w_toHeldS (k : Nat) (x : (List (Int × Int × Int × List (ByteArray) × List (Bool) × Int)) × Unit) : Option ((List (Int × Int × Int × List (ByteArray) × List (Bool) × Int)) × Unit × Unit) :=
(if (List.length x.1 : Int) = (List.length x.1 : Int) then
(if 0 ≤ (List.length x.1 : Int) ∧ (List.length x.1 : Int) ≤ (capMax : Int) then
(whileK (fun (rec0 : ((List (Int × Int × Int × List (ByteArray) × List (Bool) × Int)) × (List (Int × Int × Int × List (ByteArray) × List (Bool) × Int)) × Int × Unit) → Option _) (y0 : (List (Int × Int × Int × List (ByteArray) × List (Bool) × Int)) × (List (Int × Int × Int × List (ByteArray) × List (Bool) × Int)) × Int × Unit) =>
(if (decide (y0.2.2.1 < (List.length y0.1 : Int))) = true then
(if 0 ≤ y0.2.2.1 ∧ y0.2.2.1 < (List.length y0.1 : Int) then
((w_toHeld k (((Ty.rd (t := yT0) y0.1 y0.2.2.1).1, ((Ty.rd (t := yT0) y0.1 y0.2.2.1).2.1, ((Ty.rd (t := yT0) y0.1 y0.2.2.1).2.2.1, ((Ty.rd (t := yT0) y0.1 y0.2.2.1).2.2.2.1, ((Ty.rd (t := yT0) y0.1 y0.2.2.1).2.2.2.2.1, ((Ty.rd (t := yT0) y0.1 y0.2.2.1).2.2.2.2.2, ())))))), ())).bind fun p1 =>
(if 0 ≤ y0.2.2.1 ∧ y0.2.2.1 < (List.length y0.2.1 : Int) then
(rec0 (y0.1, ((List.set y0.2.1 (Int.toNat y0.2.2.1) (p1.1.1, (p1.1.2.1, (p1.1.2.2.1, (p1.1.2.2.2.1, (p1.1.2.2.2.2.1, p1.1.2.2.2.2.2.1)))))), ((wi64 (y0.2.2.1 + (1 : Int))), ()))))
else none))
else none)
else
((fun (z1 : (List (Int × Int × Int × List (ByteArray) × List (Bool) × Int)) × Unit) =>
some (z1.1, ((), ()))) (y0.2.1, ())))) k (x.1, ((List.replicate (Int.toNat (List.length x.1 : Int)) ((0 : Int), ((0 : Int), ((0 : Int), ([], ([], (0 : Int))))))), ((0 : Int), ()))))
else none)
else none)
theorem t_w_toHeldS (k : Nat) (x) : evF TTabO k [⟨122, 0, (.cons (.agg yP2) .nil), (.agg yP6), w_toHeld k⟩] [(0, ⟨[0, 3, 4], (.cons (.il true yT0) (.cons (.own false 53 yT1) yP3))⟩, ⟨[3], yP7⟩)] Try.f68 yP5 (.own false 53 yT1) x = w_toHeldS k x := by kernel_rfl
theorem e_w_toHeldS [Names] (k : Nat) : EntryOk Try.prog ⟨68, 0, yP5, (.own false 53 yT1), w_toHeldS k⟩ := entry_ok tokO (by intro e he; simp only [List.mem_cons, List.not_mem_nil, or_false] at he; rcases he with rfl <;> first | exact e_w_toHeld k) (by kernel_rfl) (fn := Try.f68) (k := k) (es := [⟨122, 0, (.cons (.agg yP2) .nil), (.agg yP6), w_toHeld k⟩]) (loops := [(0, ⟨[0, 3, 4], (.cons (.il true yT0) (.cons (.own false 53 yT1) yP3))⟩, ⟨[3], yP7⟩)]) (by kernel_rfl) (by kernel_rfl) (fun x r h => (t_w_toHeldS k x).trans h)
def w_toShelf (k : Nat) (x : ((List (Int × Int × Int × List (ByteArray) × List (Bool) × Int)) × Unit) × Unit) : Option (((List (Int × Int × Int × List (ByteArray) × List (Bool) × Int)) × Unit) × Unit × Unit) :=
((w_toHeldS k (x.1.1, ())).bind fun p1 =>
some ((p1.1, ()), ((), ())))
theorem t_w_toShelf (k : Nat) (x) : evF TTabO k [⟨68, 0, yP5, (.own false 53 yT1), w_toHeldS k⟩] [] Try.f22 (.cons (.agg yP5) .nil) (.agg yP7) x = w_toShelf k x := by kernel_rfl
theorem e_w_toShelf [Names] (k : Nat) : EntryOk Try.prog ⟨22, 0, (.cons (.agg yP5) .nil), (.agg yP7), w_toShelf k⟩ := entry_ok tokO (by intro e he; simp only [List.mem_cons, List.not_mem_nil, or_false] at he; rcases he with rfl <;> first | exact e_w_toHeldS k) (by kernel_rfl) (fn := Try.f22) (k := k) (es := [⟨68, 0, yP5, (.own false 53 yT1), w_toHeldS k⟩]) (loops := []) (by kernel_rfl) (by kernel_rfl) (fun x r h => (t_w_toShelf k x).trans h)
def w_eqStringS (k : Nat) (x : List (ByteArray) × List (ByteArray) × Unit) : Option (Bool × Unit × Unit × Unit) :=
(if (!decide ((List.length x.1 : Int) = (List.length x.2.1 : Int))) = true then
some (false, ((), ((), ())))
else
(whileK (fun (rec0 : (List (ByteArray) × List (ByteArray) × Int × Unit) → Option _) (y0 : List (ByteArray) × List (ByteArray) × Int × Unit) =>
(if (decide (y0.2.2.1 < (List.length y0.1 : Int))) = true then
(if 0 ≤ y0.2.2.1 ∧ y0.2.2.1 < (List.length y0.1 : Int) then
(if 0 ≤ y0.2.2.1 ∧ y0.2.2.1 < (List.length y0.2.1 : Int) then
(if (!decide ((Ty.rd (t := .str) y0.1 y0.2.2.1) = (Ty.rd (t := .str) y0.2.1 y0.2.2.1))) = true then
some (false, ((), ((), ())))
else
(rec0 (y0.1, (y0.2.1, ((wi64 (y0.2.2.1 + (1 : Int))), ())))))
else none)
else none)
else
((fun (z1 : Unit) =>
some (true, ((), ((), ())))) ()))) k (x.1, (x.2.1, ((0 : Int), ())))))
theorem t_w_eqStringS (k : Nat) (x) : evF TTab k [] [(0, ⟨[0, 1, 5], (.cons (.il true .str) (.cons (.il true .str) yP3))⟩, ⟨[], .nil⟩)] Try.f42 (.cons (.il true .str) (.cons (.il true .str) .nil)) .bool x = w_eqStringS k x := by kernel_rfl
theorem e_w_eqStringS [Names] (k : Nat) : EntryOk Try.prog ⟨42, 0, (.cons (.il true .str) (.cons (.il true .str) .nil)), .bool, w_eqStringS k⟩ := entry_ok tok (by simp) (by kernel_rfl) (fn := Try.f42) (k := k) (es := []) (loops := [(0, ⟨[0, 1, 5], (.cons (.il true .str) (.cons (.il true .str) yP3))⟩, ⟨[], .nil⟩)]) (by kernel_rfl) (by kernel_rfl) (fun x r h => (t_w_eqStringS k x).trans h)
def w_eqBoolS (k : Nat) (x : List (Bool) × List (Bool) × Unit) : Option (Bool × Unit × Unit × Unit) :=
(if (!decide ((List.length x.1 : Int) = (List.length x.2.1 : Int))) = true then
some (false, ((), ((), ())))
else
(whileK (fun (rec0 : (List (Bool) × List (Bool) × Int × Unit) → Option _) (y0 : List (Bool) × List (Bool) × Int × Unit) =>
(if (decide (y0.2.2.1 < (List.length y0.1 : Int))) = true then
(if 0 ≤ y0.2.2.1 ∧ y0.2.2.1 < (List.length y0.1 : Int) then
(if 0 ≤ y0.2.2.1 ∧ y0.2.2.1 < (List.length y0.2.1 : Int) then
(if (!decide ((Ty.rd (t := .bool) y0.1 y0.2.2.1) = (Ty.rd (t := .bool) y0.2.1 y0.2.2.1))) = true then
some (false, ((), ((), ())))
else
(rec0 (y0.1, (y0.2.1, ((wi64 (y0.2.2.1 + (1 : Int))), ())))))
else none)
else none)
else
((fun (z1 : Unit) =>
some (true, ((), ((), ())))) ()))) k (x.1, (x.2.1, ((0 : Int), ())))))
theorem t_w_eqBoolS (k : Nat) (x) : evF TTab k [] [(0, ⟨[0, 1, 5], (.cons (.il true .bool) (.cons (.il true .bool) yP3))⟩, ⟨[], .nil⟩)] Try.f154 (.cons (.il true .bool) (.cons (.il true .bool) .nil)) .bool x = w_eqBoolS k x := by kernel_rfl
theorem e_w_eqBoolS [Names] (k : Nat) : EntryOk Try.prog ⟨154, 0, (.cons (.il true .bool) (.cons (.il true .bool) .nil)), .bool, w_eqBoolS k⟩ := entry_ok tok (by simp) (by kernel_rfl) (fn := Try.f154) (k := k) (es := []) (loops := [(0, ⟨[0, 1, 5], (.cons (.il true .bool) (.cons (.il true .bool) yP3))⟩, ⟨[], .nil⟩)]) (by kernel_rfl) (by kernel_rfl) (fun x r h => (t_w_eqBoolS k x).trans h)
def w_eqHeld (k : Nat) (x : (Int × Int × Int × List (ByteArray) × List (Bool) × Int × Unit) × (Int × Int × Int × List (ByteArray) × List (Bool) × Int × Unit) × Unit) : Option (Bool × Unit × Unit × Unit) :=
(if (!decide (x.1.1 = x.2.1.1)) = true then
some (false, ((), ((), ())))
else
(if (!decide (x.1.2.1 = x.2.1.2.1)) = true then
some (false, ((), ((), ())))
else
(if (!decide (x.1.2.2.1 = x.2.1.2.2.1)) = true then
some (false, ((), ((), ())))
else
((w_eqStringS k (x.1.2.2.2.1, (x.2.1.2.2.2.1, ()))).bind fun p1 =>
(if (!p1.1) = true then
some (false, ((), ((), ())))
else
((w_eqBoolS k (x.1.2.2.2.2.1, (x.2.1.2.2.2.2.1, ()))).bind fun p2 =>
(if (!p2.1) = true then
some (false, ((), ((), ())))
else
(if (!decide (x.1.2.2.2.2.2.1 = x.2.1.2.2.2.2.2.1)) = true then
some (false, ((), ((), ())))
else
some (true, ((), ((), ())))))))))))
theorem t_w_eqHeld (k : Nat) (x) : evF TTab k [⟨42, 0, (.cons (.il true .str) (.cons (.il true .str) .nil)), .bool, w_eqStringS k⟩, ⟨154, 0, (.cons (.il true .bool) (.cons (.il true .bool) .nil)), .bool, w_eqBoolS k⟩] [] Try.f123 (.cons (.agg yP2) (.cons (.agg yP2) .nil)) .bool x = w_eqHeld k x := by kernel_rfl
theorem e_w_eqHeld [Names] (k : Nat) : EntryOk Try.prog ⟨123, 0, (.cons (.agg yP2) (.cons (.agg yP2) .nil)), .bool, w_eqHeld k⟩ := entry_ok tok (by intro e he; simp only [List.mem_cons, List.not_mem_nil, or_false] at he; rcases he with rfl | rfl <;> first | exact e_w_eqStringS k | exact e_w_eqBoolS k) (by kernel_rfl) (fn := Try.f123) (k := k) (es := [⟨42, 0, (.cons (.il true .str) (.cons (.il true .str) .nil)), .bool, w_eqStringS k⟩, ⟨154, 0, (.cons (.il true .bool) (.cons (.il true .bool) .nil)), .bool, w_eqBoolS k⟩]) (loops := []) (by kernel_rfl) (by kernel_rfl) (fun x r h => (t_w_eqHeld k x).trans h)
def w_eqHeldS (k : Nat) (x : (List (Int × Int × Int × List (ByteArray) × List (Bool) × Int)) × (List (Int × Int × Int × List (ByteArray) × List (Bool) × Int)) × Unit) : Option (Bool × Unit × Unit × Unit) :=
(if (!decide ((List.length x.1 : Int) = (List.length x.2.1 : Int))) = true then
some (false, ((), ((), ())))
else
(whileK (fun (rec0 : ((List (Int × Int × Int × List (ByteArray) × List (Bool) × Int)) × (List (Int × Int × Int × List (ByteArray) × List (Bool) × Int)) × Int × Unit) → Option _) (y0 : (List (Int × Int × Int × List (ByteArray) × List (Bool) × Int)) × (List (Int × Int × Int × List (ByteArray) × List (Bool) × Int)) × Int × Unit) =>
(if (decide (y0.2.2.1 < (List.length y0.1 : Int))) = true then
(if 0 ≤ y0.2.2.1 ∧ y0.2.2.1 < (List.length y0.1 : Int) then
(if 0 ≤ y0.2.2.1 ∧ y0.2.2.1 < (List.length y0.2.1 : Int) then
((w_eqHeld k (((Ty.rd (t := yT0) y0.1 y0.2.2.1).1, ((Ty.rd (t := yT0) y0.1 y0.2.2.1).2.1, ((Ty.rd (t := yT0) y0.1 y0.2.2.1).2.2.1, ((Ty.rd (t := yT0) y0.1 y0.2.2.1).2.2.2.1, ((Ty.rd (t := yT0) y0.1 y0.2.2.1).2.2.2.2.1, ((Ty.rd (t := yT0) y0.1 y0.2.2.1).2.2.2.2.2, ())))))), (((Ty.rd (t := yT0) y0.2.1 y0.2.2.1).1, ((Ty.rd (t := yT0) y0.2.1 y0.2.2.1).2.1, ((Ty.rd (t := yT0) y0.2.1 y0.2.2.1).2.2.1, ((Ty.rd (t := yT0) y0.2.1 y0.2.2.1).2.2.2.1, ((Ty.rd (t := yT0) y0.2.1 y0.2.2.1).2.2.2.2.1, ((Ty.rd (t := yT0) y0.2.1 y0.2.2.1).2.2.2.2.2, ())))))), ()))).bind fun p1 =>
(if (!p1.1) = true then
some (false, ((), ((), ())))
else
(rec0 (y0.1, (y0.2.1, ((wi64 (y0.2.2.1 + (1 : Int))), ()))))))
else none)
else none)
else
((fun (z1 : Unit) =>
some (true, ((), ((), ())))) ()))) k (x.1, (x.2.1, ((0 : Int), ())))))
theorem t_w_eqHeldS (k : Nat) (x) : evF TTabO k [⟨123, 0, (.cons (.agg yP2) (.cons (.agg yP2) .nil)), .bool, w_eqHeld k⟩] [(0, ⟨[0, 1, 5], (.cons (.il true yT0) (.cons (.il true yT0) yP3))⟩, ⟨[], .nil⟩)] Try.f71 (.cons (.il true yT0) yP5) .bool x = w_eqHeldS k x := by kernel_rfl
theorem e_w_eqHeldS [Names] (k : Nat) : EntryOk Try.prog ⟨71, 0, (.cons (.il true yT0) yP5), .bool, w_eqHeldS k⟩ := entry_ok tokO (by intro e he; simp only [List.mem_cons, List.not_mem_nil, or_false] at he; rcases he with rfl <;> first | exact e_w_eqHeld k) (by kernel_rfl) (fn := Try.f71) (k := k) (es := [⟨123, 0, (.cons (.agg yP2) (.cons (.agg yP2) .nil)), .bool, w_eqHeld k⟩]) (loops := [(0, ⟨[0, 1, 5], (.cons (.il true yT0) (.cons (.il true yT0) yP3))⟩, ⟨[], .nil⟩)]) (by kernel_rfl) (by kernel_rfl) (fun x r h => (t_w_eqHeldS k x).trans h)
def w_eqShelf (k : Nat) (x : ((List (Int × Int × Int × List (ByteArray) × List (Bool) × Int)) × Unit) × ((List (Int × Int × Int × List (ByteArray) × List (Bool) × Int)) × Unit) × Unit) : Option (Bool × Unit × Unit × Unit) :=
((w_eqHeldS k (x.1.1, (x.2.1.1, ()))).bind fun p1 =>
(if (!p1.1) = true then
some (false, ((), ((), ())))
else
some (true, ((), ((), ())))))
theorem t_w_eqShelf (k : Nat) (x) : evF TTabO k [⟨71, 0, (.cons (.il true yT0) yP5), .bool, w_eqHeldS k⟩] [] Try.f24 (.cons (.agg yP5) (.cons (.agg yP5) .nil)) .bool x = w_eqShelf k x := by kernel_rfl
theorem e_w_eqShelf [Names] (k : Nat) : EntryOk Try.prog ⟨24, 0, (.cons (.agg yP5) (.cons (.agg yP5) .nil)), .bool, w_eqShelf k⟩ := entry_ok tokO (by intro e he; simp only [List.mem_cons, List.not_mem_nil, or_false] at he; rcases he with rfl <;> first | exact e_w_eqHeldS k) (by kernel_rfl) (fn := Try.f24) (k := k) (es := [⟨71, 0, (.cons (.il true yT0) yP5), .bool, w_eqHeldS k⟩]) (loops := []) (by kernel_rfl) (by kernel_rfl) (fun x r h => (t_w_eqShelf k x).trans h)
def w_markText (k : Nat) (x : Int × Unit) : Option (ByteArray × Unit × Unit) :=
(if (decide (x.1 ≤ (0 : Int))) = true then
some ((⟨#[109, 48]⟩ : ByteArray), ((), ()))
else
(whileK (fun (rec0 : (Int × ByteArray × Unit) → Option _) (y0 : Int × ByteArray × Unit) =>
(if (decide ((0 : Int) < y0.1)) = true then
(if ByteArray.size (strOf ([(wu8 ((wi64 ((48 : Int) + (Int.tmod y0.1 (10 : Int))))))] : List (Int))) + ByteArray.size y0.2.1 ≤ maxStr then
(rec0 ((wi64 (Int.tdiv y0.1 (10 : Int))), (((strOf ([(wu8 ((wi64 ((48 : Int) + (Int.tmod y0.1 (10 : Int))))))] : List (Int))) ++ y0.2.1), ())))
else none)
else
((fun (z1 : ByteArray × Unit) =>
(if ByteArray.size (⟨#[109]⟩ : ByteArray) + ByteArray.size z1.1 ≤ maxStr then
some (((⟨#[109]⟩ : ByteArray) ++ z1.1), ((), ()))
else none)) (y0.2.1, ())))) k (x.1, ((⟨#[]⟩ : ByteArray), ()))))
theorem t_w_markText (k : Nat) (x) : evF TTab k [] [(0, ⟨[0, 3], (.cons (.int .i64) (.cons .str .nil))⟩, ⟨[3], (.cons .str .nil)⟩)] Try.f100 yP3 .str x = w_markText k x := by kernel_rfl
theorem e_w_markText [Names] (k : Nat) : EntryOk Try.prog ⟨100, 0, yP3, .str, w_markText k⟩ := entry_ok tok (by simp) (by kernel_rfl) (fn := Try.f100) (k := k) (es := []) (loops := [(0, ⟨[0, 3], (.cons (.int .i64) (.cons .str .nil))⟩, ⟨[3], (.cons .str .nil)⟩)]) (by kernel_rfl) (by kernel_rfl) (fun x r h => (t_w_markText k x).trans h)
def w_markStringS (k : Nat) (x : List (ByteArray) × Int × Unit) : Option (Int × List (ByteArray) × Unit × Unit) :=
(whileK (fun (rec0 : (List (ByteArray) × Int × Int × Unit) → Option _) (y0 : List (ByteArray) × Int × Int × Unit) =>
(if (decide (y0.2.2.1 < (List.length y0.1 : Int))) = true then
((w_markText k (y0.2.1, ())).bind fun p1 =>
(if 0 ≤ y0.2.2.1 ∧ y0.2.2.1 < (List.length y0.1 : Int) then
(rec0 ((List.set y0.1 (Int.toNat y0.2.2.1) p1.1), ((wi64 (y0.2.1 + (1 : Int))), ((wi64 (y0.2.2.1 + (1 : Int))), ()))))
else none))
else
((fun (z1 : List (ByteArray) × Int × Unit) =>
some (z1.2.1, (z1.1, ((), ())))) (y0.1, (y0.2.1, ()))))) k (x.1, (x.2.1, ((0 : Int), ()))))
theorem t_w_markStringS (k : Nat) (x) : evF TTab k [⟨100, 0, yP3, .str, w_markText k⟩] [(0, ⟨[0, 1, 5], (.cons (.own false 9 .str) (.cons (.int .i64) yP3))⟩, ⟨[0, 1], (.cons (.own false 9 .str) yP3)⟩)] Try.f44 (.cons (.mut false 9 .str) yP3) (.int .i64) x = w_markStringS k x := by kernel_rfl
theorem e_w_markStringS [Names] (k : Nat) : EntryOk Try.prog ⟨44, 0, (.cons (.mut false 9 .str) yP3), (.int .i64), w_markStringS k⟩ := entry_ok tok (by intro e he; simp only [List.mem_cons, List.not_mem_nil, or_false] at he; rcases he with rfl <;> first | exact e_w_markText k) (by kernel_rfl) (fn := Try.f44) (k := k) (es := [⟨100, 0, yP3, .str, w_markText k⟩]) (loops := [(0, ⟨[0, 1, 5], (.cons (.own false 9 .str) (.cons (.int .i64) yP3))⟩, ⟨[0, 1], (.cons (.own false 9 .str) yP3)⟩)]) (by kernel_rfl) (by kernel_rfl) (fun x r h => (t_w_markStringS k x).trans h)
def w_markBoolS (k : Nat) (x : List (Bool) × Int × Unit) : Option (Int × List (Bool) × Unit × Unit) :=
(whileK (fun (rec0 : (List (Bool) × Int × Int × Unit) → Option _) (y0 : List (Bool) × Int × Int × Unit) =>
(if (decide (y0.2.2.1 < (List.length y0.1 : Int))) = true then
(if 0 ≤ y0.2.2.1 ∧ y0.2.2.1 < (List.length y0.1 : Int) then
(rec0 ((List.set y0.1 (Int.toNat y0.2.2.1) (decide ((Int.tmod y0.2.1 (3 : Int)) = (0 : Int)))), ((wi64 (y0.2.1 + (1 : Int))), ((wi64 (y0.2.2.1 + (1 : Int))), ()))))
else none)
else
((fun (z1 : List (Bool) × Int × Unit) =>
some (z1.2.1, (z1.1, ((), ())))) (y0.1, (y0.2.1, ()))))) k (x.1, (x.2.1, ((0 : Int), ()))))
theorem t_w_markBoolS (k : Nat) (x) : evF TTab k [] [(0, ⟨[0, 1, 5], (.cons (.own false 4 .bool) (.cons (.int .i64) yP3))⟩, ⟨[0, 1], (.cons (.own false 4 .bool) yP3)⟩)] Try.f124 (.cons (.mut false 4 .bool) yP3) (.int .i64) x = w_markBoolS k x := by kernel_rfl
theorem e_w_markBoolS [Names] (k : Nat) : EntryOk Try.prog ⟨124, 0, (.cons (.mut false 4 .bool) yP3), (.int .i64), w_markBoolS k⟩ := entry_ok tok (by simp) (by kernel_rfl) (fn := Try.f124) (k := k) (es := []) (loops := [(0, ⟨[0, 1, 5], (.cons (.own false 4 .bool) (.cons (.int .i64) yP3))⟩, ⟨[0, 1], (.cons (.own false 4 .bool) yP3)⟩)]) (by kernel_rfl) (by kernel_rfl) (fun x r h => (t_w_markBoolS k x).trans h)
def w_markHeldS (k : Nat) (x : (List (Int × Int × Int × List (ByteArray) × List (Bool) × Int)) × Int × Unit) : Option (Int × (List (Int × Int × Int × List (ByteArray) × List (Bool) × Int)) × Unit × Unit) :=
(whileK (fun (rec0 : ((List (Int × Int × Int × List (ByteArray) × List (Bool) × Int)) × Int × Int × Unit) → Option _) (y0 : (List (Int × Int × Int × List (ByteArray) × List (Bool) × Int)) × Int × Int × Unit) =>
(if (decide (y0.2.2.1 < (List.length y0.1 : Int))) = true then
(if 0 ≤ y0.2.2.1 ∧ y0.2.2.1 < (List.length y0.1 : Int) then
(if 0 ≤ y0.2.2.1 ∧ y0.2.2.1 < (List.length (List.set y0.1 (Int.toNat y0.2.2.1) (y0.2.1, (Ty.rd (t := yT1) y0.1 y0.2.2.1).2)) : Int) then
(jn (List.set (List.set y0.1 (Int.toNat y0.2.2.1) (y0.2.1, (Ty.rd (t := yT1) y0.1 y0.2.2.1).2)) (Int.toNat y0.2.2.1) ((Ty.rd (t := yT1) (List.set y0.1 (Int.toNat y0.2.2.1) (y0.2.1, (Ty.rd (t := yT1) y0.1 y0.2.2.1).2)) y0.2.2.1).1, ((wi64 (y0.2.1 + (1 : Int))), (Ty.rd (t := yT1) (List.set y0.1 (Int.toNat y0.2.2.1) (y0.2.1, (Ty.rd (t := yT1) y0.1 y0.2.2.1).2)) y0.2.2.1).2.2))) (fun (q20 : List (Int × Int × Int × List (ByteArray) × List (Bool) × Int)) =>
(if 0 ≤ y0.2.2.1 ∧ y0.2.2.1 < (List.length q20 : Int) then
(jn (List.set q20 (Int.toNat y0.2.2.1) ((Ty.rd (t := yT1) q20 y0.2.2.1).1, ((Ty.rd (t := yT1) q20 y0.2.2.1).2.1, ((wi64 ((wi64 (y0.2.1 + (1 : Int))) + (1 : Int))), (Ty.rd (t := yT1) q20 y0.2.2.1).2.2.2)))) (fun (q21 : List (Int × Int × Int × List (ByteArray) × List (Bool) × Int)) =>
(if 0 ≤ y0.2.2.1 ∧ y0.2.2.1 < (List.length q21 : Int) then
((w_markStringS k ((Ty.rd (t := yT1) q21 y0.2.2.1).2.2.2.1, ((wi64 ((wi64 ((wi64 (y0.2.1 + (1 : Int))) + (1 : Int))) + (1 : Int))), ()))).bind fun p1 =>
(jn (List.set q21 (Int.toNat y0.2.2.1) ((Ty.rd (t := yT1) q21 y0.2.2.1).1, ((Ty.rd (t := yT1) q21 y0.2.2.1).2.1, ((Ty.rd (t := yT1) q21 y0.2.2.1).2.2.1, (p1.2.1, (Ty.rd (t := yT1) q21 y0.2.2.1).2.2.2.2))))) (fun (q22 : List (Int × Int × Int × List (ByteArray) × List (Bool) × Int)) =>
(if 0 ≤ y0.2.2.1 ∧ y0.2.2.1 < (List.length q22 : Int) then
((w_markBoolS k ((Ty.rd (t := yT1) q22 y0.2.2.1).2.2.2.2.1, (p1.1, ()))).bind fun p2 =>
(jn (List.set q22 (Int.toNat y0.2.2.1) ((Ty.rd (t := yT1) q22 y0.2.2.1).1, ((Ty.rd (t := yT1) q22 y0.2.2.1).2.1, ((Ty.rd (t := yT1) q22 y0.2.2.1).2.2.1, ((Ty.rd (t := yT1) q22 y0.2.2.1).2.2.2.1, (p2.2.1, (Ty.rd (t := yT1) q22 y0.2.2.1).2.2.2.2.2)))))) (fun (q23 : List (Int × Int × Int × List (ByteArray) × List (Bool) × Int)) =>
(if 0 ≤ y0.2.2.1 ∧ y0.2.2.1 < (List.length q23 : Int) then
(jn (List.set q23 (Int.toNat y0.2.2.1) ((Ty.rd (t := yT1) q23 y0.2.2.1).1, ((Ty.rd (t := yT1) q23 y0.2.2.1).2.1, ((Ty.rd (t := yT1) q23 y0.2.2.1).2.2.1, ((Ty.rd (t := yT1) q23 y0.2.2.1).2.2.2.1, ((Ty.rd (t := yT1) q23 y0.2.2.1).2.2.2.2.1, p2.1)))))) (fun (q24 : List (Int × Int × Int × List (ByteArray) × List (Bool) × Int)) =>
(rec0 (q24, ((wi64 (p2.1 + (1 : Int))), ((wi64 (y0.2.2.1 + (1 : Int))), ()))))))
else none))))
else none))))
else none)))
else none)))
else none)
else none)
else
((fun (z1 : (List (Int × Int × Int × List (ByteArray) × List (Bool) × Int)) × Int × Unit) =>
some (z1.2.1, (z1.1, ((), ())))) (y0.1, (y0.2.1, ()))))) k (x.1, (x.2.1, ((0 : Int), ()))))
theorem t_w_markHeldS (k : Nat) (x) : evF TTabO k [⟨44, 0, (.cons (.mut false 9 .str) yP3), (.int .i64), w_markStringS k⟩, ⟨124, 0, (.cons (.mut false 4 .bool) yP3), (.int .i64), w_markBoolS k⟩] [(0, ⟨[0, 1, 5], (.cons (.own false 53 yT1) (.cons (.int .i64) yP3))⟩, ⟨[0, 1], (.cons (.own false 53 yT1) yP3)⟩)] Try.f72 (.cons (.mut false 53 yT1) yP3) (.int .i64) x = w_markHeldS k x := by kernel_rfl
theorem e_w_markHeldS [Names] (k : Nat) : EntryOk Try.prog ⟨72, 0, (.cons (.mut false 53 yT1) yP3), (.int .i64), w_markHeldS k⟩ := entry_ok tokO (by intro e he; simp only [List.mem_cons, List.not_mem_nil, or_false] at he; rcases he with rfl | rfl <;> first | exact e_w_markStringS k | exact e_w_markBoolS k) (by kernel_rfl) (fn := Try.f72) (k := k) (es := [⟨44, 0, (.cons (.mut false 9 .str) yP3), (.int .i64), w_markStringS k⟩, ⟨124, 0, (.cons (.mut false 4 .bool) yP3), (.int .i64), w_markBoolS k⟩]) (loops := [(0, ⟨[0, 1, 5], (.cons (.own false 53 yT1) (.cons (.int .i64) yP3))⟩, ⟨[0, 1], (.cons (.own false 53 yT1) yP3)⟩)]) (by kernel_rfl) (by kernel_rfl) (fun x r h => (t_w_markHeldS k x).trans h)
def w_markShelf (k : Nat) (x : ((List (Int × Int × Int × List (ByteArray) × List (Bool) × Int)) × Unit) × Int × Unit) : Option (Int × ((List (Int × Int × Int × List (ByteArray) × List (Bool) × Int)) × Unit) × Unit × Unit) :=
((w_markHeldS k (x.1.1, (x.2.1, ()))).bind fun p1 =>
some (p1.1, ((p1.2.1, ()), ((), ()))))
theorem t_w_markShelf (k : Nat) (x) : evF TTabO k [⟨72, 0, (.cons (.mut false 53 yT1) yP3), (.int .i64), w_markHeldS k⟩] [] Try.f25 (.cons (.mag (.cons (.mut false 53 yT1) .nil)) yP3) (.int .i64) x = w_markShelf k x := by kernel_rfl
theorem e_w_markShelf [Names] (k : Nat) : EntryOk Try.prog ⟨25, 0, (.cons (.mag (.cons (.mut false 53 yT1) .nil)) yP3), (.int .i64), w_markShelf k⟩ := entry_ok tokO (by intro e he; simp only [List.mem_cons, List.not_mem_nil, or_false] at he; rcases he with rfl <;> first | exact e_w_markHeldS k) (by kernel_rfl) (fn := Try.f25) (k := k) (es := [⟨72, 0, (.cons (.mut false 53 yT1) yP3), (.int .i64), w_markHeldS k⟩]) (loops := []) (by kernel_rfl) (by kernel_rfl) (fun x r h => (t_w_markShelf k x).trans h)
def w_heldStringS (k : Nat) (x : List (ByteArray) × Int × Unit) : Option (Int × Unit × Unit × Unit) :=
(whileK (fun (rec0 : (List (ByteArray) × Int × Int × Unit) → Option _) (y0 : List (ByteArray) × Int × Int × Unit) =>
(if (decide (y0.2.2.1 < (List.length y0.1 : Int))) = true then
(if 0 ≤ y0.2.2.1 ∧ y0.2.2.1 < (List.length y0.1 : Int) then
((w_markText k (y0.2.1, ())).bind fun p1 =>
(if (!decide ((Ty.rd (t := .str) y0.1 y0.2.2.1) = p1.1)) = true then
some ((-1 : Int), ((), ((), ())))
else
(rec0 (y0.1, ((wi64 (y0.2.1 + (1 : Int))), ((wi64 (y0.2.2.1 + (1 : Int))), ()))))))
else none)
else
((fun (z1 : Int × Unit) =>
some (z1.1, ((), ((), ())))) (y0.2.1, ())))) k (x.1, (x.2.1, ((0 : Int), ()))))
theorem t_w_heldStringS (k : Nat) (x) : evF TTab k [⟨100, 0, yP3, .str, w_markText k⟩] [(0, ⟨[0, 1, 5], (.cons (.il true .str) (.cons (.int .i64) yP3))⟩, ⟨[1], yP3⟩)] Try.f125 (.cons (.il true .str) yP3) (.int .i64) x = w_heldStringS k x := by kernel_rfl
theorem e_w_heldStringS [Names] (k : Nat) : EntryOk Try.prog ⟨125, 0, (.cons (.il true .str) yP3), (.int .i64), w_heldStringS k⟩ := entry_ok tok (by intro e he; simp only [List.mem_cons, List.not_mem_nil, or_false] at he; rcases he with rfl <;> first | exact e_w_markText k) (by kernel_rfl) (fn := Try.f125) (k := k) (es := [⟨100, 0, yP3, .str, w_markText k⟩]) (loops := [(0, ⟨[0, 1, 5], (.cons (.il true .str) (.cons (.int .i64) yP3))⟩, ⟨[1], yP3⟩)]) (by kernel_rfl) (by kernel_rfl) (fun x r h => (t_w_heldStringS k x).trans h)
def w_heldBoolS (k : Nat) (x : List (Bool) × Int × Unit) : Option (Int × Unit × Unit × Unit) :=
(whileK (fun (rec0 : (List (Bool) × Int × Int × Unit) → Option _) (y0 : List (Bool) × Int × Int × Unit) =>
(if (decide (y0.2.2.1 < (List.length y0.1 : Int))) = true then
(if 0 ≤ y0.2.2.1 ∧ y0.2.2.1 < (List.length y0.1 : Int) then
(if (!decide ((Ty.rd (t := .bool) y0.1 y0.2.2.1) = (decide ((Int.tmod y0.2.1 (3 : Int)) = (0 : Int))))) = true then
some ((-1 : Int), ((), ((), ())))
else
(rec0 (y0.1, ((wi64 (y0.2.1 + (1 : Int))), ((wi64 (y0.2.2.1 + (1 : Int))), ())))))
else none)
else
((fun (z1 : Int × Unit) =>
some (z1.1, ((), ((), ())))) (y0.2.1, ())))) k (x.1, (x.2.1, ((0 : Int), ()))))
theorem t_w_heldBoolS (k : Nat) (x) : evF TTab k [] [(0, ⟨[0, 1, 5], (.cons (.il true .bool) (.cons (.int .i64) yP3))⟩, ⟨[1], yP3⟩)] Try.f126 (.cons (.il true .bool) yP3) (.int .i64) x = w_heldBoolS k x := by kernel_rfl
theorem e_w_heldBoolS [Names] (k : Nat) : EntryOk Try.prog ⟨126, 0, (.cons (.il true .bool) yP3), (.int .i64), w_heldBoolS k⟩ := entry_ok tok (by simp) (by kernel_rfl) (fn := Try.f126) (k := k) (es := []) (loops := [(0, ⟨[0, 1, 5], (.cons (.il true .bool) (.cons (.int .i64) yP3))⟩, ⟨[1], yP3⟩)]) (by kernel_rfl) (by kernel_rfl) (fun x r h => (t_w_heldBoolS k x).trans h)
def w_heldHeldS (k : Nat) (x : (List (Int × Int × Int × List (ByteArray) × List (Bool) × Int)) × Int × Unit) : Option (Int × Unit × Unit × Unit) :=
(whileK (fun (rec0 : ((List (Int × Int × Int × List (ByteArray) × List (Bool) × Int)) × Int × Int × Unit) → Option _) (y0 : (List (Int × Int × Int × List (ByteArray) × List (Bool) × Int)) × Int × Int × Unit) =>
(if (decide (y0.2.2.1 < (List.length y0.1 : Int))) = true then
(if 0 ≤ y0.2.2.1 ∧ y0.2.2.1 < (List.length y0.1 : Int) then
(if (!decide ((Ty.rd (t := yT0) y0.1 y0.2.2.1).1 = y0.2.1)) = true then
some ((-1 : Int), ((), ((), ())))
else
(if 0 ≤ y0.2.2.1 ∧ y0.2.2.1 < (List.length y0.1 : Int) then
(if (!decide ((Ty.rd (t := yT0) y0.1 y0.2.2.1).2.1 = (wi64 (y0.2.1 + (1 : Int))))) = true then
some ((-1 : Int), ((), ((), ())))
else
(if 0 ≤ y0.2.2.1 ∧ y0.2.2.1 < (List.length y0.1 : Int) then
(if (!decide ((Ty.rd (t := yT0) y0.1 y0.2.2.1).2.2.1 = (wi64 ((wi64 (y0.2.1 + (1 : Int))) + (1 : Int))))) = true then
some ((-1 : Int), ((), ((), ())))
else
(if 0 ≤ y0.2.2.1 ∧ y0.2.2.1 < (List.length y0.1 : Int) then
((w_heldStringS k ((Ty.rd (t := yT0) y0.1 y0.2.2.1).2.2.2.1, ((wi64 ((wi64 ((wi64 (y0.2.1 + (1 : Int))) + (1 : Int))) + (1 : Int))), ()))).bind fun p1 =>
(if (decide (p1.1 < (0 : Int))) = true then
some ((-1 : Int), ((), ((), ())))
else
(if 0 ≤ y0.2.2.1 ∧ y0.2.2.1 < (List.length y0.1 : Int) then
((w_heldBoolS k ((Ty.rd (t := yT0) y0.1 y0.2.2.1).2.2.2.2.1, (p1.1, ()))).bind fun p2 =>
(if (decide (p2.1 < (0 : Int))) = true then
some ((-1 : Int), ((), ((), ())))
else
(if 0 ≤ y0.2.2.1 ∧ y0.2.2.1 < (List.length y0.1 : Int) then
(if (!decide ((Ty.rd (t := yT0) y0.1 y0.2.2.1).2.2.2.2.2 = p2.1)) = true then
some ((-1 : Int), ((), ((), ())))
else
(rec0 (y0.1, ((wi64 (p2.1 + (1 : Int))), ((wi64 (y0.2.2.1 + (1 : Int))), ())))))
else none)))
else none)))
else none))
else none))
else none))
else none)
else
((fun (z1 : Int × Unit) =>
some (z1.1, ((), ((), ())))) (y0.2.1, ())))) k (x.1, (x.2.1, ((0 : Int), ()))))
theorem t_w_heldHeldS (k : Nat) (x) : evF TTabO k [⟨125, 0, (.cons (.il true .str) yP3), (.int .i64), w_heldStringS k⟩, ⟨126, 0, (.cons (.il true .bool) yP3), (.int .i64), w_heldBoolS k⟩] [(0, ⟨[0, 1, 5], (.cons (.il true yT0) (.cons (.int .i64) yP3))⟩, ⟨[1], yP3⟩)] Try.f73 (.cons (.il true yT0) yP3) (.int .i64) x = w_heldHeldS k x := by kernel_rfl
theorem e_w_heldHeldS [Names] (k : Nat) : EntryOk Try.prog ⟨73, 0, (.cons (.il true yT0) yP3), (.int .i64), w_heldHeldS k⟩ := entry_ok tokO (by intro e he; simp only [List.mem_cons, List.not_mem_nil, or_false] at he; rcases he with rfl | rfl <;> first | exact e_w_heldStringS k | exact e_w_heldBoolS k) (by kernel_rfl) (fn := Try.f73) (k := k) (es := [⟨125, 0, (.cons (.il true .str) yP3), (.int .i64), w_heldStringS k⟩, ⟨126, 0, (.cons (.il true .bool) yP3), (.int .i64), w_heldBoolS k⟩]) (loops := [(0, ⟨[0, 1, 5], (.cons (.il true yT0) (.cons (.int .i64) yP3))⟩, ⟨[1], yP3⟩)]) (by kernel_rfl) (by kernel_rfl) (fun x r h => (t_w_heldHeldS k x).trans h)
def w_heldShelf (k : Nat) (x : ((List (Int × Int × Int × List (ByteArray) × List (Bool) × Int)) × Unit) × Int × Unit) : Option (Int × Unit × Unit × Unit) :=
((w_heldHeldS k (x.1.1, (x.2.1, ()))).bind fun p1 =>
(if (decide (p1.1 < (0 : Int))) = true then
some ((-1 : Int), ((), ((), ())))
else
some (p1.1, ((), ((), ())))))
theorem t_w_heldShelf (k : Nat) (x) : evF TTabO k [⟨73, 0, (.cons (.il true yT0) yP3), (.int .i64), w_heldHeldS k⟩] [] Try.f26 (.cons (.agg yP5) yP3) (.int .i64) x = w_heldShelf k x := by kernel_rfl
theorem e_w_heldShelf [Names] (k : Nat) : EntryOk Try.prog ⟨26, 0, (.cons (.agg yP5) yP3), (.int .i64), w_heldShelf k⟩ := entry_ok tokO (by intro e he; simp only [List.mem_cons, List.not_mem_nil, or_false] at he; rcases he with rfl <;> first | exact e_w_heldHeldS k) (by kernel_rfl) (fn := Try.f26) (k := k) (es := [⟨73, 0, (.cons (.il true yT0) yP3), (.int .i64), w_heldHeldS k⟩]) (loops := []) (by kernel_rfl) (by kernel_rfl) (fun x r h => (t_w_heldShelf k x).trans h)
def s_ReadPart (k : Nat) (x : ByteArray × Unit) : Option ((Int × Int × Int × ByteArray × Bool × Unit) × Unit × Unit) :=
(if (decide ((ByteArray.size x.1 : Int) < (3 : Int))) = false then
(if 0 ≤ (2 : Int) ∧ (2 : Int) < (ByteArray.size x.1 : Int) then
((s_l01In k ((wi64 ((bt x.1 (2 : Int)))), ((1 : Int), ((15 : Int), ())))).bind fun p1 =>
(if (!p1.1) = false then
(if 0 ≤ (1 : Int) ∧ (1 : Int) < (ByteArray.size x.1 : Int) then
(if 0 ≤ (2 : Int) ∧ (2 : Int) < (ByteArray.size x.1 : Int) then
(if (decide ((bt x.1 (2 : Int)) ≤ (bt x.1 (1 : Int)))) = true then
some (((0 : Int), ((0 : Int), ((0 : Int), ((⟨#[]⟩ : ByteArray), (false, ()))))), ((), ()))
else
(if 0 ≤ (0 : Int) ∧ (0 : Int) < (ByteArray.size x.1 : Int) then
(if 0 ≤ (1 : Int) ∧ (1 : Int) < (ByteArray.size x.1 : Int) then
(if 0 ≤ (2 : Int) ∧ (2 : Int) < (ByteArray.size x.1 : Int) then
(if 0 ≤ (3 : Int) ∧ (3 : Int) ≤ (ByteArray.size x.1 : Int) then
some (((wi64 ((bt x.1 (0 : Int)))), ((wi64 ((bt x.1 (1 : Int)))), ((wi64 ((bt x.1 (2 : Int)))), ((ByteArray.extract x.1 (Int.toNat (3 : Int)) (Int.toNat (ByteArray.size x.1 : Int))), (true, ()))))), ((), ()))
else none)
else none)
else none)
else none))
else none)
else none)
else
some (((0 : Int), ((0 : Int), ((0 : Int), ((⟨#[]⟩ : ByteArray), (false, ()))))), ((), ()))))
else none)
else
some (((0 : Int), ((0 : Int), ((0 : Int), ((⟨#[]⟩ : ByteArray), (false, ()))))), ((), ())))
theorem t_s_ReadPart (k : Nat) (x) : evF TTab k [⟨56, 0, yP9, .bool, s_l01In k⟩] [] Try.f75 (.cons .str .nil) yP8 x = s_ReadPart k x := by kernel_rfl
theorem e_s_ReadPart [Names] (k : Nat) : EntryOk Try.prog ⟨75, 0, (.cons .str .nil), yP8, s_ReadPart k⟩ := entry_ok tok (by intro e he; simp only [List.mem_cons, List.not_mem_nil, or_false] at he; rcases he with rfl <;> first | exact e_s_l01In k) (by kernel_rfl) (fn := Try.f75) (k := k) (es := [⟨56, 0, yP9, .bool, s_l01In k⟩]) (loops := []) (by kernel_rfl) (by kernel_rfl) (fun x r h => (t_s_ReadPart k x).trans h)
def s_l20Held (k : Nat) (x : (Int × Int × Int × List (ByteArray) × List (Bool) × Int × Unit) × Unit) : Option (Bool × Unit × Unit) :=
((s_l01In k (x.1.1, ((1 : Int), ((99 : Int), ())))).bind fun p1 =>
(if (!p1.1) = false then
((s_l01In k (x.1.2.1, ((0 : Int), ((255 : Int), ())))).bind fun p2 =>
(if (!p2.1) = false then
((s_l01In k (x.1.2.2.1, ((2 : Int), ((15 : Int), ())))).bind fun p3 =>
(if (!p3.1) = false then
(if (!decide ((List.length x.1.2.2.2.1 : Int) = x.1.2.2.1)) = false then
(if (!decide ((List.length x.1.2.2.2.2.1 : Int) = x.1.2.2.1)) = false then
((s_l01In k (x.1.2.2.2.2.2.1, ((0 : Int), ((1000000000 : Int), ())))).bind fun p4 =>
(if (!p4.1) = true then
some (false, ((), ()))
else
(whileK (fun (rec0 : ((Int × Int × Int × List (ByteArray) × List (Bool) × Int × Unit) × Int × Int × Unit) → Option _) (y0 : (Int × Int × Int × List (ByteArray) × List (Bool) × Int × Unit) × Int × Int × Unit) =>
(if (decide (y0.2.2.1 < y0.1.2.2.1)) = true then
(jn (fun (j1v0 : Int) =>
(if 0 ≤ y0.2.2.1 ∧ y0.2.2.1 < (List.length y0.1.2.2.2.2.1 : Int) then
(if (!(Ty.rd (t := .bool) y0.1.2.2.2.2.1 y0.2.2.1)) = true then
(if 0 ≤ y0.2.2.1 ∧ y0.2.2.1 < (List.length y0.1.2.2.2.1 : Int) then
(if (!decide ((Ty.rd (t := .str) y0.1.2.2.2.1 y0.2.2.1) = (⟨#[]⟩ : ByteArray))) = false then
(if 0 ≤ y0.2.2.1 ∧ y0.2.2.1 < (List.length y0.1.2.2.2.1 : Int) then
(if (decide ((120 : Int) < (ByteArray.size (Ty.rd (t := .str) y0.1.2.2.2.1 y0.2.2.1) : Int))) = true then
some (false, ((), ()))
else
(rec0 ((y0.1.1, (y0.1.2.1, (y0.1.2.2.1, (y0.1.2.2.2.1, (y0.1.2.2.2.2.1, (y0.1.2.2.2.2.2.1, ())))))), (j1v0, ((wi64 (y0.2.2.1 + (1 : Int))), ())))))
else none)
else
some (false, ((), ())))
else none)
else
(if 0 ≤ y0.2.2.1 ∧ y0.2.2.1 < (List.length y0.1.2.2.2.1 : Int) then
(if (decide ((120 : Int) < (ByteArray.size (Ty.rd (t := .str) y0.1.2.2.2.1 y0.2.2.1) : Int))) = true then
some (false, ((), ()))
else
(rec0 ((y0.1.1, (y0.1.2.1, (y0.1.2.2.1, (y0.1.2.2.2.1, (y0.1.2.2.2.2.1, (y0.1.2.2.2.2.2.1, ())))))), (j1v0, ((wi64 (y0.2.2.1 + (1 : Int))), ())))))
else none))
else none)) (fun (j1 : Int → Option _) =>
(if 0 ≤ y0.2.2.1 ∧ y0.2.2.1 < (List.length y0.1.2.2.2.2.1 : Int) then
(if (Ty.rd (t := .bool) y0.1.2.2.2.2.1 y0.2.2.1) = true then
(j1 (wi64 (y0.2.1 + (1 : Int))))
else
(j1 y0.2.1))
else none)))
else
((fun (z1 : (Int × Int × Int × List (ByteArray) × List (Bool) × Int × Unit) × Int × Unit) =>
(if (decide ((1 : Int) ≤ z1.2.1)) = true then
some ((decide (z1.2.1 < z1.1.2.2.1)), ((), ()))
else
some (false, ((), ())))) ((y0.1.1, (y0.1.2.1, (y0.1.2.2.1, (y0.1.2.2.2.1, (y0.1.2.2.2.2.1, (y0.1.2.2.2.2.2.1, ())))))), (y0.2.1, ()))))) k ((x.1.1, (x.1.2.1, (x.1.2.2.1, (x.1.2.2.2.1, (x.1.2.2.2.2.1, (x.1.2.2.2.2.2.1, ())))))), ((0 : Int), ((0 : Int), ()))))))
else
some (false, ((), ())))
else
some (false, ((), ())))
else
some (false, ((), ()))))
else
some (false, ((), ()))))
else
some (false, ((), ()))))
theorem t_s_l20Held (k : Nat) (x) : evF TTab k [⟨56, 0, yP9, .bool, s_l01In k⟩] [(0, ⟨[1, 3, 4], (.cons (.ptr 0 yP2) (.cons (.int .i64) yP3))⟩, ⟨[1, 3], (.cons (.ptr 0 yP2) yP3)⟩)] Try.f127 (.cons (.agg yP2) .nil) .bool x = s_l20Held k x := by kernel_rfl
theorem e_s_l20Held [Names] (k : Nat) : EntryOk Try.prog ⟨127, 0, (.cons (.agg yP2) .nil), .bool, s_l20Held k⟩ := entry_ok tok (by intro e he; simp only [List.mem_cons, List.not_mem_nil, or_false] at he; rcases he with rfl <;> first | exact e_s_l01In k) (by kernel_rfl) (fn := Try.f127) (k := k) (es := [⟨56, 0, yP9, .bool, s_l01In k⟩]) (loops := [(0, ⟨[1, 3, 4], (.cons (.ptr 0 yP2) (.cons (.int .i64) yP3))⟩, ⟨[1, 3], (.cons (.ptr 0 yP2) yP3)⟩)]) (by kernel_rfl) (by kernel_rfl) (fun x r h => (t_s_l20Held k x).trans h)
def s_ShelfOk (k : Nat) (x : ((List (Int × Int × Int × List (ByteArray) × List (Bool) × Int)) × Unit) × Unit) : Option (Bool × Unit × Unit) :=
(whileK (fun (rec0 : (((List (Int × Int × Int × List (ByteArray) × List (Bool) × Int)) × Unit) × Int × Unit) → Option _) (y0 : ((List (Int × Int × Int × List (ByteArray) × List (Bool) × Int)) × Unit) × Int × Unit) =>
(if (decide (y0.2.1 < (List.length y0.1.1 : Int))) = true then
(if 0 ≤ y0.2.1 ∧ y0.2.1 < (List.length y0.1.1 : Int) then
((s_l20Held k (((Ty.rd (t := yT0) y0.1.1 y0.2.1).1, ((Ty.rd (t := yT0) y0.1.1 y0.2.1).2.1, ((Ty.rd (t := yT0) y0.1.1 y0.2.1).2.2.1, ((Ty.rd (t := yT0) y0.1.1 y0.2.1).2.2.2.1, ((Ty.rd (t := yT0) y0.1.1 y0.2.1).2.2.2.2.1, ((Ty.rd (t := yT0) y0.1.1 y0.2.1).2.2.2.2.2, ())))))), ())).bind fun p1 =>
(if (!p1.1) = true then
some (false, ((), ()))
else
(whileK (fun (rec2 : (((List (Int × Int × Int × List (ByteArray) × List (Bool) × Int)) × Unit) × Int × Int × Unit) → Option _) (y2 : ((List (Int × Int × Int × List (ByteArray) × List (Bool) × Int)) × Unit) × Int × Int × Unit) =>
(if (decide (y2.2.2.1 < y2.2.1)) = true then
(if 0 ≤ y2.2.2.1 ∧ y2.2.2.1 < (List.length y2.1.1 : Int) then
(if 0 ≤ y2.2.1 ∧ y2.2.1 < (List.length y2.1.1 : Int) then
(if (decide ((Ty.rd (t := yT0) y2.1.1 y2.2.2.1).1 = (Ty.rd (t := yT0) y2.1.1 y2.2.1).1)) = true then
(if 0 ≤ y2.2.2.1 ∧ y2.2.2.1 < (List.length y2.1.1 : Int) then
(if 0 ≤ y2.2.1 ∧ y2.2.1 < (List.length y2.1.1 : Int) then
(if (decide ((Ty.rd (t := yT0) y2.1.1 y2.2.2.1).2.1 = (Ty.rd (t := yT0) y2.1.1 y2.2.1).2.1)) = true then
some (false, ((), ()))
else
(rec2 ((y2.1.1, ()), (y2.2.1, ((wi64 (y2.2.2.1 + (1 : Int))), ())))))
else none)
else none)
else
(rec2 ((y2.1.1, ()), (y2.2.1, ((wi64 (y2.2.2.1 + (1 : Int))), ())))))
else none)
else none)
else
((fun (z1 : ((List (Int × Int × Int × List (ByteArray) × List (Bool) × Int)) × Unit) × Int × Unit) =>
(rec0 ((z1.1.1, ()), ((wi64 (z1.2.1 + (1 : Int))), ())))) ((y2.1.1, ()), (y2.2.1, ()))))) k ((y0.1.1, ()), (y0.2.1, ((0 : Int), ()))))))
else none)
else
((fun (z2 : ((List (Int × Int × Int × List (ByteArray) × List (Bool) × Int)) × Unit) × Unit) =>
some ((decide ((List.length z2.1.1 : Int) ≤ (3 : Int))), ((), ()))) ((y0.1.1, ()), ())))) k ((x.1.1, ()), ((0 : Int), ())))
theorem t_s_ShelfOk (k : Nat) (x) : evF TTab k [⟨127, 0, (.cons (.agg yP2) .nil), .bool, s_l20Held k⟩] [(0, ⟨[1, 3], (.cons (.ptr 0 yP5) yP3)⟩, ⟨[1], (.cons (.ptr 0 yP5) .nil)⟩), (2, ⟨[1, 3, 4], (.cons (.ptr 0 yP5) (.cons (.int .i64) yP3))⟩, ⟨[1, 3], (.cons (.ptr 0 yP5) yP3)⟩)] Try.f76 (.cons (.agg yP5) .nil) .bool x = s_ShelfOk k x := by kernel_rfl
theorem e_s_ShelfOk [Names] (k : Nat) : EntryOk Try.prog ⟨76, 0, (.cons (.agg yP5) .nil), .bool, s_ShelfOk k⟩ := entry_ok tok (by intro e he; simp only [List.mem_cons, List.not_mem_nil, or_false] at he; rcases he with rfl <;> first | exact e_s_l20Held k) (by kernel_rfl) (fn := Try.f76) (k := k) (es := [⟨127, 0, (.cons (.agg yP2) .nil), .bool, s_l20Held k⟩]) (loops := [(0, ⟨[1, 3], (.cons (.ptr 0 yP5) yP3)⟩, ⟨[1], (.cons (.ptr 0 yP5) .nil)⟩), (2, ⟨[1, 3, 4], (.cons (.ptr 0 yP5) (.cons (.int .i64) yP3))⟩, ⟨[1, 3], (.cons (.ptr 0 yP5) yP3)⟩)]) (by kernel_rfl) (by kernel_rfl) (fun x r h => (t_s_ShelfOk k x).trans h)
def s_l20All (k : Nat) (x : (Int × Int × Int × List (ByteArray) × List (Bool) × Int × Unit) × Unit) : Option (Bool × Unit × Unit) :=
(whileK (fun (rec0 : ((Int × Int × Int × List (ByteArray) × List (Bool) × Int × Unit) × Int × Unit) → Option _) (y0 : (Int × Int × Int × List (ByteArray) × List (Bool) × Int × Unit) × Int × Unit) =>
(if (decide (y0.2.1 < (List.length y0.1.2.2.2.2.1 : Int))) = true then
(if 0 ≤ y0.2.1 ∧ y0.2.1 < (List.length y0.1.2.2.2.2.1 : Int) then
(if (!(Ty.rd (t := .bool) y0.1.2.2.2.2.1 y0.2.1)) = true then
some (false, ((), ()))
else
(rec0 ((y0.1.1, (y0.1.2.1, (y0.1.2.2.1, (y0.1.2.2.2.1, (y0.1.2.2.2.2.1, (y0.1.2.2.2.2.2.1, ())))))), ((wi64 (y0.2.1 + (1 : Int))), ()))))
else none)
else
((fun (z1 : Unit) =>
some (true, ((), ()))) ()))) k ((x.1.1, (x.1.2.1, (x.1.2.2.1, (x.1.2.2.2.1, (x.1.2.2.2.2.1, (x.1.2.2.2.2.2.1, ())))))), ((0 : Int), ())))
theorem t_s_l20All (k : Nat) (x) : evF TTab k [] [(0, ⟨[1, 3], (.cons (.ptr 0 yP2) yP3)⟩, ⟨[], .nil⟩)] Try.f77 (.cons (.agg yP2) .nil) .bool x = s_l20All k x := by kernel_rfl
theorem e_s_l20All [Names] (k : Nat) : EntryOk Try.prog ⟨77, 0, (.cons (.agg yP2) .nil), .bool, s_l20All k⟩ := entry_ok tok (by simp) (by kernel_rfl) (fn := Try.f77) (k := k) (es := []) (loops := [(0, ⟨[1, 3], (.cons (.ptr 0 yP2) yP3)⟩, ⟨[], .nil⟩)]) (by kernel_rfl) (by kernel_rfl) (fun x r h => (t_s_l20All k x).trans h)
def s_l20Copy_t (k : Nat) (x : ((List (Int × Int × Int × List (ByteArray) × List (Bool) × Int)) × Unit) × Unit) : Option (((List (Int × Int × Int × List (ByteArray) × List (Bool) × Int)) × Unit) × Unit × Unit) :=
(whileK (fun (rec0 : (((List (Int × Int × Int × List (ByteArray) × List (Bool) × Int)) × Unit) × ((List (Int × Int × Int × List (ByteArray) × List (Bool) × Int)) × Unit) × ((List (Int × Int × Int × List (ByteArray) × List (Bool) × Int)) × Unit) × Int × Unit) → Option _) (y0 : ((List (Int × Int × Int × List (ByteArray) × List (Bool) × Int)) × Unit) × ((List (Int × Int × Int × List (ByteArray) × List (Bool) × Int)) × Unit) × ((List (Int × Int × Int × List (ByteArray) × List (Bool) × Int)) × Unit) × Int × Unit) =>
(if (decide (y0.2.2.2.1 < (List.length y0.1.1 : Int))) = true then
(if 0 ≤ y0.2.2.2.1 ∧ y0.2.2.2.1 < (List.length y0.1.1 : Int) then
(if List.length ([] : List (ByteArray)) + List.length (Ty.rd (t := yT0) y0.1.1 y0.2.2.2.1).2.2.2.1 ≤ capMax then
(if List.length ([] : List (Bool)) + List.length (Ty.rd (t := yT0) y0.1.1 y0.2.2.2.1).2.2.2.2.1 ≤ capMax then
(if List.length y0.2.2.1.1 + List.length ([((Ty.rd (t := yT0) y0.1.1 y0.2.2.2.1).1, ((Ty.rd (t := yT0) y0.1.1 y0.2.2.2.1).2.1, ((Ty.rd (t := yT0) y0.1.1 y0.2.2.2.1).2.2.1, ((([] : List (ByteArray)) ++ (Ty.rd (t := yT0) y0.1.1 y0.2.2.2.1).2.2.2.1), ((([] : List (Bool)) ++ (Ty.rd (t := yT0) y0.1.1 y0.2.2.2.1).2.2.2.2.1), (Ty.rd (t := yT0) y0.1.1 y0.2.2.2.1).2.2.2.2.2)))))] : List (Int × Int × Int × List (ByteArray) × List (Bool) × Int)) ≤ capMax then
(rec0 ((y0.1.1, ()), ((y0.2.1.1, ()), (((y0.2.2.1.1 ++ ([((Ty.rd (t := yT0) y0.1.1 y0.2.2.2.1).1, ((Ty.rd (t := yT0) y0.1.1 y0.2.2.2.1).2.1, ((Ty.rd (t := yT0) y0.1.1 y0.2.2.2.1).2.2.1, ((([] : List (ByteArray)) ++ (Ty.rd (t := yT0) y0.1.1 y0.2.2.2.1).2.2.2.1), ((([] : List (Bool)) ++ (Ty.rd (t := yT0) y0.1.1 y0.2.2.2.1).2.2.2.2.1), (Ty.rd (t := yT0) y0.1.1 y0.2.2.2.1).2.2.2.2.2)))))] : List (Int × Int × Int × List (ByteArray) × List (Bool) × Int))), ()), ((wi64 (y0.2.2.2.1 + (1 : Int))), ())))))
else none)
else none)
else none)
else none)
else
((fun (z1 : ((List (Int × Int × Int × List (ByteArray) × List (Bool) × Int)) × Unit) × ((List (Int × Int × Int × List (ByteArray) × List (Bool) × Int)) × Unit) × Unit) =>
some ((z1.2.1.1, ()), ((), ()))) ((y0.2.1.1, ()), ((y0.2.2.1.1, ()), ()))))) k ((x.1.1, ()), (([], ()), (([], ()), ((0 : Int), ())))))
theorem t_s_l20Copy_t (k : Nat) (x) : evF TTabO k [] [(0, ⟨[1, 2, 3, 4], (.cons (.ptr 0 yP5) (.cons (.ptr 0 yP7) (.cons (.ptr 0 yP7) yP3)))⟩, ⟨[2, 3], (.cons (.ptr 0 yP7) (.cons (.ptr 0 yP7) .nil))⟩)] Try.f67 (.cons (.agg yP5) .nil) (.agg yP7) x = s_l20Copy_t k x := by kernel_rfl
theorem e_s_l20Copy_t [Names] (k : Nat) : EntryOk Try.prog ⟨67, 0, (.cons (.agg yP5) .nil), (.agg yP7), s_l20Copy_t k⟩ := entry_ok tokO (by simp) (by kernel_rfl) (fn := Try.f67) (k := k) (es := []) (loops := [(0, ⟨[1, 2, 3, 4], (.cons (.ptr 0 yP5) (.cons (.ptr 0 yP7) (.cons (.ptr 0 yP7) yP3)))⟩, ⟨[2, 3], (.cons (.ptr 0 yP7) (.cons (.ptr 0 yP7) .nil))⟩)]) (by kernel_rfl) (by kernel_rfl) (fun x r h => (t_s_l20Copy_t k x).trans h)
def s_AddPart (k : Nat) (x : ((List (Int × Int × Int × List (ByteArray) × List (Bool) × Int)) × Unit) × Int × ByteArray × Int × Unit) : Option ((((List (Int × Int × Int × List (ByteArray) × List (Bool) × Int)) × Unit) × ByteArray × Bool × Unit) × Unit × Unit × Unit × Unit × Unit) :=
((s_ReadPart k (x.2.2.1, ())).bind fun p1 =>
((s_l20Copy_t k ((x.1.1, ()), ())).bind fun p2 =>
((s_ShelfOk k ((x.1.1, ()), ())).bind fun p3 =>
(if (!p3.1) = false then
((s_l01In k (x.2.1, ((1 : Int), ((99 : Int), ())))).bind fun p4 =>
(if (!p4.1) = false then
(if (!p1.1.2.2.2.2.1) = false then
(if (decide ((120 : Int) < (ByteArray.size p1.1.2.2.2.1 : Int))) = false then
((s_l01In k (x.2.2.2.1, ((0 : Int), ((999999992 : Int), ())))).bind fun p5 =>
(if (!p5.1) = true then
some (((p2.1.1, ()), ((⟨#[]⟩ : ByteArray), (false, ()))), ((), ((), ((), ((), ())))))
else
(if (decide (p1.1.2.2.1 = (1 : Int))) = true then
some (((p2.1.1, ()), (p1.1.2.2.2.1, (true, ()))), ((), ((), ((), ((), ())))))
else
(if p1.1.2.2.1 = p1.1.2.2.1 then
(if 0 ≤ p1.1.2.2.1 ∧ p1.1.2.2.1 ≤ (capMax : Int) then
(if p1.1.2.2.1 = p1.1.2.2.1 then
(if 0 ≤ p1.1.2.2.1 ∧ p1.1.2.2.1 ≤ (capMax : Int) then
(whileK (fun (rec0 : (Int × ((List (Int × Int × Int × List (ByteArray) × List (Bool) × Int)) × Unit) × Int × Int × Int × ByteArray × ((List (Int × Int × Int × Option (List (ByteArray)) × Option (List (Bool)) × Int)) × Unit) × (Int × Int × Int × List (ByteArray) × List (Bool) × Int × Unit) × (List (Int × Int × Int × List (ByteArray) × List (Bool) × Int)) × Int × Int × Unit) → Option _) (y0 : Int × ((List (Int × Int × Int × List (ByteArray) × List (Bool) × Int)) × Unit) × Int × Int × Int × ByteArray × ((List (Int × Int × Int × Option (List (ByteArray)) × Option (List (Bool)) × Int)) × Unit) × (Int × Int × Int × List (ByteArray) × List (Bool) × Int × Unit) × (List (Int × Int × Int × List (ByteArray) × List (Bool) × Int)) × Int × Int × Unit) =>
(if (decide (y0.2.2.2.2.2.2.2.2.2.2.1 < (List.length y0.2.2.2.2.2.2.1.1 : Int))) = true then
(jn (fun (j2v0 : List (Int × Int × Int × List (ByteArray) × List (Bool) × Int)) =>
(rec0 (y0.1, ((y0.2.1.1, ()), (y0.2.2.1, (y0.2.2.2.1, (y0.2.2.2.2.1, (y0.2.2.2.2.2.1, (((List.set y0.2.2.2.2.2.2.1.1 (Int.toNat y0.2.2.2.2.2.2.2.2.2.2.1) (Ty.left yT4 (Ty.rd (t := yT4) y0.2.2.2.2.2.2.1.1 y0.2.2.2.2.2.2.2.2.2.2.1))), ()), ((y0.2.2.2.2.2.2.2.1.1, (y0.2.2.2.2.2.2.2.1.2.1, (y0.2.2.2.2.2.2.2.1.2.2.1, (y0.2.2.2.2.2.2.2.1.2.2.2.1, (y0.2.2.2.2.2.2.2.1.2.2.2.2.1, (y0.2.2.2.2.2.2.2.1.2.2.2.2.2.1, ())))))), (j2v0, (y0.2.2.2.2.2.2.2.2.2.1, ((wi64 (y0.2.2.2.2.2.2.2.2.2.2.1 + (1 : Int))), ()))))))))))))) (fun (j2 : (List (Int × Int × Int × List (ByteArray) × List (Bool) × Int)) → Option _) =>
(if 0 ≤ y0.2.2.2.2.2.2.2.2.2.2.1 ∧ y0.2.2.2.2.2.2.2.2.2.2.1 < (List.length y0.2.2.2.2.2.2.1.1 : Int) then
(Option.bind (Ty.rd (t := yT4) y0.2.2.2.2.2.2.1.1 y0.2.2.2.2.2.2.2.2.2.2.1).2.2.2.1 fun (l1 : List (ByteArray)) =>
(Option.bind (Ty.rd (t := yT4) y0.2.2.2.2.2.2.1.1 y0.2.2.2.2.2.2.2.2.2.2.1).2.2.2.2.1 fun (l2 : List (Bool)) =>
(jn (
(if List.length y0.2.2.2.2.2.2.2.2.1 + List.length ([((Ty.rd (t := yT4) y0.2.2.2.2.2.2.1.1 y0.2.2.2.2.2.2.2.2.2.2.1).1, ((Ty.rd (t := yT4) y0.2.2.2.2.2.2.1.1 y0.2.2.2.2.2.2.2.2.2.2.1).2.1, ((Ty.rd (t := yT4) y0.2.2.2.2.2.2.1.1 y0.2.2.2.2.2.2.2.2.2.2.1).2.2.1, (l1, (l2, (Ty.rd (t := yT4) y0.2.2.2.2.2.2.1.1 y0.2.2.2.2.2.2.2.2.2.2.1).2.2.2.2.2)))))] : List (Int × Int × Int × List (ByteArray) × List (Bool) × Int)) ≤ capMax then
(j2 (y0.2.2.2.2.2.2.2.2.1 ++ ([((Ty.rd (t := yT4) y0.2.2.2.2.2.2.1.1 y0.2.2.2.2.2.2.2.2.2.2.1).1, ((Ty.rd (t := yT4) y0.2.2.2.2.2.2.1.1 y0.2.2.2.2.2.2.2.2.2.2.1).2.1, ((Ty.rd (t := yT4) y0.2.2.2.2.2.2.1.1 y0.2.2.2.2.2.2.2.2.2.2.1).2.2.1, (l1, (l2, (Ty.rd (t := yT4) y0.2.2.2.2.2.2.1.1 y0.2.2.2.2.2.2.2.2.2.2.1).2.2.2.2.2)))))] : List (Int × Int × Int × List (ByteArray) × List (Bool) × Int))))
else none)) (fun (j1 : Option _) =>
(if (decide ((Ty.rd (t := yT4) y0.2.2.2.2.2.2.1.1 y0.2.2.2.2.2.2.2.2.2.2.1).1 = y0.1)) = true then
(if (decide ((Ty.rd (t := yT4) y0.2.2.2.2.2.2.1.1 y0.2.2.2.2.2.2.2.2.2.2.1).2.1 = y0.2.2.1)) = true then
(if (decide ((Ty.rd (t := yT4) y0.2.2.2.2.2.2.1.1 y0.2.2.2.2.2.2.2.2.2.2.1).2.2.1 = y0.2.2.2.2.1)) = true then
(rec0 (y0.1, ((y0.2.1.1, ()), (y0.2.2.1, (y0.2.2.2.1, (y0.2.2.2.2.1, (y0.2.2.2.2.2.1, (((List.set y0.2.2.2.2.2.2.1.1 (Int.toNat y0.2.2.2.2.2.2.2.2.2.2.1) (Ty.left yT4 (Ty.rd (t := yT4) y0.2.2.2.2.2.2.1.1 y0.2.2.2.2.2.2.2.2.2.2.1))), ()), (((Ty.rd (t := yT4) y0.2.2.2.2.2.2.1.1 y0.2.2.2.2.2.2.2.2.2.2.1).1, ((Ty.rd (t := yT4) y0.2.2.2.2.2.2.1.1 y0.2.2.2.2.2.2.2.2.2.2.1).2.1, ((Ty.rd (t := yT4) y0.2.2.2.2.2.2.1.1 y0.2.2.2.2.2.2.2.2.2.2.1).2.2.1, (l1, (l2, ((Ty.rd (t := yT4) y0.2.2.2.2.2.2.1.1 y0.2.2.2.2.2.2.2.2.2.2.1).2.2.2.2.2, ())))))), (y0.2.2.2.2.2.2.2.2.1, ((List.length y0.2.2.2.2.2.2.2.2.1 : Int), ((wi64 (y0.2.2.2.2.2.2.2.2.2.2.1 + (1 : Int))), ()))))))))))))
else
(rec0 (y0.1, ((y0.2.1.1, ()), (y0.2.2.1, (y0.2.2.2.1, (y0.2.2.2.2.1, (y0.2.2.2.2.2.1, (((List.set y0.2.2.2.2.2.2.1.1 (Int.toNat y0.2.2.2.2.2.2.2.2.2.2.1) (Ty.left yT4 (Ty.rd (t := yT4) y0.2.2.2.2.2.2.1.1 y0.2.2.2.2.2.2.2.2.2.2.1))), ()), ((y0.2.2.2.2.2.2.2.1.1, (y0.2.2.2.2.2.2.2.1.2.1, (y0.2.2.2.2.2.2.2.1.2.2.1, (y0.2.2.2.2.2.2.2.1.2.2.2.1, (y0.2.2.2.2.2.2.2.1.2.2.2.2.1, (y0.2.2.2.2.2.2.2.1.2.2.2.2.2.1, ())))))), (y0.2.2.2.2.2.2.2.2.1, (y0.2.2.2.2.2.2.2.2.2.1, ((wi64 (y0.2.2.2.2.2.2.2.2.2.2.1 + (1 : Int))), ())))))))))))))
else
j1)
else
j1)))))
else none)))
else
((fun (z1 : ((List (Int × Int × Int × List (ByteArray) × List (Bool) × Int)) × Unit) × Int × Int × ByteArray × (Int × Int × Int × List (ByteArray) × List (Bool) × Int × Unit) × (List (Int × Int × Int × List (ByteArray) × List (Bool) × Int)) × Int × Unit) =>
(jn (fun (j3v0 : List (ByteArray)) (j3v1 : List (Bool)) =>
((s_l20All k ((z1.2.2.2.2.1.1, (z1.2.2.2.2.1.2.1, (z1.2.2.2.2.1.2.2.1, (j3v0, (j3v1, (z1.2.2.2.2.1.2.2.2.2.2.1, ())))))), ())).bind fun p11 =>
(if p11.1 = true then
(whileK (fun (rec2 : (((List (Int × Int × Int × List (ByteArray) × List (Bool) × Int)) × Unit) × Int × (Int × Int × Int × List (ByteArray) × List (Bool) × Int × Unit) × (List (Int × Int × Int × List (ByteArray) × List (Bool) × Int)) × ByteArray × Int × Unit) → Option _) (y2 : ((List (Int × Int × Int × List (ByteArray) × List (Bool) × Int)) × Unit) × Int × (Int × Int × Int × List (ByteArray) × List (Bool) × Int × Unit) × (List (Int × Int × Int × List (ByteArray) × List (Bool) × Int)) × ByteArray × Int × Unit) =>
(if (decide (y2.2.2.2.2.2.1 < y2.2.1)) = true then
(if 0 ≤ y2.2.2.2.2.2.1 ∧ y2.2.2.2.2.2.1 < (List.length y2.2.2.1.2.2.2.1 : Int) then
(if ByteArray.size y2.2.2.2.2.1 + ByteArray.size (Ty.rd (t := .str) y2.2.2.1.2.2.2.1 y2.2.2.2.2.2.1) ≤ maxStr then
(rec2 ((y2.1.1, ()), (y2.2.1, ((y2.2.2.1.1, (y2.2.2.1.2.1, (y2.2.2.1.2.2.1, (y2.2.2.1.2.2.2.1, (y2.2.2.1.2.2.2.2.1, (y2.2.2.1.2.2.2.2.2.1, ())))))), (y2.2.2.2.1, ((y2.2.2.2.2.1 ++ (Ty.rd (t := .str) y2.2.2.1.2.2.2.1 y2.2.2.2.2.2.1)), ((wi64 (y2.2.2.2.2.2.1 + (1 : Int))), ())))))))
else none)
else none)
else
((fun (z3 : ((List (Int × Int × Int × List (ByteArray) × List (Bool) × Int)) × Unit) × (List (Int × Int × Int × List (ByteArray) × List (Bool) × Int)) × ByteArray × Unit) =>
((s_l20Copy_t k ((z3.2.1, ()), ())).bind fun p12 =>
some (((p12.1.1, ()), (z3.2.2.1, (true, ()))), ((), ((), ((), ((), ()))))))) ((y2.1.1, ()), (y2.2.2.2.1, (y2.2.2.2.2.1, ())))))) k ((z1.1.1, ()), (z1.2.2.1, ((z1.2.2.2.2.1.1, (z1.2.2.2.2.1.2.1, (z1.2.2.2.2.1.2.2.1, (j3v0, (j3v1, (z1.2.2.2.2.1.2.2.2.2.2.1, ())))))), (z1.2.2.2.2.2.1, ((⟨#[]⟩ : ByteArray), ((0 : Int), ())))))))
else
(if (decide ((0 : Int) ≤ z1.2.2.2.2.2.2.1)) = true then
(if 0 ≤ z1.2.2.2.2.2.2.1 ∧ z1.2.2.2.2.2.2.1 ≤ (List.length z1.2.2.2.2.2.1 : Int) then
(if List.length ([] : List (Int × Int × Int × List (ByteArray) × List (Bool) × Int)) + List.length (List.drop (Int.toNat (0 : Int)) (List.take (Int.toNat z1.2.2.2.2.2.2.1) z1.2.2.2.2.2.1)) ≤ capMax then
(if List.length (([] : List (Int × Int × Int × List (ByteArray) × List (Bool) × Int)) ++ (List.drop (Int.toNat (0 : Int)) (List.take (Int.toNat z1.2.2.2.2.2.2.1) z1.2.2.2.2.2.1))) + List.length ([(z1.2.2.2.2.1.1, (z1.2.2.2.2.1.2.1, (z1.2.2.2.2.1.2.2.1, (j3v0, (j3v1, z1.2.2.2.2.1.2.2.2.2.2.1)))))] : List (Int × Int × Int × List (ByteArray) × List (Bool) × Int)) ≤ capMax then
(if 0 ≤ z1.2.2.2.2.2.2.1 ∧ z1.2.2.2.2.2.2.1 ≤ (List.length z1.2.2.2.2.2.1 : Int) then
(if List.length ((([] : List (Int × Int × Int × List (ByteArray) × List (Bool) × Int)) ++ (List.drop (Int.toNat (0 : Int)) (List.take (Int.toNat z1.2.2.2.2.2.2.1) z1.2.2.2.2.2.1))) ++ ([(z1.2.2.2.2.1.1, (z1.2.2.2.2.1.2.1, (z1.2.2.2.2.1.2.2.1, (j3v0, (j3v1, z1.2.2.2.2.1.2.2.2.2.2.1)))))] : List (Int × Int × Int × List (ByteArray) × List (Bool) × Int))) + List.length (List.drop (Int.toNat z1.2.2.2.2.2.2.1) (List.take (Int.toNat (List.length z1.2.2.2.2.2.1 : Int)) z1.2.2.2.2.2.1)) ≤ capMax then
((s_l20Copy_t k (((((([] : List (Int × Int × Int × List (ByteArray) × List (Bool) × Int)) ++ (List.drop (Int.toNat (0 : Int)) (List.take (Int.toNat z1.2.2.2.2.2.2.1) z1.2.2.2.2.2.1))) ++ ([(z1.2.2.2.2.1.1, (z1.2.2.2.2.1.2.1, (z1.2.2.2.2.1.2.2.1, (j3v0, (j3v1, z1.2.2.2.2.1.2.2.2.2.2.1)))))] : List (Int × Int × Int × List (ByteArray) × List (Bool) × Int))) ++ (List.drop (Int.toNat z1.2.2.2.2.2.2.1) (List.take (Int.toNat (List.length z1.2.2.2.2.2.1 : Int)) z1.2.2.2.2.2.1))), ()), ())).bind fun p13 =>
some (((p13.1.1, ()), ((⟨#[]⟩ : ByteArray), (false, ()))), ((), ((), ((), ((), ()))))))
else none)
else none)
else none)
else none)
else none)
else
(if (decide ((List.length z1.2.2.2.2.2.1 : Int) = (3 : Int))) = true then
(if 0 ≤ (1 : Int) ∧ (1 : Int) ≤ (List.length z1.2.2.2.2.2.1 : Int) then
(if (List.length z1.2.2.2.2.2.1 : Int) = (List.length z1.2.2.2.2.2.1 : Int) ∧ List.length z1.2.2.2.2.2.1 + List.length ([(z1.2.2.2.2.1.1, (z1.2.2.2.2.1.2.1, (z1.2.2.2.2.1.2.2.1, (j3v0, (j3v1, z1.2.2.2.2.1.2.2.2.2.2.1)))))] : List (Int × Int × Int × List (ByteArray) × List (Bool) × Int)) ≤ capMax then
((s_l20Copy_t k ((((List.drop (Int.toNat (1 : Int)) z1.2.2.2.2.2.1) ++ ([(z1.2.2.2.2.1.1, (z1.2.2.2.2.1.2.1, (z1.2.2.2.2.1.2.2.1, (j3v0, (j3v1, z1.2.2.2.2.1.2.2.2.2.2.1)))))] : List (Int × Int × Int × List (ByteArray) × List (Bool) × Int))), ()), ())).bind fun p14 =>
some (((p14.1.1, ()), ((⟨#[]⟩ : ByteArray), (false, ()))), ((), ((), ((), ((), ()))))))
else none)
else none)
else
(if List.length z1.2.2.2.2.2.1 + List.length ([(z1.2.2.2.2.1.1, (z1.2.2.2.2.1.2.1, (z1.2.2.2.2.1.2.2.1, (j3v0, (j3v1, z1.2.2.2.2.1.2.2.2.2.2.1)))))] : List (Int × Int × Int × List (ByteArray) × List (Bool) × Int)) ≤ capMax then
((s_l20Copy_t k (((z1.2.2.2.2.2.1 ++ ([(z1.2.2.2.2.1.1, (z1.2.2.2.2.1.2.1, (z1.2.2.2.2.1.2.2.1, (j3v0, (j3v1, z1.2.2.2.2.1.2.2.2.2.2.1)))))] : List (Int × Int × Int × List (ByteArray) × List (Bool) × Int))), ()), ())).bind fun p15 =>
some (((p15.1.1, ()), ((⟨#[]⟩ : ByteArray), (false, ()))), ((), ((), ((), ((), ()))))))
else none)))))) (fun (j3 : List (ByteArray) → List (Bool) → Option _) =>
(if 0 ≤ z1.2.1 ∧ z1.2.1 < (List.length z1.2.2.2.2.1.2.2.2.2.1 : Int) then
(if (!(Ty.rd (t := .bool) z1.2.2.2.2.1.2.2.2.2.1 z1.2.1)) = true then
(if 0 ≤ z1.2.1 ∧ z1.2.1 < (List.length z1.2.2.2.2.1.2.2.2.2.1 : Int) then
(if 0 ≤ z1.2.1 ∧ z1.2.1 < (List.length z1.2.2.2.2.1.2.2.2.1 : Int) then
(j3 (List.set z1.2.2.2.2.1.2.2.2.1 (Int.toNat z1.2.1) z1.2.2.2.1) (List.set z1.2.2.2.2.1.2.2.2.2.1 (Int.toNat z1.2.1) true))
else none)
else none)
else
(j3 z1.2.2.2.2.1.2.2.2.1 z1.2.2.2.2.1.2.2.2.2.1))
else none)))) ((y0.2.1.1, ()), (y0.2.2.2.1, (y0.2.2.2.2.1, (y0.2.2.2.2.2.1, ((y0.2.2.2.2.2.2.2.1.1, (y0.2.2.2.2.2.2.2.1.2.1, (y0.2.2.2.2.2.2.2.1.2.2.1, (y0.2.2.2.2.2.2.2.1.2.2.2.1, (y0.2.2.2.2.2.2.2.1.2.2.2.2.1, (y0.2.2.2.2.2.2.2.1.2.2.2.2.2.1, ())))))), (y0.2.2.2.2.2.2.2.2.1, (y0.2.2.2.2.2.2.2.2.2.1, ())))))))))) k (x.2.1, (([], ()), (p1.1.1, (p1.1.2.1, (p1.1.2.2.1, (p1.1.2.2.2.1, (((List.map (Ty.toq yT1) p2.1.1), ()), ((x.2.1, (p1.1.1, (p1.1.2.2.1, ((List.replicate (Int.toNat p1.1.2.2.1) (⟨#[]⟩ : ByteArray)), ((List.replicate (Int.toNat p1.1.2.2.1) false), ((wi64 (x.2.2.2.1 + (8 : Int))), ())))))), (([] : List (Int × Int × Int × List (ByteArray) × List (Bool) × Int)), ((-1 : Int), ((0 : Int), ()))))))))))))
else none)
else none)
else none)
else none))))
else
some (((p2.1.1, ()), ((⟨#[]⟩ : ByteArray), (false, ()))), ((), ((), ((), ((), ()))))))
else
some (((p2.1.1, ()), ((⟨#[]⟩ : ByteArray), (false, ()))), ((), ((), ((), ((), ()))))))
else
some (((p2.1.1, ()), ((⟨#[]⟩ : ByteArray), (false, ()))), ((), ((), ((), ((), ())))))))
else
some (((p2.1.1, ()), ((⟨#[]⟩ : ByteArray), (false, ()))), ((), ((), ((), ((), ())))))))))
theorem t_s_AddPart (k : Nat) (x) : evF TTabQ k [⟨56, 0, yP9, .bool, s_l01In k⟩, ⟨67, 0, (.cons (.agg yP5) .nil), (.agg yP7), s_l20Copy_t k⟩, ⟨75, 0, (.cons .str .nil), yP8, s_ReadPart k⟩, ⟨76, 0, (.cons (.agg yP5) .nil), .bool, s_ShelfOk k⟩, ⟨77, 0, (.cons (.agg yP2) .nil), .bool, s_l20All k⟩] [(0, ⟨[1, 8, 11, 12, 13, 14, 16, 17, 18, 19, 20], (.cons (.int .i64) (.cons (.ptr 0 (.cons (.own false 53 yT0) .nil)) (.cons (.int .i64) (.cons (.int .i64) (.cons (.int .i64) (.cons .str (.cons (.ptr 0 (.cons (.own false 53 yT4) .nil)) (.cons (.ptr 0 yP6) (.cons (.own false 53 yT0) (.cons (.int .i64) yP3))))))))))⟩, ⟨[8, 12, 13, 14, 17, 18, 19], (.cons (.ptr 0 (.cons (.own false 53 yT0) .nil)) (.cons (.int .i64) (.cons (.int .i64) (.cons .str (.cons (.ptr 0 yP6) (.cons (.own false 53 yT0) yP3))))))⟩), (2, ⟨[8, 13, 17, 18, 22, 23], (.cons (.ptr 0 (.cons (.own false 53 yT0) .nil)) (.cons (.int .i64) (.cons (.ptr 0 yP6) (.cons (.own false 53 yT0) (.cons .str yP3)))))⟩, ⟨[8, 18, 22], (.cons (.ptr 0 (.cons (.own false 53 yT0) .nil)) (.cons (.own false 53 yT0) (.cons .str .nil)))⟩)] Try.f28 yP11 (.tup (.cons (.agg yP7) (.cons .str (.cons .bool .nil)))) x = s_AddPart k x := by kernel_rfl
theorem e_s_AddPart [Names] (k : Nat) : EntryOk Try.prog ⟨28, 0, yP11, (.tup (.cons (.agg yP7) (.cons .str (.cons .bool .nil)))), s_AddPart k⟩ := entry_ok tokQ (by intro e he; simp only [List.mem_cons, List.not_mem_nil, or_false] at he; rcases he with rfl | rfl | rfl | rfl | rfl <;> first | exact e_s_l01In k | exact e_s_l20Copy_t k | exact e_s_ReadPart k | exact e_s_ShelfOk k | exact e_s_l20All k) (by kernel_rfl) (fn := Try.f28) (k := k) (es := [⟨56, 0, yP9, .bool, s_l01In k⟩, ⟨67, 0, (.cons (.agg yP5) .nil), (.agg yP7), s_l20Copy_t k⟩, ⟨75, 0, (.cons .str .nil), yP8, s_ReadPart k⟩, ⟨76, 0, (.cons (.agg yP5) .nil), .bool, s_ShelfOk k⟩, ⟨77, 0, (.cons (.agg yP2) .nil), .bool, s_l20All k⟩]) (loops := [(0, ⟨[1, 8, 11, 12, 13, 14, 16, 17, 18, 19, 20], (.cons (.int .i64) (.cons (.ptr 0 (.cons (.own false 53 yT0) .nil)) (.cons (.int .i64) (.cons (.int .i64) (.cons (.int .i64) (.cons .str (.cons (.ptr 0 (.cons (.own false 53 yT4) .nil)) (.cons (.ptr 0 yP6) (.cons (.own false 53 yT0) (.cons (.int .i64) yP3))))))))))⟩, ⟨[8, 12, 13, 14, 17, 18, 19], (.cons (.ptr 0 (.cons (.own false 53 yT0) .nil)) (.cons (.int .i64) (.cons (.int .i64) (.cons .str (.cons (.ptr 0 yP6) (.cons (.own false 53 yT0) yP3))))))⟩), (2, ⟨[8, 13, 17, 18, 22, 23], (.cons (.ptr 0 (.cons (.own false 53 yT0) .nil)) (.cons (.int .i64) (.cons (.ptr 0 yP6) (.cons (.own false 53 yT0) (.cons .str yP3)))))⟩, ⟨[8, 18, 22], (.cons (.ptr 0 (.cons (.own false 53 yT0) .nil)) (.cons (.own false 53 yT0) (.cons .str .nil)))⟩)]) (by kernel_rfl) (by kernel_rfl) (fun x r h => (t_s_AddPart k x).trans h)
def w_FnExactAddPart (k : Nat) (x : ((List (Int × Int × Int × List (ByteArray) × List (Bool) × Int)) × Unit) × Int × ByteArray × Int × Unit) : Option (Bool × Unit × Unit × Unit × Unit × Unit) :=
(if (decide ((1048576 : Int) < (ByteArray.size x.2.2.1 : Int))) = true then
some (true, ((), ((), ((), ((), ())))))
else
((w_szShelf k ((x.1.1, ()), ((1048576 : Int), ()))).bind fun p1 =>
(if (decide (p1.1 < (0 : Int))) = true then
some (true, ((), ((), ((), ((), ())))))
else
((w_toShelf k ((x.1.1, ()), ())).bind fun p2 =>
((s_AddPart k ((p2.1.1, ()), (x.2.1, (x.2.2.1, (x.2.2.2.1, ()))))).bind fun p3 =>
((w_toShelf k ((x.1.1, ()), ())).bind fun p4 =>
((i_AddPart k ((p4.1.1, ()), (x.2.1, (x.2.2.1, (x.2.2.2.1, ()))))).bind fun p5 =>
((w_eqShelf k ((p5.1.1.1, ()), ((p3.1.1.1, ()), ()))).bind fun p6 =>
(if (!p6.1) = false then
(if (!decide (p5.1.2.1 = p3.1.2.1)) = false then
(if (!decide (p5.1.2.2.1 = p3.1.2.2.1)) = true then
some (false, ((), ((), ((), ((), ())))))
else
((w_toShelf k ((x.1.1, ()), ())).bind fun p7 =>
((w_eqShelf k ((p4.1.1, ()), ((p7.1.1, ()), ()))).bind fun p8 =>
(if (!p8.1) = true then
some (false, ((), ((), ((), ((), ())))))
else
((w_markShelf k ((p4.1.1, ()), ((1 : Int), ()))).bind fun p9 =>
(if (decide (p9.1 < (0 : Int))) = false then
((w_eqShelf k ((p5.1.1.1, ()), ((p3.1.1.1, ()), ()))).bind fun p10 =>
(if (!p10.1) = false then
(if (!decide (p5.1.2.1 = p3.1.2.1)) = false then
(if (!decide (p5.1.2.2.1 = p3.1.2.2.1)) = true then
some (false, ((), ((), ((), ((), ())))))
else
((w_markShelf k ((p5.1.1.1, ()), ((1 : Int), ()))).bind fun p11 =>
((w_heldShelf k ((p11.2.1.1, ()), ((1 : Int), ()))).bind fun p12 =>
(if (decide (p12.1 < (0 : Int))) = true then
some (false, ((), ((), ((), ((), ())))))
else
(if (!decide (p12.1 = p11.1)) = true then
some (false, ((), ((), ((), ((), ())))))
else
((w_toShelf k ((x.1.1, ()), ())).bind fun p13 =>
((i_AddPart k ((p13.1.1, ()), (x.2.1, (x.2.2.1, (x.2.2.2.1, ()))))).bind fun p14 =>
((w_eqShelf k ((p14.1.1.1, ()), ((p3.1.1.1, ()), ()))).bind fun p15 =>
(if (!p15.1) = false then
(if (!decide (p14.1.2.1 = p3.1.2.1)) = false then
(if (!decide (p14.1.2.2.1 = p3.1.2.2.1)) = true then
some (false, ((), ((), ((), ((), ())))))
else
((w_heldShelf k ((p11.2.1.1, ()), ((1 : Int), ()))).bind fun p16 =>
(if (decide (p16.1 < (0 : Int))) = true then
some (false, ((), ((), ((), ((), ())))))
else
(if (!decide (p16.1 = p11.1)) = true then
some (false, ((), ((), ((), ((), ())))))
else
some (true, ((), ((), ((), ((), ())))))))))
else
some (false, ((), ((), ((), ((), ()))))))
else
some (false, ((), ((), ((), ((), ()))))))))))))))
else
some (false, ((), ((), ((), ((), ()))))))
else
some (false, ((), ((), ((), ((), ())))))))
else
some (false, ((), ((), ((), ((), ())))))))))))
else
some (false, ((), ((), ((), ((), ()))))))
else
some (false, ((), ((), ((), ((), ()))))))))))))))
theorem t_w_FnExactAddPart (k : Nat) (x) : evF TTabO k [⟨18, 0, yP11, (.tup (.cons (.agg yP7) (.cons .str (.cons .bool .nil)))), i_AddPart k⟩, ⟨20, 0, (.cons (.agg yP5) yP3), (.int .i64), w_szShelf k⟩, ⟨22, 0, (.cons (.agg yP5) .nil), (.agg yP7), w_toShelf k⟩, ⟨24, 0, (.cons (.agg yP5) (.cons (.agg yP5) .nil)), .bool, w_eqShelf k⟩, ⟨25, 0, (.cons (.mag (.cons (.mut false 53 yT1) .nil)) yP3), (.int .i64), w_markShelf k⟩, ⟨26, 0, (.cons (.agg yP5) yP3), (.int .i64), w_heldShelf k⟩, ⟨28, 0, yP11, (.tup (.cons (.agg yP7) (.cons .str (.cons .bool .nil)))), s_AddPart k⟩] [] Try.f6 yP11 .bool x = w_FnExactAddPart k x := by kernel_rfl
theorem e_w_FnExactAddPart [Names] (k : Nat) : EntryOk Try.prog ⟨6, 0, yP11, .bool, w_FnExactAddPart k⟩ := entry_ok tokO (by intro e he; simp only [List.mem_cons, List.not_mem_nil, or_false] at he; rcases he with rfl | rfl | rfl | rfl | rfl | rfl | rfl <;> first | exact e_i_AddPart k | exact e_w_szShelf k | exact e_w_toShelf k | exact e_w_eqShelf k | exact e_w_markShelf k | exact e_w_heldShelf k | exact e_s_AddPart k) (by kernel_rfl) (fn := Try.f6) (k := k) (es := [⟨18, 0, yP11, (.tup (.cons (.agg yP7) (.cons .str (.cons .bool .nil)))), i_AddPart k⟩, ⟨20, 0, (.cons (.agg yP5) yP3), (.int .i64), w_szShelf k⟩, ⟨22, 0, (.cons (.agg yP5) .nil), (.agg yP7), w_toShelf k⟩, ⟨24, 0, (.cons (.agg yP5) (.cons (.agg yP5) .nil)), .bool, w_eqShelf k⟩, ⟨25, 0, (.cons (.mag (.cons (.mut false 53 yT1) .nil)) yP3), (.int .i64), w_markShelf k⟩, ⟨26, 0, (.cons (.agg yP5) yP3), (.int .i64), w_heldShelf k⟩, ⟨28, 0, yP11, (.tup (.cons (.agg yP7) (.cons .str (.cons .bool .nil)))), s_AddPart k⟩]) (loops := []) (by kernel_rfl) (by kernel_rfl) (fun x r h => (t_w_FnExactAddPart k x).trans h)
end Go.Proofs.Ytaamcelinnnncaa
