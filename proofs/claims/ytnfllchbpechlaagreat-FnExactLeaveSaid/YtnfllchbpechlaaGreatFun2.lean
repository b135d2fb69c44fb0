import Derived.Test.YtnfllchbpechlaaGreatFun1
/- What functions of the program compute, as plain functions, and that their calls do so (part 2). Conditions: the plain function answers. -/
set_option linter.unusedVariables false
namespace Go.Proofs.YtnfllchbpechlaaGreat
open Go Go.Eng Go.Proofs
def x_slices_DeleteFunc_impl_Route_impl_Route_of_i_DropTo_1 (k : Nat) (x : (List ((Int × Int) × Int)) × ((Int × Unit) × Unit) × Unit) : Option ((List ((Int × Int) × Int)) × Unit × ((Int × Unit) × Unit) × Unit) :=
((x_slices_IndexFunc_impl_Route_impl_Route_of_i_DropTo_1 k (x.1, (((x.2.1.1.1, ()), ()), ()))).bind fun p1 =>
(if (decide (p1.1 = (-1 : Int))) = true then
some (x.1, ((), (((p1.2.2.1.1.1, ()), ()), ())))
else
(whileK (fun (rec0 : ((List ((Int × Int) × Int)) × ((Int × Unit) × Unit) × Int × Int × Unit) → Option _) (y0 : (List ((Int × Int) × Int)) × ((Int × Unit) × Unit) × Int × Int × Unit) =>
(if (decide (y0.2.2.2.1 < (List.length y0.1 : Int))) = true then
(if 0 ≤ y0.2.2.2.1 ∧ y0.2.2.2.1 < (List.length y0.1 : Int) then
((i_DropTo_1 k (((Ty.rd (t := (.pair (.pair (.int .i64) (.int .i64)) (.int .i64))) y0.1 y0.2.2.2.1).1.1, ((Ty.rd (t := (.pair (.pair (.int .i64) (.int .i64)) (.int .i64))) y0.1 y0.2.2.2.1).1.2, ((Ty.rd (t := (.pair (.pair (.int .i64) (.int .i64)) (.int .i64))) y0.1 y0.2.2.2.1).2, ()))), ((y0.2.1.1.1, ()), ()))).bind fun p2 =>
(if (!p2.1) = true then
(if 0 ≤ y0.2.2.1 ∧ y0.2.2.1 < (List.length y0.1 : Int) then
(rec0 ((List.set y0.1 (Int.toNat y0.2.2.1) (((Ty.rd (t := (.pair (.pair (.int .i64) (.int .i64)) (.int .i64))) y0.1 y0.2.2.2.1).1.1, (Ty.rd (t := (.pair (.pair (.int .i64) (.int .i64)) (.int .i64))) y0.1 y0.2.2.2.1).1.2), (Ty.rd (t := (.pair (.pair (.int .i64) (.int .i64)) (.int .i64))) y0.1 y0.2.2.2.1).2)), (((p2.2.2.1.1, ()), ()), ((wi64 (y0.2.2.1 + (1 : Int))), ((wi64 (y0.2.2.2.1 + (1 : Int))), ())))))
else none)
else
(rec0 (y0.1, (((p2.2.2.1.1, ()), ()), (y0.2.2.1, ((wi64 (y0.2.2.2.1 + (1 : Int))), ())))))))
else none)
else
((fun (z1 : (List ((Int × Int) × Int)) × ((Int × Unit) × Unit) × Int × Unit) =>
(if 0 ≤ z1.2.2.1 ∧ z1.2.2.1 ≤ (List.length z1.1 : Int) then
(if 0 ≤ z1.2.2.1 ∧ z1.2.2.1 ≤ (List.length (List.take (Int.toNat z1.2.2.1) z1.1 ++ (List.replicate (Int.toNat ((List.length z1.1 : Int) - z1.2.2.1)) (((0 : Int), (0 : Int)), (0 : Int)) ++ List.drop (Int.toNat (List.length z1.1 : Int)) z1.1)) : Int) then
some ((List.drop (Int.toNat (0 : Int)) (List.take (Int.toNat z1.2.2.1) (List.take (Int.toNat z1.2.2.1) z1.1 ++ (List.replicate (Int.toNat ((List.length z1.1 : Int) - z1.2.2.1)) (((0 : Int), (0 : Int)), (0 : Int)) ++ List.drop (Int.toNat (List.length z1.1 : Int)) z1.1)))), ((), (((z1.2.1.1.1, ()), ()), ())))
else none)
else none)) (y0.1, (((y0.2.1.1.1, ()), ()), (y0.2.2.1, ())))))) k (x.1, (((p1.2.2.1.1.1, ()), ()), (p1.1, ((wi64 (p1.1 + (1 : Int))), ())))))))
theorem t_x_slices_DeleteFunc_impl_Route_impl_Route_of_i_DropTo_1 (k : Nat) (x) : evF TTab k [⟨151, 0, (.cons (.agg yP14) yP23), .bool, i_DropTo_1 k⟩, ⟨235, 152, (.cons yP21 (.cons (.fn 151 yP23) .nil)), (.int .i64), x_slices_IndexFunc_impl_Route_impl_Route_of_i_DropTo_1 k⟩] [(0, ⟨[0, 1, 5, 6], (.cons yP20 (.cons (.fn 151 yP23) (.cons (.int .i64) yP3)))⟩, ⟨[0, 1, 5], (.cons yP20 (.cons (.fn 151 yP23) yP3))⟩)] Tryz.f150 (.cons yP20 (.cons (.fn 151 yP23) .nil)) yP20 x = x_slices_DeleteFunc_impl_Route_impl_Route_of_i_DropTo_1 k x := by kernel_rfl
theorem e_x_slices_DeleteFunc_impl_Route_impl_Route_of_i_DropTo_1 [Names] (k : Nat) : EntryOk Tryz.prog ⟨150, 152, (.cons yP20 (.cons (.fn 151 yP23) .nil)), yP20, x_slices_DeleteFunc_impl_Route_impl_Route_of_i_DropTo_1 k⟩ := entry_ok tok (by intro e he; simp only [List.mem_cons, List.not_mem_nil, or_false] at he; rcases he with rfl | rfl <;> first | exact e_i_DropTo_1 k | exact e_x_slices_IndexFunc_impl_Route_impl_Route_of_i_DropTo_1 k) (by kernel_rfl) (fn := Tryz.f150) (k := k) (es := [⟨151, 0, (.cons (.agg yP14) yP23), .bool, i_DropTo_1 k⟩, ⟨235, 152, (.cons yP21 (.cons (.fn 151 yP23) .nil)), (.int .i64), x_slices_IndexFunc_impl_Route_impl_Route_of_i_DropTo_1 k⟩]) (loops := [(0, ⟨[0, 1, 5, 6], (.cons yP20 (.cons (.fn 151 yP23) (.cons (.int .i64) yP3)))⟩, ⟨[0, 1, 5], (.cons yP20 (.cons (.fn 151 yP23) yP3))⟩)]) (by kernel_rfl) (by kernel_rfl) (fun x r h => (t_x_slices_DeleteFunc_impl_Route_impl_Route_of_i_DropTo_1 k x).trans h)
def i_DropTo (k : Nat) (x : (List ((Int × Int) × Int)) × Int × Unit) : Option ((List ((Int × Int) × Int)) × Unit × Unit × Unit) :=
((i_copyRoutes k (x.1, ())).bind fun p1 =>
((x_slices_DeleteFunc_impl_Route_impl_Route_of_i_DropTo_1 k (p1.1, (((x.2.1, ()), ()), ()))).bind fun p2 =>
some (p2.1, ((), ((), ())))))
theorem t_i_DropTo (k : Nat) (x) : evF TTab k [⟨129, 0, (.cons yP21 .nil), yP20, i_copyRoutes k⟩, ⟨150, 152, (.cons yP20 (.cons (.fn 151 yP23) .nil)), yP20, x_slices_DeleteFunc_impl_Route_impl_Route_of_i_DropTo_1 k⟩] [] Tryz.f71 (.cons yP21 yP3) yP20 x = i_DropTo k x := by kernel_rfl
theorem e_i_DropTo [Names] (k : Nat) : EntryOk Tryz.prog ⟨71, 0, (.cons yP21 yP3), yP20, i_DropTo k⟩ := entry_ok tok (by intro e he; simp only [List.mem_cons, List.not_mem_nil, or_false] at he; rcases he with rfl | rfl <;> first | exact e_i_copyRoutes k | exact e_x_slices_DeleteFunc_impl_Route_impl_Route_of_i_DropTo_1 k) (by kernel_rfl) (fn := Tryz.f71) (k := k) (es := [⟨129, 0, (.cons yP21 .nil), yP20, i_copyRoutes k⟩, ⟨150, 152, (.cons yP20 (.cons (.fn 151 yP23) .nil)), yP20, x_slices_DeleteFunc_impl_Route_impl_Route_of_i_DropTo_1 k⟩]) (loops := []) (by kernel_rfl) (by kernel_rfl) (fun x r h => (t_i_DropTo k x).trans h)
def i_Leave_1 (k : Nat) (x : (Int × Int × Int × ByteArray × ByteArray × Int × Nat × Int × Int × ByteArray × ByteArray × Int × Nat × Int × Nat × Int × Unit) × (Int × Unit) × Unit) : Option (Bool × Unit × (Int × Unit) × Unit) :=
some ((decide (x.1.1 = x.2.1.1)), ((), ((x.2.1.1, ()), ())))
theorem t_i_Leave_1 (k : Nat) (x) : evF TTabN k [] [] Tryz.f69 yP22 .bool x = i_Leave_1 k x := by kernel_rfl
theorem e_i_Leave_1 [Names] (k : Nat) : EntryOk Tryz.prog ⟨69, 0, yP22, .bool, i_Leave_1 k⟩ := entry_ok tokN (by simp) (by kernel_rfl) (fn := Tryz.f69) (k := k) (es := []) (loops := []) (by kernel_rfl) (by kernel_rfl) (fun x r h => (t_i_Leave_1 k x).trans h)
def x_slices_IndexFunc_impl_User_impl_User_of_i_Leave_1 (k : Nat) (x : (List (Int × Int × ((Int × ByteArray × ByteArray × Int × Nat × Int) × Int × ByteArray × ByteArray × Int × Nat × Int) × Nat × Int)) × ((Int × Unit) × Unit) × Unit) : Option (Int × Unit × ((Int × Unit) × Unit) × Unit) :=
(whileK (fun (rec0 : ((List (Int × Int × ((Int × ByteArray × ByteArray × Int × Nat × Int) × Int × ByteArray × ByteArray × Int × Nat × Int) × Nat × Int)) × ((Int × Unit) × Unit) × Int × Int × Unit) → Option _) (y0 : (List (Int × Int × ((Int × ByteArray × ByteArray × Int × Nat × Int) × Int × ByteArray × ByteArray × Int × Nat × Int) × Nat × Int)) × ((Int × Unit) × Unit) × Int × Int × Unit) =>
(if (decide (y0.2.2.2.1 < y0.2.2.1)) = true then
(if 0 ≤ y0.2.2.2.1 ∧ y0.2.2.2.1 < (List.length y0.1 : Int) then
((i_Leave_1 k (((Ty.rd (t := (.pair (.int .i64) (.pair (.int .i64) (.pair (.pair (.pair (.int .i64) (.pair .str (.pair .str (.pair (.int .i64) (.pair .nm (.int .i64)))))) (.pair (.int .i64) (.pair .str (.pair .str (.pair (.int .i64) (.pair .nm (.int .i64))))))) (.pair .nm (.int .i64)))))) y0.1 y0.2.2.2.1).1, ((Ty.rd (t := (.pair (.int .i64) (.pair (.int .i64) (.pair (.pair (.pair (.int .i64) (.pair .str (.pair .str (.pair (.int .i64) (.pair .nm (.int .i64)))))) (.pair (.int .i64) (.pair .str (.pair .str (.pair (.int .i64) (.pair .nm (.int .i64))))))) (.pair .nm (.int .i64)))))) y0.1 y0.2.2.2.1).2.1, ((Ty.rd (t := (.pair (.int .i64) (.pair (.int .i64) (.pair (.pair (.pair (.int .i64) (.pair .str (.pair .str (.pair (.int .i64) (.pair .nm (.int .i64)))))) (.pair (.int .i64) (.pair .str (.pair .str (.pair (.int .i64) (.pair .nm (.int .i64))))))) (.pair .nm (.int .i64)))))) y0.1 y0.2.2.2.1).2.2.1.1.1, ((Ty.rd (t := (.pair (.int .i64) (.pair (.int .i64) (.pair (.pair (.pair (.int .i64) (.pair .str (.pair .str (.pair (.int .i64) (.pair .nm (.int .i64)))))) (.pair (.int .i64) (.pair .str (.pair .str (.pair (.int .i64) (.pair .nm (.int .i64))))))) (.pair .nm (.int .i64)))))) y0.1 y0.2.2.2.1).2.2.1.1.2.1, ((Ty.rd (t := (.pair (.int .i64) (.pair (.int .i64) (.pair (.pair (.pair (.int .i64) (.pair .str (.pair .str (.pair (.int .i64) (.pair .nm (.int .i64)))))) (.pair (.int .i64) (.pair .str (.pair .str (.pair (.int .i64) (.pair .nm (.int .i64))))))) (.pair .nm (.int .i64)))))) y0.1 y0.2.2.2.1).2.2.1.1.2.2.1, ((Ty.rd (t := (.pair (.int .i64) (.pair (.int .i64) (.pair (.pair (.pair (.int .i64) (.pair .str (.pair .str (.pair (.int .i64) (.pair .nm (.int .i64)))))) (.pair (.int .i64) (.pair .str (.pair .str (.pair (.int .i64) (.pair .nm (.int .i64))))))) (.pair .nm (.int .i64)))))) y0.1 y0.2.2.2.1).2.2.1.1.2.2.2.1, ((Ty.rd (t := (.pair (.int .i64) (.pair (.int .i64) (.pair (.pair (.pair (.int .i64) (.pair .str (.pair .str (.pair (.int .i64) (.pair .nm (.int .i64)))))) (.pair (.int .i64) (.pair .str (.pair .str (.pair (.int .i64) (.pair .nm (.int .i64))))))) (.pair .nm (.int .i64)))))) y0.1 y0.2.2.2.1).2.2.1.1.2.2.2.2.1, ((Ty.rd (t := (.pair (.int .i64) (.pair (.int .i64) (.pair (.pair (.pair (.int .i64) (.pair .str (.pair .str (.pair (.int .i64) (.pair .nm (.int .i64)))))) (.pair (.int .i64) (.pair .str (.pair .str (.pair (.int .i64) (.pair .nm (.int .i64))))))) (.pair .nm (.int .i64)))))) y0.1 y0.2.2.2.1).2.2.1.1.2.2.2.2.2, ((Ty.rd (t := (.pair (.int .i64) (.pair (.int .i64) (.pair (.pair (.pair (.int .i64) (.pair .str (.pair .str (.pair (.int .i64) (.pair .nm (.int .i64)))))) (.pair (.int .i64) (.pair .str (.pair .str (.pair (.int .i64) (.pair .nm (.int .i64))))))) (.pair .nm (.int .i64)))))) y0.1 y0.2.2.2.1).2.2.1.2.1, ((Ty.rd (t := (.pair (.int .i64) (.pair (.int .i64) (.pair (.pair (.pair (.int .i64) (.pair .str (.pair .str (.pair (.int .i64) (.pair .nm (.int .i64)))))) (.pair (.int .i64) (.pair .str (.pair .str (.pair (.int .i64) (.pair .nm (.int .i64))))))) (.pair .nm (.int .i64)))))) y0.1 y0.2.2.2.1).2.2.1.2.2.1, ((Ty.rd (t := (.pair (.int .i64) (.pair (.int .i64) (.pair (.pair (.pair (.int .i64) (.pair .str (.pair .str (.pair (.int .i64) (.pair .nm (.int .i64)))))) (.pair (.int .i64) (.pair .str (.pair .str (.pair (.int .i64) (.pair .nm (.int .i64))))))) (.pair .nm (.int .i64)))))) y0.1 y0.2.2.2.1).2.2.1.2.2.2.1, ((Ty.rd (t := (.pair (.int .i64) (.pair (.int .i64) (.pair (.pair (.pair (.int .i64) (.pair .str (.pair .str (.pair (.int .i64) (.pair .nm (.int .i64)))))) (.pair (.int .i64) (.pair .str (.pair .str (.pair (.int .i64) (.pair .nm (.int .i64))))))) (.pair .nm (.int .i64)))))) y0.1 y0.2.2.2.1).2.2.1.2.2.2.2.1, ((Ty.rd (t := (.pair (.int .i64) (.pair (.int .i64) (.pair (.pair (.pair (.int .i64) (.pair .str (.pair .str (.pair (.int .i64) (.pair .nm (.int .i64)))))) (.pair (.int .i64) (.pair .str (.pair .str (.pair (.int .i64) (.pair .nm (.int .i64))))))) (.pair .nm (.int .i64)))))) y0.1 y0.2.2.2.1).2.2.1.2.2.2.2.2.1, ((Ty.rd (t := (.pair (.int .i64) (.pair (.int .i64) (.pair (.pair (.pair (.int .i64) (.pair .str (.pair .str (.pair (.int .i64) (.pair .nm (.int .i64)))))) (.pair (.int .i64) (.pair .str (.pair .str (.pair (.int .i64) (.pair .nm (.int .i64))))))) (.pair .nm (.int .i64)))))) y0.1 y0.2.2.2.1).2.2.1.2.2.2.2.2.2, ((Ty.rd (t := (.pair (.int .i64) (.pair (.int .i64) (.pair (.pair (.pair (.int .i64) (.pair .str (.pair .str (.pair (.int .i64) (.pair .nm (.int .i64)))))) (.pair (.int .i64) (.pair .str (.pair .str (.pair (.int .i64) (.pair .nm (.int .i64))))))) (.pair .nm (.int .i64)))))) y0.1 y0.2.2.2.1).2.2.2.1, ((Ty.rd (t := (.pair (.int .i64) (.pair (.int .i64) (.pair (.pair (.pair (.int .i64) (.pair .str (.pair .str (.pair (.int .i64) (.pair .nm (.int .i64)))))) (.pair (.int .i64) (.pair .str (.pair .str (.pair (.int .i64) (.pair .nm (.int .i64))))))) (.pair .nm (.int .i64)))))) y0.1 y0.2.2.2.1).2.2.2.2, ())))))))))))))))), ((y0.2.1.1.1, ()), ()))).bind fun p1 =>
(if p1.1 = true then
some (y0.2.2.2.1, ((), (((p1.2.2.1.1, ()), ()), ())))
else
(rec0 (y0.1, (((p1.2.2.1.1, ()), ()), (y0.2.2.1, ((wi64 (y0.2.2.2.1 + (1 : Int))), ())))))))
else none)
else
((fun (z1 : ((Int × Unit) × Unit) × Unit) =>
some ((-1 : Int), ((), (((z1.1.1.1, ()), ()), ())))) (((y0.2.1.1.1, ()), ()), ())))) k (x.1, (((x.2.1.1.1, ()), ()), ((List.length x.1 : Int), ((0 : Int), ())))))
theorem t_x_slices_IndexFunc_impl_User_impl_User_of_i_Leave_1 (k : Nat) (x) : evF TTabN k [⟨69, 0, yP22, .bool, i_Leave_1 k⟩] [(0, ⟨[0, 1, 7, 8], (.cons (.il true yT11) (.cons (.fn 69 yP23) (.cons (.int .i64) yP3)))⟩, ⟨[1], (.cons (.fn 69 yP23) .nil)⟩)] Tryz.f131 (.cons (.il true yT11) (.cons (.fn 69 yP23) .nil)) (.int .i64) x = x_slices_IndexFunc_impl_User_impl_User_of_i_Leave_1 k x := by kernel_rfl
theorem e_x_slices_IndexFunc_impl_User_impl_User_of_i_Leave_1 [Names] (k : Nat) : EntryOk Tryz.prog ⟨131, 70, (.cons (.il true yT11) (.cons (.fn 69 yP23) .nil)), (.int .i64), x_slices_IndexFunc_impl_User_impl_User_of_i_Leave_1 k⟩ := entry_ok tokN (by intro e he; simp only [List.mem_cons, List.not_mem_nil, or_false] at he; rcases he with rfl <;> first | exact e_i_Leave_1 k) (by kernel_rfl) (fn := Tryz.f131) (k := k) (es := [⟨69, 0, yP22, .bool, i_Leave_1 k⟩]) (loops := [(0, ⟨[0, 1, 7, 8], (.cons (.il true yT11) (.cons (.fn 69 yP23) (.cons (.int .i64) yP3)))⟩, ⟨[1], (.cons (.fn 69 yP23) .nil)⟩)]) (by kernel_rfl) (by kernel_rfl) (fun x r h => (t_x_slices_IndexFunc_impl_User_impl_User_of_i_Leave_1 k x).trans h)
def x_slices_DeleteFunc_impl_User_impl_User_of_i_Leave_1_n (k : Nat) (x : (List (Int × Int × ((Int × ByteArray × ByteArray × Int × Nat × Int) × Int × ByteArray × ByteArray × Int × Nat × Int) × Nat × Int)) × ((Int × Unit) × Unit) × Unit) : Option ((List (Int × Int × ((Int × ByteArray × ByteArray × Int × Nat × Int) × Int × ByteArray × ByteArray × Int × Nat × Int) × Nat × Int)) × Unit × ((Int × Unit) × Unit) × Unit) :=
((x_slices_IndexFunc_impl_User_impl_User_of_i_Leave_1 k (x.1, (((x.2.1.1.1, ()), ()), ()))).bind fun p1 =>
(if (decide (p1.1 = (-1 : Int))) = true then
some (x.1, ((), (((p1.2.2.1.1.1, ()), ()), ())))
else
(whileK (fun (rec0 : ((List (Int × Int × ((Int × ByteArray × ByteArray × Int × Nat × Int) × Int × ByteArray × ByteArray × Int × Nat × Int) × Nat × Int)) × ((Int × Unit) × Unit) × Int × Int × Unit) → Option _) (y0 : (List (Int × Int × ((Int × ByteArray × ByteArray × Int × Nat × Int) × Int × ByteArray × ByteArray × Int × Nat × Int) × Nat × Int)) × ((Int × Unit) × Unit) × Int × Int × Unit) =>
(if (decide (y0.2.2.2.1 < (List.length y0.1 : Int))) = true then
(if 0 ≤ y0.2.2.2.1 ∧ y0.2.2.2.1 < (List.length y0.1 : Int) then
((i_Leave_1 k (((Ty.rd (t := (.pair (.int .i64) (.pair (.int .i64) (.pair (.pair (.pair (.int .i64) (.pair .str (.pair .str (.pair (.int .i64) (.pair .nm (.int .i64)))))) (.pair (.int .i64) (.pair .str (.pair .str (.pair (.int .i64) (.pair .nm (.int .i64))))))) (.pair .nm (.int .i64)))))) y0.1 y0.2.2.2.1).1, ((Ty.rd (t := (.pair (.int .i64) (.pair (.int .i64) (.pair (.pair (.pair (.int .i64) (.pair .str (.pair .str (.pair (.int .i64) (.pair .nm (.int .i64)))))) (.pair (.int .i64) (.pair .str (.pair .str (.pair (.int .i64) (.pair .nm (.int .i64))))))) (.pair .nm (.int .i64)))))) y0.1 y0.2.2.2.1).2.1, ((Ty.rd (t := (.pair (.int .i64) (.pair (.int .i64) (.pair (.pair (.pair (.int .i64) (.pair .str (.pair .str (.pair (.int .i64) (.pair .nm (.int .i64)))))) (.pair (.int .i64) (.pair .str (.pair .str (.pair (.int .i64) (.pair .nm (.int .i64))))))) (.pair .nm (.int .i64)))))) y0.1 y0.2.2.2.1).2.2.1.1.1, ((Ty.rd (t := (.pair (.int .i64) (.pair (.int .i64) (.pair (.pair (.pair (.int .i64) (.pair .str (.pair .str (.pair (.int .i64) (.pair .nm (.int .i64)))))) (.pair (.int .i64) (.pair .str (.pair .str (.pair (.int .i64) (.pair .nm (.int .i64))))))) (.pair .nm (.int .i64)))))) y0.1 y0.2.2.2.1).2.2.1.1.2.1, ((Ty.rd (t := (.pair (.int .i64) (.pair (.int .i64) (.pair (.pair (.pair (.int .i64) (.pair .str (.pair .str (.pair (.int .i64) (.pair .nm (.int .i64)))))) (.pair (.int .i64) (.pair .str (.pair .str (.pair (.int .i64) (.pair .nm (.int .i64))))))) (.pair .nm (.int .i64)))))) y0.1 y0.2.2.2.1).2.2.1.1.2.2.1, ((Ty.rd (t := (.pair (.int .i64) (.pair (.int .i64) (.pair (.pair (.pair (.int .i64) (.pair .str (.pair .str (.pair (.int .i64) (.pair .nm (.int .i64)))))) (.pair (.int .i64) (.pair .str (.pair .str (.pair (.int .i64) (.pair .nm (.int .i64))))))) (.pair .nm (.int .i64)))))) y0.1 y0.2.2.2.1).2.2.1.1.2.2.2.1, ((Ty.rd (t := (.pair (.int .i64) (.pair (.int .i64) (.pair (.pair (.pair (.int .i64) (.pair .str (.pair .str (.pair (.int .i64) (.pair .nm (.int .i64)))))) (.pair (.int .i64) (.pair .str (.pair .str (.pair (.int .i64) (.pair .nm (.int .i64))))))) (.pair .nm (.int .i64)))))) y0.1 y0.2.2.2.1).2.2.1.1.2.2.2.2.1, ((Ty.rd (t := (.pair (.int .i64) (.pair (.int .i64) (.pair (.pair (.pair (.int .i64) (.pair .str (.pair .str (.pair (.int .i64) (.pair .nm (.int .i64)))))) (.pair (.int .i64) (.pair .str (.pair .str (.pair (.int .i64) (.pair .nm (.int .i64))))))) (.pair .nm (.int .i64)))))) y0.1 y0.2.2.2.1).2.2.1.1.2.2.2.2.2, ((Ty.rd (t := (.pair (.int .i64) (.pair (.int .i64) (.pair (.pair (.pair (.int .i64) (.pair .str (.pair .str (.pair (.int .i64) (.pair .nm (.int .i64)))))) (.pair (.int .i64) (.pair .str (.pair .str (.pair (.int .i64) (.pair .nm (.int .i64))))))) (.pair .nm (.int .i64)))))) y0.1 y0.2.2.2.1).2.2.1.2.1, ((Ty.rd (t := (.pair (.int .i64) (.pair (.int .i64) (.pair (.pair (.pair (.int .i64) (.pair .str (.pair .str (.pair (.int .i64) (.pair .nm (.int .i64)))))) (.pair (.int .i64) (.pair .str (.pair .str (.pair (.int .i64) (.pair .nm (.int .i64))))))) (.pair .nm (.int .i64)))))) y0.1 y0.2.2.2.1).2.2.1.2.2.1, ((Ty.rd (t := (.pair (.int .i64) (.pair (.int .i64) (.pair (.pair (.pair (.int .i64) (.pair .str (.pair .str (.pair (.int .i64) (.pair .nm (.int .i64)))))) (.pair (.int .i64) (.pair .str (.pair .str (.pair (.int .i64) (.pair .nm (.int .i64))))))) (.pair .nm (.int .i64)))))) y0.1 y0.2.2.2.1).2.2.1.2.2.2.1, ((Ty.rd (t := (.pair (.int .i64) (.pair (.int .i64) (.pair (.pair (.pair (.int .i64) (.pair .str (.pair .str (.pair (.int .i64) (.pair .nm (.int .i64)))))) (.pair (.int .i64) (.pair .str (.pair .str (.pair (.int .i64) (.pair .nm (.int .i64))))))) (.pair .nm (.int .i64)))))) y0.1 y0.2.2.2.1).2.2.1.2.2.2.2.1, ((Ty.rd (t := (.pair (.int .i64) (.pair (.int .i64) (.pair (.pair (.pair (.int .i64) (.pair .str (.pair .str (.pair (.int .i64) (.pair .nm (.int .i64)))))) (.pair (.int .i64) (.pair .str (.pair .str (.pair (.int .i64) (.pair .nm (.int .i64))))))) (.pair .nm (.int .i64)))))) y0.1 y0.2.2.2.1).2.2.1.2.2.2.2.2.1, ((Ty.rd (t := (.pair (.int .i64) (.pair (.int .i64) (.pair (.pair (.pair (.int .i64) (.pair .str (.pair .str (.pair (.int .i64) (.pair .nm (.int .i64)))))) (.pair (.int .i64) (.pair .str (.pair .str (.pair (.int .i64) (.pair .nm (.int .i64))))))) (.pair .nm (.int .i64)))))) y0.1 y0.2.2.2.1).2.2.1.2.2.2.2.2.2, ((Ty.rd (t := (.pair (.int .i64) (.pair (.int .i64) (.pair (.pair (.pair (.int .i64) (.pair .str (.pair .str (.pair (.int .i64) (.pair .nm (.int .i64)))))) (.pair (.int .i64) (.pair .str (.pair .str (.pair (.int .i64) (.pair .nm (.int .i64))))))) (.pair .nm (.int .i64)))))) y0.1 y0.2.2.2.1).2.2.2.1, ((Ty.rd (t := (.pair (.int .i64) (.pair (.int .i64) (.pair (.pair (.pair (.int .i64) (.pair .str (.pair .str (.pair (.int .i64) (.pair .nm (.int .i64)))))) (.pair (.int .i64) (.pair .str (.pair .str (.pair (.int .i64) (.pair .nm (.int .i64))))))) (.pair .nm (.int .i64)))))) y0.1 y0.2.2.2.1).2.2.2.2, ())))))))))))))))), ((y0.2.1.1.1, ()), ()))).bind fun p2 =>
(if (!p2.1) = true then
(if 0 ≤ y0.2.2.1 ∧ y0.2.2.1 < (List.length y0.1 : Int) then
(jn (List.set y0.1 (Int.toNat y0.2.2.1) ((Ty.rd (t := (.pair (.int .i64) (.pair (.int .i64) (.pair (.pair (.pair (.int .i64) (.pair .str (.pair .str (.pair (.int .i64) (.pair .nm (.int .i64)))))) (.pair (.int .i64) (.pair .str (.pair .str (.pair (.int .i64) (.pair .nm (.int .i64))))))) (.pair .nm (.int .i64)))))) y0.1 y0.2.2.2.1).1, ((Ty.rd (t := (.pair (.int .i64) (.pair (.int .i64) (.pair (.pair (.pair (.int .i64) (.pair .str (.pair .str (.pair (.int .i64) (.pair .nm (.int .i64)))))) (.pair (.int .i64) (.pair .str (.pair .str (.pair (.int .i64) (.pair .nm (.int .i64))))))) (.pair .nm (.int .i64)))))) y0.1 y0.2.2.2.1).2.1, ((((Ty.rd (t := (.pair (.int .i64) (.pair (.int .i64) (.pair (.pair (.pair (.int .i64) (.pair .str (.pair .str (.pair (.int .i64) (.pair .nm (.int .i64)))))) (.pair (.int .i64) (.pair .str (.pair .str (.pair (.int .i64) (.pair .nm (.int .i64))))))) (.pair .nm (.int .i64)))))) y0.1 y0.2.2.2.1).2.2.1.1.1, ((Ty.rd (t := (.pair (.int .i64) (.pair (.int .i64) (.pair (.pair (.pair (.int .i64) (.pair .str (.pair .str (.pair (.int .i64) (.pair .nm (.int .i64)))))) (.pair (.int .i64) (.pair .str (.pair .str (.pair (.int .i64) (.pair .nm (.int .i64))))))) (.pair .nm (.int .i64)))))) y0.1 y0.2.2.2.1).2.2.1.1.2.1, ((Ty.rd (t := (.pair (.int .i64) (.pair (.int .i64) (.pair (.pair (.pair (.int .i64) (.pair .str (.pair .str (.pair (.int .i64) (.pair .nm (.int .i64)))))) (.pair (.int .i64) (.pair .str (.pair .str (.pair (.int .i64) (.pair .nm (.int .i64))))))) (.pair .nm (.int .i64)))))) y0.1 y0.2.2.2.1).2.2.1.1.2.2.1, ((Ty.rd (t := (.pair (.int .i64) (.pair (.int .i64) (.pair (.pair (.pair (.int .i64) (.pair .str (.pair .str (.pair (.int .i64) (.pair .nm (.int .i64)))))) (.pair (.int .i64) (.pair .str (.pair .str (.pair (.int .i64) (.pair .nm (.int .i64))))))) (.pair .nm (.int .i64)))))) y0.1 y0.2.2.2.1).2.2.1.1.2.2.2.1, ((Ty.rd (t := (.pair (.int .i64) (.pair (.int .i64) (.pair (.pair (.pair (.int .i64) (.pair .str (.pair .str (.pair (.int .i64) (.pair .nm (.int .i64)))))) (.pair (.int .i64) (.pair .str (.pair .str (.pair (.int .i64) (.pair .nm (.int .i64))))))) (.pair .nm (.int .i64)))))) y0.1 y0.2.2.2.1).2.2.1.1.2.2.2.2.1, (Ty.rd (t := (.pair (.int .i64) (.pair (.int .i64) (.pair (.pair (.pair (.int .i64) (.pair .str (.pair .str (.pair (.int .i64) (.pair .nm (.int .i64)))))) (.pair (.int .i64) (.pair .str (.pair .str (.pair (.int .i64) (.pair .nm (.int .i64))))))) (.pair .nm (.int .i64)))))) y0.1 y0.2.2.2.1).2.2.1.1.2.2.2.2.2))))), ((Ty.rd (t := (.pair (.int .i64) (.pair (.int .i64) (.pair (.pair (.pair (.int .i64) (.pair .str (.pair .str (.pair (.int .i64) (.pair .nm (.int .i64)))))) (.pair (.int .i64) (.pair .str (.pair .str (.pair (.int .i64) (.pair .nm (.int .i64))))))) (.pair .nm (.int .i64)))))) y0.1 y0.2.2.2.1).2.2.1.2.1, ((Ty.rd (t := (.pair (.int .i64) (.pair (.int .i64) (.pair (.pair (.pair (.int .i64) (.pair .str (.pair .str (.pair (.int .i64) (.pair .nm (.int .i64)))))) (.pair (.int .i64) (.pair .str (.pair .str (.pair (.int .i64) (.pair .nm (.int .i64))))))) (.pair .nm (.int .i64)))))) y0.1 y0.2.2.2.1).2.2.1.2.2.1, ((Ty.rd (t := (.pair (.int .i64) (.pair (.int .i64) (.pair (.pair (.pair (.int .i64) (.pair .str (.pair .str (.pair (.int .i64) (.pair .nm (.int .i64)))))) (.pair (.int .i64) (.pair .str (.pair .str (.pair (.int .i64) (.pair .nm (.int .i64))))))) (.pair .nm (.int .i64)))))) y0.1 y0.2.2.2.1).2.2.1.2.2.2.1, ((Ty.rd (t := (.pair (.int .i64) (.pair (.int .i64) (.pair (.pair (.pair (.int .i64) (.pair .str (.pair .str (.pair (.int .i64) (.pair .nm (.int .i64)))))) (.pair (.int .i64) (.pair .str (.pair .str (.pair (.int .i64) (.pair .nm (.int .i64))))))) (.pair .nm (.int .i64)))))) y0.1 y0.2.2.2.1).2.2.1.2.2.2.2.1, ((Ty.rd (t := (.pair (.int .i64) (.pair (.int .i64) (.pair (.pair (.pair (.int .i64) (.pair .str (.pair .str (.pair (.int .i64) (.pair .nm (.int .i64)))))) (.pair (.int .i64) (.pair .str (.pair .str (.pair (.int .i64) (.pair .nm (.int .i64))))))) (.pair .nm (.int .i64)))))) y0.1 y0.2.2.2.1).2.2.1.2.2.2.2.2.1, (Ty.rd (t := (.pair (.int .i64) (.pair (.int .i64) (.pair (.pair (.pair (.int .i64) (.pair .str (.pair .str (.pair (.int .i64) (.pair .nm (.int .i64)))))) (.pair (.int .i64) (.pair .str (.pair .str (.pair (.int .i64) (.pair .nm (.int .i64))))))) (.pair .nm (.int .i64)))))) y0.1 y0.2.2.2.1).2.2.1.2.2.2.2.2.2)))))), ((Ty.rd (t := (.pair (.int .i64) (.pair (.int .i64) (.pair (.pair (.pair (.int .i64) (.pair .str (.pair .str (.pair (.int .i64) (.pair .nm (.int .i64)))))) (.pair (.int .i64) (.pair .str (.pair .str (.pair (.int .i64) (.pair .nm (.int .i64))))))) (.pair .nm (.int .i64)))))) y0.1 y0.2.2.2.1).2.2.2.1, (Ty.rd (t := (.pair (.int .i64) (.pair (.int .i64) (.pair (.pair (.pair (.int .i64) (.pair .str (.pair .str (.pair (.int .i64) (.pair .nm (.int .i64)))))) (.pair (.int .i64) (.pair .str (.pair .str (.pair (.int .i64) (.pair .nm (.int .i64))))))) (.pair .nm (.int .i64)))))) y0.1 y0.2.2.2.1).2.2.2.2))))) (fun (q3 : List (Int × Int × ((Int × ByteArray × ByteArray × Int × Nat × Int) × Int × ByteArray × ByteArray × Int × Nat × Int) × Nat × Int)) =>
(rec0 (q3, (((p2.2.2.1.1, ()), ()), ((wi64 (y0.2.2.1 + (1 : Int))), ((wi64 (y0.2.2.2.1 + (1 : Int))), ())))))))
else none)
else
(rec0 (y0.1, (((p2.2.2.1.1, ()), ()), (y0.2.2.1, ((wi64 (y0.2.2.2.1 + (1 : Int))), ())))))))
else none)
else
((fun (z1 : (List (Int × Int × ((Int × ByteArray × ByteArray × Int × Nat × Int) × Int × ByteArray × ByteArray × Int × Nat × Int) × Nat × Int)) × ((Int × Unit) × Unit) × Int × Unit) =>
(if 0 ≤ z1.2.2.1 ∧ z1.2.2.1 ≤ (List.length z1.1 : Int) then
(if 0 ≤ z1.2.2.1 ∧ z1.2.2.1 ≤ (List.length (List.take (Int.toNat z1.2.2.1) z1.1 ++ (List.replicate (Int.toNat ((List.length z1.1 : Int) - z1.2.2.1)) ((0 : Int), ((0 : Int), ((((0 : Int), ((⟨#[]⟩ : ByteArray), ((⟨#[]⟩ : ByteArray), ((0 : Int), ((0 : Nat), (0 : Int)))))), ((0 : Int), ((⟨#[]⟩ : ByteArray), ((⟨#[]⟩ : ByteArray), ((0 : Int), ((0 : Nat), (0 : Int))))))), ((0 : Nat), (0 : Int))))) ++ List.drop (Int.toNat (List.length z1.1 : Int)) z1.1)) : Int) then
some ((List.drop (Int.toNat (0 : Int)) (List.take (Int.toNat z1.2.2.1) (List.take (Int.toNat z1.2.2.1) z1.1 ++ (List.replicate (Int.toNat ((List.length z1.1 : Int) - z1.2.2.1)) ((0 : Int), ((0 : Int), ((((0 : Int), ((⟨#[]⟩ : ByteArray), ((⟨#[]⟩ : ByteArray), ((0 : Int), ((0 : Nat), (0 : Int)))))), ((0 : Int), ((⟨#[]⟩ : ByteArray), ((⟨#[]⟩ : ByteArray), ((0 : Int), ((0 : Nat), (0 : Int))))))), ((0 : Nat), (0 : Int))))) ++ List.drop (Int.toNat (List.length z1.1 : Int)) z1.1)))), ((), (((z1.2.1.1.1, ()), ()), ())))
else none)
else none)) (y0.1, (((y0.2.1.1.1, ()), ()), (y0.2.2.1, ())))))) k (x.1, (((p1.2.2.1.1.1, ()), ()), (p1.1, ((wi64 (p1.1 + (1 : Int))), ())))))))
theorem t_x_slices_DeleteFunc_impl_User_impl_User_of_i_Leave_1_n (k : Nat) (x) : evF TTabN k [⟨69, 0, yP22, .bool, i_Leave_1 k⟩, ⟨131, 70, (.cons (.il true yT11) (.cons (.fn 69 yP23) .nil)), (.int .i64), x_slices_IndexFunc_impl_User_impl_User_of_i_Leave_1 k⟩] [(0, ⟨[0, 1, 5, 6], (.cons (.own false 45 yT11) (.cons (.fn 69 yP23) (.cons (.int .i64) yP3)))⟩, ⟨[0, 1, 5], (.cons (.own false 45 yT11) (.cons (.fn 69 yP23) yP3))⟩)] Tryz.f68 (.cons (.own false 45 yT11) (.cons (.fn 69 yP23) .nil)) (.own false 45 yT11) x = x_slices_DeleteFunc_impl_User_impl_User_of_i_Leave_1_n k x := by kernel_rfl
theorem e_x_slices_DeleteFunc_impl_User_impl_User_of_i_Leave_1_n [Names] (k : Nat) : EntryOk Tryz.prog ⟨68, 70, (.cons (.own false 45 yT11) (.cons (.fn 69 yP23) .nil)), (.own false 45 yT11), x_slices_DeleteFunc_impl_User_impl_User_of_i_Leave_1_n k⟩ := entry_ok tokN (by intro e he; simp only [List.mem_cons, List.not_mem_nil, or_false] at he; rcases he with rfl | rfl <;> first | exact e_i_Leave_1 k | exact e_x_slices_IndexFunc_impl_User_impl_User_of_i_Leave_1 k) (by kernel_rfl) (fn := Tryz.f68) (k := k) (es := [⟨69, 0, yP22, .bool, i_Leave_1 k⟩, ⟨131, 70, (.cons (.il true yT11) (.cons (.fn 69 yP23) .nil)), (.int .i64), x_slices_IndexFunc_impl_User_impl_User_of_i_Leave_1 k⟩]) (loops := [(0, ⟨[0, 1, 5, 6], (.cons (.own false 45 yT11) (.cons (.fn 69 yP23) (.cons (.int .i64) yP3)))⟩, ⟨[0, 1, 5], (.cons (.own false 45 yT11) (.cons (.fn 69 yP23) yP3))⟩)]) (by kernel_rfl) (by kernel_rfl) (fun x r h => (t_x_slices_DeleteFunc_impl_User_impl_User_of_i_Leave_1_n k x).trans h)
def x_slices_DeleteFunc_impl_User_impl_User_of_i_Leave_1 (k : Nat) (x : (List (Int × Int × ((Int × ByteArray × ByteArray × Int × List (Int) × Int) × Int × ByteArray × ByteArray × Int × List (Int) × Int) × List (Int × Int × Int × List (ByteArray) × List (Bool) × Int) × Int)) × ((Int × Unit) × Unit) × Unit) : Option ((List (Int × Int × ((Int × ByteArray × ByteArray × Int × List (Int) × Int) × Int × ByteArray × ByteArray × Int × List (Int) × Int) × List (Int × Int × Int × List (ByteArray) × List (Bool) × Int) × Int)) × Unit × ((Int × Unit) × Unit) × Unit) :=
treeF (.pair (.int .i64) (.pair (.int .i64) (.pair (.pair (.pair (.int .i64) (.pair .str (.pair .str (.pair (.int .i64) (.pair (.ols 3 (.int .i64)) (.int .i64)))))) (.pair (.int .i64) (.pair .str (.pair .str (.pair (.int .i64) (.pair (.ols 3 (.int .i64)) (.int .i64))))))) (.pair (.ols 229 (.pair (.int .i64) (.pair (.int .i64) (.pair (.int .i64) (.pair (.ols 9 .str) (.pair (.ols 4 .bool) (.int .i64))))))) (.int .i64))))) (x_slices_DeleteFunc_impl_User_impl_User_of_i_Leave_1_n k) x
theorem e_x_slices_DeleteFunc_impl_User_impl_User_of_i_Leave_1 [Names] (k : Nat) : EntryOk Tryz.prog ⟨68, 70, (.cons (.own false 45 yT1) (.cons (.fn 69 yP23) .nil)), (.own false 45 yT1), x_slices_DeleteFunc_impl_User_impl_User_of_i_Leave_1 k⟩ := names_entry (t := yT1) (by kernel_rfl) (by kernel_rfl) (fun N => @e_x_slices_DeleteFunc_impl_User_impl_User_of_i_Leave_1_n N k) inferInstance
def i_Leave (k : Nat) (x : (Int × Int × (List (Int × Int × Int)) × (List (Int × Int)) × (List ((Int × Int) × Int)) × (List (Int × Int × ((Int × ByteArray × ByteArray × Int × List (Int) × Int) × Int × ByteArray × ByteArray × Int × List (Int) × Int) × List (Int × Int × Int × List (ByteArray) × List (Bool) × Int) × Int)) × Unit) × Int × Unit) : Option (((Int × Int × (List (Int × Int × Int)) × (List (Int × Int)) × (List ((Int × Int) × Int)) × (List (Int × Int × ((Int × ByteArray × ByteArray × Int × List (Int) × Int) × Int × ByteArray × ByteArray × Int × List (Int) × Int) × List (Int × Int × Int × List (ByteArray) × List (Bool) × Int) × Int)) × Unit) × Bool × Unit) × Unit × Unit × Unit) :=
((i_copyHub k ((x.1.1, (x.1.2.1, (x.1.2.2.1, (x.1.2.2.2.1, (x.1.2.2.2.2.1, (x.1.2.2.2.2.2.1, ())))))), ())).bind fun p1 =>
((i_userAt k (x.1.2.2.2.2.2.1, (x.2.1, ()))).bind fun p2 =>
(if (decide (p2.1 < (0 : Int))) = true then
some (((p1.1.1, (p1.1.2.1, (p1.1.2.2.1, (p1.1.2.2.2.1, (p1.1.2.2.2.2.1, (p1.1.2.2.2.2.2.1, ())))))), (false, ())), ((), ((), ())))
else
((x_slices_DeleteFunc_impl_User_impl_User_of_i_Leave_1 k (p1.1.2.2.2.2.2.1, (((x.2.1, ()), ()), ()))).bind fun p3 =>
((i_Release k ((x.1.1, (x.1.2.1, (x.1.2.2.1, (x.1.2.2.2.1, ())))), (p3.2.2.1.1.1, ()))).bind fun p4 =>
((i_DropTo k (x.1.2.2.2.2.1, (p3.2.2.1.1.1, ()))).bind fun p5 =>
some (((p4.1.1.1, (p4.1.1.2.1, (p4.1.1.2.2.1, (p4.1.1.2.2.2.1, (p5.1, (p3.1, ())))))), (true, ())), ((), ((), ())))))))))
theorem t_i_Leave (k : Nat) (x) : evF TTabO k [⟨54, 0, (.cons yP7 .nil), yP15, i_copyHub k⟩, ⟨56, 0, (.cons (.il true yT0) yP3), (.int .i64), i_userAt k⟩, ⟨68, 70, (.cons (.own false 45 yT1) (.cons (.fn 69 yP23) .nil)), (.own false 45 yT1), x_slices_DeleteFunc_impl_User_impl_User_of_i_Leave_1 k⟩, ⟨70, 0, (.cons (.agg yP5) yP3), (.tup (.cons (.agg yP10) (.cons .bool .nil))), i_Release k⟩, ⟨71, 0, (.cons yP21 yP3), yP20, i_DropTo k⟩] [] Tryz.f15 (.cons yP7 yP3) (.tup (.cons yP15 (.cons .bool .nil))) x = i_Leave k x := by kernel_rfl
theorem e_i_Leave [Names] (k : Nat) : EntryOk Tryz.prog ⟨15, 0, (.cons yP7 yP3), (.tup (.cons yP15 (.cons .bool .nil))), i_Leave k⟩ := entry_ok tokO (by intro e he; simp only [List.mem_cons, List.not_mem_nil, or_false] at he; rcases he with rfl | rfl | rfl | rfl | rfl <;> first | exact e_i_copyHub k | exact e_i_userAt k | exact e_x_slices_DeleteFunc_impl_User_impl_User_of_i_Leave_1 k | exact e_i_Release k | exact e_i_DropTo k) (by kernel_rfl) (fn := Tryz.f15) (k := k) (es := [⟨54, 0, (.cons yP7 .nil), yP15, i_copyHub k⟩, ⟨56, 0, (.cons (.il true yT0) yP3), (.int .i64), i_userAt k⟩, ⟨68, 70, (.cons (.own false 45 yT1) (.cons (.fn 69 yP23) .nil)), (.own false 45 yT1), x_slices_DeleteFunc_impl_User_impl_User_of_i_Leave_1 k⟩, ⟨70, 0, (.cons (.agg yP5) yP3), (.tup (.cons (.agg yP10) (.cons .bool .nil))), i_Release k⟩, ⟨71, 0, (.cons yP21 yP3), yP20, i_DropTo k⟩]) (loops := []) (by kernel_rfl) (by kernel_rfl) (fun x r h => (t_i_Leave k x).trans h)
def w_szLeaseS (k : Nat) (x : (List (Int × Int × Int)) × Int × Unit) : Option (Int × Unit × Unit × Unit) :=
(if (decide ((wi64 (x.2.1 - (List.length x.1 : Int))) < (0 : Int))) = true then
some ((-1 : Int), ((), ((), ())))
else
some ((wi64 (x.2.1 - (List.length x.1 : Int))), ((), ((), ()))))
theorem t_w_szLeaseS (k : Nat) (x) : evF TTab k [] [] Tryz.f153 (.cons yP24 yP3) (.int .i64) x = w_szLeaseS k x := by kernel_rfl
theorem e_w_szLeaseS [Names] (k : Nat) : EntryOk Tryz.prog ⟨153, 0, (.cons yP24 yP3), (.int .i64), w_szLeaseS k⟩ := entry_ok tok (by simp) (by kernel_rfl) (fn := Tryz.f153) (k := k) (es := []) (loops := []) (by kernel_rfl) (by kernel_rfl) (fun x r h => (t_w_szLeaseS k x).trans h)
def w_szFixedS (k : Nat) (x : (List (Int × Int)) × Int × Unit) : Option (Int × Unit × Unit × Unit) :=
(if (decide ((wi64 (x.2.1 - (List.length x.1 : Int))) < (0 : Int))) = true then
some ((-1 : Int), ((), ((), ())))
else
some ((wi64 (x.2.1 - (List.length x.1 : Int))), ((), ((), ()))))
theorem t_w_szFixedS (k : Nat) (x) : evF TTab k [] [] Tryz.f154 (.cons (.il true yT2) yP3) (.int .i64) x = w_szFixedS k x := by kernel_rfl
theorem e_w_szFixedS [Names] (k : Nat) : EntryOk Tryz.prog ⟨154, 0, (.cons (.il true yT2) yP3), (.int .i64), w_szFixedS k⟩ := entry_ok tok (by simp) (by kernel_rfl) (fn := Tryz.f154) (k := k) (es := []) (loops := []) (by kernel_rfl) (by kernel_rfl) (fun x r h => (t_w_szFixedS k x).trans h)
def w_szPool (k : Nat) (x : (Int × Int × (List (Int × Int × Int)) × (List (Int × Int)) × Unit) × Int × Unit) : Option (Int × Unit × Unit × Unit) :=
((w_szLeaseS k (x.1.2.2.1, (x.2.1, ()))).bind fun p1 =>
(if (decide (p1.1 < (0 : Int))) = true then
some ((-1 : Int), ((), ((), ())))
else
((w_szFixedS k (x.1.2.2.2.1, (p1.1, ()))).bind fun p2 =>
(if (decide (p2.1 < (0 : Int))) = true then
some ((-1 : Int), ((), ((), ())))
else
some (p2.1, ((), ((), ())))))))
theorem t_w_szPool (k : Nat) (x) : evF TTab k [⟨153, 0, (.cons yP24 yP3), (.int .i64), w_szLeaseS k⟩, ⟨154, 0, (.cons (.il true yT2) yP3), (.int .i64), w_szFixedS k⟩] [] Tryz.f73 (.cons (.agg yP5) yP3) (.int .i64) x = w_szPool k x := by kernel_rfl
theorem e_w_szPool [Names] (k : Nat) : EntryOk Tryz.prog ⟨73, 0, (.cons (.agg yP5) yP3), (.int .i64), w_szPool k⟩ := entry_ok tok (by intro e he; simp only [List.mem_cons, List.not_mem_nil, or_false] at he; rcases he with rfl | rfl <;> first | exact e_w_szLeaseS k | exact e_w_szFixedS k) (by kernel_rfl) (fn := Tryz.f73) (k := k) (es := [⟨153, 0, (.cons yP24 yP3), (.int .i64), w_szLeaseS k⟩, ⟨154, 0, (.cons (.il true yT2) yP3), (.int .i64), w_szFixedS k⟩]) (loops := []) (by kernel_rfl) (by kernel_rfl) (fun x r h => (t_w_szPool k x).trans h)
def w_szRouteS (k : Nat) (x : (List ((Int × Int) × Int)) × Int × Unit) : Option (Int × Unit × Unit × Unit) :=
(if (decide ((wi64 (x.2.1 - (List.length x.1 : Int))) < (0 : Int))) = true then
some ((-1 : Int), ((), ((), ())))
else
some ((wi64 (x.2.1 - (List.length x.1 : Int))), ((), ((), ()))))
theorem t_w_szRouteS (k : Nat) (x) : evF TTab k [] [] Tryz.f74 (.cons yP21 yP3) (.int .i64) x = w_szRouteS k x := by kernel_rfl
theorem e_w_szRouteS [Names] (k : Nat) : EntryOk Tryz.prog ⟨74, 0, (.cons yP21 yP3), (.int .i64), w_szRouteS k⟩ := entry_ok tok (by simp) (by kernel_rfl) (fn := Tryz.f74) (k := k) (es := []) (loops := []) (by kernel_rfl) (by kernel_rfl) (fun x r h => (t_w_szRouteS k x).trans h)
def w_szIntS (k : Nat) (x : List (Int) × Int × Unit) : Option (Int × Unit × Unit × Unit) :=
(if (decide ((wi64 (x.2.1 - (List.length x.1 : Int))) < (0 : Int))) = true then
some ((-1 : Int), ((), ((), ())))
else
some ((wi64 (x.2.1 - (List.length x.1 : Int))), ((), ((), ()))))
theorem t_w_szIntS (k : Nat) (x) : evF TTab k [] [] Tryz.f111 (.cons (.il true (.int .i64)) yP3) (.int .i64) x = w_szIntS k x := by kernel_rfl
theorem e_w_szIntS [Names] (k : Nat) : EntryOk Tryz.prog ⟨111, 0, (.cons (.il true (.int .i64)) yP3), (.int .i64), w_szIntS k⟩ := entry_ok tok (by simp) (by kernel_rfl) (fn := Tryz.f111) (k := k) (es := []) (loops := []) (by kernel_rfl) (by kernel_rfl) (fun x r h => (t_w_szIntS k x).trans h)
def w_szSlot (k : Nat) (x : (Int × ByteArray × ByteArray × Int × List (Int) × Int × Unit) × Int × Unit) : Option (Int × Unit × Unit × Unit) :=
(if (decide ((wi64 (x.2.1 - (ByteArray.size x.1.2.1 : Int))) < (0 : Int))) = true then
some ((-1 : Int), ((), ((), ())))
else
(if (decide ((wi64 ((wi64 (x.2.1 - (ByteArray.size x.1.2.1 : Int))) - (ByteArray.size x.1.2.2.1 : Int))) < (0 : Int))) = true then
some ((-1 : Int), ((), ((), ())))
else
((w_szIntS k (x.1.2.2.2.2.1, ((wi64 ((wi64 (x.2.1 - (ByteArray.size x.1.2.1 : Int))) - (ByteArray.size x.1.2.2.1 : Int))), ()))).bind fun p1 =>
(if (decide (p1.1 < (0 : Int))) = true then
some ((-1 : Int), ((), ((), ())))
else
some (p1.1, ((), ((), ())))))))
theorem t_w_szSlot (k : Nat) (x) : evF TTab k [⟨111, 0, (.cons (.il true (.int .i64)) yP3), (.int .i64), w_szIntS k⟩] [] Tryz.f168 (.cons yP17 yP3) (.int .i64) x = w_szSlot k x := by kernel_rfl
theorem e_w_szSlot [Names] (k : Nat) : EntryOk Tryz.prog ⟨168, 0, (.cons yP17 yP3), (.int .i64), w_szSlot k⟩ := entry_ok tok (by intro e he; simp only [List.mem_cons, List.not_mem_nil, or_false] at he; rcases he with rfl <;> first | exact e_w_szIntS k) (by kernel_rfl) (fn := Tryz.f168) (k := k) (es := [⟨111, 0, (.cons (.il true (.int .i64)) yP3), (.int .i64), w_szIntS k⟩]) (loops := []) (by kernel_rfl) (by kernel_rfl) (fun x r h => (t_w_szSlot k x).trans h)
def w_szSlots (k : Nat) (x : (Int × ByteArray × ByteArray × Int × List (Int) × Int × Int × ByteArray × ByteArray × Int × List (Int) × Int × Unit) × Int × Unit) : Option (Int × Unit × Unit × Unit) :=
((w_szSlot k ((x.1.1, (x.1.2.1, (x.1.2.2.1, (x.1.2.2.2.1, (x.1.2.2.2.2.1, (x.1.2.2.2.2.2.1, ())))))), (x.2.1, ()))).bind fun p1 =>
(if (decide (p1.1 < (0 : Int))) = true then
some ((-1 : Int), ((), ((), ())))
else
((w_szSlot k ((x.1.2.2.2.2.2.2.1, (x.1.2.2.2.2.2.2.2.1, (x.1.2.2.2.2.2.2.2.2.1, (x.1.2.2.2.2.2.2.2.2.2.1, (x.1.2.2.2.2.2.2.2.2.2.2.1, (x.1.2.2.2.2.2.2.2.2.2.2.2.1, ())))))), (p1.1, ()))).bind fun p2 =>
(if (decide (p2.1 < (0 : Int))) = true then
some ((-1 : Int), ((), ((), ())))
else
some (p2.1, ((), ((), ())))))))
theorem t_w_szSlots (k : Nat) (x) : evF TTab k [⟨168, 0, (.cons yP17 yP3), (.int .i64), w_szSlot k⟩] [] Tryz.f90 (.cons yP8 yP3) (.int .i64) x = w_szSlots k x := by kernel_rfl
theorem e_w_szSlots [Names] (k : Nat) : EntryOk Tryz.prog ⟨90, 0, (.cons yP8 yP3), (.int .i64), w_szSlots k⟩ := entry_ok tok (by intro e he; simp only [List.mem_cons, List.not_mem_nil, or_false] at he; rcases he with rfl <;> first | exact e_w_szSlot k) (by kernel_rfl) (fn := Tryz.f90) (k := k) (es := [⟨168, 0, (.cons yP17 yP3), (.int .i64), w_szSlot k⟩]) (loops := []) (by kernel_rfl) (by kernel_rfl) (fun x r h => (t_w_szSlots k x).trans h)
def w_szStringS (k : Nat) (x : List (ByteArray) × Int × Unit) : Option (Int × Unit × Unit × Unit) :=
(if (decide ((wi64 (x.2.1 - (List.length x.1 : Int))) < (0 : Int))) = true then
some ((-1 : Int), ((), ((), ())))
else
(whileK (fun (rec0 : (List (ByteArray) × Int × Int × Unit) → Option _) (y0 : List (ByteArray) × Int × Int × Unit) =>
(if (decide (y0.2.2.1 < (List.length y0.1 : Int))) = true then
(if 0 ≤ y0.2.2.1 ∧ y0.2.2.1 < (List.length y0.1 : Int) then
(if (decide ((wi64 (y0.2.1 - (ByteArray.size (Ty.rd (t := .str) y0.1 y0.2.2.1) : Int))) < (0 : Int))) = true then
some ((-1 : Int), ((), ((), ())))
else
(rec0 (y0.1, ((wi64 (y0.2.1 - (ByteArray.size (Ty.rd (t := .str) y0.1 y0.2.2.1) : Int))), ((wi64 (y0.2.2.1 + (1 : Int))), ())))))
else none)
else
((fun (z1 : Int × Unit) =>
some (z1.1, ((), ((), ())))) (y0.2.1, ())))) k (x.1, ((wi64 (x.2.1 - (List.length x.1 : Int))), ((0 : Int), ())))))
theorem t_w_szStringS (k : Nat) (x) : evF TTab k [] [(0, ⟨[0, 1, 5], (.cons (.il true .str) (.cons (.int .i64) yP3))⟩, ⟨[1], yP3⟩)] Tryz.f288 (.cons (.il true .str) yP3) (.int .i64) x = w_szStringS k x := by kernel_rfl
theorem e_w_szStringS [Names] (k : Nat) : EntryOk Tryz.prog ⟨288, 0, (.cons (.il true .str) yP3), (.int .i64), w_szStringS k⟩ := entry_ok tok (by simp) (by kernel_rfl) (fn := Tryz.f288) (k := k) (es := []) (loops := [(0, ⟨[0, 1, 5], (.cons (.il true .str) (.cons (.int .i64) yP3))⟩, ⟨[1], yP3⟩)]) (by kernel_rfl) (by kernel_rfl) (fun x r h => (t_w_szStringS k x).trans h)
def w_szBoolS (k : Nat) (x : List (Bool) × Int × Unit) : Option (Int × Unit × Unit × Unit) :=
(if (decide ((wi64 (x.2.1 - (List.length x.1 : Int))) < (0 : Int))) = true then
some ((-1 : Int), ((), ((), ())))
else
some ((wi64 (x.2.1 - (List.length x.1 : Int))), ((), ((), ()))))
theorem t_w_szBoolS (k : Nat) (x) : evF TTab k [] [] Tryz.f289 (.cons (.il true .bool) yP3) (.int .i64) x = w_szBoolS k x := by kernel_rfl
theorem e_w_szBoolS [Names] (k : Nat) : EntryOk Tryz.prog ⟨289, 0, (.cons (.il true .bool) yP3), (.int .i64), w_szBoolS k⟩ := entry_ok tok (by simp) (by kernel_rfl) (fn := Tryz.f289) (k := k) (es := []) (loops := []) (by kernel_rfl) (by kernel_rfl) (fun x r h => (t_w_szBoolS k x).trans h)
def w_szHeld (k : Nat) (x : (Int × Int × Int × List (ByteArray) × List (Bool) × Int × Unit) × Int × Unit) : Option (Int × Unit × Unit × Unit) :=
((w_szStringS k (x.1.2.2.2.1, (x.2.1, ()))).bind fun p1 =>
(if (decide (p1.1 < (0 : Int))) = true then
some ((-1 : Int), ((), ((), ())))
else
((w_szBoolS k (x.1.2.2.2.2.1, (p1.1, ()))).bind fun p2 =>
(if (decide (p2.1 < (0 : Int))) = true then
some ((-1 : Int), ((), ((), ())))
else
some (p2.1, ((), ((), ())))))))
theorem t_w_szHeld (k : Nat) (x) : evF TTab k [⟨288, 0, (.cons (.il true .str) yP3), (.int .i64), w_szStringS k⟩, ⟨289, 0, (.cons (.il true .bool) yP3), (.int .i64), w_szBoolS k⟩] [] Tryz.f246 (.cons yP18 yP3) (.int .i64) x = w_szHeld k x := by kernel_rfl
theorem e_w_szHeld [Names] (k : Nat) : EntryOk Tryz.prog ⟨246, 0, (.cons yP18 yP3), (.int .i64), w_szHeld k⟩ := entry_ok tok (by intro e he; simp only [List.mem_cons, List.not_mem_nil, or_false] at he; rcases he with rfl | rfl <;> first | exact e_w_szStringS k | exact e_w_szBoolS k) (by kernel_rfl) (fn := Tryz.f246) (k := k) (es := [⟨288, 0, (.cons (.il true .str) yP3), (.int .i64), w_szStringS k⟩, ⟨289, 0, (.cons (.il true .bool) yP3), (.int .i64), w_szBoolS k⟩]) (loops := []) (by kernel_rfl) (by kernel_rfl) (fun x r h => (t_w_szHeld k x).trans h)
def w_szHeldS (k : Nat) (x : (List (Int × Int × Int × List (ByteArray) × List (Bool) × Int)) × Int × Unit) : Option (Int × Unit × Unit × Unit) :=
(if (decide ((wi64 (x.2.1 - (List.length x.1 : Int))) < (0 : Int))) = true then
some ((-1 : Int), ((), ((), ())))
else
(whileK (fun (rec0 : ((List (Int × Int × Int × List (ByteArray) × List (Bool) × Int)) × Int × Int × Unit) → Option _) (y0 : (List (Int × Int × Int × List (ByteArray) × List (Bool) × Int)) × Int × Int × Unit) =>
(if (decide (y0.2.2.1 < (List.length y0.1 : Int))) = true then
(if 0 ≤ y0.2.2.1 ∧ y0.2.2.1 < (List.length y0.1 : Int) then
((w_szHeld k (((Ty.rd (t := (.pair (.int .i64) (.pair (.int .i64) (.pair (.int .i64) (.pair (.list .str) (.pair (.list .bool) (.int .i64))))))) y0.1 y0.2.2.1).1, ((Ty.rd (t := (.pair (.int .i64) (.pair (.int .i64) (.pair (.int .i64) (.pair (.list .str) (.pair (.list .bool) (.int .i64))))))) y0.1 y0.2.2.1).2.1, ((Ty.rd (t := (.pair (.int .i64) (.pair (.int .i64) (.pair (.int .i64) (.pair (.list .str) (.pair (.list .bool) (.int .i64))))))) y0.1 y0.2.2.1).2.2.1, ((Ty.rd (t := (.pair (.int .i64) (.pair (.int .i64) (.pair (.int .i64) (.pair (.list .str) (.pair (.list .bool) (.int .i64))))))) y0.1 y0.2.2.1).2.2.2.1, ((Ty.rd (t := (.pair (.int .i64) (.pair (.int .i64) (.pair (.int .i64) (.pair (.list .str) (.pair (.list .bool) (.int .i64))))))) y0.1 y0.2.2.1).2.2.2.2.1, ((Ty.rd (t := (.pair (.int .i64) (.pair (.int .i64) (.pair (.int .i64) (.pair (.list .str) (.pair (.list .bool) (.int .i64))))))) y0.1 y0.2.2.1).2.2.2.2.2, ())))))), (y0.2.1, ()))).bind fun p1 =>
(if (decide (p1.1 < (0 : Int))) = true then
some ((-1 : Int), ((), ((), ())))
else
(rec0 (y0.1, (p1.1, ((wi64 (y0.2.2.1 + (1 : Int))), ()))))))
else none)
else
((fun (z1 : Int × Unit) =>
some (z1.1, ((), ((), ())))) (y0.2.1, ())))) k (x.1, ((wi64 (x.2.1 - (List.length x.1 : Int))), ((0 : Int), ())))))
theorem t_w_szHeldS (k : Nat) (x) : evF TTabO k [⟨246, 0, (.cons yP18 yP3), (.int .i64), w_szHeld k⟩] [(0, ⟨[0, 1, 5], (.cons (.il true yT6) (.cons (.int .i64) yP3))⟩, ⟨[1], yP3⟩)] Tryz.f169 (.cons (.il true yT6) yP3) (.int .i64) x = w_szHeldS k x := by kernel_rfl
theorem e_w_szHeldS [Names] (k : Nat) : EntryOk Tryz.prog ⟨169, 0, (.cons (.il true yT6) yP3), (.int .i64), w_szHeldS k⟩ := entry_ok tokO (by intro e he; simp only [List.mem_cons, List.not_mem_nil, or_false] at he; rcases he with rfl <;> first | exact e_w_szHeld k) (by kernel_rfl) (fn := Tryz.f169) (k := k) (es := [⟨246, 0, (.cons yP18 yP3), (.int .i64), w_szHeld k⟩]) (loops := [(0, ⟨[0, 1, 5], (.cons (.il true yT6) (.cons (.int .i64) yP3))⟩, ⟨[1], yP3⟩)]) (by kernel_rfl) (by kernel_rfl) (fun x r h => (t_w_szHeldS k x).trans h)
def w_szShelf (k : Nat) (x : ((List (Int × Int × Int × List (ByteArray) × List (Bool) × Int)) × Unit) × Int × Unit) : Option (Int × Unit × Unit × Unit) :=
((w_szHeldS k (x.1.1, (x.2.1, ()))).bind fun p1 =>
(if (decide (p1.1 < (0 : Int))) = true then
some ((-1 : Int), ((), ((), ())))
else
some (p1.1, ((), ((), ())))))
theorem t_w_szShelf (k : Nat) (x) : evF TTabO k [⟨169, 0, (.cons (.il true yT6) yP3), (.int .i64), w_szHeldS k⟩] [] Tryz.f91 (.cons (.agg yP29) yP3) (.int .i64) x = w_szShelf k x := by kernel_rfl
theorem e_w_szShelf [Names] (k : Nat) : EntryOk Tryz.prog ⟨91, 0, (.cons (.agg yP29) yP3), (.int .i64), w_szShelf k⟩ := entry_ok tokO (by intro e he; simp only [List.mem_cons, List.not_mem_nil, or_false] at he; rcases he with rfl <;> first | exact e_w_szHeldS k) (by kernel_rfl) (fn := Tryz.f91) (k := k) (es := [⟨169, 0, (.cons (.il true yT6) yP3), (.int .i64), w_szHeldS k⟩]) (loops := []) (by kernel_rfl) (by kernel_rfl) (fun x r h => (t_w_szShelf k x).trans h)
def w_szUser (k : Nat) (x : (Int × Int × Int × ByteArray × ByteArray × Int × List (Int) × Int × Int × ByteArray × ByteArray × Int × List (Int) × Int × (List (Int × Int × Int × List (ByteArray) × List (Bool) × Int)) × Int × Unit) × Int × Unit) : Option (Int × Unit × Unit × Unit) :=
((w_szSlots k ((x.1.2.2.1, (x.1.2.2.2.1, (x.1.2.2.2.2.1, (x.1.2.2.2.2.2.1, (x.1.2.2.2.2.2.2.1, (x.1.2.2.2.2.2.2.2.1, (x.1.2.2.2.2.2.2.2.2.1, (x.1.2.2.2.2.2.2.2.2.2.1, (x.1.2.2.2.2.2.2.2.2.2.2.1, (x.1.2.2.2.2.2.2.2.2.2.2.2.1, (x.1.2.2.2.2.2.2.2.2.2.2.2.2.1, (x.1.2.2.2.2.2.2.2.2.2.2.2.2.2.1, ())))))))))))), (x.2.1, ()))).bind fun p1 =>
(if (decide (p1.1 < (0 : Int))) = true then
some ((-1 : Int), ((), ((), ())))
else
((w_szShelf k ((x.1.2.2.2.2.2.2.2.2.2.2.2.2.2.2.1, ()), (p1.1, ()))).bind fun p2 =>
(if (decide (p2.1 < (0 : Int))) = true then
some ((-1 : Int), ((), ((), ())))
else
some (p2.1, ((), ((), ())))))))
theorem t_w_szUser (k : Nat) (x) : evF TTabO k [⟨90, 0, (.cons yP8 yP3), (.int .i64), w_szSlots k⟩, ⟨91, 0, (.cons (.agg yP29) yP3), (.int .i64), w_szShelf k⟩] [] Tryz.f28 (.cons yP4 yP3) (.int .i64) x = w_szUser k x := by kernel_rfl
theorem e_w_szUser [Names] (k : Nat) : EntryOk Tryz.prog ⟨28, 0, (.cons yP4 yP3), (.int .i64), w_szUser k⟩ := entry_ok tokO (by intro e he; simp only [List.mem_cons, List.not_mem_nil, or_false] at he; rcases he with rfl | rfl <;> first | exact e_w_szSlots k | exact e_w_szShelf k) (by kernel_rfl) (fn := Tryz.f28) (k := k) (es := [⟨90, 0, (.cons yP8 yP3), (.int .i64), w_szSlots k⟩, ⟨91, 0, (.cons (.agg yP29) yP3), (.int .i64), w_szShelf k⟩]) (loops := []) (by kernel_rfl) (by kernel_rfl) (fun x r h => (t_w_szUser k x).trans h)
def w_szUserS (k : Nat) (x : (List (Int × Int × ((Int × ByteArray × ByteArray × Int × List (Int) × Int) × Int × ByteArray × ByteArray × Int × List (Int) × Int) × List (Int × Int × Int × List (ByteArray) × List (Bool) × Int) × Int)) × Int × Unit) : Option (Int × Unit × Unit × Unit) :=
(if (decide ((wi64 (x.2.1 - (List.length x.1 : Int))) < (0 : Int))) = true then
some ((-1 : Int), ((), ((), ())))
else
(whileK (fun (rec0 : ((List (Int × Int × ((Int × ByteArray × ByteArray × Int × List (Int) × Int) × Int × ByteArray × ByteArray × Int × List (Int) × Int) × List (Int × Int × Int × List (ByteArray) × List (Bool) × Int) × Int)) × Int × Int × Unit) → Option _) (y0 : (List (Int × Int × ((Int × ByteArray × ByteArray × Int × List (Int) × Int) × Int × ByteArray × ByteArray × Int × List (Int) × Int) × List (Int × Int × Int × List (ByteArray) × List (Bool) × Int) × Int)) × Int × Int × Unit) =>
(if (decide (y0.2.2.1 < (List.length y0.1 : Int))) = true then
(if 0 ≤ y0.2.2.1 ∧ y0.2.2.1 < (List.length y0.1 : Int) then
((w_szUser k (((Ty.rd (t := (.pair (.int .i64) (.pair (.int .i64) (.pair (.pair (.pair (.int .i64) (.pair .str (.pair .str (.pair (.int .i64) (.pair (.list (.int .i64)) (.int .i64)))))) (.pair (.int .i64) (.pair .str (.pair .str (.pair (.int .i64) (.pair (.list (.int .i64)) (.int .i64))))))) (.pair (.list (.pair (.int .i64) (.pair (.int .i64) (.pair (.int .i64) (.pair (.list .str) (.pair (.list .bool) (.int .i64))))))) (.int .i64)))))) y0.1 y0.2.2.1).1, ((Ty.rd (t := (.pair (.int .i64) (.pair (.int .i64) (.pair (.pair (.pair (.int .i64) (.pair .str (.pair .str (.pair (.int .i64) (.pair (.list (.int .i64)) (.int .i64)))))) (.pair (.int .i64) (.pair .str (.pair .str (.pair (.int .i64) (.pair (.list (.int .i64)) (.int .i64))))))) (.pair (.list (.pair (.int .i64) (.pair (.int .i64) (.pair (.int .i64) (.pair (.list .str) (.pair (.list .bool) (.int .i64))))))) (.int .i64)))))) y0.1 y0.2.2.1).2.1, ((Ty.rd (t := (.pair (.int .i64) (.pair (.int .i64) (.pair (.pair (.pair (.int .i64) (.pair .str (.pair .str (.pair (.int .i64) (.pair (.list (.int .i64)) (.int .i64)))))) (.pair (.int .i64) (.pair .str (.pair .str (.pair (.int .i64) (.pair (.list (.int .i64)) (.int .i64))))))) (.pair (.list (.pair (.int .i64) (.pair (.int .i64) (.pair (.int .i64) (.pair (.list .str) (.pair (.list .bool) (.int .i64))))))) (.int .i64)))))) y0.1 y0.2.2.1).2.2.1.1.1, ((Ty.rd (t := (.pair (.int .i64) (.pair (.int .i64) (.pair (.pair (.pair (.int .i64) (.pair .str (.pair .str (.pair (.int .i64) (.pair (.list (.int .i64)) (.int .i64)))))) (.pair (.int .i64) (.pair .str (.pair .str (.pair (.int .i64) (.pair (.list (.int .i64)) (.int .i64))))))) (.pair (.list (.pair (.int .i64) (.pair (.int .i64) (.pair (.int .i64) (.pair (.list .str) (.pair (.list .bool) (.int .i64))))))) (.int .i64)))))) y0.1 y0.2.2.1).2.2.1.1.2.1, ((Ty.rd (t := (.pair (.int .i64) (.pair (.int .i64) (.pair (.pair (.pair (.int .i64) (.pair .str (.pair .str (.pair (.int .i64) (.pair (.list (.int .i64)) (.int .i64)))))) (.pair (.int .i64) (.pair .str (.pair .str (.pair (.int .i64) (.pair (.list (.int .i64)) (.int .i64))))))) (.pair (.list (.pair (.int .i64) (.pair (.int .i64) (.pair (.int .i64) (.pair (.list .str) (.pair (.list .bool) (.int .i64))))))) (.int .i64)))))) y0.1 y0.2.2.1).2.2.1.1.2.2.1, ((Ty.rd (t := (.pair (.int .i64) (.pair (.int .i64) (.pair (.pair (.pair (.int .i64) (.pair .str (.pair .str (.pair (.int .i64) (.pair (.list (.int .i64)) (.int .i64)))))) (.pair (.int .i64) (.pair .str (.pair .str (.pair (.int .i64) (.pair (.list (.int .i64)) (.int .i64))))))) (.pair (.list (.pair (.int .i64) (.pair (.int .i64) (.pair (.int .i64) (.pair (.list .str) (.pair (.list .bool) (.int .i64))))))) (.int .i64)))))) y0.1 y0.2.2.1).2.2.1.1.2.2.2.1, ((Ty.rd (t := (.pair (.int .i64) (.pair (.int .i64) (.pair (.pair (.pair (.int .i64) (.pair .str (.pair .str (.pair (.int .i64) (.pair (.list (.int .i64)) (.int .i64)))))) (.pair (.int .i64) (.pair .str (.pair .str (.pair (.int .i64) (.pair (.list (.int .i64)) (.int .i64))))))) (.pair (.list (.pair (.int .i64) (.pair (.int .i64) (.pair (.int .i64) (.pair (.list .str) (.pair (.list .bool) (.int .i64))))))) (.int .i64)))))) y0.1 y0.2.2.1).2.2.1.1.2.2.2.2.1, ((Ty.rd (t := (.pair (.int .i64) (.pair (.int .i64) (.pair (.pair (.pair (.int .i64) (.pair .str (.pair .str (.pair (.int .i64) (.pair (.list (.int .i64)) (.int .i64)))))) (.pair (.int .i64) (.pair .str (.pair .str (.pair (.int .i64) (.pair (.list (.int .i64)) (.int .i64))))))) (.pair (.list (.pair (.int .i64) (.pair (.int .i64) (.pair (.int .i64) (.pair (.list .str) (.pair (.list .bool) (.int .i64))))))) (.int .i64)))))) y0.1 y0.2.2.1).2.2.1.1.2.2.2.2.2, ((Ty.rd (t := (.pair (.int .i64) (.pair (.int .i64) (.pair (.pair (.pair (.int .i64) (.pair .str (.pair .str (.pair (.int .i64) (.pair (.list (.int .i64)) (.int .i64)))))) (.pair (.int .i64) (.pair .str (.pair .str (.pair (.int .i64) (.pair (.list (.int .i64)) (.int .i64))))))) (.pair (.list (.pair (.int .i64) (.pair (.int .i64) (.pair (.int .i64) (.pair (.list .str) (.pair (.list .bool) (.int .i64))))))) (.int .i64)))))) y0.1 y0.2.2.1).2.2.1.2.1, ((Ty.rd (t := (.pair (.int .i64) (.pair (.int .i64) (.pair (.pair (.pair (.int .i64) (.pair .str (.pair .str (.pair (.int .i64) (.pair (.list (.int .i64)) (.int .i64)))))) (.pair (.int .i64) (.pair .str (.pair .str (.pair (.int .i64) (.pair (.list (.int .i64)) (.int .i64))))))) (.pair (.list (.pair (.int .i64) (.pair (.int .i64) (.pair (.int .i64) (.pair (.list .str) (.pair (.list .bool) (.int .i64))))))) (.int .i64)))))) y0.1 y0.2.2.1).2.2.1.2.2.1, ((Ty.rd (t := (.pair (.int .i64) (.pair (.int .i64) (.pair (.pair (.pair (.int .i64) (.pair .str (.pair .str (.pair (.int .i64) (.pair (.list (.int .i64)) (.int .i64)))))) (.pair (.int .i64) (.pair .str (.pair .str (.pair (.int .i64) (.pair (.list (.int .i64)) (.int .i64))))))) (.pair (.list (.pair (.int .i64) (.pair (.int .i64) (.pair (.int .i64) (.pair (.list .str) (.pair (.list .bool) (.int .i64))))))) (.int .i64)))))) y0.1 y0.2.2.1).2.2.1.2.2.2.1, ((Ty.rd (t := (.pair (.int .i64) (.pair (.int .i64) (.pair (.pair (.pair (.int .i64) (.pair .str (.pair .str (.pair (.int .i64) (.pair (.list (.int .i64)) (.int .i64)))))) (.pair (.int .i64) (.pair .str (.pair .str (.pair (.int .i64) (.pair (.list (.int .i64)) (.int .i64))))))) (.pair (.list (.pair (.int .i64) (.pair (.int .i64) (.pair (.int .i64) (.pair (.list .str) (.pair (.list .bool) (.int .i64))))))) (.int .i64)))))) y0.1 y0.2.2.1).2.2.1.2.2.2.2.1, ((Ty.rd (t := (.pair (.int .i64) (.pair (.int .i64) (.pair (.pair (.pair (.int .i64) (.pair .str (.pair .str (.pair (.int .i64) (.pair (.list (.int .i64)) (.int .i64)))))) (.pair (.int .i64) (.pair .str (.pair .str (.pair (.int .i64) (.pair (.list (.int .i64)) (.int .i64))))))) (.pair (.list (.pair (.int .i64) (.pair (.int .i64) (.pair (.int .i64) (.pair (.list .str) (.pair (.list .bool) (.int .i64))))))) (.int .i64)))))) y0.1 y0.2.2.1).2.2.1.2.2.2.2.2.1, ((Ty.rd (t := (.pair (.int .i64) (.pair (.int .i64) (.pair (.pair (.pair (.int .i64) (.pair .str (.pair .str (.pair (.int .i64) (.pair (.list (.int .i64)) (.int .i64)))))) (.pair (.int .i64) (.pair .str (.pair .str (.pair (.int .i64) (.pair (.list (.int .i64)) (.int .i64))))))) (.pair (.list (.pair (.int .i64) (.pair (.int .i64) (.pair (.int .i64) (.pair (.list .str) (.pair (.list .bool) (.int .i64))))))) (.int .i64)))))) y0.1 y0.2.2.1).2.2.1.2.2.2.2.2.2, ((Ty.rd (t := (.pair (.int .i64) (.pair (.int .i64) (.pair (.pair (.pair (.int .i64) (.pair .str (.pair .str (.pair (.int .i64) (.pair (.list (.int .i64)) (.int .i64)))))) (.pair (.int .i64) (.pair .str (.pair .str (.pair (.int .i64) (.pair (.list (.int .i64)) (.int .i64))))))) (.pair (.list (.pair (.int .i64) (.pair (.int .i64) (.pair (.int .i64) (.pair (.list .str) (.pair (.list .bool) (.int .i64))))))) (.int .i64)))))) y0.1 y0.2.2.1).2.2.2.1, ((Ty.rd (t := (.pair (.int .i64) (.pair (.int .i64) (.pair (.pair (.pair (.int .i64) (.pair .str (.pair .str (.pair (.int .i64) (.pair (.list (.int .i64)) (.int .i64)))))) (.pair (.int .i64) (.pair .str (.pair .str (.pair (.int .i64) (.pair (.list (.int .i64)) (.int .i64))))))) (.pair (.list (.pair (.int .i64) (.pair (.int .i64) (.pair (.int .i64) (.pair (.list .str) (.pair (.list .bool) (.int .i64))))))) (.int .i64)))))) y0.1 y0.2.2.1).2.2.2.2, ())))))))))))))))), (y0.2.1, ()))).bind fun p1 =>
(if (decide (p1.1 < (0 : Int))) = true then
some ((-1 : Int), ((), ((), ())))
else
(rec0 (y0.1, (p1.1, ((wi64 (y0.2.2.1 + (1 : Int))), ()))))))
else none)
else
((fun (z1 : Int × Unit) =>
some (z1.1, ((), ((), ())))) (y0.2.1, ())))) k (x.1, ((wi64 (x.2.1 - (List.length x.1 : Int))), ((0 : Int), ())))))
theorem t_w_szUserS (k : Nat) (x) : evF TTabO k [⟨28, 0, (.cons yP4 yP3), (.int .i64), w_szUser k⟩] [(0, ⟨[0, 1, 5], (.cons (.il true yT0) (.cons (.int .i64) yP3))⟩, ⟨[1], yP3⟩)] Tryz.f75 (.cons (.il true yT0) yP3) (.int .i64) x = w_szUserS k x := by kernel_rfl
theorem e_w_szUserS [Names] (k : Nat) : EntryOk Tryz.prog ⟨75, 0, (.cons (.il true yT0) yP3), (.int .i64), w_szUserS k⟩ := entry_ok tokO (by intro e he; simp only [List.mem_cons, List.not_mem_nil, or_false] at he; rcases he with rfl <;> first | exact e_w_szUser k) (by kernel_rfl) (fn := Tryz.f75) (k := k) (es := [⟨28, 0, (.cons yP4 yP3), (.int .i64), w_szUser k⟩]) (loops := [(0, ⟨[0, 1, 5], (.cons (.il true yT0) (.cons (.int .i64) yP3))⟩, ⟨[1], yP3⟩)]) (by kernel_rfl) (by kernel_rfl) (fun x r h => (t_w_szUserS k x).trans h)
def w_szHub (k : Nat) (x : (Int × Int × (List (Int × Int × Int)) × (List (Int × Int)) × (List ((Int × Int) × Int)) × (List (Int × Int × ((Int × ByteArray × ByteArray × Int × List (Int) × Int) × Int × ByteArray × ByteArray × Int × List (Int) × Int) × List (Int × Int × Int × List (ByteArray) × List (Bool) × Int) × Int)) × Unit) × Int × Unit) : Option (Int × Unit × Unit × Unit) :=
((w_szPool k ((x.1.1, (x.1.2.1, (x.1.2.2.1, (x.1.2.2.2.1, ())))), (x.2.1, ()))).bind fun p1 =>
(if (decide (p1.1 < (0 : Int))) = true then
some ((-1 : Int), ((), ((), ())))
else
((w_szRouteS k (x.1.2.2.2.2.1, (p1.1, ()))).bind fun p2 =>
(if (decide (p2.1 < (0 : Int))) = true then
some ((-1 : Int), ((), ((), ())))
else
((w_szUserS k (x.1.2.2.2.2.2.1, (p2.1, ()))).bind fun p3 =>
(if (decide (p3.1 < (0 : Int))) = true then
some ((-1 : Int), ((), ((), ())))
else
some (p3.1, ((), ((), ())))))))))
theorem t_w_szHub (k : Nat) (x) : evF TTabO k [⟨73, 0, (.cons (.agg yP5) yP3), (.int .i64), w_szPool k⟩, ⟨74, 0, (.cons yP21 yP3), (.int .i64), w_szRouteS k⟩, ⟨75, 0, (.cons (.il true yT0) yP3), (.int .i64), w_szUserS k⟩] [] Tryz.f19 (.cons yP7 yP3) (.int .i64) x = w_szHub k x := by kernel_rfl
theorem e_w_szHub [Names] (k : Nat) : EntryOk Tryz.prog ⟨19, 0, (.cons yP7 yP3), (.int .i64), w_szHub k⟩ := entry_ok tokO (by intro e he; simp only [List.mem_cons, List.not_mem_nil, or_false] at he; rcases he with rfl | rfl | rfl <;> first | exact e_w_szPool k | exact e_w_szRouteS k | exact e_w_szUserS k) (by kernel_rfl) (fn := Tryz.f19) (k := k) (es := [⟨73, 0, (.cons (.agg yP5) yP3), (.int .i64), w_szPool k⟩, ⟨74, 0, (.cons yP21 yP3), (.int .i64), w_szRouteS k⟩, ⟨75, 0, (.cons (.il true yT0) yP3), (.int .i64), w_szUserS k⟩]) (loops := []) (by kernel_rfl) (by kernel_rfl) (fun x r h => (t_w_szHub k x).trans h)
def w_toPrefix (k : Nat) (x : (Int × Int × Unit) × Unit) : Option ((Int × Int × Unit) × Unit × Unit) :=
some ((x.1.1, (x.1.2.1, ())), ((), ()))
theorem t_w_toPrefix (k : Nat) (x) : evF TTab k [] [] Tryz.f22 (.cons yP19 .nil) yP19 x = w_toPrefix k x := by kernel_rfl
theorem e_w_toPrefix [Names] (k : Nat) : EntryOk Tryz.prog ⟨22, 0, (.cons yP19 .nil), yP19, w_toPrefix k⟩ := entry_ok tok (by simp) (by kernel_rfl) (fn := Tryz.f22) (k := k) (es := []) (loops := []) (by kernel_rfl) (by kernel_rfl) (fun x r h => (t_w_toPrefix k x).trans h)
def w_toLease (k : Nat) (x : (Int × Int × Int × Unit) × Unit) : Option ((Int × Int × Int × Unit) × Unit × Unit) :=
some ((x.1.1, (x.1.2.1, (x.1.2.2.1, ()))), ((), ()))
theorem t_w_toLease (k : Nat) (x) : evF TTab k [] [] Tryz.f238 (.cons (.agg yP14) .nil) (.agg yP14) x = w_toLease k x := by kernel_rfl
theorem e_w_toLease [Names] (k : Nat) : EntryOk Tryz.prog ⟨238, 0, (.cons (.agg yP14) .nil), (.agg yP14), w_toLease k⟩ := entry_ok tok (by simp) (by kernel_rfl) (fn := Tryz.f238) (k := k) (es := []) (loops := []) (by kernel_rfl) (by kernel_rfl) (fun x r h => (t_w_toLease k x).trans h)
def w_toLeaseS (k : Nat) (x : (List (Int × Int × Int)) × Unit) : Option ((List (Int × Int × Int)) × Unit × Unit) :=
(if (List.length x.1 : Int) = (List.length x.1 : Int) then
(if 0 ≤ (List.length x.1 : Int) ∧ (List.length x.1 : Int) ≤ (capMax : Int) then
(whileK (fun (rec0 : ((List (Int × Int × Int)) × (List (Int × Int × Int)) × Int × Unit) → Option _) (y0 : (List (Int × Int × Int)) × (List (Int × Int × Int)) × Int × Unit) =>
(if (decide (y0.2.2.1 < (List.length y0.1 : Int))) = true then
(if 0 ≤ y0.2.2.1 ∧ y0.2.2.1 < (List.length y0.1 : Int) then
((w_toLease k (((Ty.rd (t := (.pair (.int .i64) (.pair (.int .i64) (.int .i64)))) y0.1 y0.2.2.1).1, ((Ty.rd (t := (.pair (.int .i64) (.pair (.int .i64) (.int .i64)))) y0.1 y0.2.2.1).2.1, ((Ty.rd (t := (.pair (.int .i64) (.pair (.int .i64) (.int .i64)))) y0.1 y0.2.2.1).2.2, ()))), ())).bind fun p1 =>
(if 0 ≤ y0.2.2.1 ∧ y0.2.2.1 < (List.length y0.2.1 : Int) then
(rec0 (y0.1, ((List.set y0.2.1 (Int.toNat y0.2.2.1) (p1.1.1, (p1.1.2.1, p1.1.2.2.1))), ((wi64 (y0.2.2.1 + (1 : Int))), ()))))
else none))
else none)
else
((fun (z1 : (List (Int × Int × Int)) × Unit) =>
some (z1.1, ((), ()))) (y0.2.1, ())))) k (x.1, ((List.replicate (Int.toNat (List.length x.1 : Int)) ((0 : Int), ((0 : Int), (0 : Int)))), ((0 : Int), ()))))
else none)
else none)
theorem t_w_toLeaseS (k : Nat) (x) : evF TTab k [⟨238, 0, (.cons (.agg yP14) .nil), (.agg yP14), w_toLease k⟩] [(0, ⟨[0, 3, 4], (.cons yP24 (.cons yP26 yP3))⟩, ⟨[3], (.cons yP26 .nil)⟩)] Tryz.f155 (.cons yP24 .nil) yP26 x = w_toLeaseS k x := by kernel_rfl
theorem e_w_toLeaseS [Names] (k : Nat) : EntryOk Tryz.prog ⟨155, 0, (.cons yP24 .nil), yP26, w_toLeaseS k⟩ := entry_ok tok (by intro e he; simp only [List.mem_cons, List.not_mem_nil, or_false] at he; rcases he with rfl <;> first | exact e_w_toLease k) (by kernel_rfl) (fn := Tryz.f155) (k := k) (es := [⟨238, 0, (.cons (.agg yP14) .nil), (.agg yP14), w_toLease k⟩]) (loops := [(0, ⟨[0, 3, 4], (.cons yP24 (.cons yP26 yP3))⟩, ⟨[3], (.cons yP26 .nil)⟩)]) (by kernel_rfl) (by kernel_rfl) (fun x r h => (t_w_toLeaseS k x).trans h)
def w_toFixed (k : Nat) (x : (Int × Int × Unit) × Unit) : Option ((Int × Int × Unit) × Unit × Unit) :=
some ((x.1.1, (x.1.2.1, ())), ((), ()))
theorem t_w_toFixed (k : Nat) (x) : evF TTab k [] [] Tryz.f239 (.cons yP19 .nil) yP19 x = w_toFixed k x := by kernel_rfl
theorem e_w_toFixed [Names] (k : Nat) : EntryOk Tryz.prog ⟨239, 0, (.cons yP19 .nil), yP19, w_toFixed k⟩ := entry_ok tok (by simp) (by kernel_rfl) (fn := Tryz.f239) (k := k) (es := []) (loops := []) (by kernel_rfl) (by kernel_rfl) (fun x r h => (t_w_toFixed k x).trans h)
def w_toFixedS (k : Nat) (x : (List (Int × Int)) × Unit) : Option ((List (Int × Int)) × Unit × Unit) :=
(if (List.length x.1 : Int) = (List.length x.1 : Int) then
(if 0 ≤ (List.length x.1 : Int) ∧ (List.length x.1 : Int) ≤ (capMax : Int) then
(whileK (fun (rec0 : ((List (Int × Int)) × (List (Int × Int)) × Int × Unit) → Option _) (y0 : (List (Int × Int)) × (List (Int × Int)) × Int × Unit) =>
(if (decide (y0.2.2.1 < (List.length y0.1 : Int))) = true then
(if 0 ≤ y0.2.2.1 ∧ y0.2.2.1 < (List.length y0.1 : Int) then
((w_toFixed k (((Ty.rd (t := (.pair (.int .i64) (.int .i64))) y0.1 y0.2.2.1).1, ((Ty.rd (t := (.pair (.int .i64) (.int .i64))) y0.1 y0.2.2.1).2, ())), ())).bind fun p1 =>
(if 0 ≤ y0.2.2.1 ∧ y0.2.2.1 < (List.length y0.2.1 : Int) then
(rec0 (y0.1, ((List.set y0.2.1 (Int.toNat y0.2.2.1) (p1.1.1, p1.1.2.1)), ((wi64 (y0.2.2.1 + (1 : Int))), ()))))
else none))
else none)
else
((fun (z1 : (List (Int × Int)) × Unit) =>
some (z1.1, ((), ()))) (y0.2.1, ())))) k (x.1, ((List.replicate (Int.toNat (List.length x.1 : Int)) ((0 : Int), (0 : Int))), ((0 : Int), ()))))
else none)
else none)
theorem t_w_toFixedS (k : Nat) (x) : evF TTab k [⟨239, 0, (.cons yP19 .nil), yP19, w_toFixed k⟩] [(0, ⟨[0, 3, 4], (.cons (.il true yT2) (.cons (.own false 252 yT2) yP3))⟩, ⟨[3], (.cons (.own false 252 yT2) .nil)⟩)] Tryz.f156 (.cons (.il true yT2) .nil) (.own false 252 yT2) x = w_toFixedS k x := by kernel_rfl
theorem e_w_toFixedS [Names] (k : Nat) : EntryOk Tryz.prog ⟨156, 0, (.cons (.il true yT2) .nil), (.own false 252 yT2), w_toFixedS k⟩ := entry_ok tok (by intro e he; simp only [List.mem_cons, List.not_mem_nil, or_false] at he; rcases he with rfl <;> first | exact e_w_toFixed k) (by kernel_rfl) (fn := Tryz.f156) (k := k) (es := [⟨239, 0, (.cons yP19 .nil), yP19, w_toFixed k⟩]) (loops := [(0, ⟨[0, 3, 4], (.cons (.il true yT2) (.cons (.own false 252 yT2) yP3))⟩, ⟨[3], (.cons (.own false 252 yT2) .nil)⟩)]) (by kernel_rfl) (by kernel_rfl) (fun x r h => (t_w_toFixedS k x).trans h)
def w_toPool (k : Nat) (x : (Int × Int × (List (Int × Int × Int)) × (List (Int × Int)) × Unit) × Unit) : Option ((Int × Int × (List (Int × Int × Int)) × (List (Int × Int)) × Unit) × Unit × Unit) :=
((w_toPrefix k ((x.1.1, (x.1.2.1, ())), ())).bind fun p1 =>
((w_toLeaseS k (x.1.2.2.1, ())).bind fun p2 =>
((w_toFixedS k (x.1.2.2.2.1, ())).bind fun p3 =>
some ((p1.1.1, (p1.1.2.1, (p2.1, (p3.1, ())))), ((), ())))))
theorem t_w_toPool (k : Nat) (x) : evF TTab k [⟨22, 0, (.cons yP19 .nil), yP19, w_toPrefix k⟩, ⟨155, 0, (.cons yP24 .nil), yP26, w_toLeaseS k⟩, ⟨156, 0, (.cons (.il true yT2) .nil), (.own false 252 yT2), w_toFixedS k⟩] [] Tryz.f76 (.cons (.agg yP5) .nil) (.agg yP10) x = w_toPool k x := by kernel_rfl
theorem e_w_toPool [Names] (k : Nat) : EntryOk Tryz.prog ⟨76, 0, (.cons (.agg yP5) .nil), (.agg yP10), w_toPool k⟩ := entry_ok tok (by intro e he; simp only [List.mem_cons, List.not_mem_nil, or_false] at he; rcases he with rfl | rfl | rfl <;> first | exact e_w_toPrefix k | exact e_w_toLeaseS k | exact e_w_toFixedS k) (by kernel_rfl) (fn := Tryz.f76) (k := k) (es := [⟨22, 0, (.cons yP19 .nil), yP19, w_toPrefix k⟩, ⟨155, 0, (.cons yP24 .nil), yP26, w_toLeaseS k⟩, ⟨156, 0, (.cons (.il true yT2) .nil), (.own false 252 yT2), w_toFixedS k⟩]) (loops := []) (by kernel_rfl) (by kernel_rfl) (fun x r h => (t_w_toPool k x).trans h)
def w_toRoute (k : Nat) (x : (Int × Int × Int × Unit) × Unit) : Option ((Int × Int × Int × Unit) × Unit × Unit) :=
((w_toPrefix k ((x.1.1, (x.1.2.1, ())), ())).bind fun p1 =>
some ((p1.1.1, (p1.1.2.1, (x.1.2.2.1, ()))), ((), ())))
theorem t_w_toRoute (k : Nat) (x) : evF TTab k [⟨22, 0, (.cons yP19 .nil), yP19, w_toPrefix k⟩] [] Tryz.f157 (.cons (.agg yP14) .nil) (.agg yP14) x = w_toRoute k x := by kernel_rfl
theorem e_w_toRoute [Names] (k : Nat) : EntryOk Tryz.prog ⟨157, 0, (.cons (.agg yP14) .nil), (.agg yP14), w_toRoute k⟩ := entry_ok tok (by intro e he; simp only [List.mem_cons, List.not_mem_nil, or_false] at he; rcases he with rfl <;> first | exact e_w_toPrefix k) (by kernel_rfl) (fn := Tryz.f157) (k := k) (es := [⟨22, 0, (.cons yP19 .nil), yP19, w_toPrefix k⟩]) (loops := []) (by kernel_rfl) (by kernel_rfl) (fun x r h => (t_w_toRoute k x).trans h)
def w_toRouteS (k : Nat) (x : (List ((Int × Int) × Int)) × Unit) : Option ((List ((Int × Int) × Int)) × Unit × Unit) :=
(if (List.length x.1 : Int) = (List.length x.1 : Int) then
(if 0 ≤ (List.length x.1 : Int) ∧ (List.length x.1 : Int) ≤ (capMax : Int) then
(whileK (fun (rec0 : ((List ((Int × Int) × Int)) × (List ((Int × Int) × Int)) × Int × Unit) → Option _) (y0 : (List ((Int × Int) × Int)) × (List ((Int × Int) × Int)) × Int × Unit) =>
(if (decide (y0.2.2.1 < (List.length y0.1 : Int))) = true then
(if 0 ≤ y0.2.2.1 ∧ y0.2.2.1 < (List.length y0.1 : Int) then
((w_toRoute k (((Ty.rd (t := (.pair (.pair (.int .i64) (.int .i64)) (.int .i64))) y0.1 y0.2.2.1).1.1, ((Ty.rd (t := (.pair (.pair (.int .i64) (.int .i64)) (.int .i64))) y0.1 y0.2.2.1).1.2, ((Ty.rd (t := (.pair (.pair (.int .i64) (.int .i64)) (.int .i64))) y0.1 y0.2.2.1).2, ()))), ())).bind fun p1 =>
(if 0 ≤ y0.2.2.1 ∧ y0.2.2.1 < (List.length y0.2.1 : Int) then
(rec0 (y0.1, ((List.set y0.2.1 (Int.toNat y0.2.2.1) ((p1.1.1, p1.1.2.1), p1.1.2.2.1)), ((wi64 (y0.2.2.1 + (1 : Int))), ()))))
else none))
else none)
else
((fun (z1 : (List ((Int × Int) × Int)) × Unit) =>
some (z1.1, ((), ()))) (y0.2.1, ())))) k (x.1, ((List.replicate (Int.toNat (List.length x.1 : Int)) (((0 : Int), (0 : Int)), (0 : Int))), ((0 : Int), ()))))
else none)
else none)
theorem t_w_toRouteS (k : Nat) (x) : evF TTab k [⟨157, 0, (.cons (.agg yP14) .nil), (.agg yP14), w_toRoute k⟩] [(0, ⟨[0, 3, 4], (.cons yP21 (.cons yP20 yP3))⟩, ⟨[3], (.cons yP20 .nil)⟩)] Tryz.f77 (.cons yP21 .nil) yP20 x = w_toRouteS k x := by kernel_rfl
theorem e_w_toRouteS [Names] (k : Nat) : EntryOk Tryz.prog ⟨77, 0, (.cons yP21 .nil), yP20, w_toRouteS k⟩ := entry_ok tok (by intro e he; simp only [List.mem_cons, List.not_mem_nil, or_false] at he; rcases he with rfl <;> first | exact e_w_toRoute k) (by kernel_rfl) (fn := Tryz.f77) (k := k) (es := [⟨157, 0, (.cons (.agg yP14) .nil), (.agg yP14), w_toRoute k⟩]) (loops := [(0, ⟨[0, 3, 4], (.cons yP21 (.cons yP20 yP3))⟩, ⟨[3], (.cons yP20 .nil)⟩)]) (by kernel_rfl) (by kernel_rfl) (fun x r h => (t_w_toRouteS k x).trans h)
def w_toIntS (k : Nat) (x : List (Int) × Unit) : Option (List (Int) × Unit × Unit) :=
(if (List.length x.1 : Int) = (List.length x.1 : Int) then
(if 0 ≤ (List.length x.1 : Int) ∧ (List.length x.1 : Int) ≤ (capMax : Int) then
(whileK (fun (rec0 : (List (Int) × List (Int) × Int × Unit) → Option _) (y0 : List (Int) × List (Int) × Int × Unit) =>
(if (decide (y0.2.2.1 < (List.length y0.1 : Int))) = true then
(if 0 ≤ y0.2.2.1 ∧ y0.2.2.1 < (List.length y0.1 : Int) then
(if 0 ≤ y0.2.2.1 ∧ y0.2.2.1 < (List.length y0.2.1 : Int) then
(rec0 (y0.1, ((List.set y0.2.1 (Int.toNat y0.2.2.1) (Ty.rd (t := (.int .i64)) y0.1 y0.2.2.1)), ((wi64 (y0.2.2.1 + (1 : Int))), ()))))
else none)
else none)
else
((fun (z1 : List (Int) × Unit) =>
some (z1.1, ((), ()))) (y0.2.1, ())))) k (x.1, ((List.replicate (Int.toNat (List.length x.1 : Int)) (0 : Int)), ((0 : Int), ()))))
else none)
else none)
theorem t_w_toIntS (k : Nat) (x) : evF TTab k [] [(0, ⟨[0, 3, 4], (.cons (.il true (.int .i64)) (.cons yP32 yP3))⟩, ⟨[3], (.cons yP32 .nil)⟩)] Tryz.f115 (.cons (.il true (.int .i64)) .nil) yP32 x = w_toIntS k x := by kernel_rfl
theorem e_w_toIntS [Names] (k : Nat) : EntryOk Tryz.prog ⟨115, 0, (.cons (.il true (.int .i64)) .nil), yP32, w_toIntS k⟩ := entry_ok tok (by simp) (by kernel_rfl) (fn := Tryz.f115) (k := k) (es := []) (loops := [(0, ⟨[0, 3, 4], (.cons (.il true (.int .i64)) (.cons yP32 yP3))⟩, ⟨[3], (.cons yP32 .nil)⟩)]) (by kernel_rfl) (by kernel_rfl) (fun x r h => (t_w_toIntS k x).trans h)
def w_toSlot (k : Nat) (x : (Int × ByteArray × ByteArray × Int × List (Int) × Int × Unit) × Unit) : Option ((Int × ByteArray × ByteArray × Int × List (Int) × Int × Unit) × Unit × Unit) :=
((w_toIntS k (x.1.2.2.2.2.1, ())).bind fun p1 =>
some ((x.1.1, (x.1.2.1, (x.1.2.2.1, (x.1.2.2.2.1, (p1.1, (x.1.2.2.2.2.2.1, ())))))), ((), ())))
theorem t_w_toSlot (k : Nat) (x) : evF TTab k [⟨115, 0, (.cons (.il true (.int .i64)) .nil), yP32, w_toIntS k⟩] [] Tryz.f178 (.cons yP17 .nil) (.agg yP28) x = w_toSlot k x := by kernel_rfl
theorem e_w_toSlot [Names] (k : Nat) : EntryOk Tryz.prog ⟨178, 0, (.cons yP17 .nil), (.agg yP28), w_toSlot k⟩ := entry_ok tok (by intro e he; simp only [List.mem_cons, List.not_mem_nil, or_false] at he; rcases he with rfl <;> first | exact e_w_toIntS k) (by kernel_rfl) (fn := Tryz.f178) (k := k) (es := [⟨115, 0, (.cons (.il true (.int .i64)) .nil), yP32, w_toIntS k⟩]) (loops := []) (by kernel_rfl) (by kernel_rfl) (fun x r h => (t_w_toSlot k x).trans h)
def w_toSlots (k : Nat) (x : (Int × ByteArray × ByteArray × Int × List (Int) × Int × Int × ByteArray × ByteArray × Int × List (Int) × Int × Unit) × Unit) : Option ((Int × ByteArray × ByteArray × Int × List (Int) × Int × Int × ByteArray × ByteArray × Int × List (Int) × Int × Unit) × Unit × Unit) :=
((w_toSlot k ((x.1.1, (x.1.2.1, (x.1.2.2.1, (x.1.2.2.2.1, (x.1.2.2.2.2.1, (x.1.2.2.2.2.2.1, ())))))), ())).bind fun p1 =>
((w_toSlot k ((x.1.2.2.2.2.2.2.1, (x.1.2.2.2.2.2.2.2.1, (x.1.2.2.2.2.2.2.2.2.1, (x.1.2.2.2.2.2.2.2.2.2.1, (x.1.2.2.2.2.2.2.2.2.2.2.1, (x.1.2.2.2.2.2.2.2.2.2.2.2.1, ())))))), ())).bind fun p2 =>
some ((p1.1.1, (p1.1.2.1, (p1.1.2.2.1, (p1.1.2.2.2.1, (p1.1.2.2.2.2.1, (p1.1.2.2.2.2.2.1, (p2.1.1, (p2.1.2.1, (p2.1.2.2.1, (p2.1.2.2.2.1, (p2.1.2.2.2.2.1, (p2.1.2.2.2.2.2.1, ())))))))))))), ((), ()))))
theorem t_w_toSlots (k : Nat) (x) : evF TTab k [⟨178, 0, (.cons yP17 .nil), (.agg yP28), w_toSlot k⟩] [] Tryz.f96 (.cons yP8 .nil) yP13 x = w_toSlots k x := by kernel_rfl
theorem e_w_toSlots [Names] (k : Nat) : EntryOk Tryz.prog ⟨96, 0, (.cons yP8 .nil), yP13, w_toSlots k⟩ := entry_ok tok (by intro e he; simp only [List.mem_cons, List.not_mem_nil, or_false] at he; rcases he with rfl <;> first | exact e_w_toSlot k) (by kernel_rfl) (fn := Tryz.f96) (k := k) (es := [⟨178, 0, (.cons yP17 .nil), (.agg yP28), w_toSlot k⟩]) (loops := []) (by kernel_rfl) (by kernel_rfl) (fun x r h => (t_w_toSlots k x).trans h)
def w_toStringS (k : Nat) (x : List (ByteArray) × Unit) : Option (List (ByteArray) × Unit × Unit) :=
(if (List.length x.1 : Int) = (List.length x.1 : Int) then
(if 0 ≤ (List.length x.1 : Int) ∧ (List.length x.1 : Int) ≤ (capMax : Int) then
(whileK (fun (rec0 : (List (ByteArray) × List (ByteArray) × Int × Unit) → Option _) (y0 : List (ByteArray) × List (ByteArray) × Int × Unit) =>
(if (decide (y0.2.2.1 < (List.length y0.1 : Int))) = true then
(if 0 ≤ y0.2.2.1 ∧ y0.2.2.1 < (List.length y0.1 : Int) then
(if 0 ≤ y0.2.2.1 ∧ y0.2.2.1 < (List.length y0.2.1 : Int) then
(rec0 (y0.1, ((List.set y0.2.1 (Int.toNat y0.2.2.1) (Ty.rd (t := .str) y0.1 y0.2.2.1)), ((wi64 (y0.2.2.1 + (1 : Int))), ()))))
else none)
else none)
else
((fun (z1 : List (ByteArray) × Unit) =>
some (z1.1, ((), ()))) (y0.2.1, ())))) k (x.1, ((List.replicate (Int.toNat (List.length x.1 : Int)) (⟨#[]⟩ : ByteArray)), ((0 : Int), ()))))
else none)
else none)
theorem t_w_toStringS (k : Nat) (x) : evF TTab k [] [(0, ⟨[0, 3, 4], (.cons (.il true .str) (.cons (.own false 9 .str) yP3))⟩, ⟨[3], (.cons (.own false 9 .str) .nil)⟩)] Tryz.f293 (.cons (.il true .str) .nil) (.own false 9 .str) x = w_toStringS k x := by kernel_rfl
theorem e_w_toStringS [Names] (k : Nat) : EntryOk Tryz.prog ⟨293, 0, (.cons (.il true .str) .nil), (.own false 9 .str), w_toStringS k⟩ := entry_ok tok (by simp) (by kernel_rfl) (fn := Tryz.f293) (k := k) (es := []) (loops := [(0, ⟨[0, 3, 4], (.cons (.il true .str) (.cons (.own false 9 .str) yP3))⟩, ⟨[3], (.cons (.own false 9 .str) .nil)⟩)]) (by kernel_rfl) (by kernel_rfl) (fun x r h => (t_w_toStringS k x).trans h)
def w_toBoolS (k : Nat) (x : List (Bool) × Unit) : Option (List (Bool) × Unit × Unit) :=
(if (List.length x.1 : Int) = (List.length x.1 : Int) then
(if 0 ≤ (List.length x.1 : Int) ∧ (List.length x.1 : Int) ≤ (capMax : Int) then
(whileK (fun (rec0 : (List (Bool) × List (Bool) × Int × Unit) → Option _) (y0 : List (Bool) × List (Bool) × Int × Unit) =>
(if (decide (y0.2.2.1 < (List.length y0.1 : Int))) = true then
(if 0 ≤ y0.2.2.1 ∧ y0.2.2.1 < (List.length y0.1 : Int) then
(if 0 ≤ y0.2.2.1 ∧ y0.2.2.1 < (List.length y0.2.1 : Int) then
(rec0 (y0.1, ((List.set y0.2.1 (Int.toNat y0.2.2.1) (Ty.rd (t := .bool) y0.1 y0.2.2.1)), ((wi64 (y0.2.2.1 + (1 : Int))), ()))))
else none)
else none)
else
((fun (z1 : List (Bool) × Unit) =>
some (z1.1, ((), ()))) (y0.2.1, ())))) k (x.1, ((List.replicate (Int.toNat (List.length x.1 : Int)) false), ((0 : Int), ()))))
else none)
else none)
theorem t_w_toBoolS (k : Nat) (x) : evF TTab k [] [(0, ⟨[0, 3, 4], (.cons (.il true .bool) (.cons (.own false 4 .bool) yP3))⟩, ⟨[3], (.cons (.own false 4 .bool) .nil)⟩)] Tryz.f294 (.cons (.il true .bool) .nil) (.own false 4 .bool) x = w_toBoolS k x := by kernel_rfl
theorem e_w_toBoolS [Names] (k : Nat) : EntryOk Tryz.prog ⟨294, 0, (.cons (.il true .bool) .nil), (.own false 4 .bool), w_toBoolS k⟩ := entry_ok tok (by simp) (by kernel_rfl) (fn := Tryz.f294) (k := k) (es := []) (loops := [(0, ⟨[0, 3, 4], (.cons (.il true .bool) (.cons (.own false 4 .bool) yP3))⟩, ⟨[3], (.cons (.own false 4 .bool) .nil)⟩)]) (by kernel_rfl) (by kernel_rfl) (fun x r h => (t_w_toBoolS k x).trans h)
def w_toHeld (k : Nat) (x : (Int × Int × Int × List (ByteArray) × List (Bool) × Int × Unit) × Unit) : Option ((Int × Int × Int × List (ByteArray) × List (Bool) × Int × Unit) × Unit × Unit) :=
((w_toStringS k (x.1.2.2.2.1, ())).bind fun p1 =>
((w_toBoolS k (x.1.2.2.2.2.1, ())).bind fun p2 =>
some ((x.1.1, (x.1.2.1, (x.1.2.2.1, (p1.1, (p2.1, (x.1.2.2.2.2.2.1, ())))))), ((), ()))))
theorem t_w_toHeld (k : Nat) (x) : evF TTab k [⟨293, 0, (.cons (.il true .str) .nil), (.own false 9 .str), w_toStringS k⟩, ⟨294, 0, (.cons (.il true .bool) .nil), (.own false 4 .bool), w_toBoolS k⟩] [] Tryz.f253 (.cons yP18 .nil) (.agg (.cons (.int .i64) (.cons (.int .i64) (.cons (.int .i64) (.cons (.own false 9 .str) (.cons (.own false 4 .bool) yP3)))))) x = w_toHeld k x := by kernel_rfl
theorem e_w_toHeld [Names] (k : Nat) : EntryOk Tryz.prog ⟨253, 0, (.cons yP18 .nil), (.agg (.cons (.int .i64) (.cons (.int .i64) (.cons (.int .i64) (.cons (.own false 9 .str) (.cons (.own false 4 .bool) yP3)))))), w_toHeld k⟩ := entry_ok tok (by intro e he; simp only [List.mem_cons, List.not_mem_nil, or_false] at he; rcases he with rfl | rfl <;> first | exact e_w_toStringS k | exact e_w_toBoolS k) (by kernel_rfl) (fn := Tryz.f253) (k := k) (es := [⟨293, 0, (.cons (.il true .str) .nil), (.own false 9 .str), w_toStringS k⟩, ⟨294, 0, (.cons (.il true .bool) .nil), (.own false 4 .bool), w_toBoolS k⟩]) (loops := []) (by kernel_rfl) (by kernel_rfl) (fun x r h => (t_w_toHeld k x).trans h)
def w_toHeldS (k : Nat) (x : (List (Int × Int × Int × List (ByteArray) × List (Bool) × Int)) × Unit) : Option ((List (Int × Int × Int × List (ByteArray) × List (Bool) × Int)) × Unit × Unit) :=
(if (List.length x.1 : Int) = (List.length x.1 : Int) then
(if 0 ≤ (List.length x.1 : Int) ∧ (List.length x.1 : Int) ≤ (capMax : Int) then
(whileK (fun (rec0 : ((List (Int × Int × Int × List (ByteArray) × List (Bool) × Int)) × (List (Int × Int × Int × List (ByteArray) × List (Bool) × Int)) × Int × Unit) → Option _) (y0 : (List (Int × Int × Int × List (ByteArray) × List (Bool) × Int)) × (List (Int × Int × Int × List (ByteArray) × List (Bool) × Int)) × Int × Unit) =>
(if (decide (y0.2.2.1 < (List.length y0.1 : Int))) = true then
(if 0 ≤ y0.2.2.1 ∧ y0.2.2.1 < (List.length y0.1 : Int) then
((w_toHeld k (((Ty.rd (t := (.pair (.int .i64) (.pair (.int .i64) (.pair (.int .i64) (.pair (.list .str) (.pair (.list .bool) (.int .i64))))))) y0.1 y0.2.2.1).1, ((Ty.rd (t := (.pair (.int .i64) (.pair (.int .i64) (.pair (.int .i64) (.pair (.list .str) (.pair (.list .bool) (.int .i64))))))) y0.1 y0.2.2.1).2.1, ((Ty.rd (t := (.pair (.int .i64) (.pair (.int .i64) (.pair (.int .i64) (.pair (.list .str) (.pair (.list .bool) (.int .i64))))))) y0.1 y0.2.2.1).2.2.1, ((Ty.rd (t := (.pair (.int .i64) (.pair (.int .i64) (.pair (.int .i64) (.pair (.list .str) (.pair (.list .bool) (.int .i64))))))) y0.1 y0.2.2.1).2.2.2.1, ((Ty.rd (t := (.pair (.int .i64) (.pair (.int .i64) (.pair (.int .i64) (.pair (.list .str) (.pair (.list .bool) (.int .i64))))))) y0.1 y0.2.2.1).2.2.2.2.1, ((Ty.rd (t := (.pair (.int .i64) (.pair (.int .i64) (.pair (.int .i64) (.pair (.list .str) (.pair (.list .bool) (.int .i64))))))) y0.1 y0.2.2.1).2.2.2.2.2, ())))))), ())).bind fun p1 =>
(if 0 ≤ y0.2.2.1 ∧ y0.2.2.1 < (List.length y0.2.1 : Int) then
(rec0 (y0.1, ((List.set y0.2.1 (Int.toNat y0.2.2.1) (p1.1.1, (p1.1.2.1, (p1.1.2.2.1, (p1.1.2.2.2.1, (p1.1.2.2.2.2.1, p1.1.2.2.2.2.2.1)))))), ((wi64 (y0.2.2.1 + (1 : Int))), ()))))
else none))
else none)
else
((fun (z1 : (List (Int × Int × Int × List (ByteArray) × List (Bool) × Int)) × Unit) =>
some (z1.1, ((), ()))) (y0.2.1, ())))) k (x.1, ((List.replicate (Int.toNat (List.length x.1 : Int)) ((0 : Int), ((0 : Int), ((0 : Int), ([], ([], (0 : Int))))))), ((0 : Int), ()))))
else none)
else none)
theorem t_w_toHeldS (k : Nat) (x) : evF TTabO k [⟨253, 0, (.cons yP18 .nil), (.agg (.cons (.int .i64) (.cons (.int .i64) (.cons (.int .i64) (.cons (.own false 9 .str) (.cons (.own false 4 .bool) yP3)))))), w_toHeld k⟩] [(0, ⟨[0, 3, 4], (.cons (.il true yT6) (.cons yP9 yP3))⟩, ⟨[3], (.cons yP9 .nil)⟩)] Tryz.f179 yP29 yP9 x = w_toHeldS k x := by kernel_rfl
theorem e_w_toHeldS [Names] (k : Nat) : EntryOk Tryz.prog ⟨179, 0, yP29, yP9, w_toHeldS k⟩ := entry_ok tokO (by intro e he; simp only [List.mem_cons, List.not_mem_nil, or_false] at he; rcases he with rfl <;> first | exact e_w_toHeld k) (by kernel_rfl) (fn := Tryz.f179) (k := k) (es := [⟨253, 0, (.cons yP18 .nil), (.agg (.cons (.int .i64) (.cons (.int .i64) (.cons (.int .i64) (.cons (.own false 9 .str) (.cons (.own false 4 .bool) yP3)))))), w_toHeld k⟩]) (loops := [(0, ⟨[0, 3, 4], (.cons (.il true yT6) (.cons yP9 yP3))⟩, ⟨[3], (.cons yP9 .nil)⟩)]) (by kernel_rfl) (by kernel_rfl) (fun x r h => (t_w_toHeldS k x).trans h)
def w_toShelf (k : Nat) (x : ((List (Int × Int × Int × List (ByteArray) × List (Bool) × Int)) × Unit) × Unit) : Option (((List (Int × Int × Int × List (ByteArray) × List (Bool) × Int)) × Unit) × Unit × Unit) :=
((w_toHeldS k (x.1.1, ())).bind fun p1 =>
some ((p1.1, ()), ((), ())))
theorem t_w_toShelf (k : Nat) (x) : evF TTabO k [⟨179, 0, yP29, yP9, w_toHeldS k⟩] [] Tryz.f97 (.cons (.agg yP29) .nil) (.agg (.cons yP9 .nil)) x = w_toShelf k x := by kernel_rfl
theorem e_w_toShelf [Names] (k : Nat) : EntryOk Tryz.prog ⟨97, 0, (.cons (.agg yP29) .nil), (.agg (.cons yP9 .nil)), w_toShelf k⟩ := entry_ok tokO (by intro e he; simp only [List.mem_cons, List.not_mem_nil, or_false] at he; rcases he with rfl <;> first | exact e_w_toHeldS k) (by kernel_rfl) (fn := Tryz.f97) (k := k) (es := [⟨179, 0, yP29, yP9, w_toHeldS k⟩]) (loops := []) (by kernel_rfl) (by kernel_rfl) (fun x r h => (t_w_toShelf k x).trans h)
def w_toUser (k : Nat) (x : (Int × Int × Int × ByteArray × ByteArray × Int × List (Int) × Int × Int × ByteArray × ByteArray × Int × List (Int) × Int × (List (Int × Int × Int × List (ByteArray) × List (Bool) × Int)) × Int × Unit) × Unit) : Option ((Int × Int × Int × ByteArray × ByteArray × Int × List (Int) × Int × Int × ByteArray × ByteArray × Int × List (Int) × Int × (List (Int × Int × Int × List (ByteArray) × List (Bool) × Int)) × Int × Unit) × Unit × Unit) :=
((w_toSlots k ((x.1.2.2.1, (x.1.2.2.2.1, (x.1.2.2.2.2.1, (x.1.2.2.2.2.2.1, (x.1.2.2.2.2.2.2.1, (x.1.2.2.2.2.2.2.2.1, (x.1.2.2.2.2.2.2.2.2.1, (x.1.2.2.2.2.2.2.2.2.2.1, (x.1.2.2.2.2.2.2.2.2.2.2.1, (x.1.2.2.2.2.2.2.2.2.2.2.2.1, (x.1.2.2.2.2.2.2.2.2.2.2.2.2.1, (x.1.2.2.2.2.2.2.2.2.2.2.2.2.2.1, ())))))))))))), ())).bind fun p1 =>
((w_toShelf k ((x.1.2.2.2.2.2.2.2.2.2.2.2.2.2.2.1, ()), ())).bind fun p2 =>
some ((x.1.1, (x.1.2.1, (p1.1.1, (p1.1.2.1, (p1.1.2.2.1, (p1.1.2.2.2.1, (p1.1.2.2.2.2.1, (p1.1.2.2.2.2.2.1, (p1.1.2.2.2.2.2.2.1, (p1.1.2.2.2.2.2.2.2.1, (p1.1.2.2.2.2.2.2.2.2.1, (p1.1.2.2.2.2.2.2.2.2.2.1, (p1.1.2.2.2.2.2.2.2.2.2.2.1, (p1.1.2.2.2.2.2.2.2.2.2.2.2.1, (p2.1.1, (x.1.2.2.2.2.2.2.2.2.2.2.2.2.2.2.2.1, ())))))))))))))))), ((), ()))))
theorem t_w_toUser (k : Nat) (x) : evF TTabO k [⟨96, 0, (.cons yP8 .nil), yP13, w_toSlots k⟩, ⟨97, 0, (.cons (.agg yP29) .nil), (.agg (.cons yP9 .nil)), w_toShelf k⟩] [] Tryz.f31 (.cons yP4 .nil) yP16 x = w_toUser k x := by kernel_rfl
theorem e_w_toUser [Names] (k : Nat) : EntryOk Tryz.prog ⟨31, 0, (.cons yP4 .nil), yP16, w_toUser k⟩ := entry_ok tokO (by intro e he; simp only [List.mem_cons, List.not_mem_nil, or_false] at he; rcases he with rfl | rfl <;> first | exact e_w_toSlots k | exact e_w_toShelf k) (by kernel_rfl) (fn := Tryz.f31) (k := k) (es := [⟨96, 0, (.cons yP8 .nil), yP13, w_toSlots k⟩, ⟨97, 0, (.cons (.agg yP29) .nil), (.agg (.cons yP9 .nil)), w_toShelf k⟩]) (loops := []) (by kernel_rfl) (by kernel_rfl) (fun x r h => (t_w_toUser k x).trans h)
def w_toUserS (k : Nat) (x : (List (Int × Int × ((Int × ByteArray × ByteArray × Int × List (Int) × Int) × Int × ByteArray × ByteArray × Int × List (Int) × Int) × List (Int × Int × Int × List (ByteArray) × List (Bool) × Int) × Int)) × Unit) : Option ((List (Int × Int × ((Int × ByteArray × ByteArray × Int × List (Int) × Int) × Int × ByteArray × ByteArray × Int × List (Int) × Int) × List (Int × Int × Int × List (ByteArray) × List (Bool) × Int) × Int)) × Unit × Unit) :=
(if (List.length x.1 : Int) = (List.length x.1 : Int) then
(if 0 ≤ (List.length x.1 : Int) ∧ (List.length x.1 : Int) ≤ (capMax : Int) then
(whileK (fun (rec0 : ((List (Int × Int × ((Int × ByteArray × ByteArray × Int × List (Int) × Int) × Int × ByteArray × ByteArray × Int × List (Int) × Int) × List (Int × Int × Int × List (ByteArray) × List (Bool) × Int) × Int)) × (List (Int × Int × ((Int × ByteArray × ByteArray × Int × List (Int) × Int) × Int × ByteArray × ByteArray × Int × List (Int) × Int) × List (Int × Int × Int × List (ByteArray) × List (Bool) × Int) × Int)) × Int × Unit) → Option _) (y0 : (List (Int × Int × ((Int × ByteArray × ByteArray × Int × List (Int) × Int) × Int × ByteArray × ByteArray × Int × List (Int) × Int) × List (Int × Int × Int × List (ByteArray) × List (Bool) × Int) × Int)) × (List (Int × Int × ((Int × ByteArray × ByteArray × Int × List (Int) × Int) × Int × ByteArray × ByteArray × Int × List (Int) × Int) × List (Int × Int × Int × List (ByteArray) × List (Bool) × Int) × Int)) × Int × Unit) =>
(if (decide (y0.2.2.1 < (List.length y0.1 : Int))) = true then
(if 0 ≤ y0.2.2.1 ∧ y0.2.2.1 < (List.length y0.1 : Int) then
((w_toUser k (((Ty.rd (t := (.pair (.int .i64) (.pair (.int .i64) (.pair (.pair (.pair (.int .i64) (.pair .str (.pair .str (.pair (.int .i64) (.pair (.list (.int .i64)) (.int .i64)))))) (.pair (.int .i64) (.pair .str (.pair .str (.pair (.int .i64) (.pair (.list (.int .i64)) (.int .i64))))))) (.pair (.list (.pair (.int .i64) (.pair (.int .i64) (.pair (.int .i64) (.pair (.list .str) (.pair (.list .bool) (.int .i64))))))) (.int .i64)))))) y0.1 y0.2.2.1).1, ((Ty.rd (t := (.pair (.int .i64) (.pair (.int .i64) (.pair (.pair (.pair (.int .i64) (.pair .str (.pair .str (.pair (.int .i64) (.pair (.list (.int .i64)) (.int .i64)))))) (.pair (.int .i64) (.pair .str (.pair .str (.pair (.int .i64) (.pair (.list (.int .i64)) (.int .i64))))))) (.pair (.list (.pair (.int .i64) (.pair (.int .i64) (.pair (.int .i64) (.pair (.list .str) (.pair (.list .bool) (.int .i64))))))) (.int .i64)))))) y0.1 y0.2.2.1).2.1, ((Ty.rd (t := (.pair (.int .i64) (.pair (.int .i64) (.pair (.pair (.pair (.int .i64) (.pair .str (.pair .str (.pair (.int .i64) (.pair (.list (.int .i64)) (.int .i64)))))) (.pair (.int .i64) (.pair .str (.pair .str (.pair (.int .i64) (.pair (.list (.int .i64)) (.int .i64))))))) (.pair (.list (.pair (.int .i64) (.pair (.int .i64) (.pair (.int .i64) (.pair (.list .str) (.pair (.list .bool) (.int .i64))))))) (.int .i64)))))) y0.1 y0.2.2.1).2.2.1.1.1, ((Ty.rd (t := (.pair (.int .i64) (.pair (.int .i64) (.pair (.pair (.pair (.int .i64) (.pair .str (.pair .str (.pair (.int .i64) (.pair (.list (.int .i64)) (.int .i64)))))) (.pair (.int .i64) (.pair .str (.pair .str (.pair (.int .i64) (.pair (.list (.int .i64)) (.int .i64))))))) (.pair (.list (.pair (.int .i64) (.pair (.int .i64) (.pair (.int .i64) (.pair (.list .str) (.pair (.list .bool) (.int .i64))))))) (.int .i64)))))) y0.1 y0.2.2.1).2.2.1.1.2.1, ((Ty.rd (t := (.pair (.int .i64) (.pair (.int .i64) (.pair (.pair (.pair (.int .i64) (.pair .str (.pair .str (.pair (.int .i64) (.pair (.list (.int .i64)) (.int .i64)))))) (.pair (.int .i64) (.pair .str (.pair .str (.pair (.int .i64) (.pair (.list (.int .i64)) (.int .i64))))))) (.pair (.list (.pair (.int .i64) (.pair (.int .i64) (.pair (.int .i64) (.pair (.list .str) (.pair (.list .bool) (.int .i64))))))) (.int .i64)))))) y0.1 y0.2.2.1).2.2.1.1.2.2.1, ((Ty.rd (t := (.pair (.int .i64) (.pair (.int .i64) (.pair (.pair (.pair (.int .i64) (.pair .str (.pair .str (.pair (.int .i64) (.pair (.list (.int .i64)) (.int .i64)))))) (.pair (.int .i64) (.pair .str (.pair .str (.pair (.int .i64) (.pair (.list (.int .i64)) (.int .i64))))))) (.pair (.list (.pair (.int .i64) (.pair (.int .i64) (.pair (.int .i64) (.pair (.list .str) (.pair (.list .bool) (.int .i64))))))) (.int .i64)))))) y0.1 y0.2.2.1).2.2.1.1.2.2.2.1, ((Ty.rd (t := (.pair (.int .i64) (.pair (.int .i64) (.pair (.pair (.pair (.int .i64) (.pair .str (.pair .str (.pair (.int .i64) (.pair (.list (.int .i64)) (.int .i64)))))) (.pair (.int .i64) (.pair .str (.pair .str (.pair (.int .i64) (.pair (.list (.int .i64)) (.int .i64))))))) (.pair (.list (.pair (.int .i64) (.pair (.int .i64) (.pair (.int .i64) (.pair (.list .str) (.pair (.list .bool) (.int .i64))))))) (.int .i64)))))) y0.1 y0.2.2.1).2.2.1.1.2.2.2.2.1, ((Ty.rd (t := (.pair (.int .i64) (.pair (.int .i64) (.pair (.pair (.pair (.int .i64) (.pair .str (.pair .str (.pair (.int .i64) (.pair (.list (.int .i64)) (.int .i64)))))) (.pair (.int .i64) (.pair .str (.pair .str (.pair (.int .i64) (.pair (.list (.int .i64)) (.int .i64))))))) (.pair (.list (.pair (.int .i64) (.pair (.int .i64) (.pair (.int .i64) (.pair (.list .str) (.pair (.list .bool) (.int .i64))))))) (.int .i64)))))) y0.1 y0.2.2.1).2.2.1.1.2.2.2.2.2, ((Ty.rd (t := (.pair (.int .i64) (.pair (.int .i64) (.pair (.pair (.pair (.int .i64) (.pair .str (.pair .str (.pair (.int .i64) (.pair (.list (.int .i64)) (.int .i64)))))) (.pair (.int .i64) (.pair .str (.pair .str (.pair (.int .i64) (.pair (.list (.int .i64)) (.int .i64))))))) (.pair (.list (.pair (.int .i64) (.pair (.int .i64) (.pair (.int .i64) (.pair (.list .str) (.pair (.list .bool) (.int .i64))))))) (.int .i64)))))) y0.1 y0.2.2.1).2.2.1.2.1, ((Ty.rd (t := (.pair (.int .i64) (.pair (.int .i64) (.pair (.pair (.pair (.int .i64) (.pair .str (.pair .str (.pair (.int .i64) (.pair (.list (.int .i64)) (.int .i64)))))) (.pair (.int .i64) (.pair .str (.pair .str (.pair (.int .i64) (.pair (.list (.int .i64)) (.int .i64))))))) (.pair (.list (.pair (.int .i64) (.pair (.int .i64) (.pair (.int .i64) (.pair (.list .str) (.pair (.list .bool) (.int .i64))))))) (.int .i64)))))) y0.1 y0.2.2.1).2.2.1.2.2.1, ((Ty.rd (t := (.pair (.int .i64) (.pair (.int .i64) (.pair (.pair (.pair (.int .i64) (.pair .str (.pair .str (.pair (.int .i64) (.pair (.list (.int .i64)) (.int .i64)))))) (.pair (.int .i64) (.pair .str (.pair .str (.pair (.int .i64) (.pair (.list (.int .i64)) (.int .i64))))))) (.pair (.list (.pair (.int .i64) (.pair (.int .i64) (.pair (.int .i64) (.pair (.list .str) (.pair (.list .bool) (.int .i64))))))) (.int .i64)))))) y0.1 y0.2.2.1).2.2.1.2.2.2.1, ((Ty.rd (t := (.pair (.int .i64) (.pair (.int .i64) (.pair (.pair (.pair (.int .i64) (.pair .str (.pair .str (.pair (.int .i64) (.pair (.list (.int .i64)) (.int .i64)))))) (.pair (.int .i64) (.pair .str (.pair .str (.pair (.int .i64) (.pair (.list (.int .i64)) (.int .i64))))))) (.pair (.list (.pair (.int .i64) (.pair (.int .i64) (.pair (.int .i64) (.pair (.list .str) (.pair (.list .bool) (.int .i64))))))) (.int .i64)))))) y0.1 y0.2.2.1).2.2.1.2.2.2.2.1, ((Ty.rd (t := (.pair (.int .i64) (.pair (.int .i64) (.pair (.pair (.pair (.int .i64) (.pair .str (.pair .str (.pair (.int .i64) (.pair (.list (.int .i64)) (.int .i64)))))) (.pair (.int .i64) (.pair .str (.pair .str (.pair (.int .i64) (.pair (.list (.int .i64)) (.int .i64))))))) (.pair (.list (.pair (.int .i64) (.pair (.int .i64) (.pair (.int .i64) (.pair (.list .str) (.pair (.list .bool) (.int .i64))))))) (.int .i64)))))) y0.1 y0.2.2.1).2.2.1.2.2.2.2.2.1, ((Ty.rd (t := (.pair (.int .i64) (.pair (.int .i64) (.pair (.pair (.pair (.int .i64) (.pair .str (.pair .str (.pair (.int .i64) (.pair (.list (.int .i64)) (.int .i64)))))) (.pair (.int .i64) (.pair .str (.pair .str (.pair (.int .i64) (.pair (.list (.int .i64)) (.int .i64))))))) (.pair (.list (.pair (.int .i64) (.pair (.int .i64) (.pair (.int .i64) (.pair (.list .str) (.pair (.list .bool) (.int .i64))))))) (.int .i64)))))) y0.1 y0.2.2.1).2.2.1.2.2.2.2.2.2, ((Ty.rd (t := (.pair (.int .i64) (.pair (.int .i64) (.pair (.pair (.pair (.int .i64) (.pair .str (.pair .str (.pair (.int .i64) (.pair (.list (.int .i64)) (.int .i64)))))) (.pair (.int .i64) (.pair .str (.pair .str (.pair (.int .i64) (.pair (.list (.int .i64)) (.int .i64))))))) (.pair (.list (.pair (.int .i64) (.pair (.int .i64) (.pair (.int .i64) (.pair (.list .str) (.pair (.list .bool) (.int .i64))))))) (.int .i64)))))) y0.1 y0.2.2.1).2.2.2.1, ((Ty.rd (t := (.pair (.int .i64) (.pair (.int .i64) (.pair (.pair (.pair (.int .i64) (.pair .str (.pair .str (.pair (.int .i64) (.pair (.list (.int .i64)) (.int .i64)))))) (.pair (.int .i64) (.pair .str (.pair .str (.pair (.int .i64) (.pair (.list (.int .i64)) (.int .i64))))))) (.pair (.list (.pair (.int .i64) (.pair (.int .i64) (.pair (.int .i64) (.pair (.list .str) (.pair (.list .bool) (.int .i64))))))) (.int .i64)))))) y0.1 y0.2.2.1).2.2.2.2, ())))))))))))))))), ())).bind fun p1 =>
(if 0 ≤ y0.2.2.1 ∧ y0.2.2.1 < (List.length y0.2.1 : Int) then
(rec0 (y0.1, ((List.set y0.2.1 (Int.toNat y0.2.2.1) (p1.1.1, (p1.1.2.1, (((p1.1.2.2.1, (p1.1.2.2.2.1, (p1.1.2.2.2.2.1, (p1.1.2.2.2.2.2.1, (p1.1.2.2.2.2.2.2.1, p1.1.2.2.2.2.2.2.2.1))))), (p1.1.2.2.2.2.2.2.2.2.1, (p1.1.2.2.2.2.2.2.2.2.2.1, (p1.1.2.2.2.2.2.2.2.2.2.2.1, (p1.1.2.2.2.2.2.2.2.2.2.2.2.1, (p1.1.2.2.2.2.2.2.2.2.2.2.2.2.1, p1.1.2.2.2.2.2.2.2.2.2.2.2.2.2.1)))))), (p1.1.2.2.2.2.2.2.2.2.2.2.2.2.2.2.1, p1.1.2.2.2.2.2.2.2.2.2.2.2.2.2.2.2.1))))), ((wi64 (y0.2.2.1 + (1 : Int))), ()))))
else none))
else none)
else
((fun (z1 : (List (Int × Int × ((Int × ByteArray × ByteArray × Int × List (Int) × Int) × Int × ByteArray × ByteArray × Int × List (Int) × Int) × List (Int × Int × Int × List (ByteArray) × List (Bool) × Int) × Int)) × Unit) =>
some (z1.1, ((), ()))) (y0.2.1, ())))) k (x.1, ((List.replicate (Int.toNat (List.length x.1 : Int)) ((0 : Int), ((0 : Int), ((((0 : Int), ((⟨#[]⟩ : ByteArray), ((⟨#[]⟩ : ByteArray), ((0 : Int), ([], (0 : Int)))))), ((0 : Int), ((⟨#[]⟩ : ByteArray), ((⟨#[]⟩ : ByteArray), ((0 : Int), ([], (0 : Int))))))), ([], (0 : Int)))))), ((0 : Int), ()))))
else none)
else none)
theorem t_w_toUserS (k : Nat) (x) : evF TTabO k [⟨31, 0, (.cons yP4 .nil), yP16, w_toUser k⟩] [(0, ⟨[0, 3, 4], (.cons (.il true yT0) (.cons (.own false 45 yT1) yP3))⟩, ⟨[3], (.cons (.own false 45 yT1) .nil)⟩)] Tryz.f78 (.cons (.il true yT0) .nil) (.own false 45 yT1) x = w_toUserS k x := by kernel_rfl
theorem e_w_toUserS [Names] (k : Nat) : EntryOk Tryz.prog ⟨78, 0, (.cons (.il true yT0) .nil), (.own false 45 yT1), w_toUserS k⟩ := entry_ok tokO (by intro e he; simp only [List.mem_cons, List.not_mem_nil, or_false] at he; rcases he with rfl <;> first | exact e_w_toUser k) (by kernel_rfl) (fn := Tryz.f78) (k := k) (es := [⟨31, 0, (.cons yP4 .nil), yP16, w_toUser k⟩]) (loops := [(0, ⟨[0, 3, 4], (.cons (.il true yT0) (.cons (.own false 45 yT1) yP3))⟩, ⟨[3], (.cons (.own false 45 yT1) .nil)⟩)]) (by kernel_rfl) (by kernel_rfl) (fun x r h => (t_w_toUserS k x).trans h)
def w_toHub (k : Nat) (x : (Int × Int × (List (Int × Int × Int)) × (List (Int × Int)) × (List ((Int × Int) × Int)) × (List (Int × Int × ((Int × ByteArray × ByteArray × Int × List (Int) × Int) × Int × ByteArray × ByteArray × Int × List (Int) × Int) × List (Int × Int × Int × List (ByteArray) × List (Bool) × Int) × Int)) × Unit) × Unit) : Option ((Int × Int × (List (Int × Int × Int)) × (List (Int × Int)) × (List ((Int × Int) × Int)) × (List (Int × Int × ((Int × ByteArray × ByteArray × Int × List (Int) × Int) × Int × ByteArray × ByteArray × Int × List (Int) × Int) × List (Int × Int × Int × List (ByteArray) × List (Bool) × Int) × Int)) × Unit) × Unit × Unit) :=
((w_toPool k ((x.1.1, (x.1.2.1, (x.1.2.2.1, (x.1.2.2.2.1, ())))), ())).bind fun p1 =>
((w_toRouteS k (x.1.2.2.2.2.1, ())).bind fun p2 =>
((w_toUserS k (x.1.2.2.2.2.2.1, ())).bind fun p3 =>
some ((p1.1.1, (p1.1.2.1, (p1.1.2.2.1, (p1.1.2.2.2.1, (p2.1, (p3.1, ())))))), ((), ())))))
theorem t_w_toHub (k : Nat) (x) : evF TTabO k [⟨76, 0, (.cons (.agg yP5) .nil), (.agg yP10), w_toPool k⟩, ⟨77, 0, (.cons yP21 .nil), yP20, w_toRouteS k⟩, ⟨78, 0, (.cons (.il true yT0) .nil), (.own false 45 yT1), w_toUserS k⟩] [] Tryz.f21 (.cons yP7 .nil) yP15 x = w_toHub k x := by kernel_rfl
theorem e_w_toHub [Names] (k : Nat) : EntryOk Tryz.prog ⟨21, 0, (.cons yP7 .nil), yP15, w_toHub k⟩ := entry_ok tokO (by intro e he; simp only [List.mem_cons, List.not_mem_nil, or_false] at he; rcases he with rfl | rfl | rfl <;> first | exact e_w_toPool k | exact e_w_toRouteS k | exact e_w_toUserS k) (by kernel_rfl) (fn := Tryz.f21) (k := k) (es := [⟨76, 0, (.cons (.agg yP5) .nil), (.agg yP10), w_toPool k⟩, ⟨77, 0, (.cons yP21 .nil), yP20, w_toRouteS k⟩, ⟨78, 0, (.cons (.il true yT0) .nil), (.own false 45 yT1), w_toUserS k⟩]) (loops := []) (by kernel_rfl) (by kernel_rfl) (fun x r h => (t_w_toHub k x).trans h)
def w_eqPrefix (k : Nat) (x : (Int × Int × Unit) × (Int × Int × Unit) × Unit) : Option (Bool × Unit × Unit × Unit) :=
(if (!decide (x.1.1 = x.2.1.1)) = true then
some (false, ((), ((), ())))
else
(if (!decide (x.1.2.1 = x.2.1.2.1)) = true then
some (false, ((), ((), ())))
else
some (true, ((), ((), ())))))
theorem t_w_eqPrefix (k : Nat) (x) : evF TTab k [] [] Tryz.f158 (.cons yP19 (.cons yP19 .nil)) .bool x = w_eqPrefix k x := by kernel_rfl
theorem e_w_eqPrefix [Names] (k : Nat) : EntryOk Tryz.prog ⟨158, 0, (.cons yP19 (.cons yP19 .nil)), .bool, w_eqPrefix k⟩ := entry_ok tok (by simp) (by kernel_rfl) (fn := Tryz.f158) (k := k) (es := []) (loops := []) (by kernel_rfl) (by kernel_rfl) (fun x r h => (t_w_eqPrefix k x).trans h)
def w_eqLease (k : Nat) (x : (Int × Int × Int × Unit) × (Int × Int × Int × Unit) × Unit) : Option (Bool × Unit × Unit × Unit) :=
(if (!decide (x.1.1 = x.2.1.1)) = true then
some (false, ((), ((), ())))
else
(if (!decide (x.1.2.1 = x.2.1.2.1)) = true then
some (false, ((), ((), ())))
else
(if (!decide (x.1.2.2.1 = x.2.1.2.2.1)) = true then
some (false, ((), ((), ())))
else
some (true, ((), ((), ()))))))
theorem t_w_eqLease (k : Nat) (x) : evF TTab k [] [] Tryz.f240 (.cons (.agg yP14) (.cons (.agg yP14) .nil)) .bool x = w_eqLease k x := by kernel_rfl
theorem e_w_eqLease [Names] (k : Nat) : EntryOk Tryz.prog ⟨240, 0, (.cons (.agg yP14) (.cons (.agg yP14) .nil)), .bool, w_eqLease k⟩ := entry_ok tok (by simp) (by kernel_rfl) (fn := Tryz.f240) (k := k) (es := []) (loops := []) (by kernel_rfl) (by kernel_rfl) (fun x r h => (t_w_eqLease k x).trans h)
def w_eqLeaseS (k : Nat) (x : (List (Int × Int × Int)) × (List (Int × Int × Int)) × Unit) : Option (Bool × Unit × Unit × Unit) :=
(if (!decide ((List.length x.1 : Int) = (List.length x.2.1 : Int))) = true then
some (false, ((), ((), ())))
else
(whileK (fun (rec0 : ((List (Int × Int × Int)) × (List (Int × Int × Int)) × Int × Unit) → Option _) (y0 : (List (Int × Int × Int)) × (List (Int × Int × Int)) × Int × Unit) =>
(if (decide (y0.2.2.1 < (List.length y0.1 : Int))) = true then
(if 0 ≤ y0.2.2.1 ∧ y0.2.2.1 < (List.length y0.1 : Int) then
(if 0 ≤ y0.2.2.1 ∧ y0.2.2.1 < (List.length y0.2.1 : Int) then
((w_eqLease k (((Ty.rd (t := (.pair (.int .i64) (.pair (.int .i64) (.int .i64)))) y0.1 y0.2.2.1).1, ((Ty.rd (t := (.pair (.int .i64) (.pair (.int .i64) (.int .i64)))) y0.1 y0.2.2.1).2.1, ((Ty.rd (t := (.pair (.int .i64) (.pair (.int .i64) (.int .i64)))) y0.1 y0.2.2.1).2.2, ()))), (((Ty.rd (t := (.pair (.int .i64) (.pair (.int .i64) (.int .i64)))) y0.2.1 y0.2.2.1).1, ((Ty.rd (t := (.pair (.int .i64) (.pair (.int .i64) (.int .i64)))) y0.2.1 y0.2.2.1).2.1, ((Ty.rd (t := (.pair (.int .i64) (.pair (.int .i64) (.int .i64)))) y0.2.1 y0.2.2.1).2.2, ()))), ()))).bind fun p1 =>
(if (!p1.1) = true then
some (false, ((), ((), ())))
else
(rec0 (y0.1, (y0.2.1, ((wi64 (y0.2.2.1 + (1 : Int))), ()))))))
else none)
else none)
else
((fun (z1 : Unit) =>
some (true, ((), ((), ())))) ()))) k (x.1, (x.2.1, ((0 : Int), ())))))
theorem t_w_eqLeaseS (k : Nat) (x) : evF TTab k [⟨240, 0, (.cons (.agg yP14) (.cons (.agg yP14) .nil)), .bool, w_eqLease k⟩] [(0, ⟨[0, 1, 5], (.cons yP24 (.cons yP24 yP3))⟩, ⟨[], .nil⟩)] Tryz.f159 (.cons yP24 (.cons yP24 .nil)) .bool x = w_eqLeaseS k x := by kernel_rfl
theorem e_w_eqLeaseS [Names] (k : Nat) : EntryOk Tryz.prog ⟨159, 0, (.cons yP24 (.cons yP24 .nil)), .bool, w_eqLeaseS k⟩ := entry_ok tok (by intro e he; simp only [List.mem_cons, List.not_mem_nil, or_false] at he; rcases he with rfl <;> first | exact e_w_eqLease k) (by kernel_rfl) (fn := Tryz.f159) (k := k) (es := [⟨240, 0, (.cons (.agg yP14) (.cons (.agg yP14) .nil)), .bool, w_eqLease k⟩]) (loops := [(0, ⟨[0, 1, 5], (.cons yP24 (.cons yP24 yP3))⟩, ⟨[], .nil⟩)]) (by kernel_rfl) (by kernel_rfl) (fun x r h => (t_w_eqLeaseS k x).trans h)
def w_eqFixed (k : Nat) (x : (Int × Int × Unit) × (Int × Int × Unit) × Unit) : Option (Bool × Unit × Unit × Unit) :=
(if (!decide (x.1.1 = x.2.1.1)) = true then
some (false, ((), ((), ())))
else
(if (!decide (x.1.2.1 = x.2.1.2.1)) = true then
some (false, ((), ((), ())))
else
some (true, ((), ((), ())))))
theorem t_w_eqFixed (k : Nat) (x) : evF TTab k [] [] Tryz.f241 (.cons yP19 (.cons yP19 .nil)) .bool x = w_eqFixed k x := by kernel_rfl
theorem e_w_eqFixed [Names] (k : Nat) : EntryOk Tryz.prog ⟨241, 0, (.cons yP19 (.cons yP19 .nil)), .bool, w_eqFixed k⟩ := entry_ok tok (by simp) (by kernel_rfl) (fn := Tryz.f241) (k := k) (es := []) (loops := []) (by kernel_rfl) (by kernel_rfl) (fun x r h => (t_w_eqFixed k x).trans h)
def w_eqFixedS (k : Nat) (x : (List (Int × Int)) × (List (Int × Int)) × Unit) : Option (Bool × Unit × Unit × Unit) :=
(if (!decide ((List.length x.1 : Int) = (List.length x.2.1 : Int))) = true then
some (false, ((), ((), ())))
else
(whileK (fun (rec0 : ((List (Int × Int)) × (List (Int × Int)) × Int × Unit) → Option _) (y0 : (List (Int × Int)) × (List (Int × Int)) × Int × Unit) =>
(if (decide (y0.2.2.1 < (List.length y0.1 : Int))) = true then
(if 0 ≤ y0.2.2.1 ∧ y0.2.2.1 < (List.length y0.1 : Int) then
(if 0 ≤ y0.2.2.1 ∧ y0.2.2.1 < (List.length y0.2.1 : Int) then
((w_eqFixed k (((Ty.rd (t := (.pair (.int .i64) (.int .i64))) y0.1 y0.2.2.1).1, ((Ty.rd (t := (.pair (.int .i64) (.int .i64))) y0.1 y0.2.2.1).2, ())), (((Ty.rd (t := (.pair (.int .i64) (.int .i64))) y0.2.1 y0.2.2.1).1, ((Ty.rd (t := (.pair (.int .i64) (.int .i64))) y0.2.1 y0.2.2.1).2, ())), ()))).bind fun p1 =>
(if (!p1.1) = true then
some (false, ((), ((), ())))
else
(rec0 (y0.1, (y0.2.1, ((wi64 (y0.2.2.1 + (1 : Int))), ()))))))
else none)
else none)
else
((fun (z1 : Unit) =>
some (true, ((), ((), ())))) ()))) k (x.1, (x.2.1, ((0 : Int), ())))))
theorem t_w_eqFixedS (k : Nat) (x) : evF TTab k [⟨241, 0, (.cons yP19 (.cons yP19 .nil)), .bool, w_eqFixed k⟩] [(0, ⟨[0, 1, 5], (.cons (.il true yT2) (.cons (.il true yT2) yP3))⟩, ⟨[], .nil⟩)] Tryz.f160 (.cons (.il true yT2) (.cons (.il true yT2) .nil)) .bool x = w_eqFixedS k x := by kernel_rfl
theorem e_w_eqFixedS [Names] (k : Nat) : EntryOk Tryz.prog ⟨160, 0, (.cons (.il true yT2) (.cons (.il true yT2) .nil)), .bool, w_eqFixedS k⟩ := entry_ok tok (by intro e he; simp only [List.mem_cons, List.not_mem_nil, or_false] at he; rcases he with rfl <;> first | exact e_w_eqFixed k) (by kernel_rfl) (fn := Tryz.f160) (k := k) (es := [⟨241, 0, (.cons yP19 (.cons yP19 .nil)), .bool, w_eqFixed k⟩]) (loops := [(0, ⟨[0, 1, 5], (.cons (.il true yT2) (.cons (.il true yT2) yP3))⟩, ⟨[], .nil⟩)]) (by kernel_rfl) (by kernel_rfl) (fun x r h => (t_w_eqFixedS k x).trans h)
def w_eqPool (k : Nat) (x : (Int × Int × (List (Int × Int × Int)) × (List (Int × Int)) × Unit) × (Int × Int × (List (Int × Int × Int)) × (List (Int × Int)) × Unit) × Unit) : Option (Bool × Unit × Unit × Unit) :=
((w_eqPrefix k ((x.1.1, (x.1.2.1, ())), ((x.2.1.1, (x.2.1.2.1, ())), ()))).bind fun p1 =>
(if (!p1.1) = true then
some (false, ((), ((), ())))
else
((w_eqLeaseS k (x.1.2.2.1, (x.2.1.2.2.1, ()))).bind fun p2 =>
(if (!p2.1) = true then
some (false, ((), ((), ())))
else
((w_eqFixedS k (x.1.2.2.2.1, (x.2.1.2.2.2.1, ()))).bind fun p3 =>
(if (!p3.1) = true then
some (false, ((), ((), ())))
else
some (true, ((), ((), ())))))))))
theorem t_w_eqPool (k : Nat) (x) : evF TTab k [⟨158, 0, (.cons yP19 (.cons yP19 .nil)), .bool, w_eqPrefix k⟩, ⟨159, 0, (.cons yP24 (.cons yP24 .nil)), .bool, w_eqLeaseS k⟩, ⟨160, 0, (.cons (.il true yT2) (.cons (.il true yT2) .nil)), .bool, w_eqFixedS k⟩] [] Tryz.f79 (.cons (.agg yP5) (.cons (.agg yP5) .nil)) .bool x = w_eqPool k x := by kernel_rfl
theorem e_w_eqPool [Names] (k : Nat) : EntryOk Tryz.prog ⟨79, 0, (.cons (.agg yP5) (.cons (.agg yP5) .nil)), .bool, w_eqPool k⟩ := entry_ok tok (by intro e he; simp only [List.mem_cons, List.not_mem_nil, or_false] at he; rcases he with rfl | rfl | rfl <;> first | exact e_w_eqPrefix k | exact e_w_eqLeaseS k | exact e_w_eqFixedS k) (by kernel_rfl) (fn := Tryz.f79) (k := k) (es := [⟨158, 0, (.cons yP19 (.cons yP19 .nil)), .bool, w_eqPrefix k⟩, ⟨159, 0, (.cons yP24 (.cons yP24 .nil)), .bool, w_eqLeaseS k⟩, ⟨160, 0, (.cons (.il true yT2) (.cons (.il true yT2) .nil)), .bool, w_eqFixedS k⟩]) (loops := []) (by kernel_rfl) (by kernel_rfl) (fun x r h => (t_w_eqPool k x).trans h)
def w_eqRoute (k : Nat) (x : (Int × Int × Int × Unit) × (Int × Int × Int × Unit) × Unit) : Option (Bool × Unit × Unit × Unit) :=
((w_eqPrefix k ((x.1.1, (x.1.2.1, ())), ((x.2.1.1, (x.2.1.2.1, ())), ()))).bind fun p1 =>
(if (!p1.1) = true then
some (false, ((), ((), ())))
else
(if (!decide (x.1.2.2.1 = x.2.1.2.2.1)) = true then
some (false, ((), ((), ())))
else
some (true, ((), ((), ()))))))
theorem t_w_eqRoute (k : Nat) (x) : evF TTab k [⟨158, 0, (.cons yP19 (.cons yP19 .nil)), .bool, w_eqPrefix k⟩] [] Tryz.f161 (.cons (.agg yP14) (.cons (.agg yP14) .nil)) .bool x = w_eqRoute k x := by kernel_rfl
theorem e_w_eqRoute [Names] (k : Nat) : EntryOk Tryz.prog ⟨161, 0, (.cons (.agg yP14) (.cons (.agg yP14) .nil)), .bool, w_eqRoute k⟩ := entry_ok tok (by intro e he; simp only [List.mem_cons, List.not_mem_nil, or_false] at he; rcases he with rfl <;> first | exact e_w_eqPrefix k) (by kernel_rfl) (fn := Tryz.f161) (k := k) (es := [⟨158, 0, (.cons yP19 (.cons yP19 .nil)), .bool, w_eqPrefix k⟩]) (loops := []) (by kernel_rfl) (by kernel_rfl) (fun x r h => (t_w_eqRoute k x).trans h)
def w_eqRouteS (k : Nat) (x : (List ((Int × Int) × Int)) × (List ((Int × Int) × Int)) × Unit) : Option (Bool × Unit × Unit × Unit) :=
(if (!decide ((List.length x.1 : Int) = (List.length x.2.1 : Int))) = true then
some (false, ((), ((), ())))
else
(whileK (fun (rec0 : ((List ((Int × Int) × Int)) × (List ((Int × Int) × Int)) × Int × Unit) → Option _) (y0 : (List ((Int × Int) × Int)) × (List ((Int × Int) × Int)) × Int × Unit) =>
(if (decide (y0.2.2.1 < (List.length y0.1 : Int))) = true then
(if 0 ≤ y0.2.2.1 ∧ y0.2.2.1 < (List.length y0.1 : Int) then
(if 0 ≤ y0.2.2.1 ∧ y0.2.2.1 < (List.length y0.2.1 : Int) then
((w_eqRoute k (((Ty.rd (t := (.pair (.pair (.int .i64) (.int .i64)) (.int .i64))) y0.1 y0.2.2.1).1.1, ((Ty.rd (t := (.pair (.pair (.int .i64) (.int .i64)) (.int .i64))) y0.1 y0.2.2.1).1.2, ((Ty.rd (t := (.pair (.pair (.int .i64) (.int .i64)) (.int .i64))) y0.1 y0.2.2.1).2, ()))), (((Ty.rd (t := (.pair (.pair (.int .i64) (.int .i64)) (.int .i64))) y0.2.1 y0.2.2.1).1.1, ((Ty.rd (t := (.pair (.pair (.int .i64) (.int .i64)) (.int .i64))) y0.2.1 y0.2.2.1).1.2, ((Ty.rd (t := (.pair (.pair (.int .i64) (.int .i64)) (.int .i64))) y0.2.1 y0.2.2.1).2, ()))), ()))).bind fun p1 =>
(if (!p1.1) = true then
some (false, ((), ((), ())))
else
(rec0 (y0.1, (y0.2.1, ((wi64 (y0.2.2.1 + (1 : Int))), ()))))))
else none)
else none)
else
((fun (z1 : Unit) =>
some (true, ((), ((), ())))) ()))) k (x.1, (x.2.1, ((0 : Int), ())))))
theorem t_w_eqRouteS (k : Nat) (x) : evF TTab k [⟨161, 0, (.cons (.agg yP14) (.cons (.agg yP14) .nil)), .bool, w_eqRoute k⟩] [(0, ⟨[0, 1, 5], (.cons yP21 (.cons yP21 yP3))⟩, ⟨[], .nil⟩)] Tryz.f80 (.cons yP21 (.cons yP21 .nil)) .bool x = w_eqRouteS k x := by kernel_rfl
theorem e_w_eqRouteS [Names] (k : Nat) : EntryOk Tryz.prog ⟨80, 0, (.cons yP21 (.cons yP21 .nil)), .bool, w_eqRouteS k⟩ := entry_ok tok (by intro e he; simp only [List.mem_cons, List.not_mem_nil, or_false] at he; rcases he with rfl <;> first | exact e_w_eqRoute k) (by kernel_rfl) (fn := Tryz.f80) (k := k) (es := [⟨161, 0, (.cons (.agg yP14) (.cons (.agg yP14) .nil)), .bool, w_eqRoute k⟩]) (loops := [(0, ⟨[0, 1, 5], (.cons yP21 (.cons yP21 yP3))⟩, ⟨[], .nil⟩)]) (by kernel_rfl) (by kernel_rfl) (fun x r h => (t_w_eqRouteS k x).trans h)
def w_eqIntS (k : Nat) (x : List (Int) × List (Int) × Unit) : Option (Bool × Unit × Unit × Unit) :=
(if (!decide ((List.length x.1 : Int) = (List.length x.2.1 : Int))) = true then
some (false, ((), ((), ())))
else
(whileK (fun (rec0 : (List (Int) × List (Int) × Int × Unit) → Option _) (y0 : List (Int) × List (Int) × Int × Unit) =>
(if (decide (y0.2.2.1 < (List.length y0.1 : Int))) = true then
(if 0 ≤ y0.2.2.1 ∧ y0.2.2.1 < (List.length y0.1 : Int) then
(if 0 ≤ y0.2.2.1 ∧ y0.2.2.1 < (List.length y0.2.1 : Int) then
(if (!decide ((Ty.rd (t := (.int .i64)) y0.1 y0.2.2.1) = (Ty.rd (t := (.int .i64)) y0.2.1 y0.2.2.1))) = true then
some (false, ((), ((), ())))
else
(rec0 (y0.1, (y0.2.1, ((wi64 (y0.2.2.1 + (1 : Int))), ())))))
else none)
else none)
else
((fun (z1 : Unit) =>
some (true, ((), ((), ())))) ()))) k (x.1, (x.2.1, ((0 : Int), ())))))
theorem t_w_eqIntS (k : Nat) (x) : evF TTab k [] [(0, ⟨[0, 1, 5], (.cons (.il true (.int .i64)) (.cons (.il true (.int .i64)) yP3))⟩, ⟨[], .nil⟩)] Tryz.f119 (.cons (.il true (.int .i64)) (.cons (.il true (.int .i64)) .nil)) .bool x = w_eqIntS k x := by kernel_rfl
theorem e_w_eqIntS [Names] (k : Nat) : EntryOk Tryz.prog ⟨119, 0, (.cons (.il true (.int .i64)) (.cons (.il true (.int .i64)) .nil)), .bool, w_eqIntS k⟩ := entry_ok tok (by simp) (by kernel_rfl) (fn := Tryz.f119) (k := k) (es := []) (loops := [(0, ⟨[0, 1, 5], (.cons (.il true (.int .i64)) (.cons (.il true (.int .i64)) yP3))⟩, ⟨[], .nil⟩)]) (by kernel_rfl) (by kernel_rfl) (fun x r h => (t_w_eqIntS k x).trans h)
def w_eqSlot (k : Nat) (x : (Int × ByteArray × ByteArray × Int × List (Int) × Int × Unit) × (Int × ByteArray × ByteArray × Int × List (Int) × Int × Unit) × Unit) : Option (Bool × Unit × Unit × Unit) :=
(if (!decide (x.1.1 = x.2.1.1)) = true then
some (false, ((), ((), ())))
else
(if (!decide (x.1.2.1 = x.2.1.2.1)) = true then
some (false, ((), ((), ())))
else
(if (!decide (x.1.2.2.1 = x.2.1.2.2.1)) = true then
some (false, ((), ((), ())))
else
(if (!decide (x.1.2.2.2.1 = x.2.1.2.2.2.1)) = true then
some (false, ((), ((), ())))
else
((w_eqIntS k (x.1.2.2.2.2.1, (x.2.1.2.2.2.2.1, ()))).bind fun p1 =>
(if (!p1.1) = true then
some (false, ((), ((), ())))
else
(if (!decide (x.1.2.2.2.2.2.1 = x.2.1.2.2.2.2.2.1)) = true then
some (false, ((), ((), ())))
else
some (true, ((), ((), ()))))))))))
theorem t_w_eqSlot (k : Nat) (x) : evF TTab k [⟨119, 0, (.cons (.il true (.int .i64)) (.cons (.il true (.int .i64)) .nil)), .bool, w_eqIntS k⟩] [] Tryz.f188 (.cons yP17 (.cons yP17 .nil)) .bool x = w_eqSlot k x := by kernel_rfl
theorem e_w_eqSlot [Names] (k : Nat) : EntryOk Tryz.prog ⟨188, 0, (.cons yP17 (.cons yP17 .nil)), .bool, w_eqSlot k⟩ := entry_ok tok (by intro e he; simp only [List.mem_cons, List.not_mem_nil, or_false] at he; rcases he with rfl <;> first | exact e_w_eqIntS k) (by kernel_rfl) (fn := Tryz.f188) (k := k) (es := [⟨119, 0, (.cons (.il true (.int .i64)) (.cons (.il true (.int .i64)) .nil)), .bool, w_eqIntS k⟩]) (loops := []) (by kernel_rfl) (by kernel_rfl) (fun x r h => (t_w_eqSlot k x).trans h)
def w_eqSlots (k : Nat) (x : (Int × ByteArray × ByteArray × Int × List (Int) × Int × Int × ByteArray × ByteArray × Int × List (Int) × Int × Unit) × (Int × ByteArray × ByteArray × Int × List (Int) × Int × Int × ByteArray × ByteArray × Int × List (Int) × Int × Unit) × Unit) : Option (Bool × Unit × Unit × Unit) :=
((w_eqSlot k ((x.1.1, (x.1.2.1, (x.1.2.2.1, (x.1.2.2.2.1, (x.1.2.2.2.2.1, (x.1.2.2.2.2.2.1, ())))))), ((x.2.1.1, (x.2.1.2.1, (x.2.1.2.2.1, (x.2.1.2.2.2.1, (x.2.1.2.2.2.2.1, (x.2.1.2.2.2.2.2.1, ())))))), ()))).bind fun p1 =>
(if (!p1.1) = true then
some (false, ((), ((), ())))
else
((w_eqSlot k ((x.1.2.2.2.2.2.2.1, (x.1.2.2.2.2.2.2.2.1, (x.1.2.2.2.2.2.2.2.2.1, (x.1.2.2.2.2.2.2.2.2.2.1, (x.1.2.2.2.2.2.2.2.2.2.2.1, (x.1.2.2.2.2.2.2.2.2.2.2.2.1, ())))))), ((x.2.1.2.2.2.2.2.2.1, (x.2.1.2.2.2.2.2.2.2.1, (x.2.1.2.2.2.2.2.2.2.2.1, (x.2.1.2.2.2.2.2.2.2.2.2.1, (x.2.1.2.2.2.2.2.2.2.2.2.2.1, (x.2.1.2.2.2.2.2.2.2.2.2.2.2.1, ())))))), ()))).bind fun p2 =>
(if (!p2.1) = true then
some (false, ((), ((), ())))
else
some (true, ((), ((), ())))))))
theorem t_w_eqSlots (k : Nat) (x) : evF TTab k [⟨188, 0, (.cons yP17 (.cons yP17 .nil)), .bool, w_eqSlot k⟩] [] Tryz.f102 (.cons yP8 (.cons yP8 .nil)) .bool x = w_eqSlots k x := by kernel_rfl
theorem e_w_eqSlots [Names] (k : Nat) : EntryOk Tryz.prog ⟨102, 0, (.cons yP8 (.cons yP8 .nil)), .bool, w_eqSlots k⟩ := entry_ok tok (by intro e he; simp only [List.mem_cons, List.not_mem_nil, or_false] at he; rcases he with rfl <;> first | exact e_w_eqSlot k) (by kernel_rfl) (fn := Tryz.f102) (k := k) (es := [⟨188, 0, (.cons yP17 (.cons yP17 .nil)), .bool, w_eqSlot k⟩]) (loops := []) (by kernel_rfl) (by kernel_rfl) (fun x r h => (t_w_eqSlots k x).trans h)
def w_eqStringS (k : Nat) (x : List (ByteArray) × List (ByteArray) × Unit) : Option (Bool × Unit × Unit × Unit) :=
(if (!decide ((List.length x.1 : Int) = (List.length x.2.1 : Int))) = true then
some (false, ((), ((), ())))
else
(whileK (fun (rec0 : (List (ByteArray) × List (ByteArray) × Int × Unit) → Option _) (y0 : List (ByteArray) × List (ByteArray) × Int × Unit) =>
(if (decide (y0.2.2.1 < (List.length y0.1 : Int))) = true then
(if 0 ≤ y0.2.2.1 ∧ y0.2.2.1 < (List.length y0.1 : Int) then
(if 0 ≤ y0.2.2.1 ∧ y0.2.2.1 < (List.length y0.2.1 : Int) then
(if (!decide ((Ty.rd (t := .str) y0.1 y0.2.2.1) = (Ty.rd (t := .str) y0.2.1 y0.2.2.1))) = true then
some (false, ((), ((), ())))
else
(rec0 (y0.1, (y0.2.1, ((wi64 (y0.2.2.1 + (1 : Int))), ())))))
else none)
else none)
else
((fun (z1 : Unit) =>
some (true, ((), ((), ())))) ()))) k (x.1, (x.2.1, ((0 : Int), ())))))
theorem t_w_eqStringS (k : Nat) (x) : evF TTab k [] [(0, ⟨[0, 1, 5], (.cons (.il true .str) (.cons (.il true .str) yP3))⟩, ⟨[], .nil⟩)] Tryz.f299 (.cons (.il true .str) (.cons (.il true .str) .nil)) .bool x = w_eqStringS k x := by kernel_rfl
theorem e_w_eqStringS [Names] (k : Nat) : EntryOk Tryz.prog ⟨299, 0, (.cons (.il true .str) (.cons (.il true .str) .nil)), .bool, w_eqStringS k⟩ := entry_ok tok (by simp) (by kernel_rfl) (fn := Tryz.f299) (k := k) (es := []) (loops := [(0, ⟨[0, 1, 5], (.cons (.il true .str) (.cons (.il true .str) yP3))⟩, ⟨[], .nil⟩)]) (by kernel_rfl) (by kernel_rfl) (fun x r h => (t_w_eqStringS k x).trans h)
def w_eqBoolS (k : Nat) (x : List (Bool) × List (Bool) × Unit) : Option (Bool × Unit × Unit × Unit) :=
(if (!decide ((List.length x.1 : Int) = (List.length x.2.1 : Int))) = true then
some (false, ((), ((), ())))
else
(whileK (fun (rec0 : (List (Bool) × List (Bool) × Int × Unit) → Option _) (y0 : List (Bool) × List (Bool) × Int × Unit) =>
(if (decide (y0.2.2.1 < (List.length y0.1 : Int))) = true then
(if 0 ≤ y0.2.2.1 ∧ y0.2.2.1 < (List.length y0.1 : Int) then
(if 0 ≤ y0.2.2.1 ∧ y0.2.2.1 < (List.length y0.2.1 : Int) then
(if (!decide ((Ty.rd (t := .bool) y0.1 y0.2.2.1) = (Ty.rd (t := .bool) y0.2.1 y0.2.2.1))) = true then
some (false, ((), ((), ())))
else
(rec0 (y0.1, (y0.2.1, ((wi64 (y0.2.2.1 + (1 : Int))), ())))))
else none)
else none)
else
((fun (z1 : Unit) =>
some (true, ((), ((), ())))) ()))) k (x.1, (x.2.1, ((0 : Int), ())))))
theorem t_w_eqBoolS (k : Nat) (x) : evF TTab k [] [(0, ⟨[0, 1, 5], (.cons (.il true .bool) (.cons (.il true .bool) yP3))⟩, ⟨[], .nil⟩)] Tryz.f300 (.cons (.il true .bool) (.cons (.il true .bool) .nil)) .bool x = w_eqBoolS k x := by kernel_rfl
theorem e_w_eqBoolS [Names] (k : Nat) : EntryOk Tryz.prog ⟨300, 0, (.cons (.il true .bool) (.cons (.il true .bool) .nil)), .bool, w_eqBoolS k⟩ := entry_ok tok (by simp) (by kernel_rfl) (fn := Tryz.f300) (k := k) (es := []) (loops := [(0, ⟨[0, 1, 5], (.cons (.il true .bool) (.cons (.il true .bool) yP3))⟩, ⟨[], .nil⟩)]) (by kernel_rfl) (by kernel_rfl) (fun x r h => (t_w_eqBoolS k x).trans h)
def w_eqHeld (k : Nat) (x : (Int × Int × Int × List (ByteArray) × List (Bool) × Int × Unit) × (Int × Int × Int × List (ByteArray) × List (Bool) × Int × Unit) × Unit) : Option (Bool × Unit × Unit × Unit) :=
(if (!decide (x.1.1 = x.2.1.1)) = true then
some (false, ((), ((), ())))
else
(if (!decide (x.1.2.1 = x.2.1.2.1)) = true then
some (false, ((), ((), ())))
else
(if (!decide (x.1.2.2.1 = x.2.1.2.2.1)) = true then
some (false, ((), ((), ())))
else
((w_eqStringS k (x.1.2.2.2.1, (x.2.1.2.2.2.1, ()))).bind fun p1 =>
(if (!p1.1) = true then
some (false, ((), ((), ())))
else
((w_eqBoolS k (x.1.2.2.2.2.1, (x.2.1.2.2.2.2.1, ()))).bind fun p2 =>
(if (!p2.1) = true then
some (false, ((), ((), ())))
else
(if (!decide (x.1.2.2.2.2.2.1 = x.2.1.2.2.2.2.2.1)) = true then
some (false, ((), ((), ())))
else
some (true, ((), ((), ())))))))))))
theorem t_w_eqHeld (k : Nat) (x) : evF TTab k [⟨299, 0, (.cons (.il true .str) (.cons (.il true .str) .nil)), .bool, w_eqStringS k⟩, ⟨300, 0, (.cons (.il true .bool) (.cons (.il true .bool) .nil)), .bool, w_eqBoolS k⟩] [] Tryz.f260 (.cons yP18 (.cons yP18 .nil)) .bool x = w_eqHeld k x := by kernel_rfl
theorem e_w_eqHeld [Names] (k : Nat) : EntryOk Tryz.prog ⟨260, 0, (.cons yP18 (.cons yP18 .nil)), .bool, w_eqHeld k⟩ := entry_ok tok (by intro e he; simp only [List.mem_cons, List.not_mem_nil, or_false] at he; rcases he with rfl | rfl <;> first | exact e_w_eqStringS k | exact e_w_eqBoolS k) (by kernel_rfl) (fn := Tryz.f260) (k := k) (es := [⟨299, 0, (.cons (.il true .str) (.cons (.il true .str) .nil)), .bool, w_eqStringS k⟩, ⟨300, 0, (.cons (.il true .bool) (.cons (.il true .bool) .nil)), .bool, w_eqBoolS k⟩]) (loops := []) (by kernel_rfl) (by kernel_rfl) (fun x r h => (t_w_eqHeld k x).trans h)
def w_eqHeldS (k : Nat) (x : (List (Int × Int × Int × List (ByteArray) × List (Bool) × Int)) × (List (Int × Int × Int × List (ByteArray) × List (Bool) × Int)) × Unit) : Option (Bool × Unit × Unit × Unit) :=
(if (!decide ((List.length x.1 : Int) = (List.length x.2.1 : Int))) = true then
some (false, ((), ((), ())))
else
(whileK (fun (rec0 : ((List (Int × Int × Int × List (ByteArray) × List (Bool) × Int)) × (List (Int × Int × Int × List (ByteArray) × List (Bool) × Int)) × Int × Unit) → Option _) (y0 : (List (Int × Int × Int × List (ByteArray) × List (Bool) × Int)) × (List (Int × Int × Int × List (ByteArray) × List (Bool) × Int)) × Int × Unit) =>
(if (decide (y0.2.2.1 < (List.length y0.1 : Int))) = true then
(if 0 ≤ y0.2.2.1 ∧ y0.2.2.1 < (List.length y0.1 : Int) then
(if 0 ≤ y0.2.2.1 ∧ y0.2.2.1 < (List.length y0.2.1 : Int) then
((w_eqHeld k (((Ty.rd (t := (.pair (.int .i64) (.pair (.int .i64) (.pair (.int .i64) (.pair (.list .str) (.pair (.list .bool) (.int .i64))))))) y0.1 y0.2.2.1).1, ((Ty.rd (t := (.pair (.int .i64) (.pair (.int .i64) (.pair (.int .i64) (.pair (.list .str) (.pair (.list .bool) (.int .i64))))))) y0.1 y0.2.2.1).2.1, ((Ty.rd (t := (.pair (.int .i64) (.pair (.int .i64) (.pair (.int .i64) (.pair (.list .str) (.pair (.list .bool) (.int .i64))))))) y0.1 y0.2.2.1).2.2.1, ((Ty.rd (t := (.pair (.int .i64) (.pair (.int .i64) (.pair (.int .i64) (.pair (.list .str) (.pair (.list .bool) (.int .i64))))))) y0.1 y0.2.2.1).2.2.2.1, ((Ty.rd (t := (.pair (.int .i64) (.pair (.int .i64) (.pair (.int .i64) (.pair (.list .str) (.pair (.list .bool) (.int .i64))))))) y0.1 y0.2.2.1).2.2.2.2.1, ((Ty.rd (t := (.pair (.int .i64) (.pair (.int .i64) (.pair (.int .i64) (.pair (.list .str) (.pair (.list .bool) (.int .i64))))))) y0.1 y0.2.2.1).2.2.2.2.2, ())))))), (((Ty.rd (t := (.pair (.int .i64) (.pair (.int .i64) (.pair (.int .i64) (.pair (.list .str) (.pair (.list .bool) (.int .i64))))))) y0.2.1 y0.2.2.1).1, ((Ty.rd (t := (.pair (.int .i64) (.pair (.int .i64) (.pair (.int .i64) (.pair (.list .str) (.pair (.list .bool) (.int .i64))))))) y0.2.1 y0.2.2.1).2.1, ((Ty.rd (t := (.pair (.int .i64) (.pair (.int .i64) (.pair (.int .i64) (.pair (.list .str) (.pair (.list .bool) (.int .i64))))))) y0.2.1 y0.2.2.1).2.2.1, ((Ty.rd (t := (.pair (.int .i64) (.pair (.int .i64) (.pair (.int .i64) (.pair (.list .str) (.pair (.list .bool) (.int .i64))))))) y0.2.1 y0.2.2.1).2.2.2.1, ((Ty.rd (t := (.pair (.int .i64) (.pair (.int .i64) (.pair (.int .i64) (.pair (.list .str) (.pair (.list .bool) (.int .i64))))))) y0.2.1 y0.2.2.1).2.2.2.2.1, ((Ty.rd (t := (.pair (.int .i64) (.pair (.int .i64) (.pair (.int .i64) (.pair (.list .str) (.pair (.list .bool) (.int .i64))))))) y0.2.1 y0.2.2.1).2.2.2.2.2, ())))))), ()))).bind fun p1 =>
(if (!p1.1) = true then
some (false, ((), ((), ())))
else
(rec0 (y0.1, (y0.2.1, ((wi64 (y0.2.2.1 + (1 : Int))), ()))))))
else none)
else none)
else
((fun (z1 : Unit) =>
some (true, ((), ((), ())))) ()))) k (x.1, (x.2.1, ((0 : Int), ())))))
theorem t_w_eqHeldS (k : Nat) (x) : evF TTabO k [⟨260, 0, (.cons yP18 (.cons yP18 .nil)), .bool, w_eqHeld k⟩] [(0, ⟨[0, 1, 5], (.cons (.il true yT6) (.cons (.il true yT6) yP3))⟩, ⟨[], .nil⟩)] Tryz.f189 (.cons (.il true yT6) yP29) .bool x = w_eqHeldS k x := by kernel_rfl
theorem e_w_eqHeldS [Names] (k : Nat) : EntryOk Tryz.prog ⟨189, 0, (.cons (.il true yT6) yP29), .bool, w_eqHeldS k⟩ := entry_ok tokO (by intro e he; simp only [List.mem_cons, List.not_mem_nil, or_false] at he; rcases he with rfl <;> first | exact e_w_eqHeld k) (by kernel_rfl) (fn := Tryz.f189) (k := k) (es := [⟨260, 0, (.cons yP18 (.cons yP18 .nil)), .bool, w_eqHeld k⟩]) (loops := [(0, ⟨[0, 1, 5], (.cons (.il true yT6) (.cons (.il true yT6) yP3))⟩, ⟨[], .nil⟩)]) (by kernel_rfl) (by kernel_rfl) (fun x r h => (t_w_eqHeldS k x).trans h)
def w_eqShelf (k : Nat) (x : ((List (Int × Int × Int × List (ByteArray) × List (Bool) × Int)) × Unit) × ((List (Int × Int × Int × List (ByteArray) × List (Bool) × Int)) × Unit) × Unit) : Option (Bool × Unit × Unit × Unit) :=
((w_eqHeldS k (x.1.1, (x.2.1.1, ()))).bind fun p1 =>
(if (!p1.1) = true then
some (false, ((), ((), ())))
else
some (true, ((), ((), ())))))
theorem t_w_eqShelf (k : Nat) (x) : evF TTabO k [⟨189, 0, (.cons (.il true yT6) yP29), .bool, w_eqHeldS k⟩] [] Tryz.f103 (.cons (.agg yP29) (.cons (.agg yP29) .nil)) .bool x = w_eqShelf k x := by kernel_rfl
theorem e_w_eqShelf [Names] (k : Nat) : EntryOk Tryz.prog ⟨103, 0, (.cons (.agg yP29) (.cons (.agg yP29) .nil)), .bool, w_eqShelf k⟩ := entry_ok tokO (by intro e he; simp only [List.mem_cons, List.not_mem_nil, or_false] at he; rcases he with rfl <;> first | exact e_w_eqHeldS k) (by kernel_rfl) (fn := Tryz.f103) (k := k) (es := [⟨189, 0, (.cons (.il true yT6) yP29), .bool, w_eqHeldS k⟩]) (loops := []) (by kernel_rfl) (by kernel_rfl) (fun x r h => (t_w_eqShelf k x).trans h)
def w_eqUser (k : Nat) (x : (Int × Int × Int × ByteArray × ByteArray × Int × List (Int) × Int × Int × ByteArray × ByteArray × Int × List (Int) × Int × (List (Int × Int × Int × List (ByteArray) × List (Bool) × Int)) × Int × Unit) × (Int × Int × Int × ByteArray × ByteArray × Int × List (Int) × Int × Int × ByteArray × ByteArray × Int × List (Int) × Int × (List (Int × Int × Int × List (ByteArray) × List (Bool) × Int)) × Int × Unit) × Unit) : Option (Bool × Unit × Unit × Unit) :=
(if (!decide (x.1.1 = x.2.1.1)) = true then
some (false, ((), ((), ())))
else
(if (!decide (x.1.2.1 = x.2.1.2.1)) = true then
some (false, ((), ((), ())))
else
((w_eqSlots k ((x.1.2.2.1, (x.1.2.2.2.1, (x.1.2.2.2.2.1, (x.1.2.2.2.2.2.1, (x.1.2.2.2.2.2.2.1, (x.1.2.2.2.2.2.2.2.1, (x.1.2.2.2.2.2.2.2.2.1, (x.1.2.2.2.2.2.2.2.2.2.1, (x.1.2.2.2.2.2.2.2.2.2.2.1, (x.1.2.2.2.2.2.2.2.2.2.2.2.1, (x.1.2.2.2.2.2.2.2.2.2.2.2.2.1, (x.1.2.2.2.2.2.2.2.2.2.2.2.2.2.1, ())))))))))))), ((x.2.1.2.2.1, (x.2.1.2.2.2.1, (x.2.1.2.2.2.2.1, (x.2.1.2.2.2.2.2.1, (x.2.1.2.2.2.2.2.2.1, (x.2.1.2.2.2.2.2.2.2.1, (x.2.1.2.2.2.2.2.2.2.2.1, (x.2.1.2.2.2.2.2.2.2.2.2.1, (x.2.1.2.2.2.2.2.2.2.2.2.2.1, (x.2.1.2.2.2.2.2.2.2.2.2.2.2.1, (x.2.1.2.2.2.2.2.2.2.2.2.2.2.2.1, (x.2.1.2.2.2.2.2.2.2.2.2.2.2.2.2.1, ())))))))))))), ()))).bind fun p1 =>
(if (!p1.1) = true then
some (false, ((), ((), ())))
else
((w_eqShelf k ((x.1.2.2.2.2.2.2.2.2.2.2.2.2.2.2.1, ()), ((x.2.1.2.2.2.2.2.2.2.2.2.2.2.2.2.2.1, ()), ()))).bind fun p2 =>
(if (!p2.1) = true then
some (false, ((), ((), ())))
else
(if (!decide (x.1.2.2.2.2.2.2.2.2.2.2.2.2.2.2.2.1 = x.2.1.2.2.2.2.2.2.2.2.2.2.2.2.2.2.2.1)) = true then
some (false, ((), ((), ())))
else
some (true, ((), ((), ()))))))))))
theorem t_w_eqUser (k : Nat) (x) : evF TTabO k [⟨102, 0, (.cons yP8 (.cons yP8 .nil)), .bool, w_eqSlots k⟩, ⟨103, 0, (.cons (.agg yP29) (.cons (.agg yP29) .nil)), .bool, w_eqShelf k⟩] [] Tryz.f34 (.cons yP4 (.cons yP4 .nil)) .bool x = w_eqUser k x := by kernel_rfl
theorem e_w_eqUser [Names] (k : Nat) : EntryOk Tryz.prog ⟨34, 0, (.cons yP4 (.cons yP4 .nil)), .bool, w_eqUser k⟩ := entry_ok tokO (by intro e he; simp only [List.mem_cons, List.not_mem_nil, or_false] at he; rcases he with rfl | rfl <;> first | exact e_w_eqSlots k | exact e_w_eqShelf k) (by kernel_rfl) (fn := Tryz.f34) (k := k) (es := [⟨102, 0, (.cons yP8 (.cons yP8 .nil)), .bool, w_eqSlots k⟩, ⟨103, 0, (.cons (.agg yP29) (.cons (.agg yP29) .nil)), .bool, w_eqShelf k⟩]) (loops := []) (by kernel_rfl) (by kernel_rfl) (fun x r h => (t_w_eqUser k x).trans h)
def w_eqUserS (k : Nat) (x : (List (Int × Int × ((Int × ByteArray × ByteArray × Int × List (Int) × Int) × Int × ByteArray × ByteArray × Int × List (Int) × Int) × List (Int × Int × Int × List (ByteArray) × List (Bool) × Int) × Int)) × (List (Int × Int × ((Int × ByteArray × ByteArray × Int × List (Int) × Int) × Int × ByteArray × ByteArray × Int × List (Int) × Int) × List (Int × Int × Int × List (ByteArray) × List (Bool) × Int) × Int)) × Unit) : Option (Bool × Unit × Unit × Unit) :=
(if (!decide ((List.length x.1 : Int) = (List.length x.2.1 : Int))) = true then
some (false, ((), ((), ())))
else
(whileK (fun (rec0 : ((List (Int × Int × ((Int × ByteArray × ByteArray × Int × List (Int) × Int) × Int × ByteArray × ByteArray × Int × List (Int) × Int) × List (Int × Int × Int × List (ByteArray) × List (Bool) × Int) × Int)) × (List (Int × Int × ((Int × ByteArray × ByteArray × Int × List (Int) × Int) × Int × ByteArray × ByteArray × Int × List (Int) × Int) × List (Int × Int × Int × List (ByteArray) × List (Bool) × Int) × Int)) × Int × Unit) → Option _) (y0 : (List (Int × Int × ((Int × ByteArray × ByteArray × Int × List (Int) × Int) × Int × ByteArray × ByteArray × Int × List (Int) × Int) × List (Int × Int × Int × List (ByteArray) × List (Bool) × Int) × Int)) × (List (Int × Int × ((Int × ByteArray × ByteArray × Int × List (Int) × Int) × Int × ByteArray × ByteArray × Int × List (Int) × Int) × List (Int × Int × Int × List (ByteArray) × List (Bool) × Int) × Int)) × Int × Unit) =>
(if (decide (y0.2.2.1 < (List.length y0.1 : Int))) = true then
(if 0 ≤ y0.2.2.1 ∧ y0.2.2.1 < (List.length y0.1 : Int) then
(if 0 ≤ y0.2.2.1 ∧ y0.2.2.1 < (List.length y0.2.1 : Int) then
((w_eqUser k (((Ty.rd (t := (.pair (.int .i64) (.pair (.int .i64) (.pair (.pair (.pair (.int .i64) (.pair .str (.pair .str (.pair (.int .i64) (.pair (.list (.int .i64)) (.int .i64)))))) (.pair (.int .i64) (.pair .str (.pair .str (.pair (.int .i64) (.pair (.list (.int .i64)) (.int .i64))))))) (.pair (.list (.pair (.int .i64) (.pair (.int .i64) (.pair (.int .i64) (.pair (.list .str) (.pair (.list .bool) (.int .i64))))))) (.int .i64)))))) y0.1 y0.2.2.1).1, ((Ty.rd (t := (.pair (.int .i64) (.pair (.int .i64) (.pair (.pair (.pair (.int .i64) (.pair .str (.pair .str (.pair (.int .i64) (.pair (.list (.int .i64)) (.int .i64)))))) (.pair (.int .i64) (.pair .str (.pair .str (.pair (.int .i64) (.pair (.list (.int .i64)) (.int .i64))))))) (.pair (.list (.pair (.int .i64) (.pair (.int .i64) (.pair (.int .i64) (.pair (.list .str) (.pair (.list .bool) (.int .i64))))))) (.int .i64)))))) y0.1 y0.2.2.1).2.1, ((Ty.rd (t := (.pair (.int .i64) (.pair (.int .i64) (.pair (.pair (.pair (.int .i64) (.pair .str (.pair .str (.pair (.int .i64) (.pair (.list (.int .i64)) (.int .i64)))))) (.pair (.int .i64) (.pair .str (.pair .str (.pair (.int .i64) (.pair (.list (.int .i64)) (.int .i64))))))) (.pair (.list (.pair (.int .i64) (.pair (.int .i64) (.pair (.int .i64) (.pair (.list .str) (.pair (.list .bool) (.int .i64))))))) (.int .i64)))))) y0.1 y0.2.2.1).2.2.1.1.1, ((Ty.rd (t := (.pair (.int .i64) (.pair (.int .i64) (.pair (.pair (.pair (.int .i64) (.pair .str (.pair .str (.pair (.int .i64) (.pair (.list (.int .i64)) (.int .i64)))))) (.pair (.int .i64) (.pair .str (.pair .str (.pair (.int .i64) (.pair (.list (.int .i64)) (.int .i64))))))) (.pair (.list (.pair (.int .i64) (.pair (.int .i64) (.pair (.int .i64) (.pair (.list .str) (.pair (.list .bool) (.int .i64))))))) (.int .i64)))))) y0.1 y0.2.2.1).2.2.1.1.2.1, ((Ty.rd (t := (.pair (.int .i64) (.pair (.int .i64) (.pair (.pair (.pair (.int .i64) (.pair .str (.pair .str (.pair (.int .i64) (.pair (.list (.int .i64)) (.int .i64)))))) (.pair (.int .i64) (.pair .str (.pair .str (.pair (.int .i64) (.pair (.list (.int .i64)) (.int .i64))))))) (.pair (.list (.pair (.int .i64) (.pair (.int .i64) (.pair (.int .i64) (.pair (.list .str) (.pair (.list .bool) (.int .i64))))))) (.int .i64)))))) y0.1 y0.2.2.1).2.2.1.1.2.2.1, ((Ty.rd (t := (.pair (.int .i64) (.pair (.int .i64) (.pair (.pair (.pair (.int .i64) (.pair .str (.pair .str (.pair (.int .i64) (.pair (.list (.int .i64)) (.int .i64)))))) (.pair (.int .i64) (.pair .str (.pair .str (.pair (.int .i64) (.pair (.list (.int .i64)) (.int .i64))))))) (.pair (.list (.pair (.int .i64) (.pair (.int .i64) (.pair (.int .i64) (.pair (.list .str) (.pair (.list .bool) (.int .i64))))))) (.int .i64)))))) y0.1 y0.2.2.1).2.2.1.1.2.2.2.1, ((Ty.rd (t := (.pair (.int .i64) (.pair (.int .i64) (.pair (.pair (.pair (.int .i64) (.pair .str (.pair .str (.pair (.int .i64) (.pair (.list (.int .i64)) (.int .i64)))))) (.pair (.int .i64) (.pair .str (.pair .str (.pair (.int .i64) (.pair (.list (.int .i64)) (.int .i64))))))) (.pair (.list (.pair (.int .i64) (.pair (.int .i64) (.pair (.int .i64) (.pair (.list .str) (.pair (.list .bool) (.int .i64))))))) (.int .i64)))))) y0.1 y0.2.2.1).2.2.1.1.2.2.2.2.1, ((Ty.rd (t := (.pair (.int .i64) (.pair (.int .i64) (.pair (.pair (.pair (.int .i64) (.pair .str (.pair .str (.pair (.int .i64) (.pair (.list (.int .i64)) (.int .i64)))))) (.pair (.int .i64) (.pair .str (.pair .str (.pair (.int .i64) (.pair (.list (.int .i64)) (.int .i64))))))) (.pair (.list (.pair (.int .i64) (.pair (.int .i64) (.pair (.int .i64) (.pair (.list .str) (.pair (.list .bool) (.int .i64))))))) (.int .i64)))))) y0.1 y0.2.2.1).2.2.1.1.2.2.2.2.2, ((Ty.rd (t := (.pair (.int .i64) (.pair (.int .i64) (.pair (.pair (.pair (.int .i64) (.pair .str (.pair .str (.pair (.int .i64) (.pair (.list (.int .i64)) (.int .i64)))))) (.pair (.int .i64) (.pair .str (.pair .str (.pair (.int .i64) (.pair (.list (.int .i64)) (.int .i64))))))) (.pair (.list (.pair (.int .i64) (.pair (.int .i64) (.pair (.int .i64) (.pair (.list .str) (.pair (.list .bool) (.int .i64))))))) (.int .i64)))))) y0.1 y0.2.2.1).2.2.1.2.1, ((Ty.rd (t := (.pair (.int .i64) (.pair (.int .i64) (.pair (.pair (.pair (.int .i64) (.pair .str (.pair .str (.pair (.int .i64) (.pair (.list (.int .i64)) (.int .i64)))))) (.pair (.int .i64) (.pair .str (.pair .str (.pair (.int .i64) (.pair (.list (.int .i64)) (.int .i64))))))) (.pair (.list (.pair (.int .i64) (.pair (.int .i64) (.pair (.int .i64) (.pair (.list .str) (.pair (.list .bool) (.int .i64))))))) (.int .i64)))))) y0.1 y0.2.2.1).2.2.1.2.2.1, ((Ty.rd (t := (.pair (.int .i64) (.pair (.int .i64) (.pair (.pair (.pair (.int .i64) (.pair .str (.pair .str (.pair (.int .i64) (.pair (.list (.int .i64)) (.int .i64)))))) (.pair (.int .i64) (.pair .str (.pair .str (.pair (.int .i64) (.pair (.list (.int .i64)) (.int .i64))))))) (.pair (.list (.pair (.int .i64) (.pair (.int .i64) (.pair (.int .i64) (.pair (.list .str) (.pair (.list .bool) (.int .i64))))))) (.int .i64)))))) y0.1 y0.2.2.1).2.2.1.2.2.2.1, ((Ty.rd (t := (.pair (.int .i64) (.pair (.int .i64) (.pair (.pair (.pair (.int .i64) (.pair .str (.pair .str (.pair (.int .i64) (.pair (.list (.int .i64)) (.int .i64)))))) (.pair (.int .i64) (.pair .str (.pair .str (.pair (.int .i64) (.pair (.list (.int .i64)) (.int .i64))))))) (.pair (.list (.pair (.int .i64) (.pair (.int .i64) (.pair (.int .i64) (.pair (.list .str) (.pair (.list .bool) (.int .i64))))))) (.int .i64)))))) y0.1 y0.2.2.1).2.2.1.2.2.2.2.1, ((Ty.rd (t := (.pair (.int .i64) (.pair (.int .i64) (.pair (.pair (.pair (.int .i64) (.pair .str (.pair .str (.pair (.int .i64) (.pair (.list (.int .i64)) (.int .i64)))))) (.pair (.int .i64) (.pair .str (.pair .str (.pair (.int .i64) (.pair (.list (.int .i64)) (.int .i64))))))) (.pair (.list (.pair (.int .i64) (.pair (.int .i64) (.pair (.int .i64) (.pair (.list .str) (.pair (.list .bool) (.int .i64))))))) (.int .i64)))))) y0.1 y0.2.2.1).2.2.1.2.2.2.2.2.1, ((Ty.rd (t := (.pair (.int .i64) (.pair (.int .i64) (.pair (.pair (.pair (.int .i64) (.pair .str (.pair .str (.pair (.int .i64) (.pair (.list (.int .i64)) (.int .i64)))))) (.pair (.int .i64) (.pair .str (.pair .str (.pair (.int .i64) (.pair (.list (.int .i64)) (.int .i64))))))) (.pair (.list (.pair (.int .i64) (.pair (.int .i64) (.pair (.int .i64) (.pair (.list .str) (.pair (.list .bool) (.int .i64))))))) (.int .i64)))))) y0.1 y0.2.2.1).2.2.1.2.2.2.2.2.2, ((Ty.rd (t := (.pair (.int .i64) (.pair (.int .i64) (.pair (.pair (.pair (.int .i64) (.pair .str (.pair .str (.pair (.int .i64) (.pair (.list (.int .i64)) (.int .i64)))))) (.pair (.int .i64) (.pair .str (.pair .str (.pair (.int .i64) (.pair (.list (.int .i64)) (.int .i64))))))) (.pair (.list (.pair (.int .i64) (.pair (.int .i64) (.pair (.int .i64) (.pair (.list .str) (.pair (.list .bool) (.int .i64))))))) (.int .i64)))))) y0.1 y0.2.2.1).2.2.2.1, ((Ty.rd (t := (.pair (.int .i64) (.pair (.int .i64) (.pair (.pair (.pair (.int .i64) (.pair .str (.pair .str (.pair (.int .i64) (.pair (.list (.int .i64)) (.int .i64)))))) (.pair (.int .i64) (.pair .str (.pair .str (.pair (.int .i64) (.pair (.list (.int .i64)) (.int .i64))))))) (.pair (.list (.pair (.int .i64) (.pair (.int .i64) (.pair (.int .i64) (.pair (.list .str) (.pair (.list .bool) (.int .i64))))))) (.int .i64)))))) y0.1 y0.2.2.1).2.2.2.2, ())))))))))))))))), (((Ty.rd (t := (.pair (.int .i64) (.pair (.int .i64) (.pair (.pair (.pair (.int .i64) (.pair .str (.pair .str (.pair (.int .i64) (.pair (.list (.int .i64)) (.int .i64)))))) (.pair (.int .i64) (.pair .str (.pair .str (.pair (.int .i64) (.pair (.list (.int .i64)) (.int .i64))))))) (.pair (.list (.pair (.int .i64) (.pair (.int .i64) (.pair (.int .i64) (.pair (.list .str) (.pair (.list .bool) (.int .i64))))))) (.int .i64)))))) y0.2.1 y0.2.2.1).1, ((Ty.rd (t := (.pair (.int .i64) (.pair (.int .i64) (.pair (.pair (.pair (.int .i64) (.pair .str (.pair .str (.pair (.int .i64) (.pair (.list (.int .i64)) (.int .i64)))))) (.pair (.int .i64) (.pair .str (.pair .str (.pair (.int .i64) (.pair (.list (.int .i64)) (.int .i64))))))) (.pair (.list (.pair (.int .i64) (.pair (.int .i64) (.pair (.int .i64) (.pair (.list .str) (.pair (.list .bool) (.int .i64))))))) (.int .i64)))))) y0.2.1 y0.2.2.1).2.1, ((Ty.rd (t := (.pair (.int .i64) (.pair (.int .i64) (.pair (.pair (.pair (.int .i64) (.pair .str (.pair .str (.pair (.int .i64) (.pair (.list (.int .i64)) (.int .i64)))))) (.pair (.int .i64) (.pair .str (.pair .str (.pair (.int .i64) (.pair (.list (.int .i64)) (.int .i64))))))) (.pair (.list (.pair (.int .i64) (.pair (.int .i64) (.pair (.int .i64) (.pair (.list .str) (.pair (.list .bool) (.int .i64))))))) (.int .i64)))))) y0.2.1 y0.2.2.1).2.2.1.1.1, ((Ty.rd (t := (.pair (.int .i64) (.pair (.int .i64) (.pair (.pair (.pair (.int .i64) (.pair .str (.pair .str (.pair (.int .i64) (.pair (.list (.int .i64)) (.int .i64)))))) (.pair (.int .i64) (.pair .str (.pair .str (.pair (.int .i64) (.pair (.list (.int .i64)) (.int .i64))))))) (.pair (.list (.pair (.int .i64) (.pair (.int .i64) (.pair (.int .i64) (.pair (.list .str) (.pair (.list .bool) (.int .i64))))))) (.int .i64)))))) y0.2.1 y0.2.2.1).2.2.1.1.2.1, ((Ty.rd (t := (.pair (.int .i64) (.pair (.int .i64) (.pair (.pair (.pair (.int .i64) (.pair .str (.pair .str (.pair (.int .i64) (.pair (.list (.int .i64)) (.int .i64)))))) (.pair (.int .i64) (.pair .str (.pair .str (.pair (.int .i64) (.pair (.list (.int .i64)) (.int .i64))))))) (.pair (.list (.pair (.int .i64) (.pair (.int .i64) (.pair (.int .i64) (.pair (.list .str) (.pair (.list .bool) (.int .i64))))))) (.int .i64)))))) y0.2.1 y0.2.2.1).2.2.1.1.2.2.1, ((Ty.rd (t := (.pair (.int .i64) (.pair (.int .i64) (.pair (.pair (.pair (.int .i64) (.pair .str (.pair .str (.pair (.int .i64) (.pair (.list (.int .i64)) (.int .i64)))))) (.pair (.int .i64) (.pair .str (.pair .str (.pair (.int .i64) (.pair (.list (.int .i64)) (.int .i64))))))) (.pair (.list (.pair (.int .i64) (.pair (.int .i64) (.pair (.int .i64) (.pair (.list .str) (.pair (.list .bool) (.int .i64))))))) (.int .i64)))))) y0.2.1 y0.2.2.1).2.2.1.1.2.2.2.1, ((Ty.rd (t := (.pair (.int .i64) (.pair (.int .i64) (.pair (.pair (.pair (.int .i64) (.pair .str (.pair .str (.pair (.int .i64) (.pair (.list (.int .i64)) (.int .i64)))))) (.pair (.int .i64) (.pair .str (.pair .str (.pair (.int .i64) (.pair (.list (.int .i64)) (.int .i64))))))) (.pair (.list (.pair (.int .i64) (.pair (.int .i64) (.pair (.int .i64) (.pair (.list .str) (.pair (.list .bool) (.int .i64))))))) (.int .i64)))))) y0.2.1 y0.2.2.1).2.2.1.1.2.2.2.2.1, ((Ty.rd (t := (.pair (.int .i64) (.pair (.int .i64) (.pair (.pair (.pair (.int .i64) (.pair .str (.pair .str (.pair (.int .i64) (.pair (.list (.int .i64)) (.int .i64)))))) (.pair (.int .i64) (.pair .str (.pair .str (.pair (.int .i64) (.pair (.list (.int .i64)) (.int .i64))))))) (.pair (.list (.pair (.int .i64) (.pair (.int .i64) (.pair (.int .i64) (.pair (.list .str) (.pair (.list .bool) (.int .i64))))))) (.int .i64)))))) y0.2.1 y0.2.2.1).2.2.1.1.2.2.2.2.2, ((Ty.rd (t := (.pair (.int .i64) (.pair (.int .i64) (.pair (.pair (.pair (.int .i64) (.pair .str (.pair .str (.pair (.int .i64) (.pair (.list (.int .i64)) (.int .i64)))))) (.pair (.int .i64) (.pair .str (.pair .str (.pair (.int .i64) (.pair (.list (.int .i64)) (.int .i64))))))) (.pair (.list (.pair (.int .i64) (.pair (.int .i64) (.pair (.int .i64) (.pair (.list .str) (.pair (.list .bool) (.int .i64))))))) (.int .i64)))))) y0.2.1 y0.2.2.1).2.2.1.2.1, ((Ty.rd (t := (.pair (.int .i64) (.pair (.int .i64) (.pair (.pair (.pair (.int .i64) (.pair .str (.pair .str (.pair (.int .i64) (.pair (.list (.int .i64)) (.int .i64)))))) (.pair (.int .i64) (.pair .str (.pair .str (.pair (.int .i64) (.pair (.list (.int .i64)) (.int .i64))))))) (.pair (.list (.pair (.int .i64) (.pair (.int .i64) (.pair (.int .i64) (.pair (.list .str) (.pair (.list .bool) (.int .i64))))))) (.int .i64)))))) y0.2.1 y0.2.2.1).2.2.1.2.2.1, ((Ty.rd (t := (.pair (.int .i64) (.pair (.int .i64) (.pair (.pair (.pair (.int .i64) (.pair .str (.pair .str (.pair (.int .i64) (.pair (.list (.int .i64)) (.int .i64)))))) (.pair (.int .i64) (.pair .str (.pair .str (.pair (.int .i64) (.pair (.list (.int .i64)) (.int .i64))))))) (.pair (.list (.pair (.int .i64) (.pair (.int .i64) (.pair (.int .i64) (.pair (.list .str) (.pair (.list .bool) (.int .i64))))))) (.int .i64)))))) y0.2.1 y0.2.2.1).2.2.1.2.2.2.1, ((Ty.rd (t := (.pair (.int .i64) (.pair (.int .i64) (.pair (.pair (.pair (.int .i64) (.pair .str (.pair .str (.pair (.int .i64) (.pair (.list (.int .i64)) (.int .i64)))))) (.pair (.int .i64) (.pair .str (.pair .str (.pair (.int .i64) (.pair (.list (.int .i64)) (.int .i64))))))) (.pair (.list (.pair (.int .i64) (.pair (.int .i64) (.pair (.int .i64) (.pair (.list .str) (.pair (.list .bool) (.int .i64))))))) (.int .i64)))))) y0.2.1 y0.2.2.1).2.2.1.2.2.2.2.1, ((Ty.rd (t := (.pair (.int .i64) (.pair (.int .i64) (.pair (.pair (.pair (.int .i64) (.pair .str (.pair .str (.pair (.int .i64) (.pair (.list (.int .i64)) (.int .i64)))))) (.pair (.int .i64) (.pair .str (.pair .str (.pair (.int .i64) (.pair (.list (.int .i64)) (.int .i64))))))) (.pair (.list (.pair (.int .i64) (.pair (.int .i64) (.pair (.int .i64) (.pair (.list .str) (.pair (.list .bool) (.int .i64))))))) (.int .i64)))))) y0.2.1 y0.2.2.1).2.2.1.2.2.2.2.2.1, ((Ty.rd (t := (.pair (.int .i64) (.pair (.int .i64) (.pair (.pair (.pair (.int .i64) (.pair .str (.pair .str (.pair (.int .i64) (.pair (.list (.int .i64)) (.int .i64)))))) (.pair (.int .i64) (.pair .str (.pair .str (.pair (.int .i64) (.pair (.list (.int .i64)) (.int .i64))))))) (.pair (.list (.pair (.int .i64) (.pair (.int .i64) (.pair (.int .i64) (.pair (.list .str) (.pair (.list .bool) (.int .i64))))))) (.int .i64)))))) y0.2.1 y0.2.2.1).2.2.1.2.2.2.2.2.2, ((Ty.rd (t := (.pair (.int .i64) (.pair (.int .i64) (.pair (.pair (.pair (.int .i64) (.pair .str (.pair .str (.pair (.int .i64) (.pair (.list (.int .i64)) (.int .i64)))))) (.pair (.int .i64) (.pair .str (.pair .str (.pair (.int .i64) (.pair (.list (.int .i64)) (.int .i64))))))) (.pair (.list (.pair (.int .i64) (.pair (.int .i64) (.pair (.int .i64) (.pair (.list .str) (.pair (.list .bool) (.int .i64))))))) (.int .i64)))))) y0.2.1 y0.2.2.1).2.2.2.1, ((Ty.rd (t := (.pair (.int .i64) (.pair (.int .i64) (.pair (.pair (.pair (.int .i64) (.pair .str (.pair .str (.pair (.int .i64) (.pair (.list (.int .i64)) (.int .i64)))))) (.pair (.int .i64) (.pair .str (.pair .str (.pair (.int .i64) (.pair (.list (.int .i64)) (.int .i64))))))) (.pair (.list (.pair (.int .i64) (.pair (.int .i64) (.pair (.int .i64) (.pair (.list .str) (.pair (.list .bool) (.int .i64))))))) (.int .i64)))))) y0.2.1 y0.2.2.1).2.2.2.2, ())))))))))))))))), ()))).bind fun p1 =>
(if (!p1.1) = true then
some (false, ((), ((), ())))
else
(rec0 (y0.1, (y0.2.1, ((wi64 (y0.2.2.1 + (1 : Int))), ()))))))
else none)
else none)
else
((fun (z1 : Unit) =>
some (true, ((), ((), ())))) ()))) k (x.1, (x.2.1, ((0 : Int), ())))))
theorem t_w_eqUserS (k : Nat) (x) : evF TTabO k [⟨34, 0, (.cons yP4 (.cons yP4 .nil)), .bool, w_eqUser k⟩] [(0, ⟨[0, 1, 5], (.cons (.il true yT0) (.cons (.il true yT0) yP3))⟩, ⟨[], .nil⟩)] Tryz.f81 (.cons (.il true yT0) (.cons (.il true yT0) .nil)) .bool x = w_eqUserS k x := by kernel_rfl
theorem e_w_eqUserS [Names] (k : Nat) : EntryOk Tryz.prog ⟨81, 0, (.cons (.il true yT0) (.cons (.il true yT0) .nil)), .bool, w_eqUserS k⟩ := entry_ok tokO (by intro e he; simp only [List.mem_cons, List.not_mem_nil, or_false] at he; rcases he with rfl <;> first | exact e_w_eqUser k) (by kernel_rfl) (fn := Tryz.f81) (k := k) (es := [⟨34, 0, (.cons yP4 (.cons yP4 .nil)), .bool, w_eqUser k⟩]) (loops := [(0, ⟨[0, 1, 5], (.cons (.il true yT0) (.cons (.il true yT0) yP3))⟩, ⟨[], .nil⟩)]) (by kernel_rfl) (by kernel_rfl) (fun x r h => (t_w_eqUserS k x).trans h)
def w_eqHub (k : Nat) (x : (Int × Int × (List (Int × Int × Int)) × (List (Int × Int)) × (List ((Int × Int) × Int)) × (List (Int × Int × ((Int × ByteArray × ByteArray × Int × List (Int) × Int) × Int × ByteArray × ByteArray × Int × List (Int) × Int) × List (Int × Int × Int × List (ByteArray) × List (Bool) × Int) × Int)) × Unit) × (Int × Int × (List (Int × Int × Int)) × (List (Int × Int)) × (List ((Int × Int) × Int)) × (List (Int × Int × ((Int × ByteArray × ByteArray × Int × List (Int) × Int) × Int × ByteArray × ByteArray × Int × List (Int) × Int) × List (Int × Int × Int × List (ByteArray) × List (Bool) × Int) × Int)) × Unit) × Unit) : Option (Bool × Unit × Unit × Unit) :=
((w_eqPool k ((x.1.1, (x.1.2.1, (x.1.2.2.1, (x.1.2.2.2.1, ())))), ((x.2.1.1, (x.2.1.2.1, (x.2.1.2.2.1, (x.2.1.2.2.2.1, ())))), ()))).bind fun p1 =>
(if (!p1.1) = true then
some (false, ((), ((), ())))
else
((w_eqRouteS k (x.1.2.2.2.2.1, (x.2.1.2.2.2.2.1, ()))).bind fun p2 =>
(if (!p2.1) = true then
some (false, ((), ((), ())))
else
((w_eqUserS k (x.1.2.2.2.2.2.1, (x.2.1.2.2.2.2.2.1, ()))).bind fun p3 =>
(if (!p3.1) = true then
some (false, ((), ((), ())))
else
some (true, ((), ((), ())))))))))
theorem t_w_eqHub (k : Nat) (x) : evF TTabO k [⟨79, 0, (.cons (.agg yP5) (.cons (.agg yP5) .nil)), .bool, w_eqPool k⟩, ⟨80, 0, (.cons yP21 (.cons yP21 .nil)), .bool, w_eqRouteS k⟩, ⟨81, 0, (.cons (.il true yT0) (.cons (.il true yT0) .nil)), .bool, w_eqUserS k⟩] [] Tryz.f24 (.cons yP7 (.cons yP7 .nil)) .bool x = w_eqHub k x := by kernel_rfl
theorem e_w_eqHub [Names] (k : Nat) : EntryOk Tryz.prog ⟨24, 0, (.cons yP7 (.cons yP7 .nil)), .bool, w_eqHub k⟩ := entry_ok tokO (by intro e he; simp only [List.mem_cons, List.not_mem_nil, or_false] at he; rcases he with rfl | rfl | rfl <;> first | exact e_w_eqPool k | exact e_w_eqRouteS k | exact e_w_eqUserS k) (by kernel_rfl) (fn := Tryz.f24) (k := k) (es := [⟨79, 0, (.cons (.agg yP5) (.cons (.agg yP5) .nil)), .bool, w_eqPool k⟩, ⟨80, 0, (.cons yP21 (.cons yP21 .nil)), .bool, w_eqRouteS k⟩, ⟨81, 0, (.cons (.il true yT0) (.cons (.il true yT0) .nil)), .bool, w_eqUserS k⟩]) (loops := []) (by kernel_rfl) (by kernel_rfl) (fun x r h => (t_w_eqHub k x).trans h)
def w_markLeaseS (k : Nat) (x : (List (Int × Int × Int)) × Int × Unit) : Option (Int × (List (Int × Int × Int)) × Unit × Unit) :=
(whileK (fun (rec0 : ((List (Int × Int × Int)) × Int × Int × Unit) → Option _) (y0 : (List (Int × Int × Int)) × Int × Int × Unit) =>
(if (decide (y0.2.2.1 < (List.length y0.1 : Int))) = true then
(if 0 ≤ y0.2.2.1 ∧ y0.2.2.1 < (List.length y0.1 : Int) then
(if 0 ≤ y0.2.2.1 ∧ y0.2.2.1 < (List.length (List.set y0.1 (Int.toNat y0.2.2.1) (y0.2.1, (Ty.rd (t := (.pair (.int .i64) (.pair (.int .i64) (.int .i64)))) y0.1 y0.2.2.1).2)) : Int) then
(jn (List.set (List.set y0.1 (Int.toNat y0.2.2.1) (y0.2.1, (Ty.rd (t := (.pair (.int .i64) (.pair (.int .i64) (.int .i64)))) y0.1 y0.2.2.1).2)) (Int.toNat y0.2.2.1) ((Ty.rd (t := (.pair (.int .i64) (.pair (.int .i64) (.int .i64)))) (List.set y0.1 (Int.toNat y0.2.2.1) (y0.2.1, (Ty.rd (t := (.pair (.int .i64) (.pair (.int .i64) (.int .i64)))) y0.1 y0.2.2.1).2)) y0.2.2.1).1, ((wi64 (y0.2.1 + (1 : Int))), (Ty.rd (t := (.pair (.int .i64) (.pair (.int .i64) (.int .i64)))) (List.set y0.1 (Int.toNat y0.2.2.1) (y0.2.1, (Ty.rd (t := (.pair (.int .i64) (.pair (.int .i64) (.int .i64)))) y0.1 y0.2.2.1).2)) y0.2.2.1).2.2))) (fun (q4 : List (Int × Int × Int)) =>
(if 0 ≤ y0.2.2.1 ∧ y0.2.2.1 < (List.length q4 : Int) then
(rec0 ((List.set q4 (Int.toNat y0.2.2.1) ((Ty.rd (t := (.pair (.int .i64) (.pair (.int .i64) (.int .i64)))) q4 y0.2.2.1).1, ((Ty.rd (t := (.pair (.int .i64) (.pair (.int .i64) (.int .i64)))) q4 y0.2.2.1).2.1, (wi64 ((wi64 (y0.2.1 + (1 : Int))) + (1 : Int)))))), ((wi64 ((wi64 ((wi64 (y0.2.1 + (1 : Int))) + (1 : Int))) + (1 : Int))), ((wi64 (y0.2.2.1 + (1 : Int))), ()))))
else none)))
else none)
else none)
else
((fun (z1 : (List (Int × Int × Int)) × Int × Unit) =>
some (z1.2.1, (z1.1, ((), ())))) (y0.1, (y0.2.1, ()))))) k (x.1, (x.2.1, ((0 : Int), ()))))
theorem t_w_markLeaseS (k : Nat) (x) : evF TTab k [] [(0, ⟨[0, 1, 5], (.cons yP26 (.cons (.int .i64) yP3))⟩, ⟨[0, 1], (.cons yP26 yP3)⟩)] Tryz.f162 (.cons (.mut false 135 (.pair (.int .i64) yT2)) yP3) (.int .i64) x = w_markLeaseS k x := by kernel_rfl
theorem e_w_markLeaseS [Names] (k : Nat) : EntryOk Tryz.prog ⟨162, 0, (.cons (.mut false 135 (.pair (.int .i64) yT2)) yP3), (.int .i64), w_markLeaseS k⟩ := entry_ok tok (by simp) (by kernel_rfl) (fn := Tryz.f162) (k := k) (es := []) (loops := [(0, ⟨[0, 1, 5], (.cons yP26 (.cons (.int .i64) yP3))⟩, ⟨[0, 1], (.cons yP26 yP3)⟩)]) (by kernel_rfl) (by kernel_rfl) (fun x r h => (t_w_markLeaseS k x).trans h)
end Go.Proofs.YtnfllchbpechlaaGreat
