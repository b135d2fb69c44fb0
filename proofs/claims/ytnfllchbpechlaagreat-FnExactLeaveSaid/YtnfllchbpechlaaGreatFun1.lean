import Derived.Test.YtnfllchbpechlaaGreatFun0
/- What functions of the program compute, as plain functions, and that their calls do so (part 1). Conditions: the plain function answers. -/
set_option linter.unusedVariables false
namespace Go.Proofs.YtnfllchbpechlaaGreat
open Go Go.Eng Go.Proofs
/- Names of types and patterns that come often. -/
abbrev yT6 : Ty := (.pair (.int .i64) (.pair (.int .i64) (.pair (.int .i64) (.pair (.list .str) (.pair (.list .bool) (.int .i64))))))
abbrev yT0 : Ty := (.pair (.int .i64) (.pair (.int .i64) (.pair (.pair (.pair (.int .i64) (.pair .str (.pair .str (.pair (.int .i64) (.pair (.list (.int .i64)) (.int .i64)))))) (.pair (.int .i64) (.pair .str (.pair .str (.pair (.int .i64) (.pair (.list (.int .i64)) (.int .i64))))))) (.pair (.list yT6) (.int .i64)))))
abbrev yT31 : Ty := (.pair (.int .i64) (.pair (.int .i64) (.pair (.int .i64) (.pair (.ols 9 .str) (.pair (.ols 4 .bool) (.int .i64))))))
abbrev yT1 : Ty := (.pair (.int .i64) (.pair (.int .i64) (.pair (.pair (.pair (.int .i64) (.pair .str (.pair .str (.pair (.int .i64) (.pair (.ols 3 (.int .i64)) (.int .i64)))))) (.pair (.int .i64) (.pair .str (.pair .str (.pair (.int .i64) (.pair (.ols 3 (.int .i64)) (.int .i64))))))) (.pair (.ols 229 yT31) (.int .i64)))))
abbrev yT2 : Ty := (.pair (.int .i64) (.int .i64))
abbrev yP3 : Pat := (.cons (.int .i64) .nil)
abbrev yP4 : Pat := (.agg (.cons (.int .i64) (.cons (.int .i64) (.cons (.int .i64) (.cons .str (.cons .str (.cons (.int .i64) (.cons (.il true (.int .i64)) (.cons (.int .i64) (.cons (.int .i64) (.cons .str (.cons .str (.cons (.int .i64) (.cons (.il true (.int .i64)) (.cons (.int .i64) (.cons (.il true yT6) yP3))))))))))))))))
abbrev yP24 : Pat := (.il true (.pair (.int .i64) yT2))
abbrev yP5 : Pat := (.cons (.int .i64) (.cons (.int .i64) (.cons yP24 (.cons (.il true yT2) .nil))))
abbrev yP21 : Pat := (.il true (.pair yT2 (.int .i64)))
abbrev yP7 : Pat := (.agg (.cons (.int .i64) (.cons (.int .i64) (.cons yP24 (.cons (.il true yT2) (.cons yP21 (.cons (.il true yT0) .nil)))))))
abbrev yP8 : Pat := (.agg (.cons (.int .i64) (.cons .str (.cons .str (.cons (.int .i64) (.cons (.il true (.int .i64)) (.cons (.int .i64) (.cons (.int .i64) (.cons .str (.cons .str (.cons (.int .i64) (.cons (.il true (.int .i64)) yP3))))))))))))
abbrev yP9 : Pat := (.own false 229 yT31)
abbrev yP26 : Pat := (.own false 135 (.pair (.int .i64) yT2))
abbrev yP10 : Pat := (.cons (.int .i64) (.cons (.int .i64) (.cons yP26 (.cons (.own false 252 yT2) .nil))))
abbrev yT11 : Ty := (.pair (.int .i64) (.pair (.int .i64) (.pair (.pair (.pair (.int .i64) (.pair .str (.pair .str (.pair (.int .i64) (.pair .nm (.int .i64)))))) (.pair (.int .i64) (.pair .str (.pair .str (.pair (.int .i64) (.pair .nm (.int .i64))))))) (.pair .nm (.int .i64)))))
abbrev yP20 : Pat := (.own false 53 (.pair yT2 (.int .i64)))
abbrev yP12 : Pat := (.cons (.int .i64) (.cons (.int .i64) (.cons yP26 (.cons (.own false 252 yT2) (.cons yP20 (.cons (.own false 45 yT0) .nil))))))
abbrev yP32 : Pat := (.own false 3 (.int .i64))
abbrev yP28 : Pat := (.cons (.int .i64) (.cons .str (.cons .str (.cons (.int .i64) (.cons yP32 yP3)))))
abbrev yP13 : Pat := (.agg (.cons (.int .i64) (.cons .str (.cons .str (.cons (.int .i64) (.cons yP32 (.cons (.int .i64) yP28)))))))
abbrev yP14 : Pat := (.cons (.int .i64) (.cons (.int .i64) yP3))
abbrev yP15 : Pat := (.agg (.cons (.int .i64) (.cons (.int .i64) (.cons yP26 (.cons (.own false 252 yT2) (.cons yP20 (.cons (.own false 45 yT1) .nil)))))))
abbrev yP16 : Pat := (.agg (.cons (.int .i64) (.cons (.int .i64) (.cons (.int .i64) (.cons .str (.cons .str (.cons (.int .i64) (.cons yP32 (.cons (.int .i64) (.cons (.int .i64) (.cons .str (.cons .str (.cons (.int .i64) (.cons yP32 (.cons (.int .i64) (.cons yP9 yP3))))))))))))))))
abbrev yP17 : Pat := (.agg (.cons (.int .i64) (.cons .str (.cons .str (.cons (.int .i64) (.cons (.il true (.int .i64)) yP3))))))
abbrev yP18 : Pat := (.agg (.cons (.int .i64) (.cons (.int .i64) (.cons (.int .i64) (.cons (.il true .str) (.cons (.il true .bool) yP3))))))
abbrev yP19 : Pat := (.agg (.cons (.int .i64) yP3))
abbrev yP23 : Pat := (.cons (.ptr 0 yP3) .nil)
abbrev yP22 : Pat := (.cons (.agg (.cons (.int .i64) (.cons (.int .i64) (.cons (.int .i64) (.cons .str (.cons .str (.cons (.int .i64) (.cons .nm (.cons (.int .i64) (.cons (.int .i64) (.cons .str (.cons .str (.cons (.int .i64) (.cons .nm (.cons (.int .i64) (.cons .nm yP3)))))))))))))))) yP23)
abbrev yP25 : Pat := (.agg (.cons (.int .i64) (.cons (.int .i64) (.cons (.int .i64) (.cons .str (.cons .str (.cons (.int .i64) (.cons yP32 (.cons (.int .i64) (.cons (.int .i64) (.cons .str (.cons .str (.cons (.int .i64) (.cons yP32 (.cons (.int .i64) (.cons (.own false 229 yT6) yP3))))))))))))))))
abbrev yP27 : Pat := (.cons (.int .i64) (.cons (.int .i64) (.cons (.il false (.pair (.int .i64) yT2)) (.cons (.il false yT2) (.cons (.il false (.pair yT2 (.int .i64))) (.cons (.il false yT0) .nil))))))
abbrev yP29 : Pat := (.cons (.il true yT6) .nil)
abbrev yP30 : Pat := (.cons (.mag (.cons (.int .i64) (.cons (.int .i64) (.cons (.mut false 135 (.pair (.int .i64) yT2)) (.cons (.mut false 252 yT2) (.cons (.mut false 53 (.pair yT2 (.int .i64))) (.cons (.mut false 45 yT1) .nil))))))) yP3)
abbrev yP33 : Pat := (.cons (.mag (.cons (.int .i64) (.cons (.int .i64) (.cons (.mut false 135 (.pair (.int .i64) yT2)) (.cons (.mut false 252 yT2) .nil))))) yP3)

def s_l01In (k : Nat) (x : Int × Int × Int × Unit) : Option (Bool × Unit × Unit × Unit × Unit) :=
(if (decide (x.2.1 ≤ x.1)) = true then
some ((decide (x.1 ≤ x.2.2.1)), ((), ((), ((), ()))))
else
some (false, ((), ((), ((), ())))))
theorem t_s_l01In (k : Nat) (x) : evF TTab k [] [] Tryz.f62 yP14 .bool x = s_l01In k x := by kernel_rfl
theorem e_s_l01In [Names] (k : Nat) : EntryOk Tryz.prog ⟨62, 0, yP14, .bool, s_l01In k⟩ := entry_ok tok (by simp) (by kernel_rfl) (fn := Tryz.f62) (k := k) (es := []) (loops := []) (by kernel_rfl) (by kernel_rfl) (fun x r h => (t_s_l01In k x).trans h)
def s_l17CopySlot (k : Nat) (x : (Int × ByteArray × ByteArray × Int × List (Int) × Int × Unit) × Unit) : Option ((Int × ByteArray × ByteArray × Int × List (Int) × Int × Unit) × Unit × Unit) :=
(if List.length ([] : List (Int)) + List.length x.1.2.2.2.2.1 ≤ capMax then
some ((x.1.1, (x.1.2.1, (x.1.2.2.1, (x.1.2.2.2.1, ((([] : List (Int)) ++ x.1.2.2.2.2.1), (x.1.2.2.2.2.2.1, ())))))), ((), ()))
else none)
theorem t_s_l17CopySlot (k : Nat) (x) : evF TTab k [] [] Tryz.f247 (.cons yP17 .nil) (.agg yP28) x = s_l17CopySlot k x := by kernel_rfl
theorem e_s_l17CopySlot [Names] (k : Nat) : EntryOk Tryz.prog ⟨247, 0, (.cons yP17 .nil), (.agg yP28), s_l17CopySlot k⟩ := entry_ok tok (by simp) (by kernel_rfl) (fn := Tryz.f247) (k := k) (es := []) (loops := []) (by kernel_rfl) (by kernel_rfl) (fun x r h => (t_s_l17CopySlot k x).trans h)
def s_l17Copy (k : Nat) (x : (Int × ByteArray × ByteArray × Int × List (Int) × Int × Int × ByteArray × ByteArray × Int × List (Int) × Int × Unit) × Unit) : Option ((Int × ByteArray × ByteArray × Int × List (Int) × Int × Int × ByteArray × ByteArray × Int × List (Int) × Int × Unit) × Unit × Unit) :=
((s_l17CopySlot k ((x.1.1, (x.1.2.1, (x.1.2.2.1, (x.1.2.2.2.1, (x.1.2.2.2.2.1, (x.1.2.2.2.2.2.1, ())))))), ())).bind fun p1 =>
((s_l17CopySlot k ((x.1.2.2.2.2.2.2.1, (x.1.2.2.2.2.2.2.2.1, (x.1.2.2.2.2.2.2.2.2.1, (x.1.2.2.2.2.2.2.2.2.2.1, (x.1.2.2.2.2.2.2.2.2.2.2.1, (x.1.2.2.2.2.2.2.2.2.2.2.2.1, ())))))), ())).bind fun p2 =>
some ((p1.1.1, (p1.1.2.1, (p1.1.2.2.1, (p1.1.2.2.2.1, (p1.1.2.2.2.2.1, (p1.1.2.2.2.2.2.1, (p2.1.1, (p2.1.2.1, (p2.1.2.2.1, (p2.1.2.2.2.1, (p2.1.2.2.2.2.1, (p2.1.2.2.2.2.2.1, ())))))))))))), ((), ()))))
theorem t_s_l17Copy (k : Nat) (x) : evF TTab k [⟨247, 0, (.cons yP17 .nil), (.agg yP28), s_l17CopySlot k⟩] [] Tryz.f170 (.cons yP8 .nil) yP13 x = s_l17Copy k x := by kernel_rfl
theorem e_s_l17Copy [Names] (k : Nat) : EntryOk Tryz.prog ⟨170, 0, (.cons yP8 .nil), yP13, s_l17Copy k⟩ := entry_ok tok (by intro e he; simp only [List.mem_cons, List.not_mem_nil, or_false] at he; rcases he with rfl <;> first | exact e_s_l17CopySlot k) (by kernel_rfl) (fn := Tryz.f170) (k := k) (es := [⟨247, 0, (.cons yP17 .nil), (.agg yP28), s_l17CopySlot k⟩]) (loops := []) (by kernel_rfl) (by kernel_rfl) (fun x r h => (t_s_l17Copy k x).trans h)
def s_l20Copy (k : Nat) (x : ((List (Int × Int × Int × List (ByteArray) × List (Bool) × Int)) × Unit) × Unit) : Option (((List (Int × Int × Int × List (ByteArray) × List (Bool) × Int)) × Unit) × Unit × Unit) :=
(whileK (fun (rec0 : (((List (Int × Int × Int × List (ByteArray) × List (Bool) × Int)) × Unit) × ((List (Int × Int × Int × List (ByteArray) × List (Bool) × Int)) × Unit) × ((List (Int × Int × Int × List (ByteArray) × List (Bool) × Int)) × Unit) × Int × Unit) → Option _) (y0 : ((List (Int × Int × Int × List (ByteArray) × List (Bool) × Int)) × Unit) × ((List (Int × Int × Int × List (ByteArray) × List (Bool) × Int)) × Unit) × ((List (Int × Int × Int × List (ByteArray) × List (Bool) × Int)) × Unit) × Int × Unit) =>
(if (decide (y0.2.2.2.1 < (List.length y0.1.1 : Int))) = true then
(if 0 ≤ y0.2.2.2.1 ∧ y0.2.2.2.1 < (List.length y0.1.1 : Int) then
(if List.length ([] : List (ByteArray)) + List.length (Ty.rd (t := (.pair (.int .i64) (.pair (.int .i64) (.pair (.int .i64) (.pair (.list .str) (.pair (.list .bool) (.int .i64))))))) y0.1.1 y0.2.2.2.1).2.2.2.1 ≤ capMax then
(if List.length ([] : List (Bool)) + List.length (Ty.rd (t := (.pair (.int .i64) (.pair (.int .i64) (.pair (.int .i64) (.pair (.list .str) (.pair (.list .bool) (.int .i64))))))) y0.1.1 y0.2.2.2.1).2.2.2.2.1 ≤ capMax then
(if List.length y0.2.2.1.1 + List.length ([((Ty.rd (t := (.pair (.int .i64) (.pair (.int .i64) (.pair (.int .i64) (.pair (.list .str) (.pair (.list .bool) (.int .i64))))))) y0.1.1 y0.2.2.2.1).1, ((Ty.rd (t := (.pair (.int .i64) (.pair (.int .i64) (.pair (.int .i64) (.pair (.list .str) (.pair (.list .bool) (.int .i64))))))) y0.1.1 y0.2.2.2.1).2.1, ((Ty.rd (t := (.pair (.int .i64) (.pair (.int .i64) (.pair (.int .i64) (.pair (.list .str) (.pair (.list .bool) (.int .i64))))))) y0.1.1 y0.2.2.2.1).2.2.1, ((([] : List (ByteArray)) ++ (Ty.rd (t := (.pair (.int .i64) (.pair (.int .i64) (.pair (.int .i64) (.pair (.list .str) (.pair (.list .bool) (.int .i64))))))) y0.1.1 y0.2.2.2.1).2.2.2.1), ((([] : List (Bool)) ++ (Ty.rd (t := (.pair (.int .i64) (.pair (.int .i64) (.pair (.int .i64) (.pair (.list .str) (.pair (.list .bool) (.int .i64))))))) y0.1.1 y0.2.2.2.1).2.2.2.2.1), (Ty.rd (t := (.pair (.int .i64) (.pair (.int .i64) (.pair (.int .i64) (.pair (.list .str) (.pair (.list .bool) (.int .i64))))))) y0.1.1 y0.2.2.2.1).2.2.2.2.2)))))] : List (Int × Int × Int × List (ByteArray) × List (Bool) × Int)) ≤ capMax then
(rec0 ((y0.1.1, ()), ((y0.2.1.1, ()), (((y0.2.2.1.1 ++ ([((Ty.rd (t := (.pair (.int .i64) (.pair (.int .i64) (.pair (.int .i64) (.pair (.list .str) (.pair (.list .bool) (.int .i64))))))) y0.1.1 y0.2.2.2.1).1, ((Ty.rd (t := (.pair (.int .i64) (.pair (.int .i64) (.pair (.int .i64) (.pair (.list .str) (.pair (.list .bool) (.int .i64))))))) y0.1.1 y0.2.2.2.1).2.1, ((Ty.rd (t := (.pair (.int .i64) (.pair (.int .i64) (.pair (.int .i64) (.pair (.list .str) (.pair (.list .bool) (.int .i64))))))) y0.1.1 y0.2.2.2.1).2.2.1, ((([] : List (ByteArray)) ++ (Ty.rd (t := (.pair (.int .i64) (.pair (.int .i64) (.pair (.int .i64) (.pair (.list .str) (.pair (.list .bool) (.int .i64))))))) y0.1.1 y0.2.2.2.1).2.2.2.1), ((([] : List (Bool)) ++ (Ty.rd (t := (.pair (.int .i64) (.pair (.int .i64) (.pair (.int .i64) (.pair (.list .str) (.pair (.list .bool) (.int .i64))))))) y0.1.1 y0.2.2.2.1).2.2.2.2.1), (Ty.rd (t := (.pair (.int .i64) (.pair (.int .i64) (.pair (.int .i64) (.pair (.list .str) (.pair (.list .bool) (.int .i64))))))) y0.1.1 y0.2.2.2.1).2.2.2.2.2)))))] : List (Int × Int × Int × List (ByteArray) × List (Bool) × Int))), ()), ((wi64 (y0.2.2.2.1 + (1 : Int))), ())))))
else none)
else none)
else none)
else none)
else
((fun (z1 : ((List (Int × Int × Int × List (ByteArray) × List (Bool) × Int)) × Unit) × ((List (Int × Int × Int × List (ByteArray) × List (Bool) × Int)) × Unit) × Unit) =>
some ((z1.2.1.1, ()), ((), ()))) ((y0.2.1.1, ()), ((y0.2.2.1.1, ()), ()))))) k ((x.1.1, ()), (([], ()), (([], ()), ((0 : Int), ())))))
theorem t_s_l20Copy (k : Nat) (x) : evF TTab k [] [(0, ⟨[1, 2, 3, 4], (.cons (.ptr 0 yP29) (.cons (.ptr 0 (.cons (.own false 229 yT6) .nil)) (.cons (.ptr 0 (.cons (.own false 229 yT6) .nil)) yP3)))⟩, ⟨[2, 3], (.cons (.ptr 0 (.cons (.own false 229 yT6) .nil)) (.cons (.ptr 0 (.cons (.own false 229 yT6) .nil)) .nil))⟩)] Tryz.f171 (.cons (.agg yP29) .nil) (.agg (.cons (.own false 229 yT6) .nil)) x = s_l20Copy k x := by kernel_rfl
theorem e_s_l20Copy [Names] (k : Nat) : EntryOk Tryz.prog ⟨171, 0, (.cons (.agg yP29) .nil), (.agg (.cons (.own false 229 yT6) .nil)), s_l20Copy k⟩ := entry_ok tok (by simp) (by kernel_rfl) (fn := Tryz.f171) (k := k) (es := []) (loops := [(0, ⟨[1, 2, 3, 4], (.cons (.ptr 0 yP29) (.cons (.ptr 0 (.cons (.own false 229 yT6) .nil)) (.cons (.ptr 0 (.cons (.own false 229 yT6) .nil)) yP3)))⟩, ⟨[2, 3], (.cons (.ptr 0 (.cons (.own false 229 yT6) .nil)) (.cons (.ptr 0 (.cons (.own false 229 yT6) .nil)) .nil))⟩)]) (by kernel_rfl) (by kernel_rfl) (fun x r h => (t_s_l20Copy k x).trans h)
def s_l22CopyUser (k : Nat) (x : (Int × Int × Int × ByteArray × ByteArray × Int × List (Int) × Int × Int × ByteArray × ByteArray × Int × List (Int) × Int × (List (Int × Int × Int × List (ByteArray) × List (Bool) × Int)) × Int × Unit) × Unit) : Option ((Int × Int × Int × ByteArray × ByteArray × Int × List (Int) × Int × Int × ByteArray × ByteArray × Int × List (Int) × Int × (List (Int × Int × Int × List (ByteArray) × List (Bool) × Int)) × Int × Unit) × Unit × Unit) :=
((s_l17Copy k ((x.1.2.2.1, (x.1.2.2.2.1, (x.1.2.2.2.2.1, (x.1.2.2.2.2.2.1, (x.1.2.2.2.2.2.2.1, (x.1.2.2.2.2.2.2.2.1, (x.1.2.2.2.2.2.2.2.2.1, (x.1.2.2.2.2.2.2.2.2.2.1, (x.1.2.2.2.2.2.2.2.2.2.2.1, (x.1.2.2.2.2.2.2.2.2.2.2.2.1, (x.1.2.2.2.2.2.2.2.2.2.2.2.2.1, (x.1.2.2.2.2.2.2.2.2.2.2.2.2.2.1, ())))))))))))), ())).bind fun p1 =>
((s_l20Copy k ((x.1.2.2.2.2.2.2.2.2.2.2.2.2.2.2.1, ()), ())).bind fun p2 =>
some ((x.1.1, (x.1.2.1, (p1.1.1, (p1.1.2.1, (p1.1.2.2.1, (p1.1.2.2.2.1, (p1.1.2.2.2.2.1, (p1.1.2.2.2.2.2.1, (p1.1.2.2.2.2.2.2.1, (p1.1.2.2.2.2.2.2.2.1, (p1.1.2.2.2.2.2.2.2.2.1, (p1.1.2.2.2.2.2.2.2.2.2.1, (p1.1.2.2.2.2.2.2.2.2.2.2.1, (p1.1.2.2.2.2.2.2.2.2.2.2.2.1, (p2.1.1, (x.1.2.2.2.2.2.2.2.2.2.2.2.2.2.2.2.1, ())))))))))))))))), ((), ()))))
theorem t_s_l22CopyUser (k : Nat) (x) : evF TTab k [⟨170, 0, (.cons yP8 .nil), yP13, s_l17Copy k⟩, ⟨171, 0, (.cons (.agg yP29) .nil), (.agg (.cons (.own false 229 yT6) .nil)), s_l20Copy k⟩] [] Tryz.f92 (.cons yP4 .nil) yP25 x = s_l22CopyUser k x := by kernel_rfl
theorem e_s_l22CopyUser [Names] (k : Nat) : EntryOk Tryz.prog ⟨92, 0, (.cons yP4 .nil), yP25, s_l22CopyUser k⟩ := entry_ok tok (by intro e he; simp only [List.mem_cons, List.not_mem_nil, or_false] at he; rcases he with rfl | rfl <;> first | exact e_s_l17Copy k | exact e_s_l20Copy k) (by kernel_rfl) (fn := Tryz.f92) (k := k) (es := [⟨170, 0, (.cons yP8 .nil), yP13, s_l17Copy k⟩, ⟨171, 0, (.cons (.agg yP29) .nil), (.agg (.cons (.own false 229 yT6) .nil)), s_l20Copy k⟩]) (loops := []) (by kernel_rfl) (by kernel_rfl) (fun x r h => (t_s_l22CopyUser k x).trans h)
def s_l22CopyUsers (k : Nat) (x : (List (Int × Int × ((Int × ByteArray × ByteArray × Int × List (Int) × Int) × Int × ByteArray × ByteArray × Int × List (Int) × Int) × List (Int × Int × Int × List (ByteArray) × List (Bool) × Int) × Int)) × Unit) : Option ((List (Int × Int × ((Int × ByteArray × ByteArray × Int × List (Int) × Int) × Int × ByteArray × ByteArray × Int × List (Int) × Int) × List (Int × Int × Int × List (ByteArray) × List (Bool) × Int) × Int)) × Unit × Unit) :=
(whileK (fun (rec0 : ((List (Int × Int × ((Int × ByteArray × ByteArray × Int × List (Int) × Int) × Int × ByteArray × ByteArray × Int × List (Int) × Int) × List (Int × Int × Int × List (ByteArray) × List (Bool) × Int) × Int)) × (List (Int × Int × ((Int × ByteArray × ByteArray × Int × List (Int) × Int) × Int × ByteArray × ByteArray × Int × List (Int) × Int) × List (Int × Int × Int × List (ByteArray) × List (Bool) × Int) × Int)) × Int × Unit) → Option _) (y0 : (List (Int × Int × ((Int × ByteArray × ByteArray × Int × List (Int) × Int) × Int × ByteArray × ByteArray × Int × List (Int) × Int) × List (Int × Int × Int × List (ByteArray) × List (Bool) × Int) × Int)) × (List (Int × Int × ((Int × ByteArray × ByteArray × Int × List (Int) × Int) × Int × ByteArray × ByteArray × Int × List (Int) × Int) × List (Int × Int × Int × List (ByteArray) × List (Bool) × Int) × Int)) × Int × Unit) =>
(if (decide (y0.2.2.1 < (List.length y0.1 : Int))) = true then
(if 0 ≤ y0.2.2.1 ∧ y0.2.2.1 < (List.length y0.1 : Int) then
((s_l22CopyUser k (((Ty.rd (t := (.pair (.int .i64) (.pair (.int .i64) (.pair (.pair (.pair (.int .i64) (.pair .str (.pair .str (.pair (.int .i64) (.pair (.list (.int .i64)) (.int .i64)))))) (.pair (.int .i64) (.pair .str (.pair .str (.pair (.int .i64) (.pair (.list (.int .i64)) (.int .i64))))))) (.pair (.list (.pair (.int .i64) (.pair (.int .i64) (.pair (.int .i64) (.pair (.list .str) (.pair (.list .bool) (.int .i64))))))) (.int .i64)))))) y0.1 y0.2.2.1).1, ((Ty.rd (t := (.pair (.int .i64) (.pair (.int .i64) (.pair (.pair (.pair (.int .i64) (.pair .str (.pair .str (.pair (.int .i64) (.pair (.list (.int .i64)) (.int .i64)))))) (.pair (.int .i64) (.pair .str (.pair .str (.pair (.int .i64) (.pair (.list (.int .i64)) (.int .i64))))))) (.pair (.list (.pair (.int .i64) (.pair (.int .i64) (.pair (.int .i64) (.pair (.list .str) (.pair (.list .bool) (.int .i64))))))) (.int .i64)))))) y0.1 y0.2.2.1).2.1, ((Ty.rd (t := (.pair (.int .i64) (.pair (.int .i64) (.pair (.pair (.pair (.int .i64) (.pair .str (.pair .str (.pair (.int .i64) (.pair (.list (.int .i64)) (.int .i64)))))) (.pair (.int .i64) (.pair .str (.pair .str (.pair (.int .i64) (.pair (.list (.int .i64)) (.int .i64))))))) (.pair (.list (.pair (.int .i64) (.pair (.int .i64) (.pair (.int .i64) (.pair (.list .str) (.pair (.list .bool) (.int .i64))))))) (.int .i64)))))) y0.1 y0.2.2.1).2.2.1.1.1, ((Ty.rd (t := (.pair (.int .i64) (.pair (.int .i64) (.pair (.pair (.pair (.int .i64) (.pair .str (.pair .str (.pair (.int .i64) (.pair (.list (.int .i64)) (.int .i64)))))) (.pair (.int .i64) (.pair .str (.pair .str (.pair (.int .i64) (.pair (.list (.int .i64)) (.int .i64))))))) (.pair (.list (.pair (.int .i64) (.pair (.int .i64) (.pair (.int .i64) (.pair (.list .str) (.pair (.list .bool) (.int .i64))))))) (.int .i64)))))) y0.1 y0.2.2.1).2.2.1.1.2.1, ((Ty.rd (t := (.pair (.int .i64) (.pair (.int .i64) (.pair (.pair (.pair (.int .i64) (.pair .str (.pair .str (.pair (.int .i64) (.pair (.list (.int .i64)) (.int .i64)))))) (.pair (.int .i64) (.pair .str (.pair .str (.pair (.int .i64) (.pair (.list (.int .i64)) (.int .i64))))))) (.pair (.list (.pair (.int .i64) (.pair (.int .i64) (.pair (.int .i64) (.pair (.list .str) (.pair (.list .bool) (.int .i64))))))) (.int .i64)))))) y0.1 y0.2.2.1).2.2.1.1.2.2.1, ((Ty.rd (t := (.pair (.int .i64) (.pair (.int .i64) (.pair (.pair (.pair (.int .i64) (.pair .str (.pair .str (.pair (.int .i64) (.pair (.list (.int .i64)) (.int .i64)))))) (.pair (.int .i64) (.pair .str (.pair .str (.pair (.int .i64) (.pair (.list (.int .i64)) (.int .i64))))))) (.pair (.list (.pair (.int .i64) (.pair (.int .i64) (.pair (.int .i64) (.pair (.list .str) (.pair (.list .bool) (.int .i64))))))) (.int .i64)))))) y0.1 y0.2.2.1).2.2.1.1.2.2.2.1, ((Ty.rd (t := (.pair (.int .i64) (.pair (.int .i64) (.pair (.pair (.pair (.int .i64) (.pair .str (.pair .str (.pair (.int .i64) (.pair (.list (.int .i64)) (.int .i64)))))) (.pair (.int .i64) (.pair .str (.pair .str (.pair (.int .i64) (.pair (.list (.int .i64)) (.int .i64))))))) (.pair (.list (.pair (.int .i64) (.pair (.int .i64) (.pair (.int .i64) (.pair (.list .str) (.pair (.list .bool) (.int .i64))))))) (.int .i64)))))) y0.1 y0.2.2.1).2.2.1.1.2.2.2.2.1, ((Ty.rd (t := (.pair (.int .i64) (.pair (.int .i64) (.pair (.pair (.pair (.int .i64) (.pair .str (.pair .str (.pair (.int .i64) (.pair (.list (.int .i64)) (.int .i64)))))) (.pair (.int .i64) (.pair .str (.pair .str (.pair (.int .i64) (.pair (.list (.int .i64)) (.int .i64))))))) (.pair (.list (.pair (.int .i64) (.pair (.int .i64) (.pair (.int .i64) (.pair (.list .str) (.pair (.list .bool) (.int .i64))))))) (.int .i64)))))) y0.1 y0.2.2.1).2.2.1.1.2.2.2.2.2, ((Ty.rd (t := (.pair (.int .i64) (.pair (.int .i64) (.pair (.pair (.pair (.int .i64) (.pair .str (.pair .str (.pair (.int .i64) (.pair (.list (.int .i64)) (.int .i64)))))) (.pair (.int .i64) (.pair .str (.pair .str (.pair (.int .i64) (.pair (.list (.int .i64)) (.int .i64))))))) (.pair (.list (.pair (.int .i64) (.pair (.int .i64) (.pair (.int .i64) (.pair (.list .str) (.pair (.list .bool) (.int .i64))))))) (.int .i64)))))) y0.1 y0.2.2.1).2.2.1.2.1, ((Ty.rd (t := (.pair (.int .i64) (.pair (.int .i64) (.pair (.pair (.pair (.int .i64) (.pair .str (.pair .str (.pair (.int .i64) (.pair (.list (.int .i64)) (.int .i64)))))) (.pair (.int .i64) (.pair .str (.pair .str (.pair (.int .i64) (.pair (.list (.int .i64)) (.int .i64))))))) (.pair (.list (.pair (.int .i64) (.pair (.int .i64) (.pair (.int .i64) (.pair (.list .str) (.pair (.list .bool) (.int .i64))))))) (.int .i64)))))) y0.1 y0.2.2.1).2.2.1.2.2.1, ((Ty.rd (t := (.pair (.int .i64) (.pair (.int .i64) (.pair (.pair (.pair (.int .i64) (.pair .str (.pair .str (.pair (.int .i64) (.pair (.list (.int .i64)) (.int .i64)))))) (.pair (.int .i64) (.pair .str (.pair .str (.pair (.int .i64) (.pair (.list (.int .i64)) (.int .i64))))))) (.pair (.list (.pair (.int .i64) (.pair (.int .i64) (.pair (.int .i64) (.pair (.list .str) (.pair (.list .bool) (.int .i64))))))) (.int .i64)))))) y0.1 y0.2.2.1).2.2.1.2.2.2.1, ((Ty.rd (t := (.pair (.int .i64) (.pair (.int .i64) (.pair (.pair (.pair (.int .i64) (.pair .str (.pair .str (.pair (.int .i64) (.pair (.list (.int .i64)) (.int .i64)))))) (.pair (.int .i64) (.pair .str (.pair .str (.pair (.int .i64) (.pair (.list (.int .i64)) (.int .i64))))))) (.pair (.list (.pair (.int .i64) (.pair (.int .i64) (.pair (.int .i64) (.pair (.list .str) (.pair (.list .bool) (.int .i64))))))) (.int .i64)))))) y0.1 y0.2.2.1).2.2.1.2.2.2.2.1, ((Ty.rd (t := (.pair (.int .i64) (.pair (.int .i64) (.pair (.pair (.pair (.int .i64) (.pair .str (.pair .str (.pair (.int .i64) (.pair (.list (.int .i64)) (.int .i64)))))) (.pair (.int .i64) (.pair .str (.pair .str (.pair (.int .i64) (.pair (.list (.int .i64)) (.int .i64))))))) (.pair (.list (.pair (.int .i64) (.pair (.int .i64) (.pair (.int .i64) (.pair (.list .str) (.pair (.list .bool) (.int .i64))))))) (.int .i64)))))) y0.1 y0.2.2.1).2.2.1.2.2.2.2.2.1, ((Ty.rd (t := (.pair (.int .i64) (.pair (.int .i64) (.pair (.pair (.pair (.int .i64) (.pair .str (.pair .str (.pair (.int .i64) (.pair (.list (.int .i64)) (.int .i64)))))) (.pair (.int .i64) (.pair .str (.pair .str (.pair (.int .i64) (.pair (.list (.int .i64)) (.int .i64))))))) (.pair (.list (.pair (.int .i64) (.pair (.int .i64) (.pair (.int .i64) (.pair (.list .str) (.pair (.list .bool) (.int .i64))))))) (.int .i64)))))) y0.1 y0.2.2.1).2.2.1.2.2.2.2.2.2, ((Ty.rd (t := (.pair (.int .i64) (.pair (.int .i64) (.pair (.pair (.pair (.int .i64) (.pair .str (.pair .str (.pair (.int .i64) (.pair (.list (.int .i64)) (.int .i64)))))) (.pair (.int .i64) (.pair .str (.pair .str (.pair (.int .i64) (.pair (.list (.int .i64)) (.int .i64))))))) (.pair (.list (.pair (.int .i64) (.pair (.int .i64) (.pair (.int .i64) (.pair (.list .str) (.pair (.list .bool) (.int .i64))))))) (.int .i64)))))) y0.1 y0.2.2.1).2.2.2.1, ((Ty.rd (t := (.pair (.int .i64) (.pair (.int .i64) (.pair (.pair (.pair (.int .i64) (.pair .str (.pair .str (.pair (.int .i64) (.pair (.list (.int .i64)) (.int .i64)))))) (.pair (.int .i64) (.pair .str (.pair .str (.pair (.int .i64) (.pair (.list (.int .i64)) (.int .i64))))))) (.pair (.list (.pair (.int .i64) (.pair (.int .i64) (.pair (.int .i64) (.pair (.list .str) (.pair (.list .bool) (.int .i64))))))) (.int .i64)))))) y0.1 y0.2.2.1).2.2.2.2, ())))))))))))))))), ())).bind fun p1 =>
(if List.length y0.2.1 + List.length ([(p1.1.1, (p1.1.2.1, (((p1.1.2.2.1, (p1.1.2.2.2.1, (p1.1.2.2.2.2.1, (p1.1.2.2.2.2.2.1, (p1.1.2.2.2.2.2.2.1, p1.1.2.2.2.2.2.2.2.1))))), (p1.1.2.2.2.2.2.2.2.2.1, (p1.1.2.2.2.2.2.2.2.2.2.1, (p1.1.2.2.2.2.2.2.2.2.2.2.1, (p1.1.2.2.2.2.2.2.2.2.2.2.2.1, (p1.1.2.2.2.2.2.2.2.2.2.2.2.2.1, p1.1.2.2.2.2.2.2.2.2.2.2.2.2.2.1)))))), (p1.1.2.2.2.2.2.2.2.2.2.2.2.2.2.2.1, p1.1.2.2.2.2.2.2.2.2.2.2.2.2.2.2.2.1))))] : List (Int × Int × ((Int × ByteArray × ByteArray × Int × List (Int) × Int) × Int × ByteArray × ByteArray × Int × List (Int) × Int) × List (Int × Int × Int × List (ByteArray) × List (Bool) × Int) × Int)) ≤ capMax then
(rec0 (y0.1, ((y0.2.1 ++ ([(p1.1.1, (p1.1.2.1, (((p1.1.2.2.1, (p1.1.2.2.2.1, (p1.1.2.2.2.2.1, (p1.1.2.2.2.2.2.1, (p1.1.2.2.2.2.2.2.1, p1.1.2.2.2.2.2.2.2.1))))), (p1.1.2.2.2.2.2.2.2.2.1, (p1.1.2.2.2.2.2.2.2.2.2.1, (p1.1.2.2.2.2.2.2.2.2.2.2.1, (p1.1.2.2.2.2.2.2.2.2.2.2.2.1, (p1.1.2.2.2.2.2.2.2.2.2.2.2.2.1, p1.1.2.2.2.2.2.2.2.2.2.2.2.2.2.1)))))), (p1.1.2.2.2.2.2.2.2.2.2.2.2.2.2.2.1, p1.1.2.2.2.2.2.2.2.2.2.2.2.2.2.2.2.1))))] : List (Int × Int × ((Int × ByteArray × ByteArray × Int × List (Int) × Int) × Int × ByteArray × ByteArray × Int × List (Int) × Int) × List (Int × Int × Int × List (ByteArray) × List (Bool) × Int) × Int))), ((wi64 (y0.2.2.1 + (1 : Int))), ()))))
else none))
else none)
else
((fun (z1 : (List (Int × Int × ((Int × ByteArray × ByteArray × Int × List (Int) × Int) × Int × ByteArray × ByteArray × Int × List (Int) × Int) × List (Int × Int × Int × List (ByteArray) × List (Bool) × Int) × Int)) × Unit) =>
some (z1.1, ((), ()))) (y0.2.1, ())))) k (x.1, (([] : List (Int × Int × ((Int × ByteArray × ByteArray × Int × List (Int) × Int) × Int × ByteArray × ByteArray × Int × List (Int) × Int) × List (Int × Int × Int × List (ByteArray) × List (Bool) × Int) × Int)), ((0 : Int), ()))))
theorem t_s_l22CopyUsers (k : Nat) (x) : evF TTab k [⟨92, 0, (.cons yP4 .nil), yP25, s_l22CopyUser k⟩] [(0, ⟨[0, 3, 4], (.cons (.il true yT0) (.cons (.own false 45 yT0) yP3))⟩, ⟨[3], (.cons (.own false 45 yT0) .nil)⟩)] Tryz.f66 (.cons (.il true yT0) .nil) (.own false 45 yT0) x = s_l22CopyUsers k x := by kernel_rfl
theorem e_s_l22CopyUsers [Names] (k : Nat) : EntryOk Tryz.prog ⟨66, 0, (.cons (.il true yT0) .nil), (.own false 45 yT0), s_l22CopyUsers k⟩ := entry_ok tok (by intro e he; simp only [List.mem_cons, List.not_mem_nil, or_false] at he; rcases he with rfl <;> first | exact e_s_l22CopyUser k) (by kernel_rfl) (fn := Tryz.f66) (k := k) (es := [⟨92, 0, (.cons yP4 .nil), yP25, s_l22CopyUser k⟩]) (loops := [(0, ⟨[0, 3, 4], (.cons (.il true yT0) (.cons (.own false 45 yT0) yP3))⟩, ⟨[3], (.cons (.own false 45 yT0) .nil)⟩)]) (by kernel_rfl) (by kernel_rfl) (fun x r h => (t_s_l22CopyUsers k x).trans h)
def s_l11Copy (k : Nat) (x : (Int × Int × (List (Int × Int × Int)) × (List (Int × Int)) × Unit) × Unit) : Option ((Int × Int × (List (Int × Int × Int)) × (List (Int × Int)) × Unit) × Unit × Unit) :=
(if List.length ([] : List (Int × Int × Int)) + List.length x.1.2.2.1 ≤ capMax then
(if List.length ([] : List (Int × Int)) + List.length x.1.2.2.2.1 ≤ capMax then
some ((x.1.1, (x.1.2.1, ((([] : List (Int × Int × Int)) ++ x.1.2.2.1), ((([] : List (Int × Int)) ++ x.1.2.2.2.1), ())))), ((), ()))
else none)
else none)
theorem t_s_l11Copy (k : Nat) (x) : evF TTab k [] [] Tryz.f144 (.cons (.agg yP5) .nil) (.agg yP10) x = s_l11Copy k x := by kernel_rfl
theorem e_s_l11Copy [Names] (k : Nat) : EntryOk Tryz.prog ⟨144, 0, (.cons (.agg yP5) .nil), (.agg yP10), s_l11Copy k⟩ := entry_ok tok (by simp) (by kernel_rfl) (fn := Tryz.f144) (k := k) (es := []) (loops := []) (by kernel_rfl) (by kernel_rfl) (fun x r h => (t_s_l11Copy k x).trans h)
def s_l22Copy (k : Nat) (x : (Int × Int × (List (Int × Int × Int)) × (List (Int × Int)) × (List ((Int × Int) × Int)) × (List (Int × Int × ((Int × ByteArray × ByteArray × Int × List (Int) × Int) × Int × ByteArray × ByteArray × Int × List (Int) × Int) × List (Int × Int × Int × List (ByteArray) × List (Bool) × Int) × Int)) × Unit) × Unit) : Option ((Int × Int × (List (Int × Int × Int)) × (List (Int × Int)) × (List ((Int × Int) × Int)) × (List (Int × Int × ((Int × ByteArray × ByteArray × Int × List (Int) × Int) × Int × ByteArray × ByteArray × Int × List (Int) × Int) × List (Int × Int × Int × List (ByteArray) × List (Bool) × Int) × Int)) × Unit) × Unit × Unit) :=
((s_l11Copy k ((x.1.1, (x.1.2.1, (x.1.2.2.1, (x.1.2.2.2.1, ())))), ())).bind fun p1 =>
(if List.length ([] : List ((Int × Int) × Int)) + List.length x.1.2.2.2.2.1 ≤ capMax then
((s_l22CopyUsers k (x.1.2.2.2.2.2.1, ())).bind fun p2 =>
some ((p1.1.1, (p1.1.2.1, (p1.1.2.2.1, (p1.1.2.2.2.1, ((([] : List ((Int × Int) × Int)) ++ x.1.2.2.2.2.1), (p2.1, ())))))), ((), ())))
else none))
theorem t_s_l22Copy (k : Nat) (x) : evF TTab k [⟨66, 0, (.cons (.il true yT0) .nil), (.own false 45 yT0), s_l22CopyUsers k⟩, ⟨144, 0, (.cons (.agg yP5) .nil), (.agg yP10), s_l11Copy k⟩] [] Tryz.f61 (.cons yP7 .nil) (.agg yP12) x = s_l22Copy k x := by kernel_rfl
theorem e_s_l22Copy [Names] (k : Nat) : EntryOk Tryz.prog ⟨61, 0, (.cons yP7 .nil), (.agg yP12), s_l22Copy k⟩ := entry_ok tok (by intro e he; simp only [List.mem_cons, List.not_mem_nil, or_false] at he; rcases he with rfl | rfl <;> first | exact e_s_l22CopyUsers k | exact e_s_l11Copy k) (by kernel_rfl) (fn := Tryz.f61) (k := k) (es := [⟨66, 0, (.cons (.il true yT0) .nil), (.own false 45 yT0), s_l22CopyUsers k⟩, ⟨144, 0, (.cons (.agg yP5) .nil), (.agg yP10), s_l11Copy k⟩]) (loops := []) (by kernel_rfl) (by kernel_rfl) (fun x r h => (t_s_l22Copy k x).trans h)
def s_l22At (k : Nat) (x : (List (Int × Int × ((Int × ByteArray × ByteArray × Int × List (Int) × Int) × Int × ByteArray × ByteArray × Int × List (Int) × Int) × List (Int × Int × Int × List (ByteArray) × List (Bool) × Int) × Int)) × Int × Unit) : Option (Int × Unit × Unit × Unit) :=
(whileK (fun (rec0 : ((List (Int × Int × ((Int × ByteArray × ByteArray × Int × List (Int) × Int) × Int × ByteArray × ByteArray × Int × List (Int) × Int) × List (Int × Int × Int × List (ByteArray) × List (Bool) × Int) × Int)) × Int × Int × Unit) → Option _) (y0 : (List (Int × Int × ((Int × ByteArray × ByteArray × Int × List (Int) × Int) × Int × ByteArray × ByteArray × Int × List (Int) × Int) × List (Int × Int × Int × List (ByteArray) × List (Bool) × Int) × Int)) × Int × Int × Unit) =>
(if (decide (y0.2.2.1 < (List.length y0.1 : Int))) = true then
(if 0 ≤ y0.2.2.1 ∧ y0.2.2.1 < (List.length y0.1 : Int) then
(if (decide ((Ty.rd (t := (.pair (.int .i64) (.pair (.int .i64) (.pair (.pair (.pair (.int .i64) (.pair .str (.pair .str (.pair (.int .i64) (.pair (.list (.int .i64)) (.int .i64)))))) (.pair (.int .i64) (.pair .str (.pair .str (.pair (.int .i64) (.pair (.list (.int .i64)) (.int .i64))))))) (.pair (.list (.pair (.int .i64) (.pair (.int .i64) (.pair (.int .i64) (.pair (.list .str) (.pair (.list .bool) (.int .i64))))))) (.int .i64)))))) y0.1 y0.2.2.1).1 = y0.2.1)) = true then
some (y0.2.2.1, ((), ((), ())))
else
(rec0 (y0.1, (y0.2.1, ((wi64 (y0.2.2.1 + (1 : Int))), ())))))
else none)
else
((fun (z1 : Unit) =>
some ((-1 : Int), ((), ((), ())))) ()))) k (x.1, (x.2.1, ((0 : Int), ()))))
theorem t_s_l22At (k : Nat) (x) : evF TTab k [] [(0, ⟨[0, 1, 5], (.cons (.il true yT0) (.cons (.int .i64) yP3))⟩, ⟨[], .nil⟩)] Tryz.f63 (.cons (.il true yT0) yP3) (.int .i64) x = s_l22At k x := by kernel_rfl
theorem e_s_l22At [Names] (k : Nat) : EntryOk Tryz.prog ⟨63, 0, (.cons (.il true yT0) yP3), (.int .i64), s_l22At k⟩ := entry_ok tok (by simp) (by kernel_rfl) (fn := Tryz.f63) (k := k) (es := []) (loops := [(0, ⟨[0, 1, 5], (.cons (.il true yT0) (.cons (.int .i64) yP3))⟩, ⟨[], .nil⟩)]) (by kernel_rfl) (by kernel_rfl) (fun x r h => (t_s_l22At k x).trans h)
def s_l08Size (k : Nat) (x : Int × Unit) : Option (Int × Unit × Unit) :=
(whileK (fun (rec0 : (Int × Int × Unit) → Option _) (y0 : Int × Int × Unit) =>
(if (decide (y0.2.1 < (32 : Int))) = true then
(rec0 ((wi64 ((2 : Int) * y0.1)), ((wi64 (y0.2.1 + (1 : Int))), ())))
else
((fun (z1 : Int × Unit) =>
some (z1.1, ((), ()))) (y0.1, ())))) k ((1 : Int), (x.1, ())))
theorem t_s_l08Size (k : Nat) (x) : evF TTab k [] [(0, ⟨[3, 4], (.cons (.int .i64) yP3)⟩, ⟨[3], yP3⟩)] Tryz.f234 yP3 (.int .i64) x = s_l08Size k x := by kernel_rfl
theorem e_s_l08Size [Names] (k : Nat) : EntryOk Tryz.prog ⟨234, 0, yP3, (.int .i64), s_l08Size k⟩ := entry_ok tok (by simp) (by kernel_rfl) (fn := Tryz.f234) (k := k) (es := []) (loops := [(0, ⟨[3, 4], (.cons (.int .i64) yP3)⟩, ⟨[3], yP3⟩)]) (by kernel_rfl) (by kernel_rfl) (fun x r h => (t_s_l08Size k x).trans h)
def s_AddrOk (k : Nat) (x : Int × Unit) : Option (Bool × Unit × Unit) :=
((s_l01In k (x.1, ((0 : Int), ((4294967295 : Int), ())))).bind fun p1 =>
some (p1.1, ((), ())))
theorem t_s_AddrOk (k : Nat) (x) : evF TTab k [⟨62, 0, yP14, .bool, s_l01In k⟩] [] Tryz.f248 yP3 .bool x = s_AddrOk k x := by kernel_rfl
theorem e_s_AddrOk [Names] (k : Nat) : EntryOk Tryz.prog ⟨248, 0, yP3, .bool, s_AddrOk k⟩ := entry_ok tok (by intro e he; simp only [List.mem_cons, List.not_mem_nil, or_false] at he; rcases he with rfl <;> first | exact e_s_l01In k) (by kernel_rfl) (fn := Tryz.f248) (k := k) (es := [⟨62, 0, yP14, .bool, s_l01In k⟩]) (loops := []) (by kernel_rfl) (by kernel_rfl) (fun x r h => (t_s_AddrOk k x).trans h)
def s_PrefixOk (k : Nat) (x : (Int × Int × Unit) × Unit) : Option (Bool × Unit × Unit) :=
((s_AddrOk k (x.1.1, ())).bind fun p1 =>
(if p1.1 = true then
((s_l01In k (x.1.2.1, ((0 : Int), ((32 : Int), ())))).bind fun p2 =>
(if p2.1 = true then
((s_l08Size k (x.1.2.1, ())).bind fun p3 =>
(if p3.1 = 0 then
none
else
some ((decide ((Int.tmod x.1.1 p3.1) = (0 : Int))), ((), ()))))
else
some (false, ((), ()))))
else
some (false, ((), ()))))
theorem t_s_PrefixOk (k : Nat) (x) : evF TTab k [⟨62, 0, yP14, .bool, s_l01In k⟩, ⟨234, 0, yP3, (.int .i64), s_l08Size k⟩, ⟨248, 0, yP3, .bool, s_AddrOk k⟩] [] Tryz.f231 (.cons yP19 .nil) .bool x = s_PrefixOk k x := by kernel_rfl
theorem e_s_PrefixOk [Names] (k : Nat) : EntryOk Tryz.prog ⟨231, 0, (.cons yP19 .nil), .bool, s_PrefixOk k⟩ := entry_ok tok (by intro e he; simp only [List.mem_cons, List.not_mem_nil, or_false] at he; rcases he with rfl | rfl | rfl <;> first | exact e_s_l01In k | exact e_s_l08Size k | exact e_s_AddrOk k) (by kernel_rfl) (fn := Tryz.f231) (k := k) (es := [⟨62, 0, yP14, .bool, s_l01In k⟩, ⟨234, 0, yP3, (.int .i64), s_l08Size k⟩, ⟨248, 0, yP3, .bool, s_AddrOk k⟩]) (loops := []) (by kernel_rfl) (by kernel_rfl) (fun x r h => (t_s_PrefixOk k x).trans h)
def s_InPrefix (k : Nat) (x : (Int × Int × Unit) × Int × Unit) : Option (Bool × Unit × Unit × Unit) :=
((s_PrefixOk k ((x.1.1, (x.1.2.1, ())), ())).bind fun p1 =>
(if p1.1 = true then
((s_AddrOk k (x.2.1, ())).bind fun p2 =>
(if p2.1 = true then
((s_l08Size k (x.1.2.1, ())).bind fun p3 =>
(if p3.1 = 0 then
none
else
some ((decide ((wi64 (x.2.1 - (Int.tmod x.2.1 p3.1))) = x.1.1)), ((), ((), ())))))
else
some (false, ((), ((), ())))))
else
some (false, ((), ((), ())))))
theorem t_s_InPrefix (k : Nat) (x) : evF TTab k [⟨231, 0, (.cons yP19 .nil), .bool, s_PrefixOk k⟩, ⟨234, 0, yP3, (.int .i64), s_l08Size k⟩, ⟨248, 0, yP3, .bool, s_AddrOk k⟩] [] Tryz.f287 (.cons yP19 yP3) .bool x = s_InPrefix k x := by kernel_rfl
theorem e_s_InPrefix [Names] (k : Nat) : EntryOk Tryz.prog ⟨287, 0, (.cons yP19 yP3), .bool, s_InPrefix k⟩ := entry_ok tok (by intro e he; simp only [List.mem_cons, List.not_mem_nil, or_false] at he; rcases he with rfl | rfl | rfl <;> first | exact e_s_PrefixOk k | exact e_s_l08Size k | exact e_s_AddrOk k) (by kernel_rfl) (fn := Tryz.f287) (k := k) (es := [⟨231, 0, (.cons yP19 .nil), .bool, s_PrefixOk k⟩, ⟨234, 0, yP3, (.int .i64), s_l08Size k⟩, ⟨248, 0, yP3, .bool, s_AddrOk k⟩]) (loops := []) (by kernel_rfl) (by kernel_rfl) (fun x r h => (t_s_InPrefix k x).trans h)
def s_l11Inside (k : Nat) (x : (Int × Int × (List (Int × Int × Int)) × (List (Int × Int)) × Unit) × Int × Unit) : Option (Bool × Unit × Unit × Unit) :=
((s_InPrefix k ((x.1.1, (x.1.2.1, ())), (x.2.1, ()))).bind fun p1 =>
(if p1.1 = true then
(if (!decide (x.2.1 = x.1.1)) = true then
((s_l08Size k (x.1.2.1, ())).bind fun p2 =>
some ((!decide (x.2.1 = (wi64 ((wi64 (x.1.1 + p2.1)) - (1 : Int))))), ((), ((), ()))))
else
some (false, ((), ((), ()))))
else
some (false, ((), ((), ())))))
theorem t_s_l11Inside (k : Nat) (x) : evF TTab k [⟨234, 0, yP3, (.int .i64), s_l08Size k⟩, ⟨287, 0, (.cons yP19 yP3), .bool, s_InPrefix k⟩] [] Tryz.f232 (.cons (.agg yP5) yP3) .bool x = s_l11Inside k x := by kernel_rfl
theorem e_s_l11Inside [Names] (k : Nat) : EntryOk Tryz.prog ⟨232, 0, (.cons (.agg yP5) yP3), .bool, s_l11Inside k⟩ := entry_ok tok (by intro e he; simp only [List.mem_cons, List.not_mem_nil, or_false] at he; rcases he with rfl | rfl <;> first | exact e_s_l08Size k | exact e_s_InPrefix k) (by kernel_rfl) (fn := Tryz.f232) (k := k) (es := [⟨234, 0, yP3, (.int .i64), s_l08Size k⟩, ⟨287, 0, (.cons yP19 yP3), .bool, s_InPrefix k⟩]) (loops := []) (by kernel_rfl) (by kernel_rfl) (fun x r h => (t_s_l11Inside k x).trans h)
def s_l11FixedFor (k : Nat) (x : (Int × Int × (List (Int × Int × Int)) × (List (Int × Int)) × Unit) × Int × Unit) : Option (Int × Unit × Unit × Unit) :=
(whileK (fun (rec0 : (Int × (Int × Int × (List (Int × Int × Int)) × (List (Int × Int)) × Unit) × Int × Unit) → Option _) (y0 : Int × (Int × Int × (List (Int × Int × Int)) × (List (Int × Int)) × Unit) × Int × Unit) =>
(if (decide (y0.2.2.1 < (List.length y0.2.1.2.2.2.1 : Int))) = true then
(if 0 ≤ y0.2.2.1 ∧ y0.2.2.1 < (List.length y0.2.1.2.2.2.1 : Int) then
(if (decide ((Ty.rd (t := (.pair (.int .i64) (.int .i64))) y0.2.1.2.2.2.1 y0.2.2.1).2 = y0.1)) = true then
(if 0 ≤ y0.2.2.1 ∧ y0.2.2.1 < (List.length y0.2.1.2.2.2.1 : Int) then
some ((Ty.rd (t := (.pair (.int .i64) (.int .i64))) y0.2.1.2.2.2.1 y0.2.2.1).1, ((), ((), ())))
else none)
else
(rec0 (y0.1, ((y0.2.1.1, (y0.2.1.2.1, (y0.2.1.2.2.1, (y0.2.1.2.2.2.1, ())))), ((wi64 (y0.2.2.1 + (1 : Int))), ())))))
else none)
else
((fun (z1 : Unit) =>
some ((0 : Int), ((), ((), ())))) ()))) k (x.2.1, ((x.1.1, (x.1.2.1, (x.1.2.2.1, (x.1.2.2.2.1, ())))), ((0 : Int), ()))))
theorem t_s_l11FixedFor (k : Nat) (x) : evF TTab k [] [(0, ⟨[1, 2, 5], (.cons (.int .i64) (.cons (.ptr 0 yP5) yP3))⟩, ⟨[], .nil⟩)] Tryz.f233 (.cons (.agg yP5) yP3) (.int .i64) x = s_l11FixedFor k x := by kernel_rfl
theorem e_s_l11FixedFor [Names] (k : Nat) : EntryOk Tryz.prog ⟨233, 0, (.cons (.agg yP5) yP3), (.int .i64), s_l11FixedFor k⟩ := entry_ok tok (by simp) (by kernel_rfl) (fn := Tryz.f233) (k := k) (es := []) (loops := [(0, ⟨[1, 2, 5], (.cons (.int .i64) (.cons (.ptr 0 yP5) yP3))⟩, ⟨[], .nil⟩)]) (by kernel_rfl) (by kernel_rfl) (fun x r h => (t_s_l11FixedFor k x).trans h)
def s_PoolOk (k : Nat) (x : (Int × Int × (List (Int × Int × Int)) × (List (Int × Int)) × Unit) × Unit) : Option (Bool × Unit × Unit) :=
((s_PrefixOk k ((x.1.1, (x.1.2.1, ())), ())).bind fun p1 =>
(if (!p1.1) = false then
((s_l01In k (x.1.2.1, ((24 : Int), ((30 : Int), ())))).bind fun p2 =>
(if (!p2.1) = false then
(if (decide ((6 : Int) < (List.length x.1.2.2.1 : Int))) = false then
(if (decide ((4 : Int) < (List.length x.1.2.2.2.1 : Int))) = true then
some (false, ((), ()))
else
(whileK (fun (rec0 : ((Int × Int × (List (Int × Int × Int)) × (List (Int × Int)) × Unit) × Int × Unit) → Option _) (y0 : (Int × Int × (List (Int × Int × Int)) × (List (Int × Int)) × Unit) × Int × Unit) =>
(if (decide (y0.2.1 < (List.length y0.1.2.2.2.1 : Int))) = true then
(if 0 ≤ y0.2.1 ∧ y0.2.1 < (List.length y0.1.2.2.2.1 : Int) then
((s_l01In k ((Ty.rd (t := (.pair (.int .i64) (.int .i64))) y0.1.2.2.2.1 y0.2.1).1, ((1 : Int), ((99 : Int), ())))).bind fun p3 =>
(if (!p3.1) = false then
((s_l11Inside k ((y0.1.1, (y0.1.2.1, (y0.1.2.2.1, (y0.1.2.2.2.1, ())))), ((Ty.rd (t := (.pair (.int .i64) (.int .i64))) y0.1.2.2.2.1 y0.2.1).2, ()))).bind fun p4 =>
(if (!p4.1) = false then
(if (decide ((0 : Int) < y0.2.1)) = true then
(if 0 ≤ (wi64 (y0.2.1 - (1 : Int))) ∧ (wi64 (y0.2.1 - (1 : Int))) < (List.length y0.1.2.2.2.1 : Int) then
(if (decide ((Ty.rd (t := (.pair (.int .i64) (.int .i64))) y0.1.2.2.2.1 y0.2.1).1 ≤ (Ty.rd (t := (.pair (.int .i64) (.int .i64))) y0.1.2.2.2.1 (wi64 (y0.2.1 - (1 : Int)))).1)) = false then
((s_l11FixedFor k ((y0.1.1, (y0.1.2.1, (y0.1.2.2.1, (y0.1.2.2.2.1, ())))), ((Ty.rd (t := (.pair (.int .i64) (.int .i64))) y0.1.2.2.2.1 y0.2.1).2, ()))).bind fun p5 =>
(if (!decide (p5.1 = (Ty.rd (t := (.pair (.int .i64) (.int .i64))) y0.1.2.2.2.1 y0.2.1).1)) = true then
some (false, ((), ()))
else
(rec0 ((y0.1.1, (y0.1.2.1, (y0.1.2.2.1, (y0.1.2.2.2.1, ())))), ((wi64 (y0.2.1 + (1 : Int))), ())))))
else
some (false, ((), ())))
else none)
else
((s_l11FixedFor k ((y0.1.1, (y0.1.2.1, (y0.1.2.2.1, (y0.1.2.2.2.1, ())))), ((Ty.rd (t := (.pair (.int .i64) (.int .i64))) y0.1.2.2.2.1 y0.2.1).2, ()))).bind fun p6 =>
(if (!decide (p6.1 = (Ty.rd (t := (.pair (.int .i64) (.int .i64))) y0.1.2.2.2.1 y0.2.1).1)) = true then
some (false, ((), ()))
else
(rec0 ((y0.1.1, (y0.1.2.1, (y0.1.2.2.1, (y0.1.2.2.2.1, ())))), ((wi64 (y0.2.1 + (1 : Int))), ()))))))
else
some (false, ((), ()))))
else
some (false, ((), ()))))
else none)
else
((fun (z1 : (Int × Int × (List (Int × Int × Int)) × (List (Int × Int)) × Unit) × Unit) =>
(whileK (fun (rec2 : ((Int × Int × (List (Int × Int × Int)) × (List (Int × Int)) × Unit) × Int × Unit) → Option _) (y2 : (Int × Int × (List (Int × Int × Int)) × (List (Int × Int)) × Unit) × Int × Unit) =>
(if (decide (y2.2.1 < (List.length y2.1.2.2.1 : Int))) = true then
(if 0 ≤ y2.2.1 ∧ y2.2.1 < (List.length y2.1.2.2.1 : Int) then
(jn (
((s_l11FixedFor k ((y2.1.1, (y2.1.2.1, (y2.1.2.2.1, (y2.1.2.2.2.1, ())))), ((Ty.rd (t := (.pair (.int .i64) (.pair (.int .i64) (.int .i64)))) y2.1.2.2.1 y2.2.1).1, ()))).bind fun p11 =>
(jn (
(whileK (fun (rec4 : ((Int × Int × (List (Int × Int × Int)) × (List (Int × Int)) × Unit) × Int × (Int × Int × Int × Unit) × Int × Unit) → Option _) (y4 : (Int × Int × (List (Int × Int × Int)) × (List (Int × Int)) × Unit) × Int × (Int × Int × Int × Unit) × Int × Unit) =>
(if (decide (y4.2.2.2.1 < y4.2.1)) = true then
(if 0 ≤ y4.2.2.2.1 ∧ y4.2.2.2.1 < (List.length y4.1.2.2.1 : Int) then
(if (decide ((Ty.rd (t := (.pair (.int .i64) (.pair (.int .i64) (.int .i64)))) y4.1.2.2.1 y4.2.2.2.1).2.1 = y4.2.2.1.2.1)) = true then
some (false, ((), ()))
else
(rec4 ((y4.1.1, (y4.1.2.1, (y4.1.2.2.1, (y4.1.2.2.2.1, ())))), (y4.2.1, ((y4.2.2.1.1, (y4.2.2.1.2.1, (y4.2.2.1.2.2.1, ()))), ((wi64 (y4.2.2.2.1 + (1 : Int))), ()))))))
else none)
else
((fun (z5 : (Int × Int × (List (Int × Int × Int)) × (List (Int × Int)) × Unit) × Int × Unit) =>
(rec2 ((z5.1.1, (z5.1.2.1, (z5.1.2.2.1, (z5.1.2.2.2.1, ())))), ((wi64 (z5.2.1 + (1 : Int))), ())))) ((y4.1.1, (y4.1.2.1, (y4.1.2.2.1, (y4.1.2.2.2.1, ())))), (y4.2.1, ()))))) k ((y2.1.1, (y2.1.2.1, (y2.1.2.2.1, (y2.1.2.2.2.1, ())))), (y2.2.1, (((Ty.rd (t := (.pair (.int .i64) (.pair (.int .i64) (.int .i64)))) y2.1.2.2.1 y2.2.1).1, ((Ty.rd (t := (.pair (.int .i64) (.pair (.int .i64) (.int .i64)))) y2.1.2.2.1 y2.2.1).2.1, ((Ty.rd (t := (.pair (.int .i64) (.pair (.int .i64) (.int .i64)))) y2.1.2.2.1 y2.2.1).2.2, ()))), ((0 : Int), ())))))) (fun (j3 : Option _) =>
(if (!decide (p11.1 = (0 : Int))) = true then
(if (!decide (p11.1 = (Ty.rd (t := (.pair (.int .i64) (.pair (.int .i64) (.int .i64)))) y2.1.2.2.1 y2.2.1).2.1)) = true then
some (false, ((), ()))
else
j3)
else
j3))))) (fun (j2 : Option _) =>
((s_l11Inside k ((y2.1.1, (y2.1.2.1, (y2.1.2.2.1, (y2.1.2.2.2.1, ())))), ((Ty.rd (t := (.pair (.int .i64) (.pair (.int .i64) (.int .i64)))) y2.1.2.2.1 y2.2.1).1, ()))).bind fun p7 =>
(if (!p7.1) = false then
((s_l01In k ((Ty.rd (t := (.pair (.int .i64) (.pair (.int .i64) (.int .i64)))) y2.1.2.2.1 y2.2.1).2.1, ((1 : Int), ((99 : Int), ())))).bind fun p8 =>
(if (!p8.1) = false then
((s_l01In k ((Ty.rd (t := (.pair (.int .i64) (.pair (.int .i64) (.int .i64)))) y2.1.2.2.1 y2.2.1).2.2, ((0 : Int), ((1000000000 : Int), ())))).bind fun p9 =>
(if (!p9.1) = false then
(if (decide ((0 : Int) < y2.2.1)) = true then
(if 0 ≤ (wi64 (y2.2.1 - (1 : Int))) ∧ (wi64 (y2.2.1 - (1 : Int))) < (List.length y2.1.2.2.1 : Int) then
(if (decide ((Ty.rd (t := (.pair (.int .i64) (.pair (.int .i64) (.int .i64)))) y2.1.2.2.1 y2.2.1).1 ≤ (Ty.rd (t := (.pair (.int .i64) (.pair (.int .i64) (.int .i64)))) y2.1.2.2.1 (wi64 (y2.2.1 - (1 : Int)))).1)) = true then
some (false, ((), ()))
else
j2)
else none)
else
j2)
else
some (false, ((), ()))))
else
some (false, ((), ()))))
else
some (false, ((), ()))))))
else none)
else
((fun (z6 : Unit) =>
some (true, ((), ()))) ()))) k ((z1.1.1, (z1.1.2.1, (z1.1.2.2.1, (z1.1.2.2.2.1, ())))), ((0 : Int), ())))) ((y0.1.1, (y0.1.2.1, (y0.1.2.2.1, (y0.1.2.2.2.1, ())))), ())))) k ((x.1.1, (x.1.2.1, (x.1.2.2.1, (x.1.2.2.2.1, ())))), ((0 : Int), ()))))
else
some (false, ((), ())))
else
some (false, ((), ()))))
else
some (false, ((), ()))))
theorem t_s_PoolOk (k : Nat) (x) : evF TTab k [⟨62, 0, yP14, .bool, s_l01In k⟩, ⟨231, 0, (.cons yP19 .nil), .bool, s_PrefixOk k⟩, ⟨232, 0, (.cons (.agg yP5) yP3), .bool, s_l11Inside k⟩, ⟨233, 0, (.cons (.agg yP5) yP3), (.int .i64), s_l11FixedFor k⟩] [(0, ⟨[1, 3], (.cons (.ptr 0 yP5) yP3)⟩, ⟨[1], (.cons (.ptr 0 yP5) .nil)⟩), (2, ⟨[1, 5], (.cons (.ptr 0 yP5) yP3)⟩, ⟨[], .nil⟩), (4, ⟨[1, 5, 6, 8], (.cons (.ptr 0 yP5) (.cons (.int .i64) (.cons (.ptr 0 yP14) yP3)))⟩, ⟨[1, 5], (.cons (.ptr 0 yP5) yP3)⟩)] Tryz.f145 (.cons (.agg yP5) .nil) .bool x = s_PoolOk k x := by kernel_rfl
theorem e_s_PoolOk [Names] (k : Nat) : EntryOk Tryz.prog ⟨145, 0, (.cons (.agg yP5) .nil), .bool, s_PoolOk k⟩ := entry_ok tok (by intro e he; simp only [List.mem_cons, List.not_mem_nil, or_false] at he; rcases he with rfl | rfl | rfl | rfl <;> first | exact e_s_l01In k | exact e_s_PrefixOk k | exact e_s_l11Inside k | exact e_s_l11FixedFor k) (by kernel_rfl) (fn := Tryz.f145) (k := k) (es := [⟨62, 0, yP14, .bool, s_l01In k⟩, ⟨231, 0, (.cons yP19 .nil), .bool, s_PrefixOk k⟩, ⟨232, 0, (.cons (.agg yP5) yP3), .bool, s_l11Inside k⟩, ⟨233, 0, (.cons (.agg yP5) yP3), (.int .i64), s_l11FixedFor k⟩]) (loops := [(0, ⟨[1, 3], (.cons (.ptr 0 yP5) yP3)⟩, ⟨[1], (.cons (.ptr 0 yP5) .nil)⟩), (2, ⟨[1, 5], (.cons (.ptr 0 yP5) yP3)⟩, ⟨[], .nil⟩), (4, ⟨[1, 5, 6, 8], (.cons (.ptr 0 yP5) (.cons (.int .i64) (.cons (.ptr 0 yP14) yP3)))⟩, ⟨[1, 5], (.cons (.ptr 0 yP5) yP3)⟩)]) (by kernel_rfl) (by kernel_rfl) (fun x r h => (t_s_PoolOk k x).trans h)
def s_Release (k : Nat) (x : (Int × Int × (List (Int × Int × Int)) × (List (Int × Int)) × Unit) × Int × Unit) : Option (((Int × Int × (List (Int × Int × Int)) × (List (Int × Int)) × Unit) × Bool × Unit) × Unit × Unit × Unit) :=
((s_l11Copy k ((x.1.1, (x.1.2.1, (x.1.2.2.1, (x.1.2.2.2.1, ())))), ())).bind fun p1 =>
(whileK (fun (rec0 : (Int × (Int × Int × (List (Int × Int × Int)) × (List (Int × Int)) × Unit) × (Int × Int × (List (Int × Int × Int)) × (List (Int × Int)) × Unit) × (Int × Int × (List (Int × Int × Int)) × (List (Int × Int)) × Unit) × (List (Int × Int × Int)) × Int × Unit) → Option _) (y0 : Int × (Int × Int × (List (Int × Int × Int)) × (List (Int × Int)) × Unit) × (Int × Int × (List (Int × Int × Int)) × (List (Int × Int)) × Unit) × (Int × Int × (List (Int × Int × Int)) × (List (Int × Int)) × Unit) × (List (Int × Int × Int)) × Int × Unit) =>
(if (decide (y0.2.2.2.2.2.1 < (List.length y0.2.1.2.2.1 : Int))) = true then
(if 0 ≤ y0.2.2.2.2.2.1 ∧ y0.2.2.2.2.2.1 < (List.length y0.2.1.2.2.1 : Int) then
(if (!decide ((Ty.rd (t := (.pair (.int .i64) (.pair (.int .i64) (.int .i64)))) y0.2.1.2.2.1 y0.2.2.2.2.2.1).2.1 = y0.1)) = true then
(if 0 ≤ y0.2.2.2.2.2.1 ∧ y0.2.2.2.2.2.1 < (List.length y0.2.1.2.2.1 : Int) then
(if List.length y0.2.2.2.2.1 + List.length ([((Ty.rd (t := (.pair (.int .i64) (.pair (.int .i64) (.int .i64)))) y0.2.1.2.2.1 y0.2.2.2.2.2.1).1, ((Ty.rd (t := (.pair (.int .i64) (.pair (.int .i64) (.int .i64)))) y0.2.1.2.2.1 y0.2.2.2.2.2.1).2.1, (Ty.rd (t := (.pair (.int .i64) (.pair (.int .i64) (.int .i64)))) y0.2.1.2.2.1 y0.2.2.2.2.2.1).2.2))] : List (Int × Int × Int)) ≤ capMax then
(rec0 (y0.1, ((y0.2.1.1, (y0.2.1.2.1, (y0.2.1.2.2.1, (y0.2.1.2.2.2.1, ())))), ((y0.2.2.1.1, (y0.2.2.1.2.1, (y0.2.2.1.2.2.1, (y0.2.2.1.2.2.2.1, ())))), ((y0.2.2.2.1.1, (y0.2.2.2.1.2.1, (y0.2.2.2.1.2.2.1, (y0.2.2.2.1.2.2.2.1, ())))), ((y0.2.2.2.2.1 ++ ([((Ty.rd (t := (.pair (.int .i64) (.pair (.int .i64) (.int .i64)))) y0.2.1.2.2.1 y0.2.2.2.2.2.1).1, ((Ty.rd (t := (.pair (.int .i64) (.pair (.int .i64) (.int .i64)))) y0.2.1.2.2.1 y0.2.2.2.2.2.1).2.1, (Ty.rd (t := (.pair (.int .i64) (.pair (.int .i64) (.int .i64)))) y0.2.1.2.2.1 y0.2.2.2.2.2.1).2.2))] : List (Int × Int × Int))), ((wi64 (y0.2.2.2.2.2.1 + (1 : Int))), ())))))))
else none)
else none)
else
(rec0 (y0.1, ((y0.2.1.1, (y0.2.1.2.1, (y0.2.1.2.2.1, (y0.2.1.2.2.2.1, ())))), ((y0.2.2.1.1, (y0.2.2.1.2.1, (y0.2.2.1.2.2.1, (y0.2.2.1.2.2.2.1, ())))), ((y0.2.2.2.1.1, (y0.2.2.2.1.2.1, (y0.2.2.2.1.2.2.1, (y0.2.2.2.1.2.2.2.1, ())))), (y0.2.2.2.2.1, ((wi64 (y0.2.2.2.2.2.1 + (1 : Int))), ()))))))))
else none)
else
((fun (z1 : (Int × Int × (List (Int × Int × Int)) × (List (Int × Int)) × Unit) × (Int × Int × (List (Int × Int × Int)) × (List (Int × Int)) × Unit) × (Int × Int × (List (Int × Int × Int)) × (List (Int × Int)) × Unit) × (List (Int × Int × Int)) × Unit) =>
((s_PoolOk k ((z1.1.1, (z1.1.2.1, (z1.1.2.2.1, (z1.1.2.2.2.1, ())))), ())).bind fun p2 =>
(if (!p2.1) = false then
(if (decide ((List.length z1.2.2.2.1 : Int) = (List.length z1.1.2.2.1 : Int))) = true then
some (((z1.2.2.1.1, (z1.2.2.1.2.1, (z1.2.2.1.2.2.1, (z1.2.2.1.2.2.2.1, ())))), (false, ())), ((), ((), ())))
else
some (((z1.2.2.1.1, (z1.2.2.1.2.1, (z1.2.2.2.1, (z1.2.2.1.2.2.2.1, ())))), (true, ())), ((), ((), ()))))
else
some (((z1.2.2.1.1, (z1.2.2.1.2.1, (z1.2.2.1.2.2.1, (z1.2.2.1.2.2.2.1, ())))), (false, ())), ((), ((), ())))))) ((y0.2.1.1, (y0.2.1.2.1, (y0.2.1.2.2.1, (y0.2.1.2.2.2.1, ())))), ((y0.2.2.1.1, (y0.2.2.1.2.1, (y0.2.2.1.2.2.1, (y0.2.2.1.2.2.2.1, ())))), ((y0.2.2.2.1.1, (y0.2.2.2.1.2.1, (y0.2.2.2.1.2.2.1, (y0.2.2.2.1.2.2.2.1, ())))), (y0.2.2.2.2.1, ()))))))) k (x.2.1, ((x.1.1, (x.1.2.1, (x.1.2.2.1, (x.1.2.2.2.1, ())))), (((0 : Int), ((0 : Int), ([], ([], ())))), ((p1.1.1, (p1.1.2.1, (p1.1.2.2.1, (p1.1.2.2.2.1, ())))), (([] : List (Int × Int × Int)), ((0 : Int), ()))))))))
theorem t_s_Release (k : Nat) (x) : evF TTab k [⟨144, 0, (.cons (.agg yP5) .nil), (.agg yP10), s_l11Copy k⟩, ⟨145, 0, (.cons (.agg yP5) .nil), .bool, s_PoolOk k⟩] [(0, ⟨[1, 2, 4, 6, 7, 8], (.cons (.int .i64) (.cons (.ptr 0 yP5) (.cons (.ptr 0 yP10) (.cons (.ptr 0 yP10) (.cons yP26 yP3)))))⟩, ⟨[2, 4, 6, 7], (.cons (.ptr 0 yP5) (.cons (.ptr 0 yP10) (.cons (.ptr 0 yP10) (.cons yP26 .nil))))⟩)] Tryz.f88 (.cons (.agg yP5) yP3) (.tup (.cons (.agg yP10) (.cons .bool .nil))) x = s_Release k x := by kernel_rfl
theorem e_s_Release [Names] (k : Nat) : EntryOk Tryz.prog ⟨88, 0, (.cons (.agg yP5) yP3), (.tup (.cons (.agg yP10) (.cons .bool .nil))), s_Release k⟩ := entry_ok tok (by intro e he; simp only [List.mem_cons, List.not_mem_nil, or_false] at he; rcases he with rfl | rfl <;> first | exact e_s_l11Copy k | exact e_s_PoolOk k) (by kernel_rfl) (fn := Tryz.f88) (k := k) (es := [⟨144, 0, (.cons (.agg yP5) .nil), (.agg yP10), s_l11Copy k⟩, ⟨145, 0, (.cons (.agg yP5) .nil), .bool, s_PoolOk k⟩]) (loops := [(0, ⟨[1, 2, 4, 6, 7, 8], (.cons (.int .i64) (.cons (.ptr 0 yP5) (.cons (.ptr 0 yP10) (.cons (.ptr 0 yP10) (.cons yP26 yP3)))))⟩, ⟨[2, 4, 6, 7], (.cons (.ptr 0 yP5) (.cons (.ptr 0 yP10) (.cons (.ptr 0 yP10) (.cons yP26 .nil))))⟩)]) (by kernel_rfl) (by kernel_rfl) (fun x r h => (t_s_Release k x).trans h)
def s_DropTo (k : Nat) (x : (List ((Int × Int) × Int)) × Int × Unit) : Option ((List ((Int × Int) × Int)) × Unit × Unit × Unit) :=
(whileK (fun (rec0 : ((List ((Int × Int) × Int)) × Int × (List ((Int × Int) × Int)) × Int × Unit) → Option _) (y0 : (List ((Int × Int) × Int)) × Int × (List ((Int × Int) × Int)) × Int × Unit) =>
(if (decide (y0.2.2.2.1 < (List.length y0.1 : Int))) = true then
(if 0 ≤ y0.2.2.2.1 ∧ y0.2.2.2.1 < (List.length y0.1 : Int) then
(if (!decide ((Ty.rd (t := (.pair (.pair (.int .i64) (.int .i64)) (.int .i64))) y0.1 y0.2.2.2.1).2 = y0.2.1)) = true then
(if 0 ≤ y0.2.2.2.1 ∧ y0.2.2.2.1 < (List.length y0.1 : Int) then
(if List.length y0.2.2.1 + List.length ([(((Ty.rd (t := (.pair (.pair (.int .i64) (.int .i64)) (.int .i64))) y0.1 y0.2.2.2.1).1.1, (Ty.rd (t := (.pair (.pair (.int .i64) (.int .i64)) (.int .i64))) y0.1 y0.2.2.2.1).1.2), (Ty.rd (t := (.pair (.pair (.int .i64) (.int .i64)) (.int .i64))) y0.1 y0.2.2.2.1).2)] : List ((Int × Int) × Int)) ≤ capMax then
(rec0 (y0.1, (y0.2.1, ((y0.2.2.1 ++ ([(((Ty.rd (t := (.pair (.pair (.int .i64) (.int .i64)) (.int .i64))) y0.1 y0.2.2.2.1).1.1, (Ty.rd (t := (.pair (.pair (.int .i64) (.int .i64)) (.int .i64))) y0.1 y0.2.2.2.1).1.2), (Ty.rd (t := (.pair (.pair (.int .i64) (.int .i64)) (.int .i64))) y0.1 y0.2.2.2.1).2)] : List ((Int × Int) × Int))), ((wi64 (y0.2.2.2.1 + (1 : Int))), ())))))
else none)
else none)
else
(rec0 (y0.1, (y0.2.1, (y0.2.2.1, ((wi64 (y0.2.2.2.1 + (1 : Int))), ()))))))
else none)
else
((fun (z1 : (List ((Int × Int) × Int)) × Unit) =>
some (z1.1, ((), ((), ())))) (y0.2.2.1, ())))) k (x.1, (x.2.1, (([] : List ((Int × Int) × Int)), ((0 : Int), ())))))
theorem t_s_DropTo (k : Nat) (x) : evF TTab k [] [(0, ⟨[0, 1, 5, 6], (.cons yP21 (.cons (.int .i64) (.cons yP20 yP3)))⟩, ⟨[5], (.cons yP20 .nil)⟩)] Tryz.f89 (.cons yP21 yP3) yP20 x = s_DropTo k x := by kernel_rfl
theorem e_s_DropTo [Names] (k : Nat) : EntryOk Tryz.prog ⟨89, 0, (.cons yP21 yP3), yP20, s_DropTo k⟩ := entry_ok tok (by simp) (by kernel_rfl) (fn := Tryz.f89) (k := k) (es := []) (loops := [(0, ⟨[0, 1, 5, 6], (.cons yP21 (.cons (.int .i64) (.cons yP20 yP3)))⟩, ⟨[5], (.cons yP20 .nil)⟩)]) (by kernel_rfl) (by kernel_rfl) (fun x r h => (t_s_DropTo k x).trans h)
def s_Leave (k : Nat) (x : (Int × Int × (List (Int × Int × Int)) × (List (Int × Int)) × (List ((Int × Int) × Int)) × (List (Int × Int × ((Int × ByteArray × ByteArray × Int × List (Int) × Int) × Int × ByteArray × ByteArray × Int × List (Int) × Int) × List (Int × Int × Int × List (ByteArray) × List (Bool) × Int) × Int)) × Unit) × Int × Unit) : Option (((Int × Int × (List (Int × Int × Int)) × (List (Int × Int)) × (List ((Int × Int) × Int)) × (List (Int × Int × ((Int × ByteArray × ByteArray × Int × List (Int) × Int) × Int × ByteArray × ByteArray × Int × List (Int) × Int) × List (Int × Int × Int × List (ByteArray) × List (Bool) × Int) × Int)) × Unit) × Bool × Unit) × Unit × Unit × Unit) :=
((s_l22Copy k ((x.1.1, (x.1.2.1, (x.1.2.2.1, (x.1.2.2.2.1, (x.1.2.2.2.2.1, (x.1.2.2.2.2.2.1, ())))))), ())).bind fun p1 =>
((s_l22At k (x.1.2.2.2.2.2.1, (x.2.1, ()))).bind fun p2 =>
(if (decide (p2.1 < (0 : Int))) = true then
some (((p1.1.1, (p1.1.2.1, (p1.1.2.2.1, (p1.1.2.2.2.1, (p1.1.2.2.2.2.1, (p1.1.2.2.2.2.2.1, ())))))), (false, ())), ((), ((), ())))
else
((s_Release k ((x.1.1, (x.1.2.1, (x.1.2.2.1, (x.1.2.2.2.1, ())))), (x.2.1, ()))).bind fun p3 =>
((s_DropTo k (x.1.2.2.2.2.1, (x.2.1, ()))).bind fun p4 =>
(whileK (fun (rec0 : (Int × (Int × Int × (List (Int × Int × Int)) × (List (Int × Int)) × (List ((Int × Int) × Int)) × (List (Int × Int × ((Int × ByteArray × ByteArray × Int × List (Int) × Int) × Int × ByteArray × ByteArray × Int × List (Int) × Int) × List (Int × Int × Int × List (ByteArray) × List (Bool) × Int) × Int)) × Unit) × (Int × Int × (List (Int × Int × Int)) × (List (Int × Int)) × (List ((Int × Int) × Int)) × (List (Int × Int × ((Int × ByteArray × ByteArray × Int × List (Int) × Int) × Int × ByteArray × ByteArray × Int × List (Int) × Int) × List (Int × Int × Int × List (ByteArray) × List (Bool) × Int) × Int)) × Unit) × (Int × Int × (List (Int × Int × Int)) × (List (Int × Int)) × (List ((Int × Int) × Int)) × (List (Int × Int × ((Int × ByteArray × ByteArray × Int × List (Int) × Int) × Int × ByteArray × ByteArray × Int × List (Int) × Int) × List (Int × Int × Int × List (ByteArray) × List (Bool) × Int) × Int)) × Unit) × (List (Int × Int × ((Int × ByteArray × ByteArray × Int × List (Int) × Int) × Int × ByteArray × ByteArray × Int × List (Int) × Int) × List (Int × Int × Int × List (ByteArray) × List (Bool) × Int) × Int)) × Int × Unit) → Option _) (y0 : Int × (Int × Int × (List (Int × Int × Int)) × (List (Int × Int)) × (List ((Int × Int) × Int)) × (List (Int × Int × ((Int × ByteArray × ByteArray × Int × List (Int) × Int) × Int × ByteArray × ByteArray × Int × List (Int) × Int) × List (Int × Int × Int × List (ByteArray) × List (Bool) × Int) × Int)) × Unit) × (Int × Int × (List (Int × Int × Int)) × (List (Int × Int)) × (List ((Int × Int) × Int)) × (List (Int × Int × ((Int × ByteArray × ByteArray × Int × List (Int) × Int) × Int × ByteArray × ByteArray × Int × List (Int) × Int) × List (Int × Int × Int × List (ByteArray) × List (Bool) × Int) × Int)) × Unit) × (Int × Int × (List (Int × Int × Int)) × (List (Int × Int)) × (List ((Int × Int) × Int)) × (List (Int × Int × ((Int × ByteArray × ByteArray × Int × List (Int) × Int) × Int × ByteArray × ByteArray × Int × List (Int) × Int) × List (Int × Int × Int × List (ByteArray) × List (Bool) × Int) × Int)) × Unit) × (List (Int × Int × ((Int × ByteArray × ByteArray × Int × List (Int) × Int) × Int × ByteArray × ByteArray × Int × List (Int) × Int) × List (Int × Int × Int × List (ByteArray) × List (Bool) × Int) × Int)) × Int × Unit) =>
(if (decide (y0.2.2.2.2.2.1 < (List.length y0.2.1.2.2.2.2.2.1 : Int))) = true then
(if 0 ≤ y0.2.2.2.2.2.1 ∧ y0.2.2.2.2.2.1 < (List.length y0.2.1.2.2.2.2.2.1 : Int) then
(if (!decide ((Ty.rd (t := (.pair (.int .i64) (.pair (.int .i64) (.pair (.pair (.pair (.int .i64) (.pair .str (.pair .str (.pair (.int .i64) (.pair (.list (.int .i64)) (.int .i64)))))) (.pair (.int .i64) (.pair .str (.pair .str (.pair (.int .i64) (.pair (.list (.int .i64)) (.int .i64))))))) (.pair (.list (.pair (.int .i64) (.pair (.int .i64) (.pair (.int .i64) (.pair (.list .str) (.pair (.list .bool) (.int .i64))))))) (.int .i64)))))) y0.2.1.2.2.2.2.2.1 y0.2.2.2.2.2.1).1 = y0.1)) = true then
(if 0 ≤ y0.2.2.2.2.2.1 ∧ y0.2.2.2.2.2.1 < (List.length y0.2.1.2.2.2.2.2.1 : Int) then
(if List.length y0.2.2.2.2.1 + List.length ([((Ty.rd (t := (.pair (.int .i64) (.pair (.int .i64) (.pair (.pair (.pair (.int .i64) (.pair .str (.pair .str (.pair (.int .i64) (.pair (.list (.int .i64)) (.int .i64)))))) (.pair (.int .i64) (.pair .str (.pair .str (.pair (.int .i64) (.pair (.list (.int .i64)) (.int .i64))))))) (.pair (.list (.pair (.int .i64) (.pair (.int .i64) (.pair (.int .i64) (.pair (.list .str) (.pair (.list .bool) (.int .i64))))))) (.int .i64)))))) y0.2.1.2.2.2.2.2.1 y0.2.2.2.2.2.1).1, ((Ty.rd (t := (.pair (.int .i64) (.pair (.int .i64) (.pair (.pair (.pair (.int .i64) (.pair .str (.pair .str (.pair (.int .i64) (.pair (.list (.int .i64)) (.int .i64)))))) (.pair (.int .i64) (.pair .str (.pair .str (.pair (.int .i64) (.pair (.list (.int .i64)) (.int .i64))))))) (.pair (.list (.pair (.int .i64) (.pair (.int .i64) (.pair (.int .i64) (.pair (.list .str) (.pair (.list .bool) (.int .i64))))))) (.int .i64)))))) y0.2.1.2.2.2.2.2.1 y0.2.2.2.2.2.1).2.1, ((((Ty.rd (t := (.pair (.int .i64) (.pair (.int .i64) (.pair (.pair (.pair (.int .i64) (.pair .str (.pair .str (.pair (.int .i64) (.pair (.list (.int .i64)) (.int .i64)))))) (.pair (.int .i64) (.pair .str (.pair .str (.pair (.int .i64) (.pair (.list (.int .i64)) (.int .i64))))))) (.pair (.list (.pair (.int .i64) (.pair (.int .i64) (.pair (.int .i64) (.pair (.list .str) (.pair (.list .bool) (.int .i64))))))) (.int .i64)))))) y0.2.1.2.2.2.2.2.1 y0.2.2.2.2.2.1).2.2.1.1.1, ((Ty.rd (t := (.pair (.int .i64) (.pair (.int .i64) (.pair (.pair (.pair (.int .i64) (.pair .str (.pair .str (.pair (.int .i64) (.pair (.list (.int .i64)) (.int .i64)))))) (.pair (.int .i64) (.pair .str (.pair .str (.pair (.int .i64) (.pair (.list (.int .i64)) (.int .i64))))))) (.pair (.list (.pair (.int .i64) (.pair (.int .i64) (.pair (.int .i64) (.pair (.list .str) (.pair (.list .bool) (.int .i64))))))) (.int .i64)))))) y0.2.1.2.2.2.2.2.1 y0.2.2.2.2.2.1).2.2.1.1.2.1, ((Ty.rd (t := (.pair (.int .i64) (.pair (.int .i64) (.pair (.pair (.pair (.int .i64) (.pair .str (.pair .str (.pair (.int .i64) (.pair (.list (.int .i64)) (.int .i64)))))) (.pair (.int .i64) (.pair .str (.pair .str (.pair (.int .i64) (.pair (.list (.int .i64)) (.int .i64))))))) (.pair (.list (.pair (.int .i64) (.pair (.int .i64) (.pair (.int .i64) (.pair (.list .str) (.pair (.list .bool) (.int .i64))))))) (.int .i64)))))) y0.2.1.2.2.2.2.2.1 y0.2.2.2.2.2.1).2.2.1.1.2.2.1, ((Ty.rd (t := (.pair (.int .i64) (.pair (.int .i64) (.pair (.pair (.pair (.int .i64) (.pair .str (.pair .str (.pair (.int .i64) (.pair (.list (.int .i64)) (.int .i64)))))) (.pair (.int .i64) (.pair .str (.pair .str (.pair (.int .i64) (.pair (.list (.int .i64)) (.int .i64))))))) (.pair (.list (.pair (.int .i64) (.pair (.int .i64) (.pair (.int .i64) (.pair (.list .str) (.pair (.list .bool) (.int .i64))))))) (.int .i64)))))) y0.2.1.2.2.2.2.2.1 y0.2.2.2.2.2.1).2.2.1.1.2.2.2.1, ((Ty.rd (t := (.pair (.int .i64) (.pair (.int .i64) (.pair (.pair (.pair (.int .i64) (.pair .str (.pair .str (.pair (.int .i64) (.pair (.list (.int .i64)) (.int .i64)))))) (.pair (.int .i64) (.pair .str (.pair .str (.pair (.int .i64) (.pair (.list (.int .i64)) (.int .i64))))))) (.pair (.list (.pair (.int .i64) (.pair (.int .i64) (.pair (.int .i64) (.pair (.list .str) (.pair (.list .bool) (.int .i64))))))) (.int .i64)))))) y0.2.1.2.2.2.2.2.1 y0.2.2.2.2.2.1).2.2.1.1.2.2.2.2.1, (Ty.rd (t := (.pair (.int .i64) (.pair (.int .i64) (.pair (.pair (.pair (.int .i64) (.pair .str (.pair .str (.pair (.int .i64) (.pair (.list (.int .i64)) (.int .i64)))))) (.pair (.int .i64) (.pair .str (.pair .str (.pair (.int .i64) (.pair (.list (.int .i64)) (.int .i64))))))) (.pair (.list (.pair (.int .i64) (.pair (.int .i64) (.pair (.int .i64) (.pair (.list .str) (.pair (.list .bool) (.int .i64))))))) (.int .i64)))))) y0.2.1.2.2.2.2.2.1 y0.2.2.2.2.2.1).2.2.1.1.2.2.2.2.2))))), ((Ty.rd (t := (.pair (.int .i64) (.pair (.int .i64) (.pair (.pair (.pair (.int .i64) (.pair .str (.pair .str (.pair (.int .i64) (.pair (.list (.int .i64)) (.int .i64)))))) (.pair (.int .i64) (.pair .str (.pair .str (.pair (.int .i64) (.pair (.list (.int .i64)) (.int .i64))))))) (.pair (.list (.pair (.int .i64) (.pair (.int .i64) (.pair (.int .i64) (.pair (.list .str) (.pair (.list .bool) (.int .i64))))))) (.int .i64)))))) y0.2.1.2.2.2.2.2.1 y0.2.2.2.2.2.1).2.2.1.2.1, ((Ty.rd (t := (.pair (.int .i64) (.pair (.int .i64) (.pair (.pair (.pair (.int .i64) (.pair .str (.pair .str (.pair (.int .i64) (.pair (.list (.int .i64)) (.int .i64)))))) (.pair (.int .i64) (.pair .str (.pair .str (.pair (.int .i64) (.pair (.list (.int .i64)) (.int .i64))))))) (.pair (.list (.pair (.int .i64) (.pair (.int .i64) (.pair (.int .i64) (.pair (.list .str) (.pair (.list .bool) (.int .i64))))))) (.int .i64)))))) y0.2.1.2.2.2.2.2.1 y0.2.2.2.2.2.1).2.2.1.2.2.1, ((Ty.rd (t := (.pair (.int .i64) (.pair (.int .i64) (.pair (.pair (.pair (.int .i64) (.pair .str (.pair .str (.pair (.int .i64) (.pair (.list (.int .i64)) (.int .i64)))))) (.pair (.int .i64) (.pair .str (.pair .str (.pair (.int .i64) (.pair (.list (.int .i64)) (.int .i64))))))) (.pair (.list (.pair (.int .i64) (.pair (.int .i64) (.pair (.int .i64) (.pair (.list .str) (.pair (.list .bool) (.int .i64))))))) (.int .i64)))))) y0.2.1.2.2.2.2.2.1 y0.2.2.2.2.2.1).2.2.1.2.2.2.1, ((Ty.rd (t := (.pair (.int .i64) (.pair (.int .i64) (.pair (.pair (.pair (.int .i64) (.pair .str (.pair .str (.pair (.int .i64) (.pair (.list (.int .i64)) (.int .i64)))))) (.pair (.int .i64) (.pair .str (.pair .str (.pair (.int .i64) (.pair (.list (.int .i64)) (.int .i64))))))) (.pair (.list (.pair (.int .i64) (.pair (.int .i64) (.pair (.int .i64) (.pair (.list .str) (.pair (.list .bool) (.int .i64))))))) (.int .i64)))))) y0.2.1.2.2.2.2.2.1 y0.2.2.2.2.2.1).2.2.1.2.2.2.2.1, ((Ty.rd (t := (.pair (.int .i64) (.pair (.int .i64) (.pair (.pair (.pair (.int .i64) (.pair .str (.pair .str (.pair (.int .i64) (.pair (.list (.int .i64)) (.int .i64)))))) (.pair (.int .i64) (.pair .str (.pair .str (.pair (.int .i64) (.pair (.list (.int .i64)) (.int .i64))))))) (.pair (.list (.pair (.int .i64) (.pair (.int .i64) (.pair (.int .i64) (.pair (.list .str) (.pair (.list .bool) (.int .i64))))))) (.int .i64)))))) y0.2.1.2.2.2.2.2.1 y0.2.2.2.2.2.1).2.2.1.2.2.2.2.2.1, (Ty.rd (t := (.pair (.int .i64) (.pair (.int .i64) (.pair (.pair (.pair (.int .i64) (.pair .str (.pair .str (.pair (.int .i64) (.pair (.list (.int .i64)) (.int .i64)))))) (.pair (.int .i64) (.pair .str (.pair .str (.pair (.int .i64) (.pair (.list (.int .i64)) (.int .i64))))))) (.pair (.list (.pair (.int .i64) (.pair (.int .i64) (.pair (.int .i64) (.pair (.list .str) (.pair (.list .bool) (.int .i64))))))) (.int .i64)))))) y0.2.1.2.2.2.2.2.1 y0.2.2.2.2.2.1).2.2.1.2.2.2.2.2.2)))))), ((Ty.rd (t := (.pair (.int .i64) (.pair (.int .i64) (.pair (.pair (.pair (.int .i64) (.pair .str (.pair .str (.pair (.int .i64) (.pair (.list (.int .i64)) (.int .i64)))))) (.pair (.int .i64) (.pair .str (.pair .str (.pair (.int .i64) (.pair (.list (.int .i64)) (.int .i64))))))) (.pair (.list (.pair (.int .i64) (.pair (.int .i64) (.pair (.int .i64) (.pair (.list .str) (.pair (.list .bool) (.int .i64))))))) (.int .i64)))))) y0.2.1.2.2.2.2.2.1 y0.2.2.2.2.2.1).2.2.2.1, (Ty.rd (t := (.pair (.int .i64) (.pair (.int .i64) (.pair (.pair (.pair (.int .i64) (.pair .str (.pair .str (.pair (.int .i64) (.pair (.list (.int .i64)) (.int .i64)))))) (.pair (.int .i64) (.pair .str (.pair .str (.pair (.int .i64) (.pair (.list (.int .i64)) (.int .i64))))))) (.pair (.list (.pair (.int .i64) (.pair (.int .i64) (.pair (.int .i64) (.pair (.list .str) (.pair (.list .bool) (.int .i64))))))) (.int .i64)))))) y0.2.1.2.2.2.2.2.1 y0.2.2.2.2.2.1).2.2.2.2))))] : List (Int × Int × ((Int × ByteArray × ByteArray × Int × List (Int) × Int) × Int × ByteArray × ByteArray × Int × List (Int) × Int) × List (Int × Int × Int × List (ByteArray) × List (Bool) × Int) × Int)) ≤ capMax then
(rec0 (y0.1, ((y0.2.1.1, (y0.2.1.2.1, (y0.2.1.2.2.1, (y0.2.1.2.2.2.1, (y0.2.1.2.2.2.2.1, (y0.2.1.2.2.2.2.2.1, ())))))), ((y0.2.2.1.1, (y0.2.2.1.2.1, (y0.2.2.1.2.2.1, (y0.2.2.1.2.2.2.1, (y0.2.2.1.2.2.2.2.1, (y0.2.2.1.2.2.2.2.2.1, ())))))), ((y0.2.2.2.1.1, (y0.2.2.2.1.2.1, (y0.2.2.2.1.2.2.1, (y0.2.2.2.1.2.2.2.1, (y0.2.2.2.1.2.2.2.2.1, (y0.2.2.2.1.2.2.2.2.2.1, ())))))), ((y0.2.2.2.2.1 ++ ([((Ty.rd (t := (.pair (.int .i64) (.pair (.int .i64) (.pair (.pair (.pair (.int .i64) (.pair .str (.pair .str (.pair (.int .i64) (.pair (.list (.int .i64)) (.int .i64)))))) (.pair (.int .i64) (.pair .str (.pair .str (.pair (.int .i64) (.pair (.list (.int .i64)) (.int .i64))))))) (.pair (.list (.pair (.int .i64) (.pair (.int .i64) (.pair (.int .i64) (.pair (.list .str) (.pair (.list .bool) (.int .i64))))))) (.int .i64)))))) y0.2.1.2.2.2.2.2.1 y0.2.2.2.2.2.1).1, ((Ty.rd (t := (.pair (.int .i64) (.pair (.int .i64) (.pair (.pair (.pair (.int .i64) (.pair .str (.pair .str (.pair (.int .i64) (.pair (.list (.int .i64)) (.int .i64)))))) (.pair (.int .i64) (.pair .str (.pair .str (.pair (.int .i64) (.pair (.list (.int .i64)) (.int .i64))))))) (.pair (.list (.pair (.int .i64) (.pair (.int .i64) (.pair (.int .i64) (.pair (.list .str) (.pair (.list .bool) (.int .i64))))))) (.int .i64)))))) y0.2.1.2.2.2.2.2.1 y0.2.2.2.2.2.1).2.1, ((((Ty.rd (t := (.pair (.int .i64) (.pair (.int .i64) (.pair (.pair (.pair (.int .i64) (.pair .str (.pair .str (.pair (.int .i64) (.pair (.list (.int .i64)) (.int .i64)))))) (.pair (.int .i64) (.pair .str (.pair .str (.pair (.int .i64) (.pair (.list (.int .i64)) (.int .i64))))))) (.pair (.list (.pair (.int .i64) (.pair (.int .i64) (.pair (.int .i64) (.pair (.list .str) (.pair (.list .bool) (.int .i64))))))) (.int .i64)))))) y0.2.1.2.2.2.2.2.1 y0.2.2.2.2.2.1).2.2.1.1.1, ((Ty.rd (t := (.pair (.int .i64) (.pair (.int .i64) (.pair (.pair (.pair (.int .i64) (.pair .str (.pair .str (.pair (.int .i64) (.pair (.list (.int .i64)) (.int .i64)))))) (.pair (.int .i64) (.pair .str (.pair .str (.pair (.int .i64) (.pair (.list (.int .i64)) (.int .i64))))))) (.pair (.list (.pair (.int .i64) (.pair (.int .i64) (.pair (.int .i64) (.pair (.list .str) (.pair (.list .bool) (.int .i64))))))) (.int .i64)))))) y0.2.1.2.2.2.2.2.1 y0.2.2.2.2.2.1).2.2.1.1.2.1, ((Ty.rd (t := (.pair (.int .i64) (.pair (.int .i64) (.pair (.pair (.pair (.int .i64) (.pair .str (.pair .str (.pair (.int .i64) (.pair (.list (.int .i64)) (.int .i64)))))) (.pair (.int .i64) (.pair .str (.pair .str (.pair (.int .i64) (.pair (.list (.int .i64)) (.int .i64))))))) (.pair (.list (.pair (.int .i64) (.pair (.int .i64) (.pair (.int .i64) (.pair (.list .str) (.pair (.list .bool) (.int .i64))))))) (.int .i64)))))) y0.2.1.2.2.2.2.2.1 y0.2.2.2.2.2.1).2.2.1.1.2.2.1, ((Ty.rd (t := (.pair (.int .i64) (.pair (.int .i64) (.pair (.pair (.pair (.int .i64) (.pair .str (.pair .str (.pair (.int .i64) (.pair (.list (.int .i64)) (.int .i64)))))) (.pair (.int .i64) (.pair .str (.pair .str (.pair (.int .i64) (.pair (.list (.int .i64)) (.int .i64))))))) (.pair (.list (.pair (.int .i64) (.pair (.int .i64) (.pair (.int .i64) (.pair (.list .str) (.pair (.list .bool) (.int .i64))))))) (.int .i64)))))) y0.2.1.2.2.2.2.2.1 y0.2.2.2.2.2.1).2.2.1.1.2.2.2.1, ((Ty.rd (t := (.pair (.int .i64) (.pair (.int .i64) (.pair (.pair (.pair (.int .i64) (.pair .str (.pair .str (.pair (.int .i64) (.pair (.list (.int .i64)) (.int .i64)))))) (.pair (.int .i64) (.pair .str (.pair .str (.pair (.int .i64) (.pair (.list (.int .i64)) (.int .i64))))))) (.pair (.list (.pair (.int .i64) (.pair (.int .i64) (.pair (.int .i64) (.pair (.list .str) (.pair (.list .bool) (.int .i64))))))) (.int .i64)))))) y0.2.1.2.2.2.2.2.1 y0.2.2.2.2.2.1).2.2.1.1.2.2.2.2.1, (Ty.rd (t := (.pair (.int .i64) (.pair (.int .i64) (.pair (.pair (.pair (.int .i64) (.pair .str (.pair .str (.pair (.int .i64) (.pair (.list (.int .i64)) (.int .i64)))))) (.pair (.int .i64) (.pair .str (.pair .str (.pair (.int .i64) (.pair (.list (.int .i64)) (.int .i64))))))) (.pair (.list (.pair (.int .i64) (.pair (.int .i64) (.pair (.int .i64) (.pair (.list .str) (.pair (.list .bool) (.int .i64))))))) (.int .i64)))))) y0.2.1.2.2.2.2.2.1 y0.2.2.2.2.2.1).2.2.1.1.2.2.2.2.2))))), ((Ty.rd (t := (.pair (.int .i64) (.pair (.int .i64) (.pair (.pair (.pair (.int .i64) (.pair .str (.pair .str (.pair (.int .i64) (.pair (.list (.int .i64)) (.int .i64)))))) (.pair (.int .i64) (.pair .str (.pair .str (.pair (.int .i64) (.pair (.list (.int .i64)) (.int .i64))))))) (.pair (.list (.pair (.int .i64) (.pair (.int .i64) (.pair (.int .i64) (.pair (.list .str) (.pair (.list .bool) (.int .i64))))))) (.int .i64)))))) y0.2.1.2.2.2.2.2.1 y0.2.2.2.2.2.1).2.2.1.2.1, ((Ty.rd (t := (.pair (.int .i64) (.pair (.int .i64) (.pair (.pair (.pair (.int .i64) (.pair .str (.pair .str (.pair (.int .i64) (.pair (.list (.int .i64)) (.int .i64)))))) (.pair (.int .i64) (.pair .str (.pair .str (.pair (.int .i64) (.pair (.list (.int .i64)) (.int .i64))))))) (.pair (.list (.pair (.int .i64) (.pair (.int .i64) (.pair (.int .i64) (.pair (.list .str) (.pair (.list .bool) (.int .i64))))))) (.int .i64)))))) y0.2.1.2.2.2.2.2.1 y0.2.2.2.2.2.1).2.2.1.2.2.1, ((Ty.rd (t := (.pair (.int .i64) (.pair (.int .i64) (.pair (.pair (.pair (.int .i64) (.pair .str (.pair .str (.pair (.int .i64) (.pair (.list (.int .i64)) (.int .i64)))))) (.pair (.int .i64) (.pair .str (.pair .str (.pair (.int .i64) (.pair (.list (.int .i64)) (.int .i64))))))) (.pair (.list (.pair (.int .i64) (.pair (.int .i64) (.pair (.int .i64) (.pair (.list .str) (.pair (.list .bool) (.int .i64))))))) (.int .i64)))))) y0.2.1.2.2.2.2.2.1 y0.2.2.2.2.2.1).2.2.1.2.2.2.1, ((Ty.rd (t := (.pair (.int .i64) (.pair (.int .i64) (.pair (.pair (.pair (.int .i64) (.pair .str (.pair .str (.pair (.int .i64) (.pair (.list (.int .i64)) (.int .i64)))))) (.pair (.int .i64) (.pair .str (.pair .str (.pair (.int .i64) (.pair (.list (.int .i64)) (.int .i64))))))) (.pair (.list (.pair (.int .i64) (.pair (.int .i64) (.pair (.int .i64) (.pair (.list .str) (.pair (.list .bool) (.int .i64))))))) (.int .i64)))))) y0.2.1.2.2.2.2.2.1 y0.2.2.2.2.2.1).2.2.1.2.2.2.2.1, ((Ty.rd (t := (.pair (.int .i64) (.pair (.int .i64) (.pair (.pair (.pair (.int .i64) (.pair .str (.pair .str (.pair (.int .i64) (.pair (.list (.int .i64)) (.int .i64)))))) (.pair (.int .i64) (.pair .str (.pair .str (.pair (.int .i64) (.pair (.list (.int .i64)) (.int .i64))))))) (.pair (.list (.pair (.int .i64) (.pair (.int .i64) (.pair (.int .i64) (.pair (.list .str) (.pair (.list .bool) (.int .i64))))))) (.int .i64)))))) y0.2.1.2.2.2.2.2.1 y0.2.2.2.2.2.1).2.2.1.2.2.2.2.2.1, (Ty.rd (t := (.pair (.int .i64) (.pair (.int .i64) (.pair (.pair (.pair (.int .i64) (.pair .str (.pair .str (.pair (.int .i64) (.pair (.list (.int .i64)) (.int .i64)))))) (.pair (.int .i64) (.pair .str (.pair .str (.pair (.int .i64) (.pair (.list (.int .i64)) (.int .i64))))))) (.pair (.list (.pair (.int .i64) (.pair (.int .i64) (.pair (.int .i64) (.pair (.list .str) (.pair (.list .bool) (.int .i64))))))) (.int .i64)))))) y0.2.1.2.2.2.2.2.1 y0.2.2.2.2.2.1).2.2.1.2.2.2.2.2.2)))))), ((Ty.rd (t := (.pair (.int .i64) (.pair (.int .i64) (.pair (.pair (.pair (.int .i64) (.pair .str (.pair .str (.pair (.int .i64) (.pair (.list (.int .i64)) (.int .i64)))))) (.pair (.int .i64) (.pair .str (.pair .str (.pair (.int .i64) (.pair (.list (.int .i64)) (.int .i64))))))) (.pair (.list (.pair (.int .i64) (.pair (.int .i64) (.pair (.int .i64) (.pair (.list .str) (.pair (.list .bool) (.int .i64))))))) (.int .i64)))))) y0.2.1.2.2.2.2.2.1 y0.2.2.2.2.2.1).2.2.2.1, (Ty.rd (t := (.pair (.int .i64) (.pair (.int .i64) (.pair (.pair (.pair (.int .i64) (.pair .str (.pair .str (.pair (.int .i64) (.pair (.list (.int .i64)) (.int .i64)))))) (.pair (.int .i64) (.pair .str (.pair .str (.pair (.int .i64) (.pair (.list (.int .i64)) (.int .i64))))))) (.pair (.list (.pair (.int .i64) (.pair (.int .i64) (.pair (.int .i64) (.pair (.list .str) (.pair (.list .bool) (.int .i64))))))) (.int .i64)))))) y0.2.1.2.2.2.2.2.1 y0.2.2.2.2.2.1).2.2.2.2))))] : List (Int × Int × ((Int × ByteArray × ByteArray × Int × List (Int) × Int) × Int × ByteArray × ByteArray × Int × List (Int) × Int) × List (Int × Int × Int × List (ByteArray) × List (Bool) × Int) × Int))), ((wi64 (y0.2.2.2.2.2.1 + (1 : Int))), ())))))))
else none)
else none)
else
(rec0 (y0.1, ((y0.2.1.1, (y0.2.1.2.1, (y0.2.1.2.2.1, (y0.2.1.2.2.2.1, (y0.2.1.2.2.2.2.1, (y0.2.1.2.2.2.2.2.1, ())))))), ((y0.2.2.1.1, (y0.2.2.1.2.1, (y0.2.2.1.2.2.1, (y0.2.2.1.2.2.2.1, (y0.2.2.1.2.2.2.2.1, (y0.2.2.1.2.2.2.2.2.1, ())))))), ((y0.2.2.2.1.1, (y0.2.2.2.1.2.1, (y0.2.2.2.1.2.2.1, (y0.2.2.2.1.2.2.2.1, (y0.2.2.2.1.2.2.2.2.1, (y0.2.2.2.1.2.2.2.2.2.1, ())))))), (y0.2.2.2.2.1, ((wi64 (y0.2.2.2.2.2.1 + (1 : Int))), ()))))))))
else none)
else
((fun (z1 : (Int × Int × (List (Int × Int × Int)) × (List (Int × Int)) × (List ((Int × Int) × Int)) × (List (Int × Int × ((Int × ByteArray × ByteArray × Int × List (Int) × Int) × Int × ByteArray × ByteArray × Int × List (Int) × Int) × List (Int × Int × Int × List (ByteArray) × List (Bool) × Int) × Int)) × Unit) × (Int × Int × (List (Int × Int × Int)) × (List (Int × Int)) × (List ((Int × Int) × Int)) × (List (Int × Int × ((Int × ByteArray × ByteArray × Int × List (Int) × Int) × Int × ByteArray × ByteArray × Int × List (Int) × Int) × List (Int × Int × Int × List (ByteArray) × List (Bool) × Int) × Int)) × Unit) × (List (Int × Int × ((Int × ByteArray × ByteArray × Int × List (Int) × Int) × Int × ByteArray × ByteArray × Int × List (Int) × Int) × List (Int × Int × Int × List (ByteArray) × List (Bool) × Int) × Int)) × Unit) =>
((s_l22CopyUsers k (z1.2.2.1, ())).bind fun p5 =>
some (((z1.2.1.1, (z1.2.1.2.1, (z1.2.1.2.2.1, (z1.2.1.2.2.2.1, (z1.2.1.2.2.2.2.1, (p5.1, ())))))), (true, ())), ((), ((), ()))))) ((y0.2.2.1.1, (y0.2.2.1.2.1, (y0.2.2.1.2.2.1, (y0.2.2.1.2.2.2.1, (y0.2.2.1.2.2.2.2.1, (y0.2.2.1.2.2.2.2.2.1, ())))))), ((y0.2.2.2.1.1, (y0.2.2.2.1.2.1, (y0.2.2.2.1.2.2.1, (y0.2.2.2.1.2.2.2.1, (y0.2.2.2.1.2.2.2.2.1, (y0.2.2.2.1.2.2.2.2.2.1, ())))))), (y0.2.2.2.2.1, ())))))) k (x.2.1, ((x.1.1, (x.1.2.1, (x.1.2.2.1, (x.1.2.2.2.1, (x.1.2.2.2.2.1, (x.1.2.2.2.2.2.1, ())))))), (((0 : Int), ((0 : Int), ([], ([], ([], ([], ())))))), ((p3.1.1.1, (p3.1.1.2.1, (p3.1.1.2.2.1, (p3.1.1.2.2.2.1, (p4.1, (p1.1.2.2.2.2.2.1, ())))))), (([] : List (Int × Int × ((Int × ByteArray × ByteArray × Int × List (Int) × Int) × Int × ByteArray × ByteArray × Int × List (Int) × Int) × List (Int × Int × Int × List (ByteArray) × List (Bool) × Int) × Int)), ((0 : Int), ()))))))))))))
theorem t_s_Leave (k : Nat) (x) : evF TTab k [⟨61, 0, (.cons yP7 .nil), (.agg yP12), s_l22Copy k⟩, ⟨63, 0, (.cons (.il true yT0) yP3), (.int .i64), s_l22At k⟩, ⟨66, 0, (.cons (.il true yT0) .nil), (.own false 45 yT0), s_l22CopyUsers k⟩, ⟨88, 0, (.cons (.agg yP5) yP3), (.tup (.cons (.agg yP10) (.cons .bool .nil))), s_Release k⟩, ⟨89, 0, (.cons yP21 yP3), yP20, s_DropTo k⟩] [(0, ⟨[1, 2, 4, 6, 7, 8], (.cons (.int .i64) (.cons (.ptr 0 yP27) (.cons (.ptr 0 yP12) (.cons (.ptr 0 yP12) (.cons (.own false 45 yT0) yP3)))))⟩, ⟨[4, 6, 7], (.cons (.ptr 0 yP12) (.cons (.ptr 0 yP12) (.cons (.own false 45 yT0) .nil)))⟩)] Tryz.f27 (.cons (.agg yP27) yP3) (.tup (.cons (.agg yP12) (.cons .bool .nil))) x = s_Leave k x := by kernel_rfl
theorem e_s_Leave [Names] (k : Nat) : EntryOk Tryz.prog ⟨27, 0, (.cons (.agg yP27) yP3), (.tup (.cons (.agg yP12) (.cons .bool .nil))), s_Leave k⟩ := entry_ok tok (by intro e he; simp only [List.mem_cons, List.not_mem_nil, or_false] at he; rcases he with rfl | rfl | rfl | rfl | rfl <;> first | exact e_s_l22Copy k | exact e_s_l22At k | exact e_s_l22CopyUsers k | exact e_s_Release k | exact e_s_DropTo k) (by kernel_rfl) (fn := Tryz.f27) (k := k) (es := [⟨61, 0, (.cons yP7 .nil), (.agg yP12), s_l22Copy k⟩, ⟨63, 0, (.cons (.il true yT0) yP3), (.int .i64), s_l22At k⟩, ⟨66, 0, (.cons (.il true yT0) .nil), (.own false 45 yT0), s_l22CopyUsers k⟩, ⟨88, 0, (.cons (.agg yP5) yP3), (.tup (.cons (.agg yP10) (.cons .bool .nil))), s_Release k⟩, ⟨89, 0, (.cons yP21 yP3), yP20, s_DropTo k⟩]) (loops := [(0, ⟨[1, 2, 4, 6, 7, 8], (.cons (.int .i64) (.cons (.ptr 0 yP27) (.cons (.ptr 0 yP12) (.cons (.ptr 0 yP12) (.cons (.own false 45 yT0) yP3)))))⟩, ⟨[4, 6, 7], (.cons (.ptr 0 yP12) (.cons (.ptr 0 yP12) (.cons (.own false 45 yT0) .nil)))⟩)]) (by kernel_rfl) (by kernel_rfl) (fun x r h => (t_s_Leave k x).trans h)
def i_copyPool (k : Nat) (x : (Int × Int × (List (Int × Int × Int)) × (List (Int × Int)) × Unit) × Unit) : Option ((Int × Int × (List (Int × Int × Int)) × (List (Int × Int)) × Unit) × Unit × Unit) :=
(if List.length ([] : List (Int × Int × Int)) + List.length x.1.2.2.1 ≤ capMax then
(if List.length ([] : List (Int × Int)) + List.length x.1.2.2.2.1 ≤ capMax then
some ((x.1.1, (x.1.2.1, ((([] : List (Int × Int × Int)) ++ x.1.2.2.1), ((([] : List (Int × Int)) ++ x.1.2.2.2.1), ())))), ((), ()))
else none)
else none)
theorem t_i_copyPool (k : Nat) (x) : evF TTab k [] [] Tryz.f128 (.cons (.agg yP5) .nil) (.agg yP10) x = i_copyPool k x := by kernel_rfl
theorem e_i_copyPool [Names] (k : Nat) : EntryOk Tryz.prog ⟨128, 0, (.cons (.agg yP5) .nil), (.agg yP10), i_copyPool k⟩ := entry_ok tok (by simp) (by kernel_rfl) (fn := Tryz.f128) (k := k) (es := []) (loops := []) (by kernel_rfl) (by kernel_rfl) (fun x r h => (t_i_copyPool k x).trans h)
def i_copyRoutes (k : Nat) (x : (List ((Int × Int) × Int)) × Unit) : Option ((List ((Int × Int) × Int)) × Unit × Unit) :=
(if List.length ([] : List ((Int × Int) × Int)) + List.length x.1 ≤ capMax then
some ((([] : List ((Int × Int) × Int)) ++ x.1), ((), ()))
else none)
theorem t_i_copyRoutes (k : Nat) (x) : evF TTab k [] [] Tryz.f129 (.cons yP21 .nil) yP20 x = i_copyRoutes k x := by kernel_rfl
theorem e_i_copyRoutes [Names] (k : Nat) : EntryOk Tryz.prog ⟨129, 0, (.cons yP21 .nil), yP20, i_copyRoutes k⟩ := entry_ok tok (by simp) (by kernel_rfl) (fn := Tryz.f129) (k := k) (es := []) (loops := []) (by kernel_rfl) (by kernel_rfl) (fun x r h => (t_i_copyRoutes k x).trans h)
def i_copyInts (k : Nat) (x : List (Int) × Unit) : Option (List (Int) × Unit × Unit) :=
(if List.length ([] : List (Int)) + List.length x.1 ≤ capMax then
some ((([] : List (Int)) ++ x.1), ((), ()))
else none)
theorem t_i_copyInts (k : Nat) (x) : evF TTab k [] [] Tryz.f254 (.cons (.il true (.int .i64)) .nil) yP32 x = i_copyInts k x := by kernel_rfl
theorem e_i_copyInts [Names] (k : Nat) : EntryOk Tryz.prog ⟨254, 0, (.cons (.il true (.int .i64)) .nil), yP32, i_copyInts k⟩ := entry_ok tok (by simp) (by kernel_rfl) (fn := Tryz.f254) (k := k) (es := []) (loops := []) (by kernel_rfl) (by kernel_rfl) (fun x r h => (t_i_copyInts k x).trans h)
def i_copySlots (k : Nat) (x : (Int × ByteArray × ByteArray × Int × List (Int) × Int × Int × ByteArray × ByteArray × Int × List (Int) × Int × Unit) × Unit) : Option ((Int × ByteArray × ByteArray × Int × List (Int) × Int × Int × ByteArray × ByteArray × Int × List (Int) × Int × Unit) × Unit × Unit) :=
((i_copyInts k (x.1.2.2.2.2.1, ())).bind fun p1 =>
((i_copyInts k (x.1.2.2.2.2.2.2.2.2.2.2.1, ())).bind fun p2 =>
some ((x.1.1, (x.1.2.1, (x.1.2.2.1, (x.1.2.2.2.1, (p1.1, (x.1.2.2.2.2.2.1, (x.1.2.2.2.2.2.2.1, (x.1.2.2.2.2.2.2.2.1, (x.1.2.2.2.2.2.2.2.2.1, (x.1.2.2.2.2.2.2.2.2.2.1, (p2.1, (x.1.2.2.2.2.2.2.2.2.2.2.2.1, ())))))))))))), ((), ()))))
theorem t_i_copySlots (k : Nat) (x) : evF TTab k [⟨254, 0, (.cons (.il true (.int .i64)) .nil), yP32, i_copyInts k⟩] [] Tryz.f183 (.cons yP8 .nil) yP13 x = i_copySlots k x := by kernel_rfl
theorem e_i_copySlots [Names] (k : Nat) : EntryOk Tryz.prog ⟨183, 0, (.cons yP8 .nil), yP13, i_copySlots k⟩ := entry_ok tok (by intro e he; simp only [List.mem_cons, List.not_mem_nil, or_false] at he; rcases he with rfl <;> first | exact e_i_copyInts k) (by kernel_rfl) (fn := Tryz.f183) (k := k) (es := [⟨254, 0, (.cons (.il true (.int .i64)) .nil), yP32, i_copyInts k⟩]) (loops := []) (by kernel_rfl) (by kernel_rfl) (fun x r h => (t_i_copySlots k x).trans h)
def i_copyTexts (k : Nat) (x : List (ByteArray) × Unit) : Option (List (ByteArray) × Unit × Unit) :=
(if List.length ([] : List (ByteArray)) + List.length x.1 ≤ capMax then
some ((([] : List (ByteArray)) ++ x.1), ((), ()))
else none)
theorem t_i_copyTexts (k : Nat) (x) : evF TTab k [] [] Tryz.f255 (.cons (.il true .str) .nil) (.own false 9 .str) x = i_copyTexts k x := by kernel_rfl
theorem e_i_copyTexts [Names] (k : Nat) : EntryOk Tryz.prog ⟨255, 0, (.cons (.il true .str) .nil), (.own false 9 .str), i_copyTexts k⟩ := entry_ok tok (by simp) (by kernel_rfl) (fn := Tryz.f255) (k := k) (es := []) (loops := []) (by kernel_rfl) (by kernel_rfl) (fun x r h => (t_i_copyTexts k x).trans h)
def i_copyShelf (k : Nat) (x : ((List (Int × Int × Int × List (ByteArray) × List (Bool) × Int)) × Unit) × Unit) : Option (((List (Int × Int × Int × List (ByteArray) × List (Bool) × Int)) × Unit) × Unit × Unit) :=
(whileK (fun (rec0 : (((List (Int × Int × Int × List (ByteArray) × List (Bool) × Int)) × Unit) × ((List (Int × Int × Int × List (ByteArray) × List (Bool) × Int)) × Unit) × (List (Int × Int × Int × List (ByteArray) × List (Bool) × Int)) × Int × Int × Unit) → Option _) (y0 : ((List (Int × Int × Int × List (ByteArray) × List (Bool) × Int)) × Unit) × ((List (Int × Int × Int × List (ByteArray) × List (Bool) × Int)) × Unit) × (List (Int × Int × Int × List (ByteArray) × List (Bool) × Int)) × Int × Int × Unit) =>
(if (decide (y0.2.2.2.2.1 < y0.2.2.2.1)) = true then
(if 0 ≤ y0.2.2.2.2.1 ∧ y0.2.2.2.2.1 < (List.length y0.2.2.1 : Int) then
((i_copyTexts k ((Ty.rd (t := (.pair (.int .i64) (.pair (.int .i64) (.pair (.int .i64) (.pair (.list .str) (.pair (.list .bool) (.int .i64))))))) y0.2.2.1 y0.2.2.2.2.1).2.2.2.1, ())).bind fun p1 =>
(if List.length ([] : List (Bool)) + List.length (Ty.rd (t := (.pair (.int .i64) (.pair (.int .i64) (.pair (.int .i64) (.pair (.list .str) (.pair (.list .bool) (.int .i64))))))) y0.2.2.1 y0.2.2.2.2.1).2.2.2.2.1 ≤ capMax then
(if List.length y0.2.1.1 + List.length ([((Ty.rd (t := (.pair (.int .i64) (.pair (.int .i64) (.pair (.int .i64) (.pair (.list .str) (.pair (.list .bool) (.int .i64))))))) y0.2.2.1 y0.2.2.2.2.1).1, ((Ty.rd (t := (.pair (.int .i64) (.pair (.int .i64) (.pair (.int .i64) (.pair (.list .str) (.pair (.list .bool) (.int .i64))))))) y0.2.2.1 y0.2.2.2.2.1).2.1, ((Ty.rd (t := (.pair (.int .i64) (.pair (.int .i64) (.pair (.int .i64) (.pair (.list .str) (.pair (.list .bool) (.int .i64))))))) y0.2.2.1 y0.2.2.2.2.1).2.2.1, (p1.1, ((([] : List (Bool)) ++ (Ty.rd (t := (.pair (.int .i64) (.pair (.int .i64) (.pair (.int .i64) (.pair (.list .str) (.pair (.list .bool) (.int .i64))))))) y0.2.2.1 y0.2.2.2.2.1).2.2.2.2.1), (Ty.rd (t := (.pair (.int .i64) (.pair (.int .i64) (.pair (.int .i64) (.pair (.list .str) (.pair (.list .bool) (.int .i64))))))) y0.2.2.1 y0.2.2.2.2.1).2.2.2.2.2)))))] : List (Int × Int × Int × List (ByteArray) × List (Bool) × Int)) ≤ capMax then
(rec0 ((y0.1.1, ()), (((y0.2.1.1 ++ ([((Ty.rd (t := (.pair (.int .i64) (.pair (.int .i64) (.pair (.int .i64) (.pair (.list .str) (.pair (.list .bool) (.int .i64))))))) y0.2.2.1 y0.2.2.2.2.1).1, ((Ty.rd (t := (.pair (.int .i64) (.pair (.int .i64) (.pair (.int .i64) (.pair (.list .str) (.pair (.list .bool) (.int .i64))))))) y0.2.2.1 y0.2.2.2.2.1).2.1, ((Ty.rd (t := (.pair (.int .i64) (.pair (.int .i64) (.pair (.int .i64) (.pair (.list .str) (.pair (.list .bool) (.int .i64))))))) y0.2.2.1 y0.2.2.2.2.1).2.2.1, (p1.1, ((([] : List (Bool)) ++ (Ty.rd (t := (.pair (.int .i64) (.pair (.int .i64) (.pair (.int .i64) (.pair (.list .str) (.pair (.list .bool) (.int .i64))))))) y0.2.2.1 y0.2.2.2.2.1).2.2.2.2.1), (Ty.rd (t := (.pair (.int .i64) (.pair (.int .i64) (.pair (.int .i64) (.pair (.list .str) (.pair (.list .bool) (.int .i64))))))) y0.2.2.1 y0.2.2.2.2.1).2.2.2.2.2)))))] : List (Int × Int × Int × List (ByteArray) × List (Bool) × Int))), ()), (y0.2.2.1, (y0.2.2.2.1, ((wi64 (y0.2.2.2.2.1 + (1 : Int))), ()))))))
else none)
else none))
else none)
else
((fun (z1 : ((List (Int × Int × Int × List (ByteArray) × List (Bool) × Int)) × Unit) × ((List (Int × Int × Int × List (ByteArray) × List (Bool) × Int)) × Unit) × Unit) =>
some ((z1.2.1.1, ()), ((), ()))) ((y0.1.1, ()), ((y0.2.1.1, ()), ()))))) k (([], ()), (([], ()), (x.1.1, ((List.length x.1.1 : Int), ((0 : Int), ()))))))
theorem t_i_copyShelf (k : Nat) (x) : evF TTabO k [⟨255, 0, (.cons (.il true .str) .nil), (.own false 9 .str), i_copyTexts k⟩] [(0, ⟨[2, 3, 8, 9, 10], (.cons (.ptr 0 (.cons yP9 .nil)) (.cons (.ptr 0 (.cons yP9 .nil)) (.cons (.il true yT6) (.cons (.int .i64) yP3))))⟩, ⟨[2, 3], (.cons (.ptr 0 (.cons yP9 .nil)) (.cons (.ptr 0 (.cons yP9 .nil)) .nil))⟩)] Tryz.f184 (.cons (.agg yP29) .nil) (.agg (.cons yP9 .nil)) x = i_copyShelf k x := by kernel_rfl
theorem e_i_copyShelf [Names] (k : Nat) : EntryOk Tryz.prog ⟨184, 0, (.cons (.agg yP29) .nil), (.agg (.cons yP9 .nil)), i_copyShelf k⟩ := entry_ok tokO (by intro e he; simp only [List.mem_cons, List.not_mem_nil, or_false] at he; rcases he with rfl <;> first | exact e_i_copyTexts k) (by kernel_rfl) (fn := Tryz.f184) (k := k) (es := [⟨255, 0, (.cons (.il true .str) .nil), (.own false 9 .str), i_copyTexts k⟩]) (loops := [(0, ⟨[2, 3, 8, 9, 10], (.cons (.ptr 0 (.cons yP9 .nil)) (.cons (.ptr 0 (.cons yP9 .nil)) (.cons (.il true yT6) (.cons (.int .i64) yP3))))⟩, ⟨[2, 3], (.cons (.ptr 0 (.cons yP9 .nil)) (.cons (.ptr 0 (.cons yP9 .nil)) .nil))⟩)]) (by kernel_rfl) (by kernel_rfl) (fun x r h => (t_i_copyShelf k x).trans h)
def i_copyUser (k : Nat) (x : (Int × Int × Int × ByteArray × ByteArray × Int × List (Int) × Int × Int × ByteArray × ByteArray × Int × List (Int) × Int × (List (Int × Int × Int × List (ByteArray) × List (Bool) × Int)) × Int × Unit) × Unit) : Option ((Int × Int × Int × ByteArray × ByteArray × Int × List (Int) × Int × Int × ByteArray × ByteArray × Int × List (Int) × Int × (List (Int × Int × Int × List (ByteArray) × List (Bool) × Int)) × Int × Unit) × Unit × Unit) :=
((i_copySlots k ((x.1.2.2.1, (x.1.2.2.2.1, (x.1.2.2.2.2.1, (x.1.2.2.2.2.2.1, (x.1.2.2.2.2.2.2.1, (x.1.2.2.2.2.2.2.2.1, (x.1.2.2.2.2.2.2.2.2.1, (x.1.2.2.2.2.2.2.2.2.2.1, (x.1.2.2.2.2.2.2.2.2.2.2.1, (x.1.2.2.2.2.2.2.2.2.2.2.2.1, (x.1.2.2.2.2.2.2.2.2.2.2.2.2.1, (x.1.2.2.2.2.2.2.2.2.2.2.2.2.2.1, ())))))))))))), ())).bind fun p1 =>
((i_copyShelf k ((x.1.2.2.2.2.2.2.2.2.2.2.2.2.2.2.1, ()), ())).bind fun p2 =>
some ((x.1.1, (x.1.2.1, (p1.1.1, (p1.1.2.1, (p1.1.2.2.1, (p1.1.2.2.2.1, (p1.1.2.2.2.2.1, (p1.1.2.2.2.2.2.1, (p1.1.2.2.2.2.2.2.1, (p1.1.2.2.2.2.2.2.2.1, (p1.1.2.2.2.2.2.2.2.2.1, (p1.1.2.2.2.2.2.2.2.2.2.1, (p1.1.2.2.2.2.2.2.2.2.2.2.1, (p1.1.2.2.2.2.2.2.2.2.2.2.2.1, (p2.1.1, (x.1.2.2.2.2.2.2.2.2.2.2.2.2.2.2.2.1, ())))))))))))))))), ((), ()))))
theorem t_i_copyUser (k : Nat) (x) : evF TTabO k [⟨183, 0, (.cons yP8 .nil), yP13, i_copySlots k⟩, ⟨184, 0, (.cons (.agg yP29) .nil), (.agg (.cons yP9 .nil)), i_copyShelf k⟩] [] Tryz.f100 (.cons yP4 .nil) yP16 x = i_copyUser k x := by kernel_rfl
theorem e_i_copyUser [Names] (k : Nat) : EntryOk Tryz.prog ⟨100, 0, (.cons yP4 .nil), yP16, i_copyUser k⟩ := entry_ok tokO (by intro e he; simp only [List.mem_cons, List.not_mem_nil, or_false] at he; rcases he with rfl | rfl <;> first | exact e_i_copySlots k | exact e_i_copyShelf k) (by kernel_rfl) (fn := Tryz.f100) (k := k) (es := [⟨183, 0, (.cons yP8 .nil), yP13, i_copySlots k⟩, ⟨184, 0, (.cons (.agg yP29) .nil), (.agg (.cons yP9 .nil)), i_copyShelf k⟩]) (loops := []) (by kernel_rfl) (by kernel_rfl) (fun x r h => (t_i_copyUser k x).trans h)
def i_copyUsers (k : Nat) (x : (List (Int × Int × ((Int × ByteArray × ByteArray × Int × List (Int) × Int) × Int × ByteArray × ByteArray × Int × List (Int) × Int) × List (Int × Int × Int × List (ByteArray) × List (Bool) × Int) × Int)) × Unit) : Option ((List (Int × Int × ((Int × ByteArray × ByteArray × Int × List (Int) × Int) × Int × ByteArray × ByteArray × Int × List (Int) × Int) × List (Int × Int × Int × List (ByteArray) × List (Bool) × Int) × Int)) × Unit × Unit) :=
(whileK (fun (rec0 : ((List (Int × Int × ((Int × ByteArray × ByteArray × Int × List (Int) × Int) × Int × ByteArray × ByteArray × Int × List (Int) × Int) × List (Int × Int × Int × List (ByteArray) × List (Bool) × Int) × Int)) × (List (Int × Int × ((Int × ByteArray × ByteArray × Int × List (Int) × Int) × Int × ByteArray × ByteArray × Int × List (Int) × Int) × List (Int × Int × Int × List (ByteArray) × List (Bool) × Int) × Int)) × Int × Int × Unit) → Option _) (y0 : (List (Int × Int × ((Int × ByteArray × ByteArray × Int × List (Int) × Int) × Int × ByteArray × ByteArray × Int × List (Int) × Int) × List (Int × Int × Int × List (ByteArray) × List (Bool) × Int) × Int)) × (List (Int × Int × ((Int × ByteArray × ByteArray × Int × List (Int) × Int) × Int × ByteArray × ByteArray × Int × List (Int) × Int) × List (Int × Int × Int × List (ByteArray) × List (Bool) × Int) × Int)) × Int × Int × Unit) =>
(if (decide (y0.2.2.2.1 < y0.2.2.1)) = true then
(if 0 ≤ y0.2.2.2.1 ∧ y0.2.2.2.1 < (List.length y0.2.1 : Int) then
((i_copyUser k (((Ty.rd (t := (.pair (.int .i64) (.pair (.int .i64) (.pair (.pair (.pair (.int .i64) (.pair .str (.pair .str (.pair (.int .i64) (.pair (.list (.int .i64)) (.int .i64)))))) (.pair (.int .i64) (.pair .str (.pair .str (.pair (.int .i64) (.pair (.list (.int .i64)) (.int .i64))))))) (.pair (.list (.pair (.int .i64) (.pair (.int .i64) (.pair (.int .i64) (.pair (.list .str) (.pair (.list .bool) (.int .i64))))))) (.int .i64)))))) y0.2.1 y0.2.2.2.1).1, ((Ty.rd (t := (.pair (.int .i64) (.pair (.int .i64) (.pair (.pair (.pair (.int .i64) (.pair .str (.pair .str (.pair (.int .i64) (.pair (.list (.int .i64)) (.int .i64)))))) (.pair (.int .i64) (.pair .str (.pair .str (.pair (.int .i64) (.pair (.list (.int .i64)) (.int .i64))))))) (.pair (.list (.pair (.int .i64) (.pair (.int .i64) (.pair (.int .i64) (.pair (.list .str) (.pair (.list .bool) (.int .i64))))))) (.int .i64)))))) y0.2.1 y0.2.2.2.1).2.1, ((Ty.rd (t := (.pair (.int .i64) (.pair (.int .i64) (.pair (.pair (.pair (.int .i64) (.pair .str (.pair .str (.pair (.int .i64) (.pair (.list (.int .i64)) (.int .i64)))))) (.pair (.int .i64) (.pair .str (.pair .str (.pair (.int .i64) (.pair (.list (.int .i64)) (.int .i64))))))) (.pair (.list (.pair (.int .i64) (.pair (.int .i64) (.pair (.int .i64) (.pair (.list .str) (.pair (.list .bool) (.int .i64))))))) (.int .i64)))))) y0.2.1 y0.2.2.2.1).2.2.1.1.1, ((Ty.rd (t := (.pair (.int .i64) (.pair (.int .i64) (.pair (.pair (.pair (.int .i64) (.pair .str (.pair .str (.pair (.int .i64) (.pair (.list (.int .i64)) (.int .i64)))))) (.pair (.int .i64) (.pair .str (.pair .str (.pair (.int .i64) (.pair (.list (.int .i64)) (.int .i64))))))) (.pair (.list (.pair (.int .i64) (.pair (.int .i64) (.pair (.int .i64) (.pair (.list .str) (.pair (.list .bool) (.int .i64))))))) (.int .i64)))))) y0.2.1 y0.2.2.2.1).2.2.1.1.2.1, ((Ty.rd (t := (.pair (.int .i64) (.pair (.int .i64) (.pair (.pair (.pair (.int .i64) (.pair .str (.pair .str (.pair (.int .i64) (.pair (.list (.int .i64)) (.int .i64)))))) (.pair (.int .i64) (.pair .str (.pair .str (.pair (.int .i64) (.pair (.list (.int .i64)) (.int .i64))))))) (.pair (.list (.pair (.int .i64) (.pair (.int .i64) (.pair (.int .i64) (.pair (.list .str) (.pair (.list .bool) (.int .i64))))))) (.int .i64)))))) y0.2.1 y0.2.2.2.1).2.2.1.1.2.2.1, ((Ty.rd (t := (.pair (.int .i64) (.pair (.int .i64) (.pair (.pair (.pair (.int .i64) (.pair .str (.pair .str (.pair (.int .i64) (.pair (.list (.int .i64)) (.int .i64)))))) (.pair (.int .i64) (.pair .str (.pair .str (.pair (.int .i64) (.pair (.list (.int .i64)) (.int .i64))))))) (.pair (.list (.pair (.int .i64) (.pair (.int .i64) (.pair (.int .i64) (.pair (.list .str) (.pair (.list .bool) (.int .i64))))))) (.int .i64)))))) y0.2.1 y0.2.2.2.1).2.2.1.1.2.2.2.1, ((Ty.rd (t := (.pair (.int .i64) (.pair (.int .i64) (.pair (.pair (.pair (.int .i64) (.pair .str (.pair .str (.pair (.int .i64) (.pair (.list (.int .i64)) (.int .i64)))))) (.pair (.int .i64) (.pair .str (.pair .str (.pair (.int .i64) (.pair (.list (.int .i64)) (.int .i64))))))) (.pair (.list (.pair (.int .i64) (.pair (.int .i64) (.pair (.int .i64) (.pair (.list .str) (.pair (.list .bool) (.int .i64))))))) (.int .i64)))))) y0.2.1 y0.2.2.2.1).2.2.1.1.2.2.2.2.1, ((Ty.rd (t := (.pair (.int .i64) (.pair (.int .i64) (.pair (.pair (.pair (.int .i64) (.pair .str (.pair .str (.pair (.int .i64) (.pair (.list (.int .i64)) (.int .i64)))))) (.pair (.int .i64) (.pair .str (.pair .str (.pair (.int .i64) (.pair (.list (.int .i64)) (.int .i64))))))) (.pair (.list (.pair (.int .i64) (.pair (.int .i64) (.pair (.int .i64) (.pair (.list .str) (.pair (.list .bool) (.int .i64))))))) (.int .i64)))))) y0.2.1 y0.2.2.2.1).2.2.1.1.2.2.2.2.2, ((Ty.rd (t := (.pair (.int .i64) (.pair (.int .i64) (.pair (.pair (.pair (.int .i64) (.pair .str (.pair .str (.pair (.int .i64) (.pair (.list (.int .i64)) (.int .i64)))))) (.pair (.int .i64) (.pair .str (.pair .str (.pair (.int .i64) (.pair (.list (.int .i64)) (.int .i64))))))) (.pair (.list (.pair (.int .i64) (.pair (.int .i64) (.pair (.int .i64) (.pair (.list .str) (.pair (.list .bool) (.int .i64))))))) (.int .i64)))))) y0.2.1 y0.2.2.2.1).2.2.1.2.1, ((Ty.rd (t := (.pair (.int .i64) (.pair (.int .i64) (.pair (.pair (.pair (.int .i64) (.pair .str (.pair .str (.pair (.int .i64) (.pair (.list (.int .i64)) (.int .i64)))))) (.pair (.int .i64) (.pair .str (.pair .str (.pair (.int .i64) (.pair (.list (.int .i64)) (.int .i64))))))) (.pair (.list (.pair (.int .i64) (.pair (.int .i64) (.pair (.int .i64) (.pair (.list .str) (.pair (.list .bool) (.int .i64))))))) (.int .i64)))))) y0.2.1 y0.2.2.2.1).2.2.1.2.2.1, ((Ty.rd (t := (.pair (.int .i64) (.pair (.int .i64) (.pair (.pair (.pair (.int .i64) (.pair .str (.pair .str (.pair (.int .i64) (.pair (.list (.int .i64)) (.int .i64)))))) (.pair (.int .i64) (.pair .str (.pair .str (.pair (.int .i64) (.pair (.list (.int .i64)) (.int .i64))))))) (.pair (.list (.pair (.int .i64) (.pair (.int .i64) (.pair (.int .i64) (.pair (.list .str) (.pair (.list .bool) (.int .i64))))))) (.int .i64)))))) y0.2.1 y0.2.2.2.1).2.2.1.2.2.2.1, ((Ty.rd (t := (.pair (.int .i64) (.pair (.int .i64) (.pair (.pair (.pair (.int .i64) (.pair .str (.pair .str (.pair (.int .i64) (.pair (.list (.int .i64)) (.int .i64)))))) (.pair (.int .i64) (.pair .str (.pair .str (.pair (.int .i64) (.pair (.list (.int .i64)) (.int .i64))))))) (.pair (.list (.pair (.int .i64) (.pair (.int .i64) (.pair (.int .i64) (.pair (.list .str) (.pair (.list .bool) (.int .i64))))))) (.int .i64)))))) y0.2.1 y0.2.2.2.1).2.2.1.2.2.2.2.1, ((Ty.rd (t := (.pair (.int .i64) (.pair (.int .i64) (.pair (.pair (.pair (.int .i64) (.pair .str (.pair .str (.pair (.int .i64) (.pair (.list (.int .i64)) (.int .i64)))))) (.pair (.int .i64) (.pair .str (.pair .str (.pair (.int .i64) (.pair (.list (.int .i64)) (.int .i64))))))) (.pair (.list (.pair (.int .i64) (.pair (.int .i64) (.pair (.int .i64) (.pair (.list .str) (.pair (.list .bool) (.int .i64))))))) (.int .i64)))))) y0.2.1 y0.2.2.2.1).2.2.1.2.2.2.2.2.1, ((Ty.rd (t := (.pair (.int .i64) (.pair (.int .i64) (.pair (.pair (.pair (.int .i64) (.pair .str (.pair .str (.pair (.int .i64) (.pair (.list (.int .i64)) (.int .i64)))))) (.pair (.int .i64) (.pair .str (.pair .str (.pair (.int .i64) (.pair (.list (.int .i64)) (.int .i64))))))) (.pair (.list (.pair (.int .i64) (.pair (.int .i64) (.pair (.int .i64) (.pair (.list .str) (.pair (.list .bool) (.int .i64))))))) (.int .i64)))))) y0.2.1 y0.2.2.2.1).2.2.1.2.2.2.2.2.2, ((Ty.rd (t := (.pair (.int .i64) (.pair (.int .i64) (.pair (.pair (.pair (.int .i64) (.pair .str (.pair .str (.pair (.int .i64) (.pair (.list (.int .i64)) (.int .i64)))))) (.pair (.int .i64) (.pair .str (.pair .str (.pair (.int .i64) (.pair (.list (.int .i64)) (.int .i64))))))) (.pair (.list (.pair (.int .i64) (.pair (.int .i64) (.pair (.int .i64) (.pair (.list .str) (.pair (.list .bool) (.int .i64))))))) (.int .i64)))))) y0.2.1 y0.2.2.2.1).2.2.2.1, ((Ty.rd (t := (.pair (.int .i64) (.pair (.int .i64) (.pair (.pair (.pair (.int .i64) (.pair .str (.pair .str (.pair (.int .i64) (.pair (.list (.int .i64)) (.int .i64)))))) (.pair (.int .i64) (.pair .str (.pair .str (.pair (.int .i64) (.pair (.list (.int .i64)) (.int .i64))))))) (.pair (.list (.pair (.int .i64) (.pair (.int .i64) (.pair (.int .i64) (.pair (.list .str) (.pair (.list .bool) (.int .i64))))))) (.int .i64)))))) y0.2.1 y0.2.2.2.1).2.2.2.2, ())))))))))))))))), ())).bind fun p1 =>
(if List.length y0.1 + List.length ([(p1.1.1, (p1.1.2.1, (((p1.1.2.2.1, (p1.1.2.2.2.1, (p1.1.2.2.2.2.1, (p1.1.2.2.2.2.2.1, (p1.1.2.2.2.2.2.2.1, p1.1.2.2.2.2.2.2.2.1))))), (p1.1.2.2.2.2.2.2.2.2.1, (p1.1.2.2.2.2.2.2.2.2.2.1, (p1.1.2.2.2.2.2.2.2.2.2.2.1, (p1.1.2.2.2.2.2.2.2.2.2.2.2.1, (p1.1.2.2.2.2.2.2.2.2.2.2.2.2.1, p1.1.2.2.2.2.2.2.2.2.2.2.2.2.2.1)))))), (p1.1.2.2.2.2.2.2.2.2.2.2.2.2.2.2.1, p1.1.2.2.2.2.2.2.2.2.2.2.2.2.2.2.2.1))))] : List (Int × Int × ((Int × ByteArray × ByteArray × Int × List (Int) × Int) × Int × ByteArray × ByteArray × Int × List (Int) × Int) × List (Int × Int × Int × List (ByteArray) × List (Bool) × Int) × Int)) ≤ capMax then
(rec0 ((y0.1 ++ ([(p1.1.1, (p1.1.2.1, (((p1.1.2.2.1, (p1.1.2.2.2.1, (p1.1.2.2.2.2.1, (p1.1.2.2.2.2.2.1, (p1.1.2.2.2.2.2.2.1, p1.1.2.2.2.2.2.2.2.1))))), (p1.1.2.2.2.2.2.2.2.2.1, (p1.1.2.2.2.2.2.2.2.2.2.1, (p1.1.2.2.2.2.2.2.2.2.2.2.1, (p1.1.2.2.2.2.2.2.2.2.2.2.2.1, (p1.1.2.2.2.2.2.2.2.2.2.2.2.2.1, p1.1.2.2.2.2.2.2.2.2.2.2.2.2.2.1)))))), (p1.1.2.2.2.2.2.2.2.2.2.2.2.2.2.2.1, p1.1.2.2.2.2.2.2.2.2.2.2.2.2.2.2.2.1))))] : List (Int × Int × ((Int × ByteArray × ByteArray × Int × List (Int) × Int) × Int × ByteArray × ByteArray × Int × List (Int) × Int) × List (Int × Int × Int × List (ByteArray) × List (Bool) × Int) × Int))), (y0.2.1, (y0.2.2.1, ((wi64 (y0.2.2.2.1 + (1 : Int))), ())))))
else none))
else none)
else
((fun (z1 : (List (Int × Int × ((Int × ByteArray × ByteArray × Int × List (Int) × Int) × Int × ByteArray × ByteArray × Int × List (Int) × Int) × List (Int × Int × Int × List (ByteArray) × List (Bool) × Int) × Int)) × Unit) =>
some (z1.1, ((), ()))) (y0.1, ())))) k (([] : List (Int × Int × ((Int × ByteArray × ByteArray × Int × List (Int) × Int) × Int × ByteArray × ByteArray × Int × List (Int) × Int) × List (Int × Int × Int × List (ByteArray) × List (Bool) × Int) × Int)), (x.1, ((List.length x.1 : Int), ((0 : Int), ())))))
theorem t_i_copyUsers (k : Nat) (x) : evF TTabO k [⟨100, 0, (.cons yP4 .nil), yP16, i_copyUser k⟩] [(0, ⟨[3, 7, 8, 9], (.cons (.own false 45 yT1) (.cons (.il true yT0) (.cons (.int .i64) yP3)))⟩, ⟨[3], (.cons (.own false 45 yT1) .nil)⟩)] Tryz.f130 (.cons (.il true yT0) .nil) (.own false 45 yT1) x = i_copyUsers k x := by kernel_rfl
theorem e_i_copyUsers [Names] (k : Nat) : EntryOk Tryz.prog ⟨130, 0, (.cons (.il true yT0) .nil), (.own false 45 yT1), i_copyUsers k⟩ := entry_ok tokO (by intro e he; simp only [List.mem_cons, List.not_mem_nil, or_false] at he; rcases he with rfl <;> first | exact e_i_copyUser k) (by kernel_rfl) (fn := Tryz.f130) (k := k) (es := [⟨100, 0, (.cons yP4 .nil), yP16, i_copyUser k⟩]) (loops := [(0, ⟨[3, 7, 8, 9], (.cons (.own false 45 yT1) (.cons (.il true yT0) (.cons (.int .i64) yP3)))⟩, ⟨[3], (.cons (.own false 45 yT1) .nil)⟩)]) (by kernel_rfl) (by kernel_rfl) (fun x r h => (t_i_copyUsers k x).trans h)
def i_copyHub (k : Nat) (x : (Int × Int × (List (Int × Int × Int)) × (List (Int × Int)) × (List ((Int × Int) × Int)) × (List (Int × Int × ((Int × ByteArray × ByteArray × Int × List (Int) × Int) × Int × ByteArray × ByteArray × Int × List (Int) × Int) × List (Int × Int × Int × List (ByteArray) × List (Bool) × Int) × Int)) × Unit) × Unit) : Option ((Int × Int × (List (Int × Int × Int)) × (List (Int × Int)) × (List ((Int × Int) × Int)) × (List (Int × Int × ((Int × ByteArray × ByteArray × Int × List (Int) × Int) × Int × ByteArray × ByteArray × Int × List (Int) × Int) × List (Int × Int × Int × List (ByteArray) × List (Bool) × Int) × Int)) × Unit) × Unit × Unit) :=
((i_copyPool k ((x.1.1, (x.1.2.1, (x.1.2.2.1, (x.1.2.2.2.1, ())))), ())).bind fun p1 =>
((i_copyRoutes k (x.1.2.2.2.2.1, ())).bind fun p2 =>
((i_copyUsers k (x.1.2.2.2.2.2.1, ())).bind fun p3 =>
some ((p1.1.1, (p1.1.2.1, (p1.1.2.2.1, (p1.1.2.2.2.1, (p2.1, (p3.1, ())))))), ((), ())))))
theorem t_i_copyHub (k : Nat) (x) : evF TTabO k [⟨128, 0, (.cons (.agg yP5) .nil), (.agg yP10), i_copyPool k⟩, ⟨129, 0, (.cons yP21 .nil), yP20, i_copyRoutes k⟩, ⟨130, 0, (.cons (.il true yT0) .nil), (.own false 45 yT1), i_copyUsers k⟩] [] Tryz.f54 (.cons yP7 .nil) yP15 x = i_copyHub k x := by kernel_rfl
theorem e_i_copyHub [Names] (k : Nat) : EntryOk Tryz.prog ⟨54, 0, (.cons yP7 .nil), yP15, i_copyHub k⟩ := entry_ok tokO (by intro e he; simp only [List.mem_cons, List.not_mem_nil, or_false] at he; rcases he with rfl | rfl | rfl <;> first | exact e_i_copyPool k | exact e_i_copyRoutes k | exact e_i_copyUsers k) (by kernel_rfl) (fn := Tryz.f54) (k := k) (es := [⟨128, 0, (.cons (.agg yP5) .nil), (.agg yP10), i_copyPool k⟩, ⟨129, 0, (.cons yP21 .nil), yP20, i_copyRoutes k⟩, ⟨130, 0, (.cons (.il true yT0) .nil), (.own false 45 yT1), i_copyUsers k⟩]) (loops := []) (by kernel_rfl) (by kernel_rfl) (fun x r h => (t_i_copyHub k x).trans h)
def i_within (k : Nat) (x : Int × Int × Int × Unit) : Option (Bool × Unit × Unit × Unit × Unit) :=
(if (decide (x.2.1 ≤ x.1)) = true then
some ((decide (x.1 ≤ x.2.2.1)), ((), ((), ((), ()))))
else
some (false, ((), ((), ((), ())))))
theorem t_i_within (k : Nat) (x) : evF TTab k [] [] Tryz.f55 yP14 .bool x = i_within k x := by kernel_rfl
theorem e_i_within [Names] (k : Nat) : EntryOk Tryz.prog ⟨55, 0, yP14, .bool, i_within k⟩ := entry_ok tok (by simp) (by kernel_rfl) (fn := Tryz.f55) (k := k) (es := []) (loops := []) (by kernel_rfl) (by kernel_rfl) (fun x r h => (t_i_within k x).trans h)
def i_userAt_1 (k : Nat) (x : (Int × Int × Int × ByteArray × ByteArray × Int × List (Int) × Int × Int × ByteArray × ByteArray × Int × List (Int) × Int × (List (Int × Int × Int × List (ByteArray) × List (Bool) × Int)) × Int × Unit) × (Int × Unit) × Unit) : Option (Bool × Unit × (Int × Unit) × Unit) :=
some ((decide (x.1.1 = x.2.1.1)), ((), ((x.2.1.1, ()), ())))
theorem t_i_userAt_1 (k : Nat) (x) : evF TTabO k [] [] Tryz.f132 (.cons yP4 yP23) .bool x = i_userAt_1 k x := by kernel_rfl
theorem e_i_userAt_1 [Names] (k : Nat) : EntryOk Tryz.prog ⟨132, 0, (.cons yP4 yP23), .bool, i_userAt_1 k⟩ := entry_ok tokO (by simp) (by kernel_rfl) (fn := Tryz.f132) (k := k) (es := []) (loops := []) (by kernel_rfl) (by kernel_rfl) (fun x r h => (t_i_userAt_1 k x).trans h)
def x_slices_IndexFunc_impl_User_impl_User_of_i_userAt_1 (k : Nat) (x : (List (Int × Int × ((Int × ByteArray × ByteArray × Int × List (Int) × Int) × Int × ByteArray × ByteArray × Int × List (Int) × Int) × List (Int × Int × Int × List (ByteArray) × List (Bool) × Int) × Int)) × ((Int × Unit) × Unit) × Unit) : Option (Int × Unit × ((Int × Unit) × Unit) × Unit) :=
(whileK (fun (rec0 : ((List (Int × Int × ((Int × ByteArray × ByteArray × Int × List (Int) × Int) × Int × ByteArray × ByteArray × Int × List (Int) × Int) × List (Int × Int × Int × List (ByteArray) × List (Bool) × Int) × Int)) × ((Int × Unit) × Unit) × Int × Int × Unit) → Option _) (y0 : (List (Int × Int × ((Int × ByteArray × ByteArray × Int × List (Int) × Int) × Int × ByteArray × ByteArray × Int × List (Int) × Int) × List (Int × Int × Int × List (ByteArray) × List (Bool) × Int) × Int)) × ((Int × Unit) × Unit) × Int × Int × Unit) =>
(if (decide (y0.2.2.2.1 < y0.2.2.1)) = true then
(if 0 ≤ y0.2.2.2.1 ∧ y0.2.2.2.1 < (List.length y0.1 : Int) then
((i_userAt_1 k (((Ty.rd (t := (.pair (.int .i64) (.pair (.int .i64) (.pair (.pair (.pair (.int .i64) (.pair .str (.pair .str (.pair (.int .i64) (.pair (.list (.int .i64)) (.int .i64)))))) (.pair (.int .i64) (.pair .str (.pair .str (.pair (.int .i64) (.pair (.list (.int .i64)) (.int .i64))))))) (.pair (.list (.pair (.int .i64) (.pair (.int .i64) (.pair (.int .i64) (.pair (.list .str) (.pair (.list .bool) (.int .i64))))))) (.int .i64)))))) y0.1 y0.2.2.2.1).1, ((Ty.rd (t := (.pair (.int .i64) (.pair (.int .i64) (.pair (.pair (.pair (.int .i64) (.pair .str (.pair .str (.pair (.int .i64) (.pair (.list (.int .i64)) (.int .i64)))))) (.pair (.int .i64) (.pair .str (.pair .str (.pair (.int .i64) (.pair (.list (.int .i64)) (.int .i64))))))) (.pair (.list (.pair (.int .i64) (.pair (.int .i64) (.pair (.int .i64) (.pair (.list .str) (.pair (.list .bool) (.int .i64))))))) (.int .i64)))))) y0.1 y0.2.2.2.1).2.1, ((Ty.rd (t := (.pair (.int .i64) (.pair (.int .i64) (.pair (.pair (.pair (.int .i64) (.pair .str (.pair .str (.pair (.int .i64) (.pair (.list (.int .i64)) (.int .i64)))))) (.pair (.int .i64) (.pair .str (.pair .str (.pair (.int .i64) (.pair (.list (.int .i64)) (.int .i64))))))) (.pair (.list (.pair (.int .i64) (.pair (.int .i64) (.pair (.int .i64) (.pair (.list .str) (.pair (.list .bool) (.int .i64))))))) (.int .i64)))))) y0.1 y0.2.2.2.1).2.2.1.1.1, ((Ty.rd (t := (.pair (.int .i64) (.pair (.int .i64) (.pair (.pair (.pair (.int .i64) (.pair .str (.pair .str (.pair (.int .i64) (.pair (.list (.int .i64)) (.int .i64)))))) (.pair (.int .i64) (.pair .str (.pair .str (.pair (.int .i64) (.pair (.list (.int .i64)) (.int .i64))))))) (.pair (.list (.pair (.int .i64) (.pair (.int .i64) (.pair (.int .i64) (.pair (.list .str) (.pair (.list .bool) (.int .i64))))))) (.int .i64)))))) y0.1 y0.2.2.2.1).2.2.1.1.2.1, ((Ty.rd (t := (.pair (.int .i64) (.pair (.int .i64) (.pair (.pair (.pair (.int .i64) (.pair .str (.pair .str (.pair (.int .i64) (.pair (.list (.int .i64)) (.int .i64)))))) (.pair (.int .i64) (.pair .str (.pair .str (.pair (.int .i64) (.pair (.list (.int .i64)) (.int .i64))))))) (.pair (.list (.pair (.int .i64) (.pair (.int .i64) (.pair (.int .i64) (.pair (.list .str) (.pair (.list .bool) (.int .i64))))))) (.int .i64)))))) y0.1 y0.2.2.2.1).2.2.1.1.2.2.1, ((Ty.rd (t := (.pair (.int .i64) (.pair (.int .i64) (.pair (.pair (.pair (.int .i64) (.pair .str (.pair .str (.pair (.int .i64) (.pair (.list (.int .i64)) (.int .i64)))))) (.pair (.int .i64) (.pair .str (.pair .str (.pair (.int .i64) (.pair (.list (.int .i64)) (.int .i64))))))) (.pair (.list (.pair (.int .i64) (.pair (.int .i64) (.pair (.int .i64) (.pair (.list .str) (.pair (.list .bool) (.int .i64))))))) (.int .i64)))))) y0.1 y0.2.2.2.1).2.2.1.1.2.2.2.1, ((Ty.rd (t := (.pair (.int .i64) (.pair (.int .i64) (.pair (.pair (.pair (.int .i64) (.pair .str (.pair .str (.pair (.int .i64) (.pair (.list (.int .i64)) (.int .i64)))))) (.pair (.int .i64) (.pair .str (.pair .str (.pair (.int .i64) (.pair (.list (.int .i64)) (.int .i64))))))) (.pair (.list (.pair (.int .i64) (.pair (.int .i64) (.pair (.int .i64) (.pair (.list .str) (.pair (.list .bool) (.int .i64))))))) (.int .i64)))))) y0.1 y0.2.2.2.1).2.2.1.1.2.2.2.2.1, ((Ty.rd (t := (.pair (.int .i64) (.pair (.int .i64) (.pair (.pair (.pair (.int .i64) (.pair .str (.pair .str (.pair (.int .i64) (.pair (.list (.int .i64)) (.int .i64)))))) (.pair (.int .i64) (.pair .str (.pair .str (.pair (.int .i64) (.pair (.list (.int .i64)) (.int .i64))))))) (.pair (.list (.pair (.int .i64) (.pair (.int .i64) (.pair (.int .i64) (.pair (.list .str) (.pair (.list .bool) (.int .i64))))))) (.int .i64)))))) y0.1 y0.2.2.2.1).2.2.1.1.2.2.2.2.2, ((Ty.rd (t := (.pair (.int .i64) (.pair (.int .i64) (.pair (.pair (.pair (.int .i64) (.pair .str (.pair .str (.pair (.int .i64) (.pair (.list (.int .i64)) (.int .i64)))))) (.pair (.int .i64) (.pair .str (.pair .str (.pair (.int .i64) (.pair (.list (.int .i64)) (.int .i64))))))) (.pair (.list (.pair (.int .i64) (.pair (.int .i64) (.pair (.int .i64) (.pair (.list .str) (.pair (.list .bool) (.int .i64))))))) (.int .i64)))))) y0.1 y0.2.2.2.1).2.2.1.2.1, ((Ty.rd (t := (.pair (.int .i64) (.pair (.int .i64) (.pair (.pair (.pair (.int .i64) (.pair .str (.pair .str (.pair (.int .i64) (.pair (.list (.int .i64)) (.int .i64)))))) (.pair (.int .i64) (.pair .str (.pair .str (.pair (.int .i64) (.pair (.list (.int .i64)) (.int .i64))))))) (.pair (.list (.pair (.int .i64) (.pair (.int .i64) (.pair (.int .i64) (.pair (.list .str) (.pair (.list .bool) (.int .i64))))))) (.int .i64)))))) y0.1 y0.2.2.2.1).2.2.1.2.2.1, ((Ty.rd (t := (.pair (.int .i64) (.pair (.int .i64) (.pair (.pair (.pair (.int .i64) (.pair .str (.pair .str (.pair (.int .i64) (.pair (.list (.int .i64)) (.int .i64)))))) (.pair (.int .i64) (.pair .str (.pair .str (.pair (.int .i64) (.pair (.list (.int .i64)) (.int .i64))))))) (.pair (.list (.pair (.int .i64) (.pair (.int .i64) (.pair (.int .i64) (.pair (.list .str) (.pair (.list .bool) (.int .i64))))))) (.int .i64)))))) y0.1 y0.2.2.2.1).2.2.1.2.2.2.1, ((Ty.rd (t := (.pair (.int .i64) (.pair (.int .i64) (.pair (.pair (.pair (.int .i64) (.pair .str (.pair .str (.pair (.int .i64) (.pair (.list (.int .i64)) (.int .i64)))))) (.pair (.int .i64) (.pair .str (.pair .str (.pair (.int .i64) (.pair (.list (.int .i64)) (.int .i64))))))) (.pair (.list (.pair (.int .i64) (.pair (.int .i64) (.pair (.int .i64) (.pair (.list .str) (.pair (.list .bool) (.int .i64))))))) (.int .i64)))))) y0.1 y0.2.2.2.1).2.2.1.2.2.2.2.1, ((Ty.rd (t := (.pair (.int .i64) (.pair (.int .i64) (.pair (.pair (.pair (.int .i64) (.pair .str (.pair .str (.pair (.int .i64) (.pair (.list (.int .i64)) (.int .i64)))))) (.pair (.int .i64) (.pair .str (.pair .str (.pair (.int .i64) (.pair (.list (.int .i64)) (.int .i64))))))) (.pair (.list (.pair (.int .i64) (.pair (.int .i64) (.pair (.int .i64) (.pair (.list .str) (.pair (.list .bool) (.int .i64))))))) (.int .i64)))))) y0.1 y0.2.2.2.1).2.2.1.2.2.2.2.2.1, ((Ty.rd (t := (.pair (.int .i64) (.pair (.int .i64) (.pair (.pair (.pair (.int .i64) (.pair .str (.pair .str (.pair (.int .i64) (.pair (.list (.int .i64)) (.int .i64)))))) (.pair (.int .i64) (.pair .str (.pair .str (.pair (.int .i64) (.pair (.list (.int .i64)) (.int .i64))))))) (.pair (.list (.pair (.int .i64) (.pair (.int .i64) (.pair (.int .i64) (.pair (.list .str) (.pair (.list .bool) (.int .i64))))))) (.int .i64)))))) y0.1 y0.2.2.2.1).2.2.1.2.2.2.2.2.2, ((Ty.rd (t := (.pair (.int .i64) (.pair (.int .i64) (.pair (.pair (.pair (.int .i64) (.pair .str (.pair .str (.pair (.int .i64) (.pair (.list (.int .i64)) (.int .i64)))))) (.pair (.int .i64) (.pair .str (.pair .str (.pair (.int .i64) (.pair (.list (.int .i64)) (.int .i64))))))) (.pair (.list (.pair (.int .i64) (.pair (.int .i64) (.pair (.int .i64) (.pair (.list .str) (.pair (.list .bool) (.int .i64))))))) (.int .i64)))))) y0.1 y0.2.2.2.1).2.2.2.1, ((Ty.rd (t := (.pair (.int .i64) (.pair (.int .i64) (.pair (.pair (.pair (.int .i64) (.pair .str (.pair .str (.pair (.int .i64) (.pair (.list (.int .i64)) (.int .i64)))))) (.pair (.int .i64) (.pair .str (.pair .str (.pair (.int .i64) (.pair (.list (.int .i64)) (.int .i64))))))) (.pair (.list (.pair (.int .i64) (.pair (.int .i64) (.pair (.int .i64) (.pair (.list .str) (.pair (.list .bool) (.int .i64))))))) (.int .i64)))))) y0.1 y0.2.2.2.1).2.2.2.2, ())))))))))))))))), ((y0.2.1.1.1, ()), ()))).bind fun p1 =>
(if p1.1 = true then
some (y0.2.2.2.1, ((), (((p1.2.2.1.1, ()), ()), ())))
else
(rec0 (y0.1, (((p1.2.2.1.1, ()), ()), (y0.2.2.1, ((wi64 (y0.2.2.2.1 + (1 : Int))), ())))))))
else none)
else
((fun (z1 : ((Int × Unit) × Unit) × Unit) =>
some ((-1 : Int), ((), (((z1.1.1.1, ()), ()), ())))) (((y0.2.1.1.1, ()), ()), ())))) k (x.1, (((x.2.1.1.1, ()), ()), ((List.length x.1 : Int), ((0 : Int), ())))))
theorem t_x_slices_IndexFunc_impl_User_impl_User_of_i_userAt_1 (k : Nat) (x) : evF TTabO k [⟨132, 0, (.cons yP4 yP23), .bool, i_userAt_1 k⟩] [(0, ⟨[0, 1, 7, 8], (.cons (.il true yT0) (.cons (.fn 132 yP23) (.cons (.int .i64) yP3)))⟩, ⟨[1], (.cons (.fn 132 yP23) .nil)⟩)] Tryz.f131 (.cons (.il true yT0) (.cons (.fn 132 yP23) .nil)) (.int .i64) x = x_slices_IndexFunc_impl_User_impl_User_of_i_userAt_1 k x := by kernel_rfl
theorem e_x_slices_IndexFunc_impl_User_impl_User_of_i_userAt_1 [Names] (k : Nat) : EntryOk Tryz.prog ⟨131, 133, (.cons (.il true yT0) (.cons (.fn 132 yP23) .nil)), (.int .i64), x_slices_IndexFunc_impl_User_impl_User_of_i_userAt_1 k⟩ := entry_ok tokO (by intro e he; simp only [List.mem_cons, List.not_mem_nil, or_false] at he; rcases he with rfl <;> first | exact e_i_userAt_1 k) (by kernel_rfl) (fn := Tryz.f131) (k := k) (es := [⟨132, 0, (.cons yP4 yP23), .bool, i_userAt_1 k⟩]) (loops := [(0, ⟨[0, 1, 7, 8], (.cons (.il true yT0) (.cons (.fn 132 yP23) (.cons (.int .i64) yP3)))⟩, ⟨[1], (.cons (.fn 132 yP23) .nil)⟩)]) (by kernel_rfl) (by kernel_rfl) (fun x r h => (t_x_slices_IndexFunc_impl_User_impl_User_of_i_userAt_1 k x).trans h)
def i_userAt (k : Nat) (x : (List (Int × Int × ((Int × ByteArray × ByteArray × Int × List (Int) × Int) × Int × ByteArray × ByteArray × Int × List (Int) × Int) × List (Int × Int × Int × List (ByteArray) × List (Bool) × Int) × Int)) × Int × Unit) : Option (Int × Unit × Unit × Unit) :=
((x_slices_IndexFunc_impl_User_impl_User_of_i_userAt_1 k (x.1, (((x.2.1, ()), ()), ()))).bind fun p1 =>
some (p1.1, ((), ((), ()))))
theorem t_i_userAt (k : Nat) (x) : evF TTabO k [⟨131, 133, (.cons (.il true yT0) (.cons (.fn 132 yP23) .nil)), (.int .i64), x_slices_IndexFunc_impl_User_impl_User_of_i_userAt_1 k⟩] [] Tryz.f56 (.cons (.il true yT0) yP3) (.int .i64) x = i_userAt k x := by kernel_rfl
theorem e_i_userAt [Names] (k : Nat) : EntryOk Tryz.prog ⟨56, 0, (.cons (.il true yT0) yP3), (.int .i64), i_userAt k⟩ := entry_ok tokO (by intro e he; simp only [List.mem_cons, List.not_mem_nil, or_false] at he; rcases he with rfl <;> first | exact e_x_slices_IndexFunc_impl_User_impl_User_of_i_userAt_1 k) (by kernel_rfl) (fn := Tryz.f56) (k := k) (es := [⟨131, 133, (.cons (.il true yT0) (.cons (.fn 132 yP23) .nil)), (.int .i64), x_slices_IndexFunc_impl_User_impl_User_of_i_userAt_1 k⟩]) (loops := []) (by kernel_rfl) (by kernel_rfl) (fun x r h => (t_i_userAt k x).trans h)
def i_isId (k : Nat) (x : Int × Unit) : Option (Bool × Unit × Unit) :=
((i_within k (x.1, ((1 : Int), ((99 : Int), ())))).bind fun p1 =>
some (p1.1, ((), ())))
theorem t_i_isId (k : Nat) (x) : evF TTab k [⟨55, 0, yP14, .bool, i_within k⟩] [] Tryz.f133 yP3 .bool x = i_isId k x := by kernel_rfl
theorem e_i_isId [Names] (k : Nat) : EntryOk Tryz.prog ⟨133, 0, yP3, .bool, i_isId k⟩ := entry_ok tok (by intro e he; simp only [List.mem_cons, List.not_mem_nil, or_false] at he; rcases he with rfl <;> first | exact e_i_within k) (by kernel_rfl) (fn := Tryz.f133) (k := k) (es := [⟨55, 0, yP14, .bool, i_within k⟩]) (loops := []) (by kernel_rfl) (by kernel_rfl) (fun x r h => (t_i_isId k x).trans h)
def i_leaseOf_1 (k : Nat) (x : (Int × Int × Int × Unit) × (Int × Unit) × Unit) : Option (Bool × Unit × (Int × Unit) × Unit) :=
some ((decide (x.1.2.1 = x.2.1.1)), ((), ((x.2.1.1, ()), ())))
theorem t_i_leaseOf_1 (k : Nat) (x) : evF TTab k [] [] Tryz.f218 (.cons (.agg yP14) yP23) .bool x = i_leaseOf_1 k x := by kernel_rfl
theorem e_i_leaseOf_1 [Names] (k : Nat) : EntryOk Tryz.prog ⟨218, 0, (.cons (.agg yP14) yP23), .bool, i_leaseOf_1 k⟩ := entry_ok tok (by simp) (by kernel_rfl) (fn := Tryz.f218) (k := k) (es := []) (loops := []) (by kernel_rfl) (by kernel_rfl) (fun x r h => (t_i_leaseOf_1 k x).trans h)
def x_slices_IndexFunc_impl_Lease_impl_Lease_of_i_leaseOf_1 (k : Nat) (x : (List (Int × Int × Int)) × ((Int × Unit) × Unit) × Unit) : Option (Int × Unit × ((Int × Unit) × Unit) × Unit) :=
(whileK (fun (rec0 : ((List (Int × Int × Int)) × ((Int × Unit) × Unit) × Int × Int × Unit) → Option _) (y0 : (List (Int × Int × Int)) × ((Int × Unit) × Unit) × Int × Int × Unit) =>
(if (decide (y0.2.2.2.1 < y0.2.2.1)) = true then
(if 0 ≤ y0.2.2.2.1 ∧ y0.2.2.2.1 < (List.length y0.1 : Int) then
((i_leaseOf_1 k (((Ty.rd (t := (.pair (.int .i64) (.pair (.int .i64) (.int .i64)))) y0.1 y0.2.2.2.1).1, ((Ty.rd (t := (.pair (.int .i64) (.pair (.int .i64) (.int .i64)))) y0.1 y0.2.2.2.1).2.1, ((Ty.rd (t := (.pair (.int .i64) (.pair (.int .i64) (.int .i64)))) y0.1 y0.2.2.2.1).2.2, ()))), ((y0.2.1.1.1, ()), ()))).bind fun p1 =>
(if p1.1 = true then
some (y0.2.2.2.1, ((), (((p1.2.2.1.1, ()), ()), ())))
else
(rec0 (y0.1, (((p1.2.2.1.1, ()), ()), (y0.2.2.1, ((wi64 (y0.2.2.2.1 + (1 : Int))), ())))))))
else none)
else
((fun (z1 : ((Int × Unit) × Unit) × Unit) =>
some ((-1 : Int), ((), (((z1.1.1.1, ()), ()), ())))) (((y0.2.1.1.1, ()), ()), ())))) k (x.1, (((x.2.1.1.1, ()), ()), ((List.length x.1 : Int), ((0 : Int), ())))))
theorem t_x_slices_IndexFunc_impl_Lease_impl_Lease_of_i_leaseOf_1 (k : Nat) (x) : evF TTab k [⟨218, 0, (.cons (.agg yP14) yP23), .bool, i_leaseOf_1 k⟩] [(0, ⟨[0, 1, 7, 8], (.cons yP24 (.cons (.fn 218 yP23) (.cons (.int .i64) yP3)))⟩, ⟨[1], (.cons (.fn 218 yP23) .nil)⟩)] Tryz.f217 (.cons yP24 (.cons (.fn 218 yP23) .nil)) (.int .i64) x = x_slices_IndexFunc_impl_Lease_impl_Lease_of_i_leaseOf_1 k x := by kernel_rfl
theorem e_x_slices_IndexFunc_impl_Lease_impl_Lease_of_i_leaseOf_1 [Names] (k : Nat) : EntryOk Tryz.prog ⟨217, 219, (.cons yP24 (.cons (.fn 218 yP23) .nil)), (.int .i64), x_slices_IndexFunc_impl_Lease_impl_Lease_of_i_leaseOf_1 k⟩ := entry_ok tok (by intro e he; simp only [List.mem_cons, List.not_mem_nil, or_false] at he; rcases he with rfl <;> first | exact e_i_leaseOf_1 k) (by kernel_rfl) (fn := Tryz.f217) (k := k) (es := [⟨218, 0, (.cons (.agg yP14) yP23), .bool, i_leaseOf_1 k⟩]) (loops := [(0, ⟨[0, 1, 7, 8], (.cons yP24 (.cons (.fn 218 yP23) (.cons (.int .i64) yP3)))⟩, ⟨[1], (.cons (.fn 218 yP23) .nil)⟩)]) (by kernel_rfl) (by kernel_rfl) (fun x r h => (t_x_slices_IndexFunc_impl_Lease_impl_Lease_of_i_leaseOf_1 k x).trans h)
def i_leaseOf (k : Nat) (x : (Int × Int × (List (Int × Int × Int)) × (List (Int × Int)) × Unit) × Int × Unit) : Option (Int × Unit × Unit × Unit) :=
((x_slices_IndexFunc_impl_Lease_impl_Lease_of_i_leaseOf_1 k (x.1.2.2.1, (((x.2.1, ()), ()), ()))).bind fun p1 =>
some (p1.1, ((), ((), ()))))
theorem t_i_leaseOf (k : Nat) (x) : evF TTab k [⟨217, 219, (.cons yP24 (.cons (.fn 218 yP23) .nil)), (.int .i64), x_slices_IndexFunc_impl_Lease_impl_Lease_of_i_leaseOf_1 k⟩] [] Tryz.f134 (.cons (.agg yP5) yP3) (.int .i64) x = i_leaseOf k x := by kernel_rfl
theorem e_i_leaseOf [Names] (k : Nat) : EntryOk Tryz.prog ⟨134, 0, (.cons (.agg yP5) yP3), (.int .i64), i_leaseOf k⟩ := entry_ok tok (by intro e he; simp only [List.mem_cons, List.not_mem_nil, or_false] at he; rcases he with rfl <;> first | exact e_x_slices_IndexFunc_impl_Lease_impl_Lease_of_i_leaseOf_1 k) (by kernel_rfl) (fn := Tryz.f134) (k := k) (es := [⟨217, 219, (.cons yP24 (.cons (.fn 218 yP23) .nil)), (.int .i64), x_slices_IndexFunc_impl_Lease_impl_Lease_of_i_leaseOf_1 k⟩]) (loops := []) (by kernel_rfl) (by kernel_rfl) (fun x r h => (t_i_leaseOf k x).trans h)
def i_AddrOk (k : Nat) (x : Int × Unit) : Option (Bool × Unit × Unit) :=
((i_within k (x.1, ((0 : Int), ((4294967295 : Int), ())))).bind fun p1 =>
some (p1.1, ((), ())))
theorem t_i_AddrOk (k : Nat) (x) : evF TTab k [⟨55, 0, yP14, .bool, i_within k⟩] [] Tryz.f236 yP3 .bool x = i_AddrOk k x := by kernel_rfl
theorem e_i_AddrOk [Names] (k : Nat) : EntryOk Tryz.prog ⟨236, 0, yP3, .bool, i_AddrOk k⟩ := entry_ok tok (by intro e he; simp only [List.mem_cons, List.not_mem_nil, or_false] at he; rcases he with rfl <;> first | exact e_i_within k) (by kernel_rfl) (fn := Tryz.f236) (k := k) (es := [⟨55, 0, yP14, .bool, i_within k⟩]) (loops := []) (by kernel_rfl) (by kernel_rfl) (fun x r h => (t_i_AddrOk k x).trans h)
def i_lastBits (k : Nat) (x : Int × Unit) : Option (Int × Unit × Unit) :=
(if (wi64 ((32 : Int) - x.1)) < 0 then
none
else
some ((wi64 ((wi64 ((1 : Int) * 2 ^ (min (Int.toNat (wi64 ((32 : Int) - x.1))) (IntKind.bits .i64)))) - (1 : Int))), ((), ())))
theorem t_i_lastBits (k : Nat) (x) : evF TTab k [] [] Tryz.f237 yP3 (.int .i64) x = i_lastBits k x := by kernel_rfl
theorem e_i_lastBits [Names] (k : Nat) : EntryOk Tryz.prog ⟨237, 0, yP3, (.int .i64), i_lastBits k⟩ := entry_ok tok (by simp) (by kernel_rfl) (fn := Tryz.f237) (k := k) (es := []) (loops := []) (by kernel_rfl) (by kernel_rfl) (fun x r h => (t_i_lastBits k x).trans h)
def i_PrefixOk (k : Nat) (x : (Int × Int × Unit) × Unit) : Option (Bool × Unit × Unit) :=
((i_AddrOk k (x.1.1, ())).bind fun p1 =>
(if p1.1 = true then
((i_within k (x.1.2.1, ((0 : Int), ((32 : Int), ())))).bind fun p2 =>
(if p2.1 = true then
((i_lastBits k (x.1.2.1, ())).bind fun p3 =>
some ((decide ((bitsI .and .i64 x.1.1 p3.1) = (0 : Int))), ((), ())))
else
some (false, ((), ()))))
else
some (false, ((), ()))))
theorem t_i_PrefixOk (k : Nat) (x) : evF TTab k [⟨55, 0, yP14, .bool, i_within k⟩, ⟨236, 0, yP3, .bool, i_AddrOk k⟩, ⟨237, 0, yP3, (.int .i64), i_lastBits k⟩] [] Tryz.f211 (.cons yP19 .nil) .bool x = i_PrefixOk k x := by kernel_rfl
theorem e_i_PrefixOk [Names] (k : Nat) : EntryOk Tryz.prog ⟨211, 0, (.cons yP19 .nil), .bool, i_PrefixOk k⟩ := entry_ok tok (by intro e he; simp only [List.mem_cons, List.not_mem_nil, or_false] at he; rcases he with rfl | rfl | rfl <;> first | exact e_i_within k | exact e_i_AddrOk k | exact e_i_lastBits k) (by kernel_rfl) (fn := Tryz.f211) (k := k) (es := [⟨55, 0, yP14, .bool, i_within k⟩, ⟨236, 0, yP3, .bool, i_AddrOk k⟩, ⟨237, 0, yP3, (.int .i64), i_lastBits k⟩]) (loops := []) (by kernel_rfl) (by kernel_rfl) (fun x r h => (t_i_PrefixOk k x).trans h)
def i_InPrefix (k : Nat) (x : (Int × Int × Unit) × Int × Unit) : Option (Bool × Unit × Unit × Unit) :=
((i_PrefixOk k ((x.1.1, (x.1.2.1, ())), ())).bind fun p1 =>
(if p1.1 = true then
((i_AddrOk k (x.2.1, ())).bind fun p2 =>
(if p2.1 = true then
((i_lastBits k (x.1.2.1, ())).bind fun p3 =>
some ((decide ((bitsI .andNot .i64 x.2.1 p3.1) = x.1.1)), ((), ((), ()))))
else
some (false, ((), ((), ())))))
else
some (false, ((), ((), ())))))
theorem t_i_InPrefix (k : Nat) (x) : evF TTab k [⟨211, 0, (.cons yP19 .nil), .bool, i_PrefixOk k⟩, ⟨236, 0, yP3, .bool, i_AddrOk k⟩, ⟨237, 0, yP3, (.int .i64), i_lastBits k⟩] [] Tryz.f152 (.cons yP19 yP3) .bool x = i_InPrefix k x := by kernel_rfl
theorem e_i_InPrefix [Names] (k : Nat) : EntryOk Tryz.prog ⟨152, 0, (.cons yP19 yP3), .bool, i_InPrefix k⟩ := entry_ok tok (by intro e he; simp only [List.mem_cons, List.not_mem_nil, or_false] at he; rcases he with rfl | rfl | rfl <;> first | exact e_i_PrefixOk k | exact e_i_AddrOk k | exact e_i_lastBits k) (by kernel_rfl) (fn := Tryz.f152) (k := k) (es := [⟨211, 0, (.cons yP19 .nil), .bool, i_PrefixOk k⟩, ⟨236, 0, yP3, .bool, i_AddrOk k⟩, ⟨237, 0, yP3, (.int .i64), i_lastBits k⟩]) (loops := []) (by kernel_rfl) (by kernel_rfl) (fun x r h => (t_i_InPrefix k x).trans h)
def i_isHost (k : Nat) (x : (Int × Int × Unit) × Int × Unit) : Option (Bool × Unit × Unit × Unit) :=
((i_InPrefix k ((x.1.1, (x.1.2.1, ())), (x.2.1, ()))).bind fun p1 =>
(if p1.1 = true then
(if (!decide (x.2.1 = x.1.1)) = true then
((i_lastBits k (x.1.2.1, ())).bind fun p2 =>
some ((!decide (x.2.1 = (bitsI .or .i64 x.1.1 p2.1))), ((), ((), ()))))
else
some (false, ((), ((), ()))))
else
some (false, ((), ((), ())))))
theorem t_i_isHost (k : Nat) (x) : evF TTab k [⟨152, 0, (.cons yP19 yP3), .bool, i_InPrefix k⟩, ⟨237, 0, yP3, (.int .i64), i_lastBits k⟩] [] Tryz.f213 (.cons yP19 yP3) .bool x = i_isHost k x := by kernel_rfl
theorem e_i_isHost [Names] (k : Nat) : EntryOk Tryz.prog ⟨213, 0, (.cons yP19 yP3), .bool, i_isHost k⟩ := entry_ok tok (by intro e he; simp only [List.mem_cons, List.not_mem_nil, or_false] at he; rcases he with rfl | rfl <;> first | exact e_i_InPrefix k | exact e_i_lastBits k) (by kernel_rfl) (fn := Tryz.f213) (k := k) (es := [⟨152, 0, (.cons yP19 yP3), .bool, i_InPrefix k⟩, ⟨237, 0, yP3, (.int .i64), i_lastBits k⟩]) (loops := []) (by kernel_rfl) (by kernel_rfl) (fun x r h => (t_i_isHost k x).trans h)
def i_fixedFor (k : Nat) (x : (Int × Int × (List (Int × Int × Int)) × (List (Int × Int)) × Unit) × Int × Unit) : Option (Int × Unit × Unit × Unit) :=
(whileK (fun (rec0 : (Int × (List (Int × Int)) × Int × Int × Unit) → Option _) (y0 : Int × (List (Int × Int)) × Int × Int × Unit) =>
(if (decide (y0.2.2.2.1 < y0.2.2.1)) = true then
(if 0 ≤ y0.2.2.2.1 ∧ y0.2.2.2.1 < (List.length y0.2.1 : Int) then
(if (decide ((Ty.rd (t := (.pair (.int .i64) (.int .i64))) y0.2.1 y0.2.2.2.1).2 = y0.1)) = true then
some ((Ty.rd (t := (.pair (.int .i64) (.int .i64))) y0.2.1 y0.2.2.2.1).1, ((), ((), ())))
else
(rec0 (y0.1, (y0.2.1, (y0.2.2.1, ((wi64 (y0.2.2.2.1 + (1 : Int))), ()))))))
else none)
else
((fun (z1 : Unit) =>
some ((0 : Int), ((), ((), ())))) ()))) k (x.2.1, (x.1.2.2.2.1, ((List.length x.1.2.2.2.1 : Int), ((0 : Int), ())))))
theorem t_i_fixedFor (k : Nat) (x) : evF TTab k [] [(0, ⟨[1, 8, 9, 10], (.cons (.int .i64) (.cons (.il true yT2) (.cons (.int .i64) yP3)))⟩, ⟨[], .nil⟩)] Tryz.f214 (.cons (.agg yP5) yP3) (.int .i64) x = i_fixedFor k x := by kernel_rfl
theorem e_i_fixedFor [Names] (k : Nat) : EntryOk Tryz.prog ⟨214, 0, (.cons (.agg yP5) yP3), (.int .i64), i_fixedFor k⟩ := entry_ok tok (by simp) (by kernel_rfl) (fn := Tryz.f214) (k := k) (es := []) (loops := [(0, ⟨[1, 8, 9, 10], (.cons (.int .i64) (.cons (.il true yT2) (.cons (.int .i64) yP3)))⟩, ⟨[], .nil⟩)]) (by kernel_rfl) (by kernel_rfl) (fun x r h => (t_i_fixedFor k x).trans h)
def i_fixesOk (k : Nat) (x : (Int × Int × (List (Int × Int × Int)) × (List (Int × Int)) × Unit) × Unit) : Option (Bool × Unit × Unit) :=
(whileK (fun (rec0 : ((Int × Int × (List (Int × Int × Int)) × (List (Int × Int)) × Unit) × (List (Int × Int)) × Int × Int × Unit) → Option _) (y0 : (Int × Int × (List (Int × Int × Int)) × (List (Int × Int)) × Unit) × (List (Int × Int)) × Int × Int × Unit) =>
(if (decide (y0.2.2.2.1 < y0.2.2.1)) = true then
(if 0 ≤ y0.2.2.2.1 ∧ y0.2.2.2.1 < (List.length y0.2.1 : Int) then
((i_isId k ((Ty.rd (t := (.pair (.int .i64) (.int .i64))) y0.2.1 y0.2.2.2.1).1, ())).bind fun p1 =>
(if (!p1.1) = false then
((i_isHost k ((y0.1.1, (y0.1.2.1, ())), ((Ty.rd (t := (.pair (.int .i64) (.int .i64))) y0.2.1 y0.2.2.2.1).2, ()))).bind fun p2 =>
(if (!p2.1) = false then
(if (decide ((0 : Int) < y0.2.2.2.1)) = true then
(if 0 ≤ (wi64 (y0.2.2.2.1 - (1 : Int))) ∧ (wi64 (y0.2.2.2.1 - (1 : Int))) < (List.length y0.1.2.2.2.1 : Int) then
(if (decide ((Ty.rd (t := (.pair (.int .i64) (.int .i64))) y0.2.1 y0.2.2.2.1).1 ≤ (Ty.rd (t := (.pair (.int .i64) (.int .i64))) y0.1.2.2.2.1 (wi64 (y0.2.2.2.1 - (1 : Int)))).1)) = false then
((i_fixedFor k ((y0.1.1, (y0.1.2.1, (y0.1.2.2.1, (y0.1.2.2.2.1, ())))), ((Ty.rd (t := (.pair (.int .i64) (.int .i64))) y0.2.1 y0.2.2.2.1).2, ()))).bind fun p3 =>
(if (!decide (p3.1 = (Ty.rd (t := (.pair (.int .i64) (.int .i64))) y0.2.1 y0.2.2.2.1).1)) = true then
some (false, ((), ()))
else
(rec0 ((y0.1.1, (y0.1.2.1, (y0.1.2.2.1, (y0.1.2.2.2.1, ())))), (y0.2.1, (y0.2.2.1, ((wi64 (y0.2.2.2.1 + (1 : Int))), ())))))))
else
some (false, ((), ())))
else none)
else
((i_fixedFor k ((y0.1.1, (y0.1.2.1, (y0.1.2.2.1, (y0.1.2.2.2.1, ())))), ((Ty.rd (t := (.pair (.int .i64) (.int .i64))) y0.2.1 y0.2.2.2.1).2, ()))).bind fun p4 =>
(if (!decide (p4.1 = (Ty.rd (t := (.pair (.int .i64) (.int .i64))) y0.2.1 y0.2.2.2.1).1)) = true then
some (false, ((), ()))
else
(rec0 ((y0.1.1, (y0.1.2.1, (y0.1.2.2.1, (y0.1.2.2.2.1, ())))), (y0.2.1, (y0.2.2.1, ((wi64 (y0.2.2.2.1 + (1 : Int))), ()))))))))
else
some (false, ((), ()))))
else
some (false, ((), ()))))
else none)
else
((fun (z1 : (Int × Int × (List (Int × Int × Int)) × (List (Int × Int)) × Unit) × Unit) =>
some ((decide ((List.length z1.1.2.2.2.1 : Int) ≤ (4 : Int))), ((), ()))) ((y0.1.1, (y0.1.2.1, (y0.1.2.2.1, (y0.1.2.2.2.1, ())))), ())))) k ((x.1.1, (x.1.2.1, (x.1.2.2.1, (x.1.2.2.2.1, ())))), (x.1.2.2.2.1, ((List.length x.1.2.2.2.1 : Int), ((0 : Int), ())))))
theorem t_i_fixesOk (k : Nat) (x) : evF TTab k [⟨133, 0, yP3, .bool, i_isId k⟩, ⟨213, 0, (.cons yP19 yP3), .bool, i_isHost k⟩, ⟨214, 0, (.cons (.agg yP5) yP3), (.int .i64), i_fixedFor k⟩] [(0, ⟨[1, 6, 7, 8], (.cons (.ptr 0 yP5) (.cons (.il true yT2) (.cons (.int .i64) yP3)))⟩, ⟨[1], (.cons (.ptr 0 yP5) .nil)⟩)] Tryz.f212 (.cons (.agg yP5) .nil) .bool x = i_fixesOk k x := by kernel_rfl
theorem e_i_fixesOk [Names] (k : Nat) : EntryOk Tryz.prog ⟨212, 0, (.cons (.agg yP5) .nil), .bool, i_fixesOk k⟩ := entry_ok tok (by intro e he; simp only [List.mem_cons, List.not_mem_nil, or_false] at he; rcases he with rfl | rfl | rfl <;> first | exact e_i_isId k | exact e_i_isHost k | exact e_i_fixedFor k) (by kernel_rfl) (fn := Tryz.f212) (k := k) (es := [⟨133, 0, yP3, .bool, i_isId k⟩, ⟨213, 0, (.cons yP19 yP3), .bool, i_isHost k⟩, ⟨214, 0, (.cons (.agg yP5) yP3), (.int .i64), i_fixedFor k⟩]) (loops := [(0, ⟨[1, 6, 7, 8], (.cons (.ptr 0 yP5) (.cons (.il true yT2) (.cons (.int .i64) yP3)))⟩, ⟨[1], (.cons (.ptr 0 yP5) .nil)⟩)]) (by kernel_rfl) (by kernel_rfl) (fun x r h => (t_i_fixesOk k x).trans h)
def i_PoolOk (k : Nat) (x : (Int × Int × (List (Int × Int × Int)) × (List (Int × Int)) × Unit) × Unit) : Option (Bool × Unit × Unit) :=
((i_PrefixOk k ((x.1.1, (x.1.2.1, ())), ())).bind fun p1 =>
(if (!p1.1) = false then
((i_within k (x.1.2.1, ((24 : Int), ((30 : Int), ())))).bind fun p2 =>
(if (!p2.1) = false then
((i_fixesOk k ((x.1.1, (x.1.2.1, (x.1.2.2.1, (x.1.2.2.2.1, ())))), ())).bind fun p3 =>
(if (!p3.1) = false then
(if (decide ((6 : Int) < (List.length x.1.2.2.1 : Int))) = true then
some (false, ((), ()))
else
(whileK (fun (rec0 : ((Int × Int × (List (Int × Int × Int)) × (List (Int × Int)) × Unit) × (List (Int × Int × Int)) × Int × Int × Unit) → Option _) (y0 : (Int × Int × (List (Int × Int × Int)) × (List (Int × Int)) × Unit) × (List (Int × Int × Int)) × Int × Int × Unit) =>
(if (decide (y0.2.2.2.1 < y0.2.2.1)) = true then
(if 0 ≤ y0.2.2.2.1 ∧ y0.2.2.2.1 < (List.length y0.2.1 : Int) then
(if (decide ((0 : Int) < y0.2.2.2.1)) = true then
(if 0 ≤ (wi64 (y0.2.2.2.1 - (1 : Int))) ∧ (wi64 (y0.2.2.2.1 - (1 : Int))) < (List.length y0.1.2.2.1 : Int) then
(if (decide ((Ty.rd (t := (.pair (.int .i64) (.pair (.int .i64) (.int .i64)))) y0.2.1 y0.2.2.2.1).1 ≤ (Ty.rd (t := (.pair (.int .i64) (.pair (.int .i64) (.int .i64)))) y0.1.2.2.1 (wi64 (y0.2.2.2.1 - (1 : Int)))).1)) = false then
((i_isHost k ((y0.1.1, (y0.1.2.1, ())), ((Ty.rd (t := (.pair (.int .i64) (.pair (.int .i64) (.int .i64)))) y0.2.1 y0.2.2.2.1).1, ()))).bind fun p4 =>
(if (!p4.1) = false then
((i_isId k ((Ty.rd (t := (.pair (.int .i64) (.pair (.int .i64) (.int .i64)))) y0.2.1 y0.2.2.2.1).2.1, ())).bind fun p5 =>
(if (!p5.1) = false then
((i_within k ((Ty.rd (t := (.pair (.int .i64) (.pair (.int .i64) (.int .i64)))) y0.2.1 y0.2.2.2.1).2.2, ((0 : Int), ((1000000000 : Int), ())))).bind fun p6 =>
(if (!p6.1) = true then
some (false, ((), ()))
else
((i_fixedFor k ((y0.1.1, (y0.1.2.1, (y0.1.2.2.1, (y0.1.2.2.2.1, ())))), ((Ty.rd (t := (.pair (.int .i64) (.pair (.int .i64) (.int .i64)))) y0.2.1 y0.2.2.2.1).1, ()))).bind fun p12 =>
((i_leaseOf k ((y0.1.1, (y0.1.2.1, (y0.1.2.2.1, (y0.1.2.2.2.1, ())))), ((Ty.rd (t := (.pair (.int .i64) (.pair (.int .i64) (.int .i64)))) y0.2.1 y0.2.2.2.1).2.1, ()))).bind fun p13 =>
(if (!decide (p13.1 = y0.2.2.2.1)) = false then
(if (!decide (p12.1 = (0 : Int))) = true then
(if (!decide (p12.1 = (Ty.rd (t := (.pair (.int .i64) (.pair (.int .i64) (.int .i64)))) y0.2.1 y0.2.2.2.1).2.1)) = true then
some (false, ((), ()))
else
(rec0 ((y0.1.1, (y0.1.2.1, (y0.1.2.2.1, (y0.1.2.2.2.1, ())))), (y0.2.1, (y0.2.2.1, ((wi64 (y0.2.2.2.1 + (1 : Int))), ()))))))
else
(rec0 ((y0.1.1, (y0.1.2.1, (y0.1.2.2.1, (y0.1.2.2.2.1, ())))), (y0.2.1, (y0.2.2.1, ((wi64 (y0.2.2.2.1 + (1 : Int))), ()))))))
else
some (false, ((), ())))))))
else
some (false, ((), ()))))
else
some (false, ((), ()))))
else
some (false, ((), ())))
else none)
else
((i_isHost k ((y0.1.1, (y0.1.2.1, ())), ((Ty.rd (t := (.pair (.int .i64) (.pair (.int .i64) (.int .i64)))) y0.2.1 y0.2.2.2.1).1, ()))).bind fun p7 =>
(if (!p7.1) = false then
((i_isId k ((Ty.rd (t := (.pair (.int .i64) (.pair (.int .i64) (.int .i64)))) y0.2.1 y0.2.2.2.1).2.1, ())).bind fun p8 =>
(if (!p8.1) = false then
((i_within k ((Ty.rd (t := (.pair (.int .i64) (.pair (.int .i64) (.int .i64)))) y0.2.1 y0.2.2.2.1).2.2, ((0 : Int), ((1000000000 : Int), ())))).bind fun p9 =>
(if (!p9.1) = true then
some (false, ((), ()))
else
((i_fixedFor k ((y0.1.1, (y0.1.2.1, (y0.1.2.2.1, (y0.1.2.2.2.1, ())))), ((Ty.rd (t := (.pair (.int .i64) (.pair (.int .i64) (.int .i64)))) y0.2.1 y0.2.2.2.1).1, ()))).bind fun p14 =>
((i_leaseOf k ((y0.1.1, (y0.1.2.1, (y0.1.2.2.1, (y0.1.2.2.2.1, ())))), ((Ty.rd (t := (.pair (.int .i64) (.pair (.int .i64) (.int .i64)))) y0.2.1 y0.2.2.2.1).2.1, ()))).bind fun p15 =>
(if (!decide (p15.1 = y0.2.2.2.1)) = false then
(if (!decide (p14.1 = (0 : Int))) = true then
(if (!decide (p14.1 = (Ty.rd (t := (.pair (.int .i64) (.pair (.int .i64) (.int .i64)))) y0.2.1 y0.2.2.2.1).2.1)) = true then
some (false, ((), ()))
else
(rec0 ((y0.1.1, (y0.1.2.1, (y0.1.2.2.1, (y0.1.2.2.2.1, ())))), (y0.2.1, (y0.2.2.1, ((wi64 (y0.2.2.2.1 + (1 : Int))), ()))))))
else
(rec0 ((y0.1.1, (y0.1.2.1, (y0.1.2.2.1, (y0.1.2.2.2.1, ())))), (y0.2.1, (y0.2.2.1, ((wi64 (y0.2.2.2.1 + (1 : Int))), ()))))))
else
some (false, ((), ())))))))
else
some (false, ((), ()))))
else
some (false, ((), ())))))
else none)
else
((fun (z1 : Unit) =>
some (true, ((), ()))) ()))) k ((x.1.1, (x.1.2.1, (x.1.2.2.1, (x.1.2.2.2.1, ())))), (x.1.2.2.1, ((List.length x.1.2.2.1 : Int), ((0 : Int), ()))))))
else
some (false, ((), ()))))
else
some (false, ((), ()))))
else
some (false, ((), ()))))
theorem t_i_PoolOk (k : Nat) (x) : evF TTab k [⟨55, 0, yP14, .bool, i_within k⟩, ⟨133, 0, yP3, .bool, i_isId k⟩, ⟨134, 0, (.cons (.agg yP5) yP3), (.int .i64), i_leaseOf k⟩, ⟨211, 0, (.cons yP19 .nil), .bool, i_PrefixOk k⟩, ⟨212, 0, (.cons (.agg yP5) .nil), .bool, i_fixesOk k⟩, ⟨213, 0, (.cons yP19 yP3), .bool, i_isHost k⟩, ⟨214, 0, (.cons (.agg yP5) yP3), (.int .i64), i_fixedFor k⟩] [(0, ⟨[1, 29, 30, 31], (.cons (.ptr 0 yP5) (.cons yP24 (.cons (.int .i64) yP3)))⟩, ⟨[], .nil⟩)] Tryz.f124 (.cons (.agg yP5) .nil) .bool x = i_PoolOk k x := by kernel_rfl
theorem e_i_PoolOk [Names] (k : Nat) : EntryOk Tryz.prog ⟨124, 0, (.cons (.agg yP5) .nil), .bool, i_PoolOk k⟩ := entry_ok tok (by intro e he; simp only [List.mem_cons, List.not_mem_nil, or_false] at he; rcases he with rfl | rfl | rfl | rfl | rfl | rfl | rfl <;> first | exact e_i_within k | exact e_i_isId k | exact e_i_leaseOf k | exact e_i_PrefixOk k | exact e_i_fixesOk k | exact e_i_isHost k | exact e_i_fixedFor k) (by kernel_rfl) (fn := Tryz.f124) (k := k) (es := [⟨55, 0, yP14, .bool, i_within k⟩, ⟨133, 0, yP3, .bool, i_isId k⟩, ⟨134, 0, (.cons (.agg yP5) yP3), (.int .i64), i_leaseOf k⟩, ⟨211, 0, (.cons yP19 .nil), .bool, i_PrefixOk k⟩, ⟨212, 0, (.cons (.agg yP5) .nil), .bool, i_fixesOk k⟩, ⟨213, 0, (.cons yP19 yP3), .bool, i_isHost k⟩, ⟨214, 0, (.cons (.agg yP5) yP3), (.int .i64), i_fixedFor k⟩]) (loops := [(0, ⟨[1, 29, 30, 31], (.cons (.ptr 0 yP5) (.cons yP24 (.cons (.int .i64) yP3)))⟩, ⟨[], .nil⟩)]) (by kernel_rfl) (by kernel_rfl) (fun x r h => (t_i_PoolOk k x).trans h)
def x_slices_Delete_impl_Lease_impl_Lease (k : Nat) (x : (List (Int × Int × Int)) × Int × Int × Unit) : Option ((List (Int × Int × Int)) × Unit × Unit × Unit × Unit) :=
(if 0 ≤ (List.length x.1 : Int) ∧ (List.length x.1 : Int) ≤ (List.length x.1 : Int) then
(if 0 ≤ x.2.2.1 ∧ x.2.2.1 ≤ (List.length x.1 : Int) then
(if 0 ≤ x.2.1 ∧ x.2.1 ≤ x.2.2.1 then
(if (decide (x.2.1 = x.2.2.1)) = true then
some (x.1, ((), ((), ((), ()))))
else
(if 0 ≤ x.2.1 ∧ x.2.1 ≤ (List.length x.1 : Int) then
(if 0 ≤ x.2.2.1 ∧ x.2.2.1 ≤ (List.length x.1 : Int) then
(if x.2.1 + List.length (List.drop (Int.toNat x.2.2.1) (List.take (Int.toNat (List.length x.1 : Int)) x.1)) ≤ List.length x.1 ∧ x.2.1 - (0 : Int) + List.length (List.drop (Int.toNat x.2.2.1) (List.take (Int.toNat (List.length x.1 : Int)) x.1)) ≤ capMax then
(if 0 ≤ (List.length x.1 : Int) ∧ (List.length x.1 : Int) ≤ ((List.length (List.take (Int.toNat x.2.1) x.1 ++ ((List.drop (Int.toNat x.2.2.1) (List.take (Int.toNat (List.length x.1 : Int)) x.1)) ++ List.drop (Int.toNat x.2.1 + List.length (List.drop (Int.toNat x.2.2.1) (List.take (Int.toNat (List.length x.1 : Int)) x.1))) x.1)) : Int) - (0 : Int)) then
(if 0 ≤ ((x.2.1 + List.length (List.drop (Int.toNat x.2.2.1) (List.take (Int.toNat (List.length x.1 : Int)) x.1))) - (0 : Int)) ∧ ((x.2.1 + List.length (List.drop (Int.toNat x.2.2.1) (List.take (Int.toNat (List.length x.1 : Int)) x.1))) - (0 : Int)) ≤ (List.length x.1 : Int) then
some ((List.drop (Int.toNat (0 : Int)) (List.take (Int.toNat (x.2.1 + List.length (List.drop (Int.toNat x.2.2.1) (List.take (Int.toNat (List.length x.1 : Int)) x.1)))) (List.take (Int.toNat ((0 : Int) + ((x.2.1 + List.length (List.drop (Int.toNat x.2.2.1) (List.take (Int.toNat (List.length x.1 : Int)) x.1))) - (0 : Int)))) (List.take (Int.toNat x.2.1) x.1 ++ ((List.drop (Int.toNat x.2.2.1) (List.take (Int.toNat (List.length x.1 : Int)) x.1)) ++ List.drop (Int.toNat x.2.1 + List.length (List.drop (Int.toNat x.2.2.1) (List.take (Int.toNat (List.length x.1 : Int)) x.1))) x.1)) ++ (List.replicate (Int.toNat (((0 : Int) + (List.length x.1 : Int)) - ((0 : Int) + ((x.2.1 + List.length (List.drop (Int.toNat x.2.2.1) (List.take (Int.toNat (List.length x.1 : Int)) x.1))) - (0 : Int))))) ((0 : Int), ((0 : Int), (0 : Int))) ++ List.drop (Int.toNat ((0 : Int) + (List.length x.1 : Int))) (List.take (Int.toNat x.2.1) x.1 ++ ((List.drop (Int.toNat x.2.2.1) (List.take (Int.toNat (List.length x.1 : Int)) x.1)) ++ List.drop (Int.toNat x.2.1 + List.length (List.drop (Int.toNat x.2.2.1) (List.take (Int.toNat (List.length x.1 : Int)) x.1))) x.1)))))), ((), ((), ((), ()))))
else none)
else none)
else none)
else none)
else none))
else none)
else none)
else none)
theorem t_x_slices_Delete_impl_Lease_impl_Lease (k : Nat) (x) : evF TTab k [] [] Tryz.f149 (.cons yP26 (.cons (.int .i64) yP3)) yP26 x = x_slices_Delete_impl_Lease_impl_Lease k x := by kernel_rfl
theorem e_x_slices_Delete_impl_Lease_impl_Lease [Names] (k : Nat) : EntryOk Tryz.prog ⟨149, 0, (.cons yP26 (.cons (.int .i64) yP3)), yP26, x_slices_Delete_impl_Lease_impl_Lease k⟩ := entry_ok tok (by simp) (by kernel_rfl) (fn := Tryz.f149) (k := k) (es := []) (loops := []) (by kernel_rfl) (by kernel_rfl) (fun x r h => (t_x_slices_Delete_impl_Lease_impl_Lease k x).trans h)
def i_Release (k : Nat) (x : (Int × Int × (List (Int × Int × Int)) × (List (Int × Int)) × Unit) × Int × Unit) : Option (((Int × Int × (List (Int × Int × Int)) × (List (Int × Int)) × Unit) × Bool × Unit) × Unit × Unit × Unit) :=
((i_copyPool k ((x.1.1, (x.1.2.1, (x.1.2.2.1, (x.1.2.2.2.1, ())))), ())).bind fun p1 =>
((i_leaseOf k ((x.1.1, (x.1.2.1, (x.1.2.2.1, (x.1.2.2.2.1, ())))), (x.2.1, ()))).bind fun p2 =>
((i_PoolOk k ((x.1.1, (x.1.2.1, (x.1.2.2.1, (x.1.2.2.2.1, ())))), ())).bind fun p3 =>
(if (!p3.1) = false then
(if (decide (p2.1 < (0 : Int))) = true then
some (((p1.1.1, (p1.1.2.1, (p1.1.2.2.1, (p1.1.2.2.2.1, ())))), (false, ())), ((), ((), ())))
else
((x_slices_Delete_impl_Lease_impl_Lease k (p1.1.2.2.1, (p2.1, ((wi64 (p2.1 + (1 : Int))), ())))).bind fun p4 =>
some (((p1.1.1, (p1.1.2.1, (p4.1, (p1.1.2.2.2.1, ())))), (true, ())), ((), ((), ())))))
else
some (((p1.1.1, (p1.1.2.1, (p1.1.2.2.1, (p1.1.2.2.2.1, ())))), (false, ())), ((), ((), ())))))))
theorem t_i_Release (k : Nat) (x) : evF TTab k [⟨124, 0, (.cons (.agg yP5) .nil), .bool, i_PoolOk k⟩, ⟨128, 0, (.cons (.agg yP5) .nil), (.agg yP10), i_copyPool k⟩, ⟨134, 0, (.cons (.agg yP5) yP3), (.int .i64), i_leaseOf k⟩, ⟨149, 0, (.cons yP26 (.cons (.int .i64) yP3)), yP26, x_slices_Delete_impl_Lease_impl_Lease k⟩] [] Tryz.f70 (.cons (.agg yP5) yP3) (.tup (.cons (.agg yP10) (.cons .bool .nil))) x = i_Release k x := by kernel_rfl
theorem e_i_Release [Names] (k : Nat) : EntryOk Tryz.prog ⟨70, 0, (.cons (.agg yP5) yP3), (.tup (.cons (.agg yP10) (.cons .bool .nil))), i_Release k⟩ := entry_ok tok (by intro e he; simp only [List.mem_cons, List.not_mem_nil, or_false] at he; rcases he with rfl | rfl | rfl | rfl <;> first | exact e_i_PoolOk k | exact e_i_copyPool k | exact e_i_leaseOf k | exact e_x_slices_Delete_impl_Lease_impl_Lease k) (by kernel_rfl) (fn := Tryz.f70) (k := k) (es := [⟨124, 0, (.cons (.agg yP5) .nil), .bool, i_PoolOk k⟩, ⟨128, 0, (.cons (.agg yP5) .nil), (.agg yP10), i_copyPool k⟩, ⟨134, 0, (.cons (.agg yP5) yP3), (.int .i64), i_leaseOf k⟩, ⟨149, 0, (.cons yP26 (.cons (.int .i64) yP3)), yP26, x_slices_Delete_impl_Lease_impl_Lease k⟩]) (loops := []) (by kernel_rfl) (by kernel_rfl) (fun x r h => (t_i_Release k x).trans h)
def i_DropTo_1 (k : Nat) (x : (Int × Int × Int × Unit) × (Int × Unit) × Unit) : Option (Bool × Unit × (Int × Unit) × Unit) :=
some ((decide (x.1.2.2.1 = x.2.1.1)), ((), ((x.2.1.1, ()), ())))
theorem t_i_DropTo_1 (k : Nat) (x) : evF TTab k [] [] Tryz.f151 (.cons (.agg yP14) yP23) .bool x = i_DropTo_1 k x := by kernel_rfl
theorem e_i_DropTo_1 [Names] (k : Nat) : EntryOk Tryz.prog ⟨151, 0, (.cons (.agg yP14) yP23), .bool, i_DropTo_1 k⟩ := entry_ok tok (by simp) (by kernel_rfl) (fn := Tryz.f151) (k := k) (es := []) (loops := []) (by kernel_rfl) (by kernel_rfl) (fun x r h => (t_i_DropTo_1 k x).trans h)
def x_slices_IndexFunc_impl_Route_impl_Route_of_i_DropTo_1 (k : Nat) (x : (List ((Int × Int) × Int)) × ((Int × Unit) × Unit) × Unit) : Option (Int × Unit × ((Int × Unit) × Unit) × Unit) :=
(whileK (fun (rec0 : ((List ((Int × Int) × Int)) × ((Int × Unit) × Unit) × Int × Int × Unit) → Option _) (y0 : (List ((Int × Int) × Int)) × ((Int × Unit) × Unit) × Int × Int × Unit) =>
(if (decide (y0.2.2.2.1 < y0.2.2.1)) = true then
(if 0 ≤ y0.2.2.2.1 ∧ y0.2.2.2.1 < (List.length y0.1 : Int) then
((i_DropTo_1 k (((Ty.rd (t := (.pair (.pair (.int .i64) (.int .i64)) (.int .i64))) y0.1 y0.2.2.2.1).1.1, ((Ty.rd (t := (.pair (.pair (.int .i64) (.int .i64)) (.int .i64))) y0.1 y0.2.2.2.1).1.2, ((Ty.rd (t := (.pair (.pair (.int .i64) (.int .i64)) (.int .i64))) y0.1 y0.2.2.2.1).2, ()))), ((y0.2.1.1.1, ()), ()))).bind fun p1 =>
(if p1.1 = true then
some (y0.2.2.2.1, ((), (((p1.2.2.1.1, ()), ()), ())))
else
(rec0 (y0.1, (((p1.2.2.1.1, ()), ()), (y0.2.2.1, ((wi64 (y0.2.2.2.1 + (1 : Int))), ())))))))
else none)
else
((fun (z1 : ((Int × Unit) × Unit) × Unit) =>
some ((-1 : Int), ((), (((z1.1.1.1, ()), ()), ())))) (((y0.2.1.1.1, ()), ()), ())))) k (x.1, (((x.2.1.1.1, ()), ()), ((List.length x.1 : Int), ((0 : Int), ())))))
theorem t_x_slices_IndexFunc_impl_Route_impl_Route_of_i_DropTo_1 (k : Nat) (x) : evF TTab k [⟨151, 0, (.cons (.agg yP14) yP23), .bool, i_DropTo_1 k⟩] [(0, ⟨[0, 1, 7, 8], (.cons yP21 (.cons (.fn 151 yP23) (.cons (.int .i64) yP3)))⟩, ⟨[1], (.cons (.fn 151 yP23) .nil)⟩)] Tryz.f235 (.cons yP21 (.cons (.fn 151 yP23) .nil)) (.int .i64) x = x_slices_IndexFunc_impl_Route_impl_Route_of_i_DropTo_1 k x := by kernel_rfl
theorem e_x_slices_IndexFunc_impl_Route_impl_Route_of_i_DropTo_1 [Names] (k : Nat) : EntryOk Tryz.prog ⟨235, 152, (.cons yP21 (.cons (.fn 151 yP23) .nil)), (.int .i64), x_slices_IndexFunc_impl_Route_impl_Route_of_i_DropTo_1 k⟩ := entry_ok tok (by intro e he; simp only [List.mem_cons, List.not_mem_nil, or_false] at he; rcases he with rfl <;> first | exact e_i_DropTo_1 k) (by kernel_rfl) (fn := Tryz.f235) (k := k) (es := [⟨151, 0, (.cons (.agg yP14) yP23), .bool, i_DropTo_1 k⟩]) (loops := [(0, ⟨[0, 1, 7, 8], (.cons yP21 (.cons (.fn 151 yP23) (.cons (.int .i64) yP3)))⟩, ⟨[1], (.cons (.fn 151 yP23) .nil)⟩)]) (by kernel_rfl) (by kernel_rfl) (fun x r h => (t_x_slices_IndexFunc_impl_Route_impl_Route_of_i_DropTo_1 k x).trans h)
end Go.Proofs.YtnfllchbpechlaaGreat
