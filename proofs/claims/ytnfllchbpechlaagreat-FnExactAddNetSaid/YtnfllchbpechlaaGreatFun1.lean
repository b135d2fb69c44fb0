import Derived.Test.YtnfllchbpechlaaGreatFun0
/- What functions of the program compute, as plain functions, and that their calls do so (part 1). Conditions: the plain function answers. -/
set_option linter.unusedVariables false
namespace Go.Proofs.YtnfllchbpechlaaGreat
open Go Go.Eng Go.Proofs
/- Names of types and patterns that come often. -/
abbrev yT5 : Ty := (.pair (.int .i64) (.pair (.int .i64) (.pair (.int .i64) (.pair (.list .str) (.pair (.list .bool) (.int .i64))))))
abbrev yT0 : Ty := (.pair (.int .i64) (.pair (.int .i64) (.pair (.pair (.pair (.int .i64) (.pair .str (.pair .str (.pair (.int .i64) (.pair (.list (.int .i64)) (.int .i64)))))) (.pair (.int .i64) (.pair .str (.pair .str (.pair (.int .i64) (.pair (.list (.int .i64)) (.int .i64))))))) (.pair (.list yT5) (.int .i64)))))
abbrev yT27 : Ty := (.pair (.int .i64) (.pair (.int .i64) (.pair (.int .i64) (.pair (.ols 9 .str) (.pair (.ols 4 .bool) (.int .i64))))))
abbrev yT1 : Ty := (.pair (.int .i64) (.pair (.int .i64) (.pair (.pair (.pair (.int .i64) (.pair .str (.pair .str (.pair (.int .i64) (.pair (.ols 3 (.int .i64)) (.int .i64)))))) (.pair (.int .i64) (.pair .str (.pair .str (.pair (.int .i64) (.pair (.ols 3 (.int .i64)) (.int .i64))))))) (.pair (.ols 229 yT27) (.int .i64)))))
abbrev yT2 : Ty := (.pair (.int .i64) (.int .i64))
abbrev yP3 : Pat := (.cons (.int .i64) .nil)
abbrev yP4 : Pat := (.agg (.cons (.int .i64) (.cons (.int .i64) (.cons (.int .i64) (.cons .str (.cons .str (.cons (.int .i64) (.cons (.il true (.int .i64)) (.cons (.int .i64) (.cons (.int .i64) (.cons .str (.cons .str (.cons (.int .i64) (.cons (.il true (.int .i64)) (.cons (.int .i64) (.cons (.il true yT5) yP3))))))))))))))))
abbrev yP22 : Pat := (.il true (.pair (.int .i64) yT2))
abbrev yP13 : Pat := (.il true (.pair yT2 (.int .i64)))
abbrev yP6 : Pat := (.agg (.cons (.int .i64) (.cons (.int .i64) (.cons yP22 (.cons (.il true yT2) (.cons yP13 (.cons (.il true yT0) .nil)))))))
abbrev yP7 : Pat := (.agg (.cons (.int .i64) (.cons .str (.cons .str (.cons (.int .i64) (.cons (.il true (.int .i64)) (.cons (.int .i64) (.cons (.int .i64) (.cons .str (.cons .str (.cons (.int .i64) (.cons (.il true (.int .i64)) yP3))))))))))))
abbrev yP8 : Pat := (.own false 229 yT27)
abbrev yP9 : Pat := (.agg (.cons (.int .i64) (.cons (.int .i64) (.cons yP22 (.cons (.il true yT2) .nil)))))
abbrev yP10 : Pat := (.own false 53 (.pair yT2 (.int .i64)))
abbrev yP11 : Pat := (.cons (.int .i64) (.cons (.int .i64) yP3))
abbrev yP31 : Pat := (.own false 3 (.int .i64))
abbrev yP24 : Pat := (.cons (.int .i64) (.cons .str (.cons .str (.cons (.int .i64) (.cons yP31 yP3)))))
abbrev yP12 : Pat := (.agg (.cons (.int .i64) (.cons .str (.cons .str (.cons (.int .i64) (.cons yP31 (.cons (.int .i64) yP24)))))))
abbrev yP14 : Pat := (.agg (.cons (.int .i64) yP3))
abbrev yP15 : Pat := (.agg (.cons (.int .i64) (.cons (.int .i64) (.cons (.int .i64) (.cons .str (.cons .str (.cons (.int .i64) (.cons yP31 (.cons (.int .i64) (.cons (.int .i64) (.cons .str (.cons .str (.cons (.int .i64) (.cons yP31 (.cons (.int .i64) (.cons yP8 yP3))))))))))))))))
abbrev yP16 : Pat := (.agg (.cons (.int .i64) (.cons .str (.cons .str (.cons (.int .i64) (.cons (.il true (.int .i64)) yP3))))))
abbrev yP29 : Pat := (.own false 135 (.pair (.int .i64) yT2))
abbrev yP17 : Pat := (.agg (.cons (.int .i64) (.cons (.int .i64) (.cons yP29 (.cons (.own false 252 yT2) (.cons yP10 (.cons (.own false 45 yT1) .nil)))))))
abbrev yP18 : Pat := (.agg (.cons (.int .i64) (.cons (.int .i64) (.cons (.int .i64) (.cons (.il true .str) (.cons (.il true .bool) yP3))))))
abbrev yP19 : Pat := (.agg (.cons (.int .i64) (.cons (.int .i64) (.cons yP29 (.cons (.own false 252 yT2) .nil)))))
abbrev yP20 : Pat := (.agg (.cons (.int .i64) (.cons (.int .i64) (.cons yP29 (.cons (.own false 252 yT2) (.cons yP10 (.cons (.own false 45 yT0) .nil)))))))
abbrev yP21 : Pat := (.agg (.cons (.int .i64) (.cons (.int .i64) (.cons (.int .i64) (.cons .str (.cons .str (.cons (.int .i64) (.cons yP31 (.cons (.int .i64) (.cons (.int .i64) (.cons .str (.cons .str (.cons (.int .i64) (.cons yP31 (.cons (.int .i64) (.cons (.own false 229 yT5) yP3))))))))))))))))
abbrev yP23 : Pat := (.cons (.ptr 0 (.cons (.int .i64) yP3)) .nil)
abbrev yP25 : Pat := (.cons (.il true yT5) .nil)
abbrev yP26 : Pat := (.cons (.mag (.cons (.int .i64) (.cons (.int .i64) (.cons (.mut false 135 (.pair (.int .i64) yT2)) (.cons (.mut false 252 yT2) (.cons (.mut false 53 (.pair yT2 (.int .i64))) (.cons (.mut false 45 yT1) .nil))))))) yP3)
abbrev yP28 : Pat := (.cons yP14 (.cons yP14 .nil))
abbrev yP30 : Pat := (.cons (.il true (.int .i64)) .nil)
abbrev yP32 : Pat := (.cons (.agg yP11) .nil)
abbrev yP33 : Pat := (.cons (.mag (.cons (.int .i64) (.cons (.int .i64) (.cons (.mut false 135 (.pair (.int .i64) yT2)) (.cons (.mut false 252 yT2) .nil))))) yP3)

def s_l01In (k : Nat) (x : Int × Int × Int × Unit) : Option (Bool × Unit × Unit × Unit × Unit) :=
(if (decide (x.2.1 ≤ x.1)) = true then
some ((decide (x.1 ≤ x.2.2.1)), ((), ((), ((), ()))))
else
some (false, ((), ((), ((), ())))))
theorem t_s_l01In (k : Nat) (x) : evF TTab k [] [] Tryz.f62 yP11 .bool x = s_l01In k x := by kernel_rfl
theorem e_s_l01In [Names] (k : Nat) : EntryOk Tryz.prog ⟨62, 0, yP11, .bool, s_l01In k⟩ := entry_ok tok (by simp) (by kernel_rfl) (fn := Tryz.f62) (k := k) (es := []) (loops := []) (by kernel_rfl) (by kernel_rfl) (fun x r h => (t_s_l01In k x).trans h)
def s_l17CopySlot (k : Nat) (x : (Int × ByteArray × ByteArray × Int × List (Int) × Int × Unit) × Unit) : Option ((Int × ByteArray × ByteArray × Int × List (Int) × Int × Unit) × Unit × Unit) :=
(if List.length ([] : List (Int)) + List.length x.1.2.2.2.2.1 ≤ capMax then
some ((x.1.1, (x.1.2.1, (x.1.2.2.1, (x.1.2.2.2.1, ((([] : List (Int)) ++ x.1.2.2.2.2.1), (x.1.2.2.2.2.2.1, ())))))), ((), ()))
else none)
theorem t_s_l17CopySlot (k : Nat) (x) : evF TTab k [] [] Tryz.f247 (.cons yP16 .nil) (.agg yP24) x = s_l17CopySlot k x := by kernel_rfl
theorem e_s_l17CopySlot [Names] (k : Nat) : EntryOk Tryz.prog ⟨247, 0, (.cons yP16 .nil), (.agg yP24), s_l17CopySlot k⟩ := entry_ok tok (by simp) (by kernel_rfl) (fn := Tryz.f247) (k := k) (es := []) (loops := []) (by kernel_rfl) (by kernel_rfl) (fun x r h => (t_s_l17CopySlot k x).trans h)
def s_l17Copy (k : Nat) (x : (Int × ByteArray × ByteArray × Int × List (Int) × Int × Int × ByteArray × ByteArray × Int × List (Int) × Int × Unit) × Unit) : Option ((Int × ByteArray × ByteArray × Int × List (Int) × Int × Int × ByteArray × ByteArray × Int × List (Int) × Int × Unit) × Unit × Unit) :=
((s_l17CopySlot k ((x.1.1, (x.1.2.1, (x.1.2.2.1, (x.1.2.2.2.1, (x.1.2.2.2.2.1, (x.1.2.2.2.2.2.1, ())))))), ())).bind fun p1 =>
((s_l17CopySlot k ((x.1.2.2.2.2.2.2.1, (x.1.2.2.2.2.2.2.2.1, (x.1.2.2.2.2.2.2.2.2.1, (x.1.2.2.2.2.2.2.2.2.2.1, (x.1.2.2.2.2.2.2.2.2.2.2.1, (x.1.2.2.2.2.2.2.2.2.2.2.2.1, ())))))), ())).bind fun p2 =>
some ((p1.1.1, (p1.1.2.1, (p1.1.2.2.1, (p1.1.2.2.2.1, (p1.1.2.2.2.2.1, (p1.1.2.2.2.2.2.1, (p2.1.1, (p2.1.2.1, (p2.1.2.2.1, (p2.1.2.2.2.1, (p2.1.2.2.2.2.1, (p2.1.2.2.2.2.2.1, ())))))))))))), ((), ()))))
theorem t_s_l17Copy (k : Nat) (x) : evF TTab k [⟨247, 0, (.cons yP16 .nil), (.agg yP24), s_l17CopySlot k⟩] [] Tryz.f170 (.cons yP7 .nil) yP12 x = s_l17Copy k x := by kernel_rfl
theorem e_s_l17Copy [Names] (k : Nat) : EntryOk Tryz.prog ⟨170, 0, (.cons yP7 .nil), yP12, s_l17Copy k⟩ := entry_ok tok (by intro e he; simp only [List.mem_cons, List.not_mem_nil, or_false] at he; rcases he with rfl <;> first | exact e_s_l17CopySlot k) (by kernel_rfl) (fn := Tryz.f170) (k := k) (es := [⟨247, 0, (.cons yP16 .nil), (.agg yP24), s_l17CopySlot k⟩]) (loops := []) (by kernel_rfl) (by kernel_rfl) (fun x r h => (t_s_l17Copy k x).trans h)
def s_l20Copy (k : Nat) (x : ((List (Int × Int × Int × List (ByteArray) × List (Bool) × Int)) × Unit) × Unit) : Option (((List (Int × Int × Int × List (ByteArray) × List (Bool) × Int)) × Unit) × Unit × Unit) :=
(whileK (fun (rec0 : (((List (Int × Int × Int × List (ByteArray) × List (Bool) × Int)) × Unit) × ((List (Int × Int × Int × List (ByteArray) × List (Bool) × Int)) × Unit) × ((List (Int × Int × Int × List (ByteArray) × List (Bool) × Int)) × Unit) × Int × Unit) → Option _) (y0 : ((List (Int × Int × Int × List (ByteArray) × List (Bool) × Int)) × Unit) × ((List (Int × Int × Int × List (ByteArray) × List (Bool) × Int)) × Unit) × ((List (Int × Int × Int × List (ByteArray) × List (Bool) × Int)) × Unit) × Int × Unit) =>
(if (decide (y0.2.2.2.1 < (List.length y0.1.1 : Int))) = true then
(if 0 ≤ y0.2.2.2.1 ∧ y0.2.2.2.1 < (List.length y0.1.1 : Int) then
(if List.length ([] : List (ByteArray)) + List.length (Ty.rd (t := (.pair (.int .i64) (.pair (.int .i64) (.pair (.int .i64) (.pair (.list .str) (.pair (.list .bool) (.int .i64))))))) y0.1.1 y0.2.2.2.1).2.2.2.1 ≤ capMax then
(if List.length ([] : List (Bool)) + List.length (Ty.rd (t := (.pair (.int .i64) (.pair (.int .i64) (.pair (.int .i64) (.pair (.list .str) (.pair (.list .bool) (.int .i64))))))) y0.1.1 y0.2.2.2.1).2.2.2.2.1 ≤ capMax then
(if List.length y0.2.2.1.1 + List.length ([((Ty.rd (t := (.pair (.int .i64) (.pair (.int .i64) (.pair (.int .i64) (.pair (.list .str) (.pair (.list .bool) (.int .i64))))))) y0.1.1 y0.2.2.2.1).1, ((Ty.rd (t := (.pair (.int .i64) (.pair (.int .i64) (.pair (.int .i64) (.pair (.list .str) (.pair (.list .bool) (.int .i64))))))) y0.1.1 y0.2.2.2.1).2.1, ((Ty.rd (t := (.pair (.int .i64) (.pair (.int .i64) (.pair (.int .i64) (.pair (.list .str) (.pair (.list .bool) (.int .i64))))))) y0.1.1 y0.2.2.2.1).2.2.1, ((([] : List (ByteArray)) ++ (Ty.rd (t := (.pair (.int .i64) (.pair (.int .i64) (.pair (.int .i64) (.pair (.list .str) (.pair (.list .bool) (.int .i64))))))) y0.1.1 y0.2.2.2.1).2.2.2.1), ((([] : List (Bool)) ++ (Ty.rd (t := (.pair (.int .i64) (.pair (.int .i64) (.pair (.int .i64) (.pair (.list .str) (.pair (.list .bool) (.int .i64))))))) y0.1.1 y0.2.2.2.1).2.2.2.2.1), (Ty.rd (t := (.pair (.int .i64) (.pair (.int .i64) (.pair (.int .i64) (.pair (.list .str) (.pair (.list .bool) (.int .i64))))))) y0.1.1 y0.2.2.2.1).2.2.2.2.2)))))] : List (Int × Int × Int × List (ByteArray) × List (Bool) × Int)) ≤ capMax then
(rec0 ((y0.1.1, ()), ((y0.2.1.1, ()), (((y0.2.2.1.1 ++ ([((Ty.rd (t := (.pair (.int .i64) (.pair (.int .i64) (.pair (.int .i64) (.pair (.list .str) (.pair (.list .bool) (.int .i64))))))) y0.1.1 y0.2.2.2.1).1, ((Ty.rd (t := (.pair (.int .i64) (.pair (.int .i64) (.pair (.int .i64) (.pair (.list .str) (.pair (.list .bool) (.int .i64))))))) y0.1.1 y0.2.2.2.1).2.1, ((Ty.rd (t := (.pair (.int .i64) (.pair (.int .i64) (.pair (.int .i64) (.pair (.list .str) (.pair (.list .bool) (.int .i64))))))) y0.1.1 y0.2.2.2.1).2.2.1, ((([] : List (ByteArray)) ++ (Ty.rd (t := (.pair (.int .i64) (.pair (.int .i64) (.pair (.int .i64) (.pair (.list .str) (.pair (.list .bool) (.int .i64))))))) y0.1.1 y0.2.2.2.1).2.2.2.1), ((([] : List (Bool)) ++ (Ty.rd (t := (.pair (.int .i64) (.pair (.int .i64) (.pair (.int .i64) (.pair (.list .str) (.pair (.list .bool) (.int .i64))))))) y0.1.1 y0.2.2.2.1).2.2.2.2.1), (Ty.rd (t := (.pair (.int .i64) (.pair (.int .i64) (.pair (.int .i64) (.pair (.list .str) (.pair (.list .bool) (.int .i64))))))) y0.1.1 y0.2.2.2.1).2.2.2.2.2)))))] : List (Int × Int × Int × List (ByteArray) × List (Bool) × Int))), ()), ((wi64 (y0.2.2.2.1 + (1 : Int))), ())))))
else none)
else none)
else none)
else none)
else
((fun (z1 : ((List (Int × Int × Int × List (ByteArray) × List (Bool) × Int)) × Unit) × ((List (Int × Int × Int × List (ByteArray) × List (Bool) × Int)) × Unit) × Unit) =>
some ((z1.2.1.1, ()), ((), ()))) ((y0.2.1.1, ()), ((y0.2.2.1.1, ()), ()))))) k ((x.1.1, ()), (([], ()), (([], ()), ((0 : Int), ())))))
theorem t_s_l20Copy (k : Nat) (x) : evF TTab k [] [(0, ⟨[1, 2, 3, 4], (.cons (.ptr 0 yP25) (.cons (.ptr 0 (.cons (.own false 229 yT5) .nil)) (.cons (.ptr 0 (.cons (.own false 229 yT5) .nil)) yP3)))⟩, ⟨[2, 3], (.cons (.ptr 0 (.cons (.own false 229 yT5) .nil)) (.cons (.ptr 0 (.cons (.own false 229 yT5) .nil)) .nil))⟩)] Tryz.f171 (.cons (.agg yP25) .nil) (.agg (.cons (.own false 229 yT5) .nil)) x = s_l20Copy k x := by kernel_rfl
theorem e_s_l20Copy [Names] (k : Nat) : EntryOk Tryz.prog ⟨171, 0, (.cons (.agg yP25) .nil), (.agg (.cons (.own false 229 yT5) .nil)), s_l20Copy k⟩ := entry_ok tok (by simp) (by kernel_rfl) (fn := Tryz.f171) (k := k) (es := []) (loops := [(0, ⟨[1, 2, 3, 4], (.cons (.ptr 0 yP25) (.cons (.ptr 0 (.cons (.own false 229 yT5) .nil)) (.cons (.ptr 0 (.cons (.own false 229 yT5) .nil)) yP3)))⟩, ⟨[2, 3], (.cons (.ptr 0 (.cons (.own false 229 yT5) .nil)) (.cons (.ptr 0 (.cons (.own false 229 yT5) .nil)) .nil))⟩)]) (by kernel_rfl) (by kernel_rfl) (fun x r h => (t_s_l20Copy k x).trans h)
def s_l22CopyUser (k : Nat) (x : (Int × Int × Int × ByteArray × ByteArray × Int × List (Int) × Int × Int × ByteArray × ByteArray × Int × List (Int) × Int × (List (Int × Int × Int × List (ByteArray) × List (Bool) × Int)) × Int × Unit) × Unit) : Option ((Int × Int × Int × ByteArray × ByteArray × Int × List (Int) × Int × Int × ByteArray × ByteArray × Int × List (Int) × Int × (List (Int × Int × Int × List (ByteArray) × List (Bool) × Int)) × Int × Unit) × Unit × Unit) :=
((s_l17Copy k ((x.1.2.2.1, (x.1.2.2.2.1, (x.1.2.2.2.2.1, (x.1.2.2.2.2.2.1, (x.1.2.2.2.2.2.2.1, (x.1.2.2.2.2.2.2.2.1, (x.1.2.2.2.2.2.2.2.2.1, (x.1.2.2.2.2.2.2.2.2.2.1, (x.1.2.2.2.2.2.2.2.2.2.2.1, (x.1.2.2.2.2.2.2.2.2.2.2.2.1, (x.1.2.2.2.2.2.2.2.2.2.2.2.2.1, (x.1.2.2.2.2.2.2.2.2.2.2.2.2.2.1, ())))))))))))), ())).bind fun p1 =>
((s_l20Copy k ((x.1.2.2.2.2.2.2.2.2.2.2.2.2.2.2.1, ()), ())).bind fun p2 =>
some ((x.1.1, (x.1.2.1, (p1.1.1, (p1.1.2.1, (p1.1.2.2.1, (p1.1.2.2.2.1, (p1.1.2.2.2.2.1, (p1.1.2.2.2.2.2.1, (p1.1.2.2.2.2.2.2.1, (p1.1.2.2.2.2.2.2.2.1, (p1.1.2.2.2.2.2.2.2.2.1, (p1.1.2.2.2.2.2.2.2.2.2.1, (p1.1.2.2.2.2.2.2.2.2.2.2.1, (p1.1.2.2.2.2.2.2.2.2.2.2.2.1, (p2.1.1, (x.1.2.2.2.2.2.2.2.2.2.2.2.2.2.2.2.1, ())))))))))))))))), ((), ()))))
theorem t_s_l22CopyUser (k : Nat) (x) : evF TTab k [⟨170, 0, (.cons yP7 .nil), yP12, s_l17Copy k⟩, ⟨171, 0, (.cons (.agg yP25) .nil), (.agg (.cons (.own false 229 yT5) .nil)), s_l20Copy k⟩] [] Tryz.f92 (.cons yP4 .nil) yP21 x = s_l22CopyUser k x := by kernel_rfl
theorem e_s_l22CopyUser [Names] (k : Nat) : EntryOk Tryz.prog ⟨92, 0, (.cons yP4 .nil), yP21, s_l22CopyUser k⟩ := entry_ok tok (by intro e he; simp only [List.mem_cons, List.not_mem_nil, or_false] at he; rcases he with rfl | rfl <;> first | exact e_s_l17Copy k | exact e_s_l20Copy k) (by kernel_rfl) (fn := Tryz.f92) (k := k) (es := [⟨170, 0, (.cons yP7 .nil), yP12, s_l17Copy k⟩, ⟨171, 0, (.cons (.agg yP25) .nil), (.agg (.cons (.own false 229 yT5) .nil)), s_l20Copy k⟩]) (loops := []) (by kernel_rfl) (by kernel_rfl) (fun x r h => (t_s_l22CopyUser k x).trans h)
def s_l22CopyUsers (k : Nat) (x : (List (Int × Int × ((Int × ByteArray × ByteArray × Int × List (Int) × Int) × Int × ByteArray × ByteArray × Int × List (Int) × Int) × List (Int × Int × Int × List (ByteArray) × List (Bool) × Int) × Int)) × Unit) : Option ((List (Int × Int × ((Int × ByteArray × ByteArray × Int × List (Int) × Int) × Int × ByteArray × ByteArray × Int × List (Int) × Int) × List (Int × Int × Int × List (ByteArray) × List (Bool) × Int) × Int)) × Unit × Unit) :=
(whileK (fun (rec0 : ((List (Int × Int × ((Int × ByteArray × ByteArray × Int × List (Int) × Int) × Int × ByteArray × ByteArray × Int × List (Int) × Int) × List (Int × Int × Int × List (ByteArray) × List (Bool) × Int) × Int)) × (List (Int × Int × ((Int × ByteArray × ByteArray × Int × List (Int) × Int) × Int × ByteArray × ByteArray × Int × List (Int) × Int) × List (Int × Int × Int × List (ByteArray) × List (Bool) × Int) × Int)) × Int × Unit) → Option _) (y0 : (List (Int × Int × ((Int × ByteArray × ByteArray × Int × List (Int) × Int) × Int × ByteArray × ByteArray × Int × List (Int) × Int) × List (Int × Int × Int × List (ByteArray) × List (Bool) × Int) × Int)) × (List (Int × Int × ((Int × ByteArray × ByteArray × Int × List (Int) × Int) × Int × ByteArray × ByteArray × Int × List (Int) × Int) × List (Int × Int × Int × List (ByteArray) × List (Bool) × Int) × Int)) × Int × Unit) =>
(if (decide (y0.2.2.1 < (List.length y0.1 : Int))) = true then
(if 0 ≤ y0.2.2.1 ∧ y0.2.2.1 < (List.length y0.1 : Int) then
((s_l22CopyUser k (((Ty.rd (t := (.pair (.int .i64) (.pair (.int .i64) (.pair (.pair (.pair (.int .i64) (.pair .str (.pair .str (.pair (.int .i64) (.pair (.list (.int .i64)) (.int .i64)))))) (.pair (.int .i64) (.pair .str (.pair .str (.pair (.int .i64) (.pair (.list (.int .i64)) (.int .i64))))))) (.pair (.list (.pair (.int .i64) (.pair (.int .i64) (.pair (.int .i64) (.pair (.list .str) (.pair (.list .bool) (.int .i64))))))) (.int .i64)))))) y0.1 y0.2.2.1).1, ((Ty.rd (t := (.pair (.int .i64) (.pair (.int .i64) (.pair (.pair (.pair (.int .i64) (.pair .str (.pair .str (.pair (.int .i64) (.pair (.list (.int .i64)) (.int .i64)))))) (.pair (.int .i64) (.pair .str (.pair .str (.pair (.int .i64) (.pair (.list (.int .i64)) (.int .i64))))))) (.pair (.list (.pair (.int .i64) (.pair (.int .i64) (.pair (.int .i64) (.pair (.list .str) (.pair (.list .bool) (.int .i64))))))) (.int .i64)))))) y0.1 y0.2.2.1).2.1, ((Ty.rd (t := (.pair (.int .i64) (.pair (.int .i64) (.pair (.pair (.pair (.int .i64) (.pair .str (.pair .str (.pair (.int .i64) (.pair (.list (.int .i64)) (.int .i64)))))) (.pair (.int .i64) (.pair .str (.pair .str (.pair (.int .i64) (.pair (.list (.int .i64)) (.int .i64))))))) (.pair (.list (.pair (.int .i64) (.pair (.int .i64) (.pair (.int .i64) (.pair (.list .str) (.pair (.list .bool) (.int .i64))))))) (.int .i64)))))) y0.1 y0.2.2.1).2.2.1.1.1, ((Ty.rd (t := (.pair (.int .i64) (.pair (.int .i64) (.pair (.pair (.pair (.int .i64) (.pair .str (.pair .str (.pair (.int .i64) (.pair (.list (.int .i64)) (.int .i64)))))) (.pair (.int .i64) (.pair .str (.pair .str (.pair (.int .i64) (.pair (.list (.int .i64)) (.int .i64))))))) (.pair (.list (.pair (.int .i64) (.pair (.int .i64) (.pair (.int .i64) (.pair (.list .str) (.pair (.list .bool) (.int .i64))))))) (.int .i64)))))) y0.1 y0.2.2.1).2.2.1.1.2.1, ((Ty.rd (t := (.pair (.int .i64) (.pair (.int .i64) (.pair (.pair (.pair (.int .i64) (.pair .str (.pair .str (.pair (.int .i64) (.pair (.list (.int .i64)) (.int .i64)))))) (.pair (.int .i64) (.pair .str (.pair .str (.pair (.int .i64) (.pair (.list (.int .i64)) (.int .i64))))))) (.pair (.list (.pair (.int .i64) (.pair (.int .i64) (.pair (.int .i64) (.pair (.list .str) (.pair (.list .bool) (.int .i64))))))) (.int .i64)))))) y0.1 y0.2.2.1).2.2.1.1.2.2.1, ((Ty.rd (t := (.pair (.int .i64) (.pair (.int .i64) (.pair (.pair (.pair (.int .i64) (.pair .str (.pair .str (.pair (.int .i64) (.pair (.list (.int .i64)) (.int .i64)))))) (.pair (.int .i64) (.pair .str (.pair .str (.pair (.int .i64) (.pair (.list (.int .i64)) (.int .i64))))))) (.pair (.list (.pair (.int .i64) (.pair (.int .i64) (.pair (.int .i64) (.pair (.list .str) (.pair (.list .bool) (.int .i64))))))) (.int .i64)))))) y0.1 y0.2.2.1).2.2.1.1.2.2.2.1, ((Ty.rd (t := (.pair (.int .i64) (.pair (.int .i64) (.pair (.pair (.pair (.int .i64) (.pair .str (.pair .str (.pair (.int .i64) (.pair (.list (.int .i64)) (.int .i64)))))) (.pair (.int .i64) (.pair .str (.pair .str (.pair (.int .i64) (.pair (.list (.int .i64)) (.int .i64))))))) (.pair (.list (.pair (.int .i64) (.pair (.int .i64) (.pair (.int .i64) (.pair (.list .str) (.pair (.list .bool) (.int .i64))))))) (.int .i64)))))) y0.1 y0.2.2.1).2.2.1.1.2.2.2.2.1, ((Ty.rd (t := (.pair (.int .i64) (.pair (.int .i64) (.pair (.pair (.pair (.int .i64) (.pair .str (.pair .str (.pair (.int .i64) (.pair (.list (.int .i64)) (.int .i64)))))) (.pair (.int .i64) (.pair .str (.pair .str (.pair (.int .i64) (.pair (.list (.int .i64)) (.int .i64))))))) (.pair (.list (.pair (.int .i64) (.pair (.int .i64) (.pair (.int .i64) (.pair (.list .str) (.pair (.list .bool) (.int .i64))))))) (.int .i64)))))) y0.1 y0.2.2.1).2.2.1.1.2.2.2.2.2, ((Ty.rd (t := (.pair (.int .i64) (.pair (.int .i64) (.pair (.pair (.pair (.int .i64) (.pair .str (.pair .str (.pair (.int .i64) (.pair (.list (.int .i64)) (.int .i64)))))) (.pair (.int .i64) (.pair .str (.pair .str (.pair (.int .i64) (.pair (.list (.int .i64)) (.int .i64))))))) (.pair (.list (.pair (.int .i64) (.pair (.int .i64) (.pair (.int .i64) (.pair (.list .str) (.pair (.list .bool) (.int .i64))))))) (.int .i64)))))) y0.1 y0.2.2.1).2.2.1.2.1, ((Ty.rd (t := (.pair (.int .i64) (.pair (.int .i64) (.pair (.pair (.pair (.int .i64) (.pair .str (.pair .str (.pair (.int .i64) (.pair (.list (.int .i64)) (.int .i64)))))) (.pair (.int .i64) (.pair .str (.pair .str (.pair (.int .i64) (.pair (.list (.int .i64)) (.int .i64))))))) (.pair (.list (.pair (.int .i64) (.pair (.int .i64) (.pair (.int .i64) (.pair (.list .str) (.pair (.list .bool) (.int .i64))))))) (.int .i64)))))) y0.1 y0.2.2.1).2.2.1.2.2.1, ((Ty.rd (t := (.pair (.int .i64) (.pair (.int .i64) (.pair (.pair (.pair (.int .i64) (.pair .str (.pair .str (.pair (.int .i64) (.pair (.list (.int .i64)) (.int .i64)))))) (.pair (.int .i64) (.pair .str (.pair .str (.pair (.int .i64) (.pair (.list (.int .i64)) (.int .i64))))))) (.pair (.list (.pair (.int .i64) (.pair (.int .i64) (.pair (.int .i64) (.pair (.list .str) (.pair (.list .bool) (.int .i64))))))) (.int .i64)))))) y0.1 y0.2.2.1).2.2.1.2.2.2.1, ((Ty.rd (t := (.pair (.int .i64) (.pair (.int .i64) (.pair (.pair (.pair (.int .i64) (.pair .str (.pair .str (.pair (.int .i64) (.pair (.list (.int .i64)) (.int .i64)))))) (.pair (.int .i64) (.pair .str (.pair .str (.pair (.int .i64) (.pair (.list (.int .i64)) (.int .i64))))))) (.pair (.list (.pair (.int .i64) (.pair (.int .i64) (.pair (.int .i64) (.pair (.list .str) (.pair (.list .bool) (.int .i64))))))) (.int .i64)))))) y0.1 y0.2.2.1).2.2.1.2.2.2.2.1, ((Ty.rd (t := (.pair (.int .i64) (.pair (.int .i64) (.pair (.pair (.pair (.int .i64) (.pair .str (.pair .str (.pair (.int .i64) (.pair (.list (.int .i64)) (.int .i64)))))) (.pair (.int .i64) (.pair .str (.pair .str (.pair (.int .i64) (.pair (.list (.int .i64)) (.int .i64))))))) (.pair (.list (.pair (.int .i64) (.pair (.int .i64) (.pair (.int .i64) (.pair (.list .str) (.pair (.list .bool) (.int .i64))))))) (.int .i64)))))) y0.1 y0.2.2.1).2.2.1.2.2.2.2.2.1, ((Ty.rd (t := (.pair (.int .i64) (.pair (.int .i64) (.pair (.pair (.pair (.int .i64) (.pair .str (.pair .str (.pair (.int .i64) (.pair (.list (.int .i64)) (.int .i64)))))) (.pair (.int .i64) (.pair .str (.pair .str (.pair (.int .i64) (.pair (.list (.int .i64)) (.int .i64))))))) (.pair (.list (.pair (.int .i64) (.pair (.int .i64) (.pair (.int .i64) (.pair (.list .str) (.pair (.list .bool) (.int .i64))))))) (.int .i64)))))) y0.1 y0.2.2.1).2.2.1.2.2.2.2.2.2, ((Ty.rd (t := (.pair (.int .i64) (.pair (.int .i64) (.pair (.pair (.pair (.int .i64) (.pair .str (.pair .str (.pair (.int .i64) (.pair (.list (.int .i64)) (.int .i64)))))) (.pair (.int .i64) (.pair .str (.pair .str (.pair (.int .i64) (.pair (.list (.int .i64)) (.int .i64))))))) (.pair (.list (.pair (.int .i64) (.pair (.int .i64) (.pair (.int .i64) (.pair (.list .str) (.pair (.list .bool) (.int .i64))))))) (.int .i64)))))) y0.1 y0.2.2.1).2.2.2.1, ((Ty.rd (t := (.pair (.int .i64) (.pair (.int .i64) (.pair (.pair (.pair (.int .i64) (.pair .str (.pair .str (.pair (.int .i64) (.pair (.list (.int .i64)) (.int .i64)))))) (.pair (.int .i64) (.pair .str (.pair .str (.pair (.int .i64) (.pair (.list (.int .i64)) (.int .i64))))))) (.pair (.list (.pair (.int .i64) (.pair (.int .i64) (.pair (.int .i64) (.pair (.list .str) (.pair (.list .bool) (.int .i64))))))) (.int .i64)))))) y0.1 y0.2.2.1).2.2.2.2, ())))))))))))))))), ())).bind fun p1 =>
(if List.length y0.2.1 + List.length ([(p1.1.1, (p1.1.2.1, (((p1.1.2.2.1, (p1.1.2.2.2.1, (p1.1.2.2.2.2.1, (p1.1.2.2.2.2.2.1, (p1.1.2.2.2.2.2.2.1, p1.1.2.2.2.2.2.2.2.1))))), (p1.1.2.2.2.2.2.2.2.2.1, (p1.1.2.2.2.2.2.2.2.2.2.1, (p1.1.2.2.2.2.2.2.2.2.2.2.1, (p1.1.2.2.2.2.2.2.2.2.2.2.2.1, (p1.1.2.2.2.2.2.2.2.2.2.2.2.2.1, p1.1.2.2.2.2.2.2.2.2.2.2.2.2.2.1)))))), (p1.1.2.2.2.2.2.2.2.2.2.2.2.2.2.2.1, p1.1.2.2.2.2.2.2.2.2.2.2.2.2.2.2.2.1))))] : List (Int × Int × ((Int × ByteArray × ByteArray × Int × List (Int) × Int) × Int × ByteArray × ByteArray × Int × List (Int) × Int) × List (Int × Int × Int × List (ByteArray) × List (Bool) × Int) × Int)) ≤ capMax then
(rec0 (y0.1, ((y0.2.1 ++ ([(p1.1.1, (p1.1.2.1, (((p1.1.2.2.1, (p1.1.2.2.2.1, (p1.1.2.2.2.2.1, (p1.1.2.2.2.2.2.1, (p1.1.2.2.2.2.2.2.1, p1.1.2.2.2.2.2.2.2.1))))), (p1.1.2.2.2.2.2.2.2.2.1, (p1.1.2.2.2.2.2.2.2.2.2.1, (p1.1.2.2.2.2.2.2.2.2.2.2.1, (p1.1.2.2.2.2.2.2.2.2.2.2.2.1, (p1.1.2.2.2.2.2.2.2.2.2.2.2.2.1, p1.1.2.2.2.2.2.2.2.2.2.2.2.2.2.1)))))), (p1.1.2.2.2.2.2.2.2.2.2.2.2.2.2.2.1, p1.1.2.2.2.2.2.2.2.2.2.2.2.2.2.2.2.1))))] : List (Int × Int × ((Int × ByteArray × ByteArray × Int × List (Int) × Int) × Int × ByteArray × ByteArray × Int × List (Int) × Int) × List (Int × Int × Int × List (ByteArray) × List (Bool) × Int) × Int))), ((wi64 (y0.2.2.1 + (1 : Int))), ()))))
else none))
else none)
else
((fun (z1 : (List (Int × Int × ((Int × ByteArray × ByteArray × Int × List (Int) × Int) × Int × ByteArray × ByteArray × Int × List (Int) × Int) × List (Int × Int × Int × List (ByteArray) × List (Bool) × Int) × Int)) × Unit) =>
some (z1.1, ((), ()))) (y0.2.1, ())))) k (x.1, (([] : List (Int × Int × ((Int × ByteArray × ByteArray × Int × List (Int) × Int) × Int × ByteArray × ByteArray × Int × List (Int) × Int) × List (Int × Int × Int × List (ByteArray) × List (Bool) × Int) × Int)), ((0 : Int), ()))))
theorem t_s_l22CopyUsers (k : Nat) (x) : evF TTab k [⟨92, 0, (.cons yP4 .nil), yP21, s_l22CopyUser k⟩] [(0, ⟨[0, 3, 4], (.cons (.il true yT0) (.cons (.own false 45 yT0) yP3))⟩, ⟨[3], (.cons (.own false 45 yT0) .nil)⟩)] Tryz.f66 (.cons (.il true yT0) .nil) (.own false 45 yT0) x = s_l22CopyUsers k x := by kernel_rfl
theorem e_s_l22CopyUsers [Names] (k : Nat) : EntryOk Tryz.prog ⟨66, 0, (.cons (.il true yT0) .nil), (.own false 45 yT0), s_l22CopyUsers k⟩ := entry_ok tok (by intro e he; simp only [List.mem_cons, List.not_mem_nil, or_false] at he; rcases he with rfl <;> first | exact e_s_l22CopyUser k) (by kernel_rfl) (fn := Tryz.f66) (k := k) (es := [⟨92, 0, (.cons yP4 .nil), yP21, s_l22CopyUser k⟩]) (loops := [(0, ⟨[0, 3, 4], (.cons (.il true yT0) (.cons (.own false 45 yT0) yP3))⟩, ⟨[3], (.cons (.own false 45 yT0) .nil)⟩)]) (by kernel_rfl) (by kernel_rfl) (fun x r h => (t_s_l22CopyUsers k x).trans h)
def s_l11Copy (k : Nat) (x : (Int × Int × (List (Int × Int × Int)) × (List (Int × Int)) × Unit) × Unit) : Option ((Int × Int × (List (Int × Int × Int)) × (List (Int × Int)) × Unit) × Unit × Unit) :=
(if List.length ([] : List (Int × Int × Int)) + List.length x.1.2.2.1 ≤ capMax then
(if List.length ([] : List (Int × Int)) + List.length x.1.2.2.2.1 ≤ capMax then
some ((x.1.1, (x.1.2.1, ((([] : List (Int × Int × Int)) ++ x.1.2.2.1), ((([] : List (Int × Int)) ++ x.1.2.2.2.1), ())))), ((), ()))
else none)
else none)
theorem t_s_l11Copy (k : Nat) (x) : evF TTab k [] [] Tryz.f144 (.cons yP9 .nil) yP19 x = s_l11Copy k x := by kernel_rfl
theorem e_s_l11Copy [Names] (k : Nat) : EntryOk Tryz.prog ⟨144, 0, (.cons yP9 .nil), yP19, s_l11Copy k⟩ := entry_ok tok (by simp) (by kernel_rfl) (fn := Tryz.f144) (k := k) (es := []) (loops := []) (by kernel_rfl) (by kernel_rfl) (fun x r h => (t_s_l11Copy k x).trans h)
def s_l22Copy (k : Nat) (x : (Int × Int × (List (Int × Int × Int)) × (List (Int × Int)) × (List ((Int × Int) × Int)) × (List (Int × Int × ((Int × ByteArray × ByteArray × Int × List (Int) × Int) × Int × ByteArray × ByteArray × Int × List (Int) × Int) × List (Int × Int × Int × List (ByteArray) × List (Bool) × Int) × Int)) × Unit) × Unit) : Option ((Int × Int × (List (Int × Int × Int)) × (List (Int × Int)) × (List ((Int × Int) × Int)) × (List (Int × Int × ((Int × ByteArray × ByteArray × Int × List (Int) × Int) × Int × ByteArray × ByteArray × Int × List (Int) × Int) × List (Int × Int × Int × List (ByteArray) × List (Bool) × Int) × Int)) × Unit) × Unit × Unit) :=
((s_l11Copy k ((x.1.1, (x.1.2.1, (x.1.2.2.1, (x.1.2.2.2.1, ())))), ())).bind fun p1 =>
(if List.length ([] : List ((Int × Int) × Int)) + List.length x.1.2.2.2.2.1 ≤ capMax then
((s_l22CopyUsers k (x.1.2.2.2.2.2.1, ())).bind fun p2 =>
some ((p1.1.1, (p1.1.2.1, (p1.1.2.2.1, (p1.1.2.2.2.1, ((([] : List ((Int × Int) × Int)) ++ x.1.2.2.2.2.1), (p2.1, ())))))), ((), ())))
else none))
theorem t_s_l22Copy (k : Nat) (x) : evF TTab k [⟨66, 0, (.cons (.il true yT0) .nil), (.own false 45 yT0), s_l22CopyUsers k⟩, ⟨144, 0, (.cons yP9 .nil), yP19, s_l11Copy k⟩] [] Tryz.f61 (.cons yP6 .nil) yP20 x = s_l22Copy k x := by kernel_rfl
theorem e_s_l22Copy [Names] (k : Nat) : EntryOk Tryz.prog ⟨61, 0, (.cons yP6 .nil), yP20, s_l22Copy k⟩ := entry_ok tok (by intro e he; simp only [List.mem_cons, List.not_mem_nil, or_false] at he; rcases he with rfl | rfl <;> first | exact e_s_l22CopyUsers k | exact e_s_l11Copy k) (by kernel_rfl) (fn := Tryz.f61) (k := k) (es := [⟨66, 0, (.cons (.il true yT0) .nil), (.own false 45 yT0), s_l22CopyUsers k⟩, ⟨144, 0, (.cons yP9 .nil), yP19, s_l11Copy k⟩]) (loops := []) (by kernel_rfl) (by kernel_rfl) (fun x r h => (t_s_l22Copy k x).trans h)
def s_l22At (k : Nat) (x : (List (Int × Int × ((Int × ByteArray × ByteArray × Int × List (Int) × Int) × Int × ByteArray × ByteArray × Int × List (Int) × Int) × List (Int × Int × Int × List (ByteArray) × List (Bool) × Int) × Int)) × Int × Unit) : Option (Int × Unit × Unit × Unit) :=
(whileK (fun (rec0 : ((List (Int × Int × ((Int × ByteArray × ByteArray × Int × List (Int) × Int) × Int × ByteArray × ByteArray × Int × List (Int) × Int) × List (Int × Int × Int × List (ByteArray) × List (Bool) × Int) × Int)) × Int × Int × Unit) → Option _) (y0 : (List (Int × Int × ((Int × ByteArray × ByteArray × Int × List (Int) × Int) × Int × ByteArray × ByteArray × Int × List (Int) × Int) × List (Int × Int × Int × List (ByteArray) × List (Bool) × Int) × Int)) × Int × Int × Unit) =>
(if (decide (y0.2.2.1 < (List.length y0.1 : Int))) = true then
(if 0 ≤ y0.2.2.1 ∧ y0.2.2.1 < (List.length y0.1 : Int) then
(if (decide ((Ty.rd (t := (.pair (.int .i64) (.pair (.int .i64) (.pair (.pair (.pair (.int .i64) (.pair .str (.pair .str (.pair (.int .i64) (.pair (.list (.int .i64)) (.int .i64)))))) (.pair (.int .i64) (.pair .str (.pair .str (.pair (.int .i64) (.pair (.list (.int .i64)) (.int .i64))))))) (.pair (.list (.pair (.int .i64) (.pair (.int .i64) (.pair (.int .i64) (.pair (.list .str) (.pair (.list .bool) (.int .i64))))))) (.int .i64)))))) y0.1 y0.2.2.1).1 = y0.2.1)) = true then
some (y0.2.2.1, ((), ((), ())))
else
(rec0 (y0.1, (y0.2.1, ((wi64 (y0.2.2.1 + (1 : Int))), ())))))
else none)
else
((fun (z1 : Unit) =>
some ((-1 : Int), ((), ((), ())))) ()))) k (x.1, (x.2.1, ((0 : Int), ()))))
theorem t_s_l22At (k : Nat) (x) : evF TTab k [] [(0, ⟨[0, 1, 5], (.cons (.il true yT0) (.cons (.int .i64) yP3))⟩, ⟨[], .nil⟩)] Tryz.f63 (.cons (.il true yT0) yP3) (.int .i64) x = s_l22At k x := by kernel_rfl
theorem e_s_l22At [Names] (k : Nat) : EntryOk Tryz.prog ⟨63, 0, (.cons (.il true yT0) yP3), (.int .i64), s_l22At k⟩ := entry_ok tok (by simp) (by kernel_rfl) (fn := Tryz.f63) (k := k) (es := []) (loops := [(0, ⟨[0, 1, 5], (.cons (.il true yT0) (.cons (.int .i64) yP3))⟩, ⟨[], .nil⟩)]) (by kernel_rfl) (by kernel_rfl) (fun x r h => (t_s_l22At k x).trans h)
def s_l08Size (k : Nat) (x : Int × Unit) : Option (Int × Unit × Unit) :=
(whileK (fun (rec0 : (Int × Int × Unit) → Option _) (y0 : Int × Int × Unit) =>
(if (decide (y0.2.1 < (32 : Int))) = true then
(rec0 ((wi64 ((2 : Int) * y0.1)), ((wi64 (y0.2.1 + (1 : Int))), ())))
else
((fun (z1 : Int × Unit) =>
some (z1.1, ((), ()))) (y0.1, ())))) k ((1 : Int), (x.1, ())))
theorem t_s_l08Size (k : Nat) (x) : evF TTab k [] [(0, ⟨[3, 4], (.cons (.int .i64) yP3)⟩, ⟨[3], yP3⟩)] Tryz.f234 yP3 (.int .i64) x = s_l08Size k x := by kernel_rfl
theorem e_s_l08Size [Names] (k : Nat) : EntryOk Tryz.prog ⟨234, 0, yP3, (.int .i64), s_l08Size k⟩ := entry_ok tok (by simp) (by kernel_rfl) (fn := Tryz.f234) (k := k) (es := []) (loops := [(0, ⟨[3, 4], (.cons (.int .i64) yP3)⟩, ⟨[3], yP3⟩)]) (by kernel_rfl) (by kernel_rfl) (fun x r h => (t_s_l08Size k x).trans h)
def s_AddrOk (k : Nat) (x : Int × Unit) : Option (Bool × Unit × Unit) :=
((s_l01In k (x.1, ((0 : Int), ((4294967295 : Int), ())))).bind fun p1 =>
some (p1.1, ((), ())))
theorem t_s_AddrOk (k : Nat) (x) : evF TTab k [⟨62, 0, yP11, .bool, s_l01In k⟩] [] Tryz.f248 yP3 .bool x = s_AddrOk k x := by kernel_rfl
theorem e_s_AddrOk [Names] (k : Nat) : EntryOk Tryz.prog ⟨248, 0, yP3, .bool, s_AddrOk k⟩ := entry_ok tok (by intro e he; simp only [List.mem_cons, List.not_mem_nil, or_false] at he; rcases he with rfl <;> first | exact e_s_l01In k) (by kernel_rfl) (fn := Tryz.f248) (k := k) (es := [⟨62, 0, yP11, .bool, s_l01In k⟩]) (loops := []) (by kernel_rfl) (by kernel_rfl) (fun x r h => (t_s_AddrOk k x).trans h)
def s_PrefixOk (k : Nat) (x : (Int × Int × Unit) × Unit) : Option (Bool × Unit × Unit) :=
((s_AddrOk k (x.1.1, ())).bind fun p1 =>
(if p1.1 = true then
((s_l01In k (x.1.2.1, ((0 : Int), ((32 : Int), ())))).bind fun p2 =>
(if p2.1 = true then
((s_l08Size k (x.1.2.1, ())).bind fun p3 =>
(if p3.1 = 0 then
none
else
some ((decide ((Int.tmod x.1.1 p3.1) = (0 : Int))), ((), ()))))
else
some (false, ((), ()))))
else
some (false, ((), ()))))
theorem t_s_PrefixOk (k : Nat) (x) : evF TTab k [⟨62, 0, yP11, .bool, s_l01In k⟩, ⟨234, 0, yP3, (.int .i64), s_l08Size k⟩, ⟨248, 0, yP3, .bool, s_AddrOk k⟩] [] Tryz.f231 (.cons yP14 .nil) .bool x = s_PrefixOk k x := by kernel_rfl
theorem e_s_PrefixOk [Names] (k : Nat) : EntryOk Tryz.prog ⟨231, 0, (.cons yP14 .nil), .bool, s_PrefixOk k⟩ := entry_ok tok (by intro e he; simp only [List.mem_cons, List.not_mem_nil, or_false] at he; rcases he with rfl | rfl | rfl <;> first | exact e_s_l01In k | exact e_s_l08Size k | exact e_s_AddrOk k) (by kernel_rfl) (fn := Tryz.f231) (k := k) (es := [⟨62, 0, yP11, .bool, s_l01In k⟩, ⟨234, 0, yP3, (.int .i64), s_l08Size k⟩, ⟨248, 0, yP3, .bool, s_AddrOk k⟩]) (loops := []) (by kernel_rfl) (by kernel_rfl) (fun x r h => (t_s_PrefixOk k x).trans h)
def s_l09Ahead (k : Nat) (x : (Int × Int × Unit) × (Int × Int × Unit) × Unit) : Option (Bool × Unit × Unit × Unit) :=
(if (decide (x.1.1 < x.2.1.1)) = false then
(if (decide (x.1.1 = x.2.1.1)) = true then
some ((decide (x.1.2.1 < x.2.1.2.1)), ((), ((), ())))
else
some (false, ((), ((), ()))))
else
some (true, ((), ((), ()))))
theorem t_s_l09Ahead (k : Nat) (x) : evF TTab k [] [] Tryz.f147 yP28 .bool x = s_l09Ahead k x := by kernel_rfl
theorem e_s_l09Ahead [Names] (k : Nat) : EntryOk Tryz.prog ⟨147, 0, yP28, .bool, s_l09Ahead k⟩ := entry_ok tok (by simp) (by kernel_rfl) (fn := Tryz.f147) (k := k) (es := []) (loops := []) (by kernel_rfl) (by kernel_rfl) (fun x r h => (t_s_l09Ahead k x).trans h)
def s_RoutesOk (k : Nat) (x : (List ((Int × Int) × Int)) × Unit) : Option (Bool × Unit × Unit) :=
(whileK (fun (rec0 : ((List ((Int × Int) × Int)) × Int × Unit) → Option _) (y0 : (List ((Int × Int) × Int)) × Int × Unit) =>
(if (decide (y0.2.1 < (List.length y0.1 : Int))) = true then
(if 0 ≤ y0.2.1 ∧ y0.2.1 < (List.length y0.1 : Int) then
((s_PrefixOk k (((Ty.rd (t := (.pair (.pair (.int .i64) (.int .i64)) (.int .i64))) y0.1 y0.2.1).1.1, ((Ty.rd (t := (.pair (.pair (.int .i64) (.int .i64)) (.int .i64))) y0.1 y0.2.1).1.2, ())), ())).bind fun p1 =>
(if (!p1.1) = false then
(if 0 ≤ y0.2.1 ∧ y0.2.1 < (List.length y0.1 : Int) then
((s_l01In k ((Ty.rd (t := (.pair (.pair (.int .i64) (.int .i64)) (.int .i64))) y0.1 y0.2.1).2, ((1 : Int), ((99 : Int), ())))).bind fun p2 =>
(if (!p2.1) = false then
(if (decide ((0 : Int) < y0.2.1)) = true then
(if 0 ≤ (wi64 (y0.2.1 - (1 : Int))) ∧ (wi64 (y0.2.1 - (1 : Int))) < (List.length y0.1 : Int) then
(if 0 ≤ y0.2.1 ∧ y0.2.1 < (List.length y0.1 : Int) then
((s_l09Ahead k (((Ty.rd (t := (.pair (.pair (.int .i64) (.int .i64)) (.int .i64))) y0.1 (wi64 (y0.2.1 - (1 : Int)))).1.1, ((Ty.rd (t := (.pair (.pair (.int .i64) (.int .i64)) (.int .i64))) y0.1 (wi64 (y0.2.1 - (1 : Int)))).1.2, ())), (((Ty.rd (t := (.pair (.pair (.int .i64) (.int .i64)) (.int .i64))) y0.1 y0.2.1).1.1, ((Ty.rd (t := (.pair (.pair (.int .i64) (.int .i64)) (.int .i64))) y0.1 y0.2.1).1.2, ())), ()))).bind fun p3 =>
(if (!p3.1) = true then
some (false, ((), ()))
else
(rec0 (y0.1, ((wi64 (y0.2.1 + (1 : Int))), ())))))
else none)
else none)
else
(rec0 (y0.1, ((wi64 (y0.2.1 + (1 : Int))), ()))))
else
some (false, ((), ()))))
else none)
else
some (false, ((), ()))))
else none)
else
((fun (z1 : (List ((Int × Int) × Int)) × Unit) =>
some ((decide ((List.length z1.1 : Int) ≤ (12 : Int))), ((), ()))) (y0.1, ())))) k (x.1, ((0 : Int), ())))
theorem t_s_RoutesOk (k : Nat) (x) : evF TTab k [⟨62, 0, yP11, .bool, s_l01In k⟩, ⟨147, 0, yP28, .bool, s_l09Ahead k⟩, ⟨231, 0, (.cons yP14 .nil), .bool, s_PrefixOk k⟩] [(0, ⟨[0, 3], (.cons yP13 yP3)⟩, ⟨[0], (.cons yP13 .nil)⟩)] Tryz.f148 (.cons yP13 .nil) .bool x = s_RoutesOk k x := by kernel_rfl
theorem e_s_RoutesOk [Names] (k : Nat) : EntryOk Tryz.prog ⟨148, 0, (.cons yP13 .nil), .bool, s_RoutesOk k⟩ := entry_ok tok (by intro e he; simp only [List.mem_cons, List.not_mem_nil, or_false] at he; rcases he with rfl | rfl | rfl <;> first | exact e_s_l01In k | exact e_s_l09Ahead k | exact e_s_PrefixOk k) (by kernel_rfl) (fn := Tryz.f148) (k := k) (es := [⟨62, 0, yP11, .bool, s_l01In k⟩, ⟨147, 0, yP28, .bool, s_l09Ahead k⟩, ⟨231, 0, (.cons yP14 .nil), .bool, s_PrefixOk k⟩]) (loops := [(0, ⟨[0, 3], (.cons yP13 yP3)⟩, ⟨[0], (.cons yP13 .nil)⟩)]) (by kernel_rfl) (by kernel_rfl) (fun x r h => (t_s_RoutesOk k x).trans h)
def s_PutRoute (k : Nat) (x : (List ((Int × Int) × Int)) × (Int × Int × Int × Unit) × Unit) : Option (((List ((Int × Int) × Int)) × Bool × Unit) × Unit × Unit × Unit) :=
(whileK (fun (rec0 : ((List ((Int × Int) × Int)) × (Int × Int × Int × Unit) × (List ((Int × Int) × Int)) × Int × Unit) → Option _) (y0 : (List ((Int × Int) × Int)) × (Int × Int × Int × Unit) × (List ((Int × Int) × Int)) × Int × Unit) =>
(if (decide (y0.2.2.2.1 < (List.length y0.1 : Int))) = true then
(if 0 ≤ y0.2.2.2.1 ∧ y0.2.2.2.1 < (List.length y0.1 : Int) then
((s_l09Ahead k (((Ty.rd (t := (.pair (.pair (.int .i64) (.int .i64)) (.int .i64))) y0.1 y0.2.2.2.1).1.1, ((Ty.rd (t := (.pair (.pair (.int .i64) (.int .i64)) (.int .i64))) y0.1 y0.2.2.2.1).1.2, ())), ((y0.2.1.1, (y0.2.1.2.1, ())), ()))).bind fun p1 =>
(if p1.1 = true then
(if 0 ≤ y0.2.2.2.1 ∧ y0.2.2.2.1 < (List.length y0.1 : Int) then
(if List.length y0.2.2.1 + List.length ([(((Ty.rd (t := (.pair (.pair (.int .i64) (.int .i64)) (.int .i64))) y0.1 y0.2.2.2.1).1.1, (Ty.rd (t := (.pair (.pair (.int .i64) (.int .i64)) (.int .i64))) y0.1 y0.2.2.2.1).1.2), (Ty.rd (t := (.pair (.pair (.int .i64) (.int .i64)) (.int .i64))) y0.1 y0.2.2.2.1).2)] : List ((Int × Int) × Int)) ≤ capMax then
(rec0 (y0.1, ((y0.2.1.1, (y0.2.1.2.1, (y0.2.1.2.2.1, ()))), ((y0.2.2.1 ++ ([(((Ty.rd (t := (.pair (.pair (.int .i64) (.int .i64)) (.int .i64))) y0.1 y0.2.2.2.1).1.1, (Ty.rd (t := (.pair (.pair (.int .i64) (.int .i64)) (.int .i64))) y0.1 y0.2.2.2.1).1.2), (Ty.rd (t := (.pair (.pair (.int .i64) (.int .i64)) (.int .i64))) y0.1 y0.2.2.2.1).2)] : List ((Int × Int) × Int))), ((wi64 (y0.2.2.2.1 + (1 : Int))), ())))))
else none)
else none)
else
(rec0 (y0.1, ((y0.2.1.1, (y0.2.1.2.1, (y0.2.1.2.2.1, ()))), (y0.2.2.1, ((wi64 (y0.2.2.2.1 + (1 : Int))), ())))))))
else none)
else
((fun (z1 : (List ((Int × Int) × Int)) × (Int × Int × Int × Unit) × (List ((Int × Int) × Int)) × Unit) =>
(if List.length z1.2.2.1 + List.length ([((z1.2.1.1, z1.2.1.2.1), z1.2.1.2.2.1)] : List ((Int × Int) × Int)) ≤ capMax then
(whileK (fun (rec2 : ((List ((Int × Int) × Int)) × (Int × Int × Int × Unit) × (List ((Int × Int) × Int)) × Int × Unit) → Option _) (y2 : (List ((Int × Int) × Int)) × (Int × Int × Int × Unit) × (List ((Int × Int) × Int)) × Int × Unit) =>
(if (decide (y2.2.2.2.1 < (List.length y2.1 : Int))) = true then
(if 0 ≤ y2.2.2.2.1 ∧ y2.2.2.2.1 < (List.length y2.1 : Int) then
((s_l09Ahead k ((y2.2.1.1, (y2.2.1.2.1, ())), (((Ty.rd (t := (.pair (.pair (.int .i64) (.int .i64)) (.int .i64))) y2.1 y2.2.2.2.1).1.1, ((Ty.rd (t := (.pair (.pair (.int .i64) (.int .i64)) (.int .i64))) y2.1 y2.2.2.2.1).1.2, ())), ()))).bind fun p2 =>
(if p2.1 = true then
(if 0 ≤ y2.2.2.2.1 ∧ y2.2.2.2.1 < (List.length y2.1 : Int) then
(if List.length y2.2.2.1 + List.length ([(((Ty.rd (t := (.pair (.pair (.int .i64) (.int .i64)) (.int .i64))) y2.1 y2.2.2.2.1).1.1, (Ty.rd (t := (.pair (.pair (.int .i64) (.int .i64)) (.int .i64))) y2.1 y2.2.2.2.1).1.2), (Ty.rd (t := (.pair (.pair (.int .i64) (.int .i64)) (.int .i64))) y2.1 y2.2.2.2.1).2)] : List ((Int × Int) × Int)) ≤ capMax then
(rec2 (y2.1, ((y2.2.1.1, (y2.2.1.2.1, (y2.2.1.2.2.1, ()))), ((y2.2.2.1 ++ ([(((Ty.rd (t := (.pair (.pair (.int .i64) (.int .i64)) (.int .i64))) y2.1 y2.2.2.2.1).1.1, (Ty.rd (t := (.pair (.pair (.int .i64) (.int .i64)) (.int .i64))) y2.1 y2.2.2.2.1).1.2), (Ty.rd (t := (.pair (.pair (.int .i64) (.int .i64)) (.int .i64))) y2.1 y2.2.2.2.1).2)] : List ((Int × Int) × Int))), ((wi64 (y2.2.2.2.1 + (1 : Int))), ())))))
else none)
else none)
else
(rec2 (y2.1, ((y2.2.1.1, (y2.2.1.2.1, (y2.2.1.2.2.1, ()))), (y2.2.2.1, ((wi64 (y2.2.2.2.1 + (1 : Int))), ())))))))
else none)
else
((fun (z2 : (List ((Int × Int) × Int)) × (List ((Int × Int) × Int)) × Unit) =>
((s_RoutesOk k (z2.1, ())).bind fun p3 =>
(if (!p3.1) = false then
((s_RoutesOk k (z2.2.1, ())).bind fun p4 =>
(if (!p4.1) = true then
(if List.length ([] : List ((Int × Int) × Int)) + List.length z2.1 ≤ capMax then
some (((([] : List ((Int × Int) × Int)) ++ z2.1), (false, ())), ((), ((), ())))
else none)
else
some ((z2.2.1, (true, ())), ((), ((), ())))))
else
(if List.length ([] : List ((Int × Int) × Int)) + List.length z2.1 ≤ capMax then
some (((([] : List ((Int × Int) × Int)) ++ z2.1), (false, ())), ((), ((), ())))
else none)))) (y2.1, (y2.2.2.1, ()))))) k (z1.1, ((z1.2.1.1, (z1.2.1.2.1, (z1.2.1.2.2.1, ()))), ((z1.2.2.1 ++ ([((z1.2.1.1, z1.2.1.2.1), z1.2.1.2.2.1)] : List ((Int × Int) × Int))), ((0 : Int), ())))))
else none)) (y0.1, ((y0.2.1.1, (y0.2.1.2.1, (y0.2.1.2.2.1, ()))), (y0.2.2.1, ())))))) k (x.1, ((x.2.1.1, (x.2.1.2.1, (x.2.1.2.2.1, ()))), (([] : List ((Int × Int) × Int)), ((0 : Int), ())))))
theorem t_s_PutRoute (k : Nat) (x) : evF TTab k [⟨147, 0, yP28, .bool, s_l09Ahead k⟩, ⟨148, 0, (.cons yP13 .nil), .bool, s_RoutesOk k⟩] [(0, ⟨[0, 3, 6, 7], (.cons yP13 (.cons (.ptr 0 yP11) (.cons yP10 yP3)))⟩, ⟨[0, 3, 6], (.cons yP13 (.cons (.ptr 0 yP11) (.cons yP10 .nil)))⟩), (2, ⟨[0, 3, 6, 8], (.cons yP13 (.cons (.ptr 0 yP11) (.cons yP10 yP3)))⟩, ⟨[0, 6], (.cons yP13 (.cons yP10 .nil))⟩)] Tryz.f65 (.cons yP13 yP32) (.tup (.cons yP10 (.cons .bool .nil))) x = s_PutRoute k x := by kernel_rfl
theorem e_s_PutRoute [Names] (k : Nat) : EntryOk Tryz.prog ⟨65, 0, (.cons yP13 yP32), (.tup (.cons yP10 (.cons .bool .nil))), s_PutRoute k⟩ := entry_ok tok (by intro e he; simp only [List.mem_cons, List.not_mem_nil, or_false] at he; rcases he with rfl | rfl <;> first | exact e_s_l09Ahead k | exact e_s_RoutesOk k) (by kernel_rfl) (fn := Tryz.f65) (k := k) (es := [⟨147, 0, yP28, .bool, s_l09Ahead k⟩, ⟨148, 0, (.cons yP13 .nil), .bool, s_RoutesOk k⟩]) (loops := [(0, ⟨[0, 3, 6, 7], (.cons yP13 (.cons (.ptr 0 yP11) (.cons yP10 yP3)))⟩, ⟨[0, 3, 6], (.cons yP13 (.cons (.ptr 0 yP11) (.cons yP10 .nil)))⟩), (2, ⟨[0, 3, 6, 8], (.cons yP13 (.cons (.ptr 0 yP11) (.cons yP10 yP3)))⟩, ⟨[0, 6], (.cons yP13 (.cons yP10 .nil))⟩)]) (by kernel_rfl) (by kernel_rfl) (fun x r h => (t_s_PutRoute k x).trans h)
def s_AddNet (k : Nat) (x : (Int × Int × (List (Int × Int × Int)) × (List (Int × Int)) × (List ((Int × Int) × Int)) × (List (Int × Int × ((Int × ByteArray × ByteArray × Int × List (Int) × Int) × Int × ByteArray × ByteArray × Int × List (Int) × Int) × List (Int × Int × Int × List (ByteArray) × List (Bool) × Int) × Int)) × Unit) × Int × (Int × Int × Unit) × Unit) : Option (((Int × Int × (List (Int × Int × Int)) × (List (Int × Int)) × (List ((Int × Int) × Int)) × (List (Int × Int × ((Int × ByteArray × ByteArray × Int × List (Int) × Int) × Int × ByteArray × ByteArray × Int × List (Int) × Int) × List (Int × Int × Int × List (ByteArray) × List (Bool) × Int) × Int)) × Unit) × Bool × Unit) × Unit × Unit × Unit × Unit) :=
((s_l22Copy k ((x.1.1, (x.1.2.1, (x.1.2.2.1, (x.1.2.2.2.1, (x.1.2.2.2.2.1, (x.1.2.2.2.2.2.1, ())))))), ())).bind fun p1 =>
((s_PutRoute k (x.1.2.2.2.2.1, ((x.2.2.1.1, (x.2.2.1.2.1, (x.2.1, ()))), ()))).bind fun p2 =>
(if (!p2.1.2.1) = false then
((s_l22At k (x.1.2.2.2.2.2.1, (x.2.1, ()))).bind fun p3 =>
(if (decide (p3.1 < (0 : Int))) = true then
some (((p1.1.1, (p1.1.2.1, (p1.1.2.2.1, (p1.1.2.2.2.1, (p1.1.2.2.2.2.1, (p1.1.2.2.2.2.2.1, ())))))), (false, ())), ((), ((), ((), ()))))
else
some (((p1.1.1, (p1.1.2.1, (p1.1.2.2.1, (p1.1.2.2.2.1, (p2.1.1, (p1.1.2.2.2.2.2.1, ())))))), (true, ())), ((), ((), ((), ()))))))
else
some (((p1.1.1, (p1.1.2.1, (p1.1.2.2.1, (p1.1.2.2.2.1, (p1.1.2.2.2.2.1, (p1.1.2.2.2.2.2.1, ())))))), (false, ())), ((), ((), ((), ())))))))
theorem t_s_AddNet (k : Nat) (x) : evF TTab k [⟨61, 0, (.cons yP6 .nil), yP20, s_l22Copy k⟩, ⟨63, 0, (.cons (.il true yT0) yP3), (.int .i64), s_l22At k⟩, ⟨65, 0, (.cons yP13 yP32), (.tup (.cons yP10 (.cons .bool .nil))), s_PutRoute k⟩] [] Tryz.f20 (.cons yP6 (.cons (.int .i64) (.cons yP14 .nil))) (.tup (.cons yP20 (.cons .bool .nil))) x = s_AddNet k x := by kernel_rfl
theorem e_s_AddNet [Names] (k : Nat) : EntryOk Tryz.prog ⟨20, 0, (.cons yP6 (.cons (.int .i64) (.cons yP14 .nil))), (.tup (.cons yP20 (.cons .bool .nil))), s_AddNet k⟩ := entry_ok tok (by intro e he; simp only [List.mem_cons, List.not_mem_nil, or_false] at he; rcases he with rfl | rfl | rfl <;> first | exact e_s_l22Copy k | exact e_s_l22At k | exact e_s_PutRoute k) (by kernel_rfl) (fn := Tryz.f20) (k := k) (es := [⟨61, 0, (.cons yP6 .nil), yP20, s_l22Copy k⟩, ⟨63, 0, (.cons (.il true yT0) yP3), (.int .i64), s_l22At k⟩, ⟨65, 0, (.cons yP13 yP32), (.tup (.cons yP10 (.cons .bool .nil))), s_PutRoute k⟩]) (loops := []) (by kernel_rfl) (by kernel_rfl) (fun x r h => (t_s_AddNet k x).trans h)
def i_copyPool (k : Nat) (x : (Int × Int × (List (Int × Int × Int)) × (List (Int × Int)) × Unit) × Unit) : Option ((Int × Int × (List (Int × Int × Int)) × (List (Int × Int)) × Unit) × Unit × Unit) :=
(if List.length ([] : List (Int × Int × Int)) + List.length x.1.2.2.1 ≤ capMax then
(if List.length ([] : List (Int × Int)) + List.length x.1.2.2.2.1 ≤ capMax then
some ((x.1.1, (x.1.2.1, ((([] : List (Int × Int × Int)) ++ x.1.2.2.1), ((([] : List (Int × Int)) ++ x.1.2.2.2.1), ())))), ((), ()))
else none)
else none)
theorem t_i_copyPool (k : Nat) (x) : evF TTab k [] [] Tryz.f128 (.cons yP9 .nil) yP19 x = i_copyPool k x := by kernel_rfl
theorem e_i_copyPool [Names] (k : Nat) : EntryOk Tryz.prog ⟨128, 0, (.cons yP9 .nil), yP19, i_copyPool k⟩ := entry_ok tok (by simp) (by kernel_rfl) (fn := Tryz.f128) (k := k) (es := []) (loops := []) (by kernel_rfl) (by kernel_rfl) (fun x r h => (t_i_copyPool k x).trans h)
def i_copyRoutes (k : Nat) (x : (List ((Int × Int) × Int)) × Unit) : Option ((List ((Int × Int) × Int)) × Unit × Unit) :=
(if List.length ([] : List ((Int × Int) × Int)) + List.length x.1 ≤ capMax then
some ((([] : List ((Int × Int) × Int)) ++ x.1), ((), ()))
else none)
theorem t_i_copyRoutes (k : Nat) (x) : evF TTab k [] [] Tryz.f129 (.cons yP13 .nil) yP10 x = i_copyRoutes k x := by kernel_rfl
theorem e_i_copyRoutes [Names] (k : Nat) : EntryOk Tryz.prog ⟨129, 0, (.cons yP13 .nil), yP10, i_copyRoutes k⟩ := entry_ok tok (by simp) (by kernel_rfl) (fn := Tryz.f129) (k := k) (es := []) (loops := []) (by kernel_rfl) (by kernel_rfl) (fun x r h => (t_i_copyRoutes k x).trans h)
def i_copyInts (k : Nat) (x : List (Int) × Unit) : Option (List (Int) × Unit × Unit) :=
(if List.length ([] : List (Int)) + List.length x.1 ≤ capMax then
some ((([] : List (Int)) ++ x.1), ((), ()))
else none)
theorem t_i_copyInts (k : Nat) (x) : evF TTab k [] [] Tryz.f254 yP30 yP31 x = i_copyInts k x := by kernel_rfl
theorem e_i_copyInts [Names] (k : Nat) : EntryOk Tryz.prog ⟨254, 0, yP30, yP31, i_copyInts k⟩ := entry_ok tok (by simp) (by kernel_rfl) (fn := Tryz.f254) (k := k) (es := []) (loops := []) (by kernel_rfl) (by kernel_rfl) (fun x r h => (t_i_copyInts k x).trans h)
def i_copySlots (k : Nat) (x : (Int × ByteArray × ByteArray × Int × List (Int) × Int × Int × ByteArray × ByteArray × Int × List (Int) × Int × Unit) × Unit) : Option ((Int × ByteArray × ByteArray × Int × List (Int) × Int × Int × ByteArray × ByteArray × Int × List (Int) × Int × Unit) × Unit × Unit) :=
((i_copyInts k (x.1.2.2.2.2.1, ())).bind fun p1 =>
((i_copyInts k (x.1.2.2.2.2.2.2.2.2.2.2.1, ())).bind fun p2 =>
some ((x.1.1, (x.1.2.1, (x.1.2.2.1, (x.1.2.2.2.1, (p1.1, (x.1.2.2.2.2.2.1, (x.1.2.2.2.2.2.2.1, (x.1.2.2.2.2.2.2.2.1, (x.1.2.2.2.2.2.2.2.2.1, (x.1.2.2.2.2.2.2.2.2.2.1, (p2.1, (x.1.2.2.2.2.2.2.2.2.2.2.2.1, ())))))))))))), ((), ()))))
theorem t_i_copySlots (k : Nat) (x) : evF TTab k [⟨254, 0, yP30, yP31, i_copyInts k⟩] [] Tryz.f183 (.cons yP7 .nil) yP12 x = i_copySlots k x := by kernel_rfl
theorem e_i_copySlots [Names] (k : Nat) : EntryOk Tryz.prog ⟨183, 0, (.cons yP7 .nil), yP12, i_copySlots k⟩ := entry_ok tok (by intro e he; simp only [List.mem_cons, List.not_mem_nil, or_false] at he; rcases he with rfl <;> first | exact e_i_copyInts k) (by kernel_rfl) (fn := Tryz.f183) (k := k) (es := [⟨254, 0, yP30, yP31, i_copyInts k⟩]) (loops := []) (by kernel_rfl) (by kernel_rfl) (fun x r h => (t_i_copySlots k x).trans h)
def i_copyTexts (k : Nat) (x : List (ByteArray) × Unit) : Option (List (ByteArray) × Unit × Unit) :=
(if List.length ([] : List (ByteArray)) + List.length x.1 ≤ capMax then
some ((([] : List (ByteArray)) ++ x.1), ((), ()))
else none)
theorem t_i_copyTexts (k : Nat) (x) : evF TTab k [] [] Tryz.f255 (.cons (.il true .str) .nil) (.own false 9 .str) x = i_copyTexts k x := by kernel_rfl
theorem e_i_copyTexts [Names] (k : Nat) : EntryOk Tryz.prog ⟨255, 0, (.cons (.il true .str) .nil), (.own false 9 .str), i_copyTexts k⟩ := entry_ok tok (by simp) (by kernel_rfl) (fn := Tryz.f255) (k := k) (es := []) (loops := []) (by kernel_rfl) (by kernel_rfl) (fun x r h => (t_i_copyTexts k x).trans h)
def i_copyShelf (k : Nat) (x : ((List (Int × Int × Int × List (ByteArray) × List (Bool) × Int)) × Unit) × Unit) : Option (((List (Int × Int × Int × List (ByteArray) × List (Bool) × Int)) × Unit) × Unit × Unit) :=
(whileK (fun (rec0 : (((List (Int × Int × Int × List (ByteArray) × List (Bool) × Int)) × Unit) × ((List (Int × Int × Int × List (ByteArray) × List (Bool) × Int)) × Unit) × (List (Int × Int × Int × List (ByteArray) × List (Bool) × Int)) × Int × Int × Unit) → Option _) (y0 : ((List (Int × Int × Int × List (ByteArray) × List (Bool) × Int)) × Unit) × ((List (Int × Int × Int × List (ByteArray) × List (Bool) × Int)) × Unit) × (List (Int × Int × Int × List (ByteArray) × List (Bool) × Int)) × Int × Int × Unit) =>
(if (decide (y0.2.2.2.2.1 < y0.2.2.2.1)) = true then
(if 0 ≤ y0.2.2.2.2.1 ∧ y0.2.2.2.2.1 < (List.length y0.2.2.1 : Int) then
((i_copyTexts k ((Ty.rd (t := (.pair (.int .i64) (.pair (.int .i64) (.pair (.int .i64) (.pair (.list .str) (.pair (.list .bool) (.int .i64))))))) y0.2.2.1 y0.2.2.2.2.1).2.2.2.1, ())).bind fun p1 =>
(if List.length ([] : List (Bool)) + List.length (Ty.rd (t := (.pair (.int .i64) (.pair (.int .i64) (.pair (.int .i64) (.pair (.list .str) (.pair (.list .bool) (.int .i64))))))) y0.2.2.1 y0.2.2.2.2.1).2.2.2.2.1 ≤ capMax then
(if List.length y0.2.1.1 + List.length ([((Ty.rd (t := (.pair (.int .i64) (.pair (.int .i64) (.pair (.int .i64) (.pair (.list .str) (.pair (.list .bool) (.int .i64))))))) y0.2.2.1 y0.2.2.2.2.1).1, ((Ty.rd (t := (.pair (.int .i64) (.pair (.int .i64) (.pair (.int .i64) (.pair (.list .str) (.pair (.list .bool) (.int .i64))))))) y0.2.2.1 y0.2.2.2.2.1).2.1, ((Ty.rd (t := (.pair (.int .i64) (.pair (.int .i64) (.pair (.int .i64) (.pair (.list .str) (.pair (.list .bool) (.int .i64))))))) y0.2.2.1 y0.2.2.2.2.1).2.2.1, (p1.1, ((([] : List (Bool)) ++ (Ty.rd (t := (.pair (.int .i64) (.pair (.int .i64) (.pair (.int .i64) (.pair (.list .str) (.pair (.list .bool) (.int .i64))))))) y0.2.2.1 y0.2.2.2.2.1).2.2.2.2.1), (Ty.rd (t := (.pair (.int .i64) (.pair (.int .i64) (.pair (.int .i64) (.pair (.list .str) (.pair (.list .bool) (.int .i64))))))) y0.2.2.1 y0.2.2.2.2.1).2.2.2.2.2)))))] : List (Int × Int × Int × List (ByteArray) × List (Bool) × Int)) ≤ capMax then
(rec0 ((y0.1.1, ()), (((y0.2.1.1 ++ ([((Ty.rd (t := (.pair (.int .i64) (.pair (.int .i64) (.pair (.int .i64) (.pair (.list .str) (.pair (.list .bool) (.int .i64))))))) y0.2.2.1 y0.2.2.2.2.1).1, ((Ty.rd (t := (.pair (.int .i64) (.pair (.int .i64) (.pair (.int .i64) (.pair (.list .str) (.pair (.list .bool) (.int .i64))))))) y0.2.2.1 y0.2.2.2.2.1).2.1, ((Ty.rd (t := (.pair (.int .i64) (.pair (.int .i64) (.pair (.int .i64) (.pair (.list .str) (.pair (.list .bool) (.int .i64))))))) y0.2.2.1 y0.2.2.2.2.1).2.2.1, (p1.1, ((([] : List (Bool)) ++ (Ty.rd (t := (.pair (.int .i64) (.pair (.int .i64) (.pair (.int .i64) (.pair (.list .str) (.pair (.list .bool) (.int .i64))))))) y0.2.2.1 y0.2.2.2.2.1).2.2.2.2.1), (Ty.rd (t := (.pair (.int .i64) (.pair (.int .i64) (.pair (.int .i64) (.pair (.list .str) (.pair (.list .bool) (.int .i64))))))) y0.2.2.1 y0.2.2.2.2.1).2.2.2.2.2)))))] : List (Int × Int × Int × List (ByteArray) × List (Bool) × Int))), ()), (y0.2.2.1, (y0.2.2.2.1, ((wi64 (y0.2.2.2.2.1 + (1 : Int))), ()))))))
else none)
else none))
else none)
else
((fun (z1 : ((List (Int × Int × Int × List (ByteArray) × List (Bool) × Int)) × Unit) × ((List (Int × Int × Int × List (ByteArray) × List (Bool) × Int)) × Unit) × Unit) =>
some ((z1.2.1.1, ()), ((), ()))) ((y0.1.1, ()), ((y0.2.1.1, ()), ()))))) k (([], ()), (([], ()), (x.1.1, ((List.length x.1.1 : Int), ((0 : Int), ()))))))
theorem t_i_copyShelf (k : Nat) (x) : evF TTabO k [⟨255, 0, (.cons (.il true .str) .nil), (.own false 9 .str), i_copyTexts k⟩] [(0, ⟨[2, 3, 8, 9, 10], (.cons (.ptr 0 (.cons yP8 .nil)) (.cons (.ptr 0 (.cons yP8 .nil)) (.cons (.il true yT5) (.cons (.int .i64) yP3))))⟩, ⟨[2, 3], (.cons (.ptr 0 (.cons yP8 .nil)) (.cons (.ptr 0 (.cons yP8 .nil)) .nil))⟩)] Tryz.f184 (.cons (.agg yP25) .nil) (.agg (.cons yP8 .nil)) x = i_copyShelf k x := by kernel_rfl
theorem e_i_copyShelf [Names] (k : Nat) : EntryOk Tryz.prog ⟨184, 0, (.cons (.agg yP25) .nil), (.agg (.cons yP8 .nil)), i_copyShelf k⟩ := entry_ok tokO (by intro e he; simp only [List.mem_cons, List.not_mem_nil, or_false] at he; rcases he with rfl <;> first | exact e_i_copyTexts k) (by kernel_rfl) (fn := Tryz.f184) (k := k) (es := [⟨255, 0, (.cons (.il true .str) .nil), (.own false 9 .str), i_copyTexts k⟩]) (loops := [(0, ⟨[2, 3, 8, 9, 10], (.cons (.ptr 0 (.cons yP8 .nil)) (.cons (.ptr 0 (.cons yP8 .nil)) (.cons (.il true yT5) (.cons (.int .i64) yP3))))⟩, ⟨[2, 3], (.cons (.ptr 0 (.cons yP8 .nil)) (.cons (.ptr 0 (.cons yP8 .nil)) .nil))⟩)]) (by kernel_rfl) (by kernel_rfl) (fun x r h => (t_i_copyShelf k x).trans h)
def i_copyUser (k : Nat) (x : (Int × Int × Int × ByteArray × ByteArray × Int × List (Int) × Int × Int × ByteArray × ByteArray × Int × List (Int) × Int × (List (Int × Int × Int × List (ByteArray) × List (Bool) × Int)) × Int × Unit) × Unit) : Option ((Int × Int × Int × ByteArray × ByteArray × Int × List (Int) × Int × Int × ByteArray × ByteArray × Int × List (Int) × Int × (List (Int × Int × Int × List (ByteArray) × List (Bool) × Int)) × Int × Unit) × Unit × Unit) :=
((i_copySlots k ((x.1.2.2.1, (x.1.2.2.2.1, (x.1.2.2.2.2.1, (x.1.2.2.2.2.2.1, (x.1.2.2.2.2.2.2.1, (x.1.2.2.2.2.2.2.2.1, (x.1.2.2.2.2.2.2.2.2.1, (x.1.2.2.2.2.2.2.2.2.2.1, (x.1.2.2.2.2.2.2.2.2.2.2.1, (x.1.2.2.2.2.2.2.2.2.2.2.2.1, (x.1.2.2.2.2.2.2.2.2.2.2.2.2.1, (x.1.2.2.2.2.2.2.2.2.2.2.2.2.2.1, ())))))))))))), ())).bind fun p1 =>
((i_copyShelf k ((x.1.2.2.2.2.2.2.2.2.2.2.2.2.2.2.1, ()), ())).bind fun p2 =>
some ((x.1.1, (x.1.2.1, (p1.1.1, (p1.1.2.1, (p1.1.2.2.1, (p1.1.2.2.2.1, (p1.1.2.2.2.2.1, (p1.1.2.2.2.2.2.1, (p1.1.2.2.2.2.2.2.1, (p1.1.2.2.2.2.2.2.2.1, (p1.1.2.2.2.2.2.2.2.2.1, (p1.1.2.2.2.2.2.2.2.2.2.1, (p1.1.2.2.2.2.2.2.2.2.2.2.1, (p1.1.2.2.2.2.2.2.2.2.2.2.2.1, (p2.1.1, (x.1.2.2.2.2.2.2.2.2.2.2.2.2.2.2.2.1, ())))))))))))))))), ((), ()))))
theorem t_i_copyUser (k : Nat) (x) : evF TTabO k [⟨183, 0, (.cons yP7 .nil), yP12, i_copySlots k⟩, ⟨184, 0, (.cons (.agg yP25) .nil), (.agg (.cons yP8 .nil)), i_copyShelf k⟩] [] Tryz.f100 (.cons yP4 .nil) yP15 x = i_copyUser k x := by kernel_rfl
theorem e_i_copyUser [Names] (k : Nat) : EntryOk Tryz.prog ⟨100, 0, (.cons yP4 .nil), yP15, i_copyUser k⟩ := entry_ok tokO (by intro e he; simp only [List.mem_cons, List.not_mem_nil, or_false] at he; rcases he with rfl | rfl <;> first | exact e_i_copySlots k | exact e_i_copyShelf k) (by kernel_rfl) (fn := Tryz.f100) (k := k) (es := [⟨183, 0, (.cons yP7 .nil), yP12, i_copySlots k⟩, ⟨184, 0, (.cons (.agg yP25) .nil), (.agg (.cons yP8 .nil)), i_copyShelf k⟩]) (loops := []) (by kernel_rfl) (by kernel_rfl) (fun x r h => (t_i_copyUser k x).trans h)
def i_copyUsers (k : Nat) (x : (List (Int × Int × ((Int × ByteArray × ByteArray × Int × List (Int) × Int) × Int × ByteArray × ByteArray × Int × List (Int) × Int) × List (Int × Int × Int × List (ByteArray) × List (Bool) × Int) × Int)) × Unit) : Option ((List (Int × Int × ((Int × ByteArray × ByteArray × Int × List (Int) × Int) × Int × ByteArray × ByteArray × Int × List (Int) × Int) × List (Int × Int × Int × List (ByteArray) × List (Bool) × Int) × Int)) × Unit × Unit) :=
(whileK (fun (rec0 : ((List (Int × Int × ((Int × ByteArray × ByteArray × Int × List (Int) × Int) × Int × ByteArray × ByteArray × Int × List (Int) × Int) × List (Int × Int × Int × List (ByteArray) × List (Bool) × Int) × Int)) × (List (Int × Int × ((Int × ByteArray × ByteArray × Int × List (Int) × Int) × Int × ByteArray × ByteArray × Int × List (Int) × Int) × List (Int × Int × Int × List (ByteArray) × List (Bool) × Int) × Int)) × Int × Int × Unit) → Option _) (y0 : (List (Int × Int × ((Int × ByteArray × ByteArray × Int × List (Int) × Int) × Int × ByteArray × ByteArray × Int × List (Int) × Int) × List (Int × Int × Int × List (ByteArray) × List (Bool) × Int) × Int)) × (List (Int × Int × ((Int × ByteArray × ByteArray × Int × List (Int) × Int) × Int × ByteArray × ByteArray × Int × List (Int) × Int) × List (Int × Int × Int × List (ByteArray) × List (Bool) × Int) × Int)) × Int × Int × Unit) =>
(if (decide (y0.2.2.2.1 < y0.2.2.1)) = true then
(if 0 ≤ y0.2.2.2.1 ∧ y0.2.2.2.1 < (List.length y0.2.1 : Int) then
((i_copyUser k (((Ty.rd (t := (.pair (.int .i64) (.pair (.int .i64) (.pair (.pair (.pair (.int .i64) (.pair .str (.pair .str (.pair (.int .i64) (.pair (.list (.int .i64)) (.int .i64)))))) (.pair (.int .i64) (.pair .str (.pair .str (.pair (.int .i64) (.pair (.list (.int .i64)) (.int .i64))))))) (.pair (.list (.pair (.int .i64) (.pair (.int .i64) (.pair (.int .i64) (.pair (.list .str) (.pair (.list .bool) (.int .i64))))))) (.int .i64)))))) y0.2.1 y0.2.2.2.1).1, ((Ty.rd (t := (.pair (.int .i64) (.pair (.int .i64) (.pair (.pair (.pair (.int .i64) (.pair .str (.pair .str (.pair (.int .i64) (.pair (.list (.int .i64)) (.int .i64)))))) (.pair (.int .i64) (.pair .str (.pair .str (.pair (.int .i64) (.pair (.list (.int .i64)) (.int .i64))))))) (.pair (.list (.pair (.int .i64) (.pair (.int .i64) (.pair (.int .i64) (.pair (.list .str) (.pair (.list .bool) (.int .i64))))))) (.int .i64)))))) y0.2.1 y0.2.2.2.1).2.1, ((Ty.rd (t := (.pair (.int .i64) (.pair (.int .i64) (.pair (.pair (.pair (.int .i64) (.pair .str (.pair .str (.pair (.int .i64) (.pair (.list (.int .i64)) (.int .i64)))))) (.pair (.int .i64) (.pair .str (.pair .str (.pair (.int .i64) (.pair (.list (.int .i64)) (.int .i64))))))) (.pair (.list (.pair (.int .i64) (.pair (.int .i64) (.pair (.int .i64) (.pair (.list .str) (.pair (.list .bool) (.int .i64))))))) (.int .i64)))))) y0.2.1 y0.2.2.2.1).2.2.1.1.1, ((Ty.rd (t := (.pair (.int .i64) (.pair (.int .i64) (.pair (.pair (.pair (.int .i64) (.pair .str (.pair .str (.pair (.int .i64) (.pair (.list (.int .i64)) (.int .i64)))))) (.pair (.int .i64) (.pair .str (.pair .str (.pair (.int .i64) (.pair (.list (.int .i64)) (.int .i64))))))) (.pair (.list (.pair (.int .i64) (.pair (.int .i64) (.pair (.int .i64) (.pair (.list .str) (.pair (.list .bool) (.int .i64))))))) (.int .i64)))))) y0.2.1 y0.2.2.2.1).2.2.1.1.2.1, ((Ty.rd (t := (.pair (.int .i64) (.pair (.int .i64) (.pair (.pair (.pair (.int .i64) (.pair .str (.pair .str (.pair (.int .i64) (.pair (.list (.int .i64)) (.int .i64)))))) (.pair (.int .i64) (.pair .str (.pair .str (.pair (.int .i64) (.pair (.list (.int .i64)) (.int .i64))))))) (.pair (.list (.pair (.int .i64) (.pair (.int .i64) (.pair (.int .i64) (.pair (.list .str) (.pair (.list .bool) (.int .i64))))))) (.int .i64)))))) y0.2.1 y0.2.2.2.1).2.2.1.1.2.2.1, ((Ty.rd (t := (.pair (.int .i64) (.pair (.int .i64) (.pair (.pair (.pair (.int .i64) (.pair .str (.pair .str (.pair (.int .i64) (.pair (.list (.int .i64)) (.int .i64)))))) (.pair (.int .i64) (.pair .str (.pair .str (.pair (.int .i64) (.pair (.list (.int .i64)) (.int .i64))))))) (.pair (.list (.pair (.int .i64) (.pair (.int .i64) (.pair (.int .i64) (.pair (.list .str) (.pair (.list .bool) (.int .i64))))))) (.int .i64)))))) y0.2.1 y0.2.2.2.1).2.2.1.1.2.2.2.1, ((Ty.rd (t := (.pair (.int .i64) (.pair (.int .i64) (.pair (.pair (.pair (.int .i64) (.pair .str (.pair .str (.pair (.int .i64) (.pair (.list (.int .i64)) (.int .i64)))))) (.pair (.int .i64) (.pair .str (.pair .str (.pair (.int .i64) (.pair (.list (.int .i64)) (.int .i64))))))) (.pair (.list (.pair (.int .i64) (.pair (.int .i64) (.pair (.int .i64) (.pair (.list .str) (.pair (.list .bool) (.int .i64))))))) (.int .i64)))))) y0.2.1 y0.2.2.2.1).2.2.1.1.2.2.2.2.1, ((Ty.rd (t := (.pair (.int .i64) (.pair (.int .i64) (.pair (.pair (.pair (.int .i64) (.pair .str (.pair .str (.pair (.int .i64) (.pair (.list (.int .i64)) (.int .i64)))))) (.pair (.int .i64) (.pair .str (.pair .str (.pair (.int .i64) (.pair (.list (.int .i64)) (.int .i64))))))) (.pair (.list (.pair (.int .i64) (.pair (.int .i64) (.pair (.int .i64) (.pair (.list .str) (.pair (.list .bool) (.int .i64))))))) (.int .i64)))))) y0.2.1 y0.2.2.2.1).2.2.1.1.2.2.2.2.2, ((Ty.rd (t := (.pair (.int .i64) (.pair (.int .i64) (.pair (.pair (.pair (.int .i64) (.pair .str (.pair .str (.pair (.int .i64) (.pair (.list (.int .i64)) (.int .i64)))))) (.pair (.int .i64) (.pair .str (.pair .str (.pair (.int .i64) (.pair (.list (.int .i64)) (.int .i64))))))) (.pair (.list (.pair (.int .i64) (.pair (.int .i64) (.pair (.int .i64) (.pair (.list .str) (.pair (.list .bool) (.int .i64))))))) (.int .i64)))))) y0.2.1 y0.2.2.2.1).2.2.1.2.1, ((Ty.rd (t := (.pair (.int .i64) (.pair (.int .i64) (.pair (.pair (.pair (.int .i64) (.pair .str (.pair .str (.pair (.int .i64) (.pair (.list (.int .i64)) (.int .i64)))))) (.pair (.int .i64) (.pair .str (.pair .str (.pair (.int .i64) (.pair (.list (.int .i64)) (.int .i64))))))) (.pair (.list (.pair (.int .i64) (.pair (.int .i64) (.pair (.int .i64) (.pair (.list .str) (.pair (.list .bool) (.int .i64))))))) (.int .i64)))))) y0.2.1 y0.2.2.2.1).2.2.1.2.2.1, ((Ty.rd (t := (.pair (.int .i64) (.pair (.int .i64) (.pair (.pair (.pair (.int .i64) (.pair .str (.pair .str (.pair (.int .i64) (.pair (.list (.int .i64)) (.int .i64)))))) (.pair (.int .i64) (.pair .str (.pair .str (.pair (.int .i64) (.pair (.list (.int .i64)) (.int .i64))))))) (.pair (.list (.pair (.int .i64) (.pair (.int .i64) (.pair (.int .i64) (.pair (.list .str) (.pair (.list .bool) (.int .i64))))))) (.int .i64)))))) y0.2.1 y0.2.2.2.1).2.2.1.2.2.2.1, ((Ty.rd (t := (.pair (.int .i64) (.pair (.int .i64) (.pair (.pair (.pair (.int .i64) (.pair .str (.pair .str (.pair (.int .i64) (.pair (.list (.int .i64)) (.int .i64)))))) (.pair (.int .i64) (.pair .str (.pair .str (.pair (.int .i64) (.pair (.list (.int .i64)) (.int .i64))))))) (.pair (.list (.pair (.int .i64) (.pair (.int .i64) (.pair (.int .i64) (.pair (.list .str) (.pair (.list .bool) (.int .i64))))))) (.int .i64)))))) y0.2.1 y0.2.2.2.1).2.2.1.2.2.2.2.1, ((Ty.rd (t := (.pair (.int .i64) (.pair (.int .i64) (.pair (.pair (.pair (.int .i64) (.pair .str (.pair .str (.pair (.int .i64) (.pair (.list (.int .i64)) (.int .i64)))))) (.pair (.int .i64) (.pair .str (.pair .str (.pair (.int .i64) (.pair (.list (.int .i64)) (.int .i64))))))) (.pair (.list (.pair (.int .i64) (.pair (.int .i64) (.pair (.int .i64) (.pair (.list .str) (.pair (.list .bool) (.int .i64))))))) (.int .i64)))))) y0.2.1 y0.2.2.2.1).2.2.1.2.2.2.2.2.1, ((Ty.rd (t := (.pair (.int .i64) (.pair (.int .i64) (.pair (.pair (.pair (.int .i64) (.pair .str (.pair .str (.pair (.int .i64) (.pair (.list (.int .i64)) (.int .i64)))))) (.pair (.int .i64) (.pair .str (.pair .str (.pair (.int .i64) (.pair (.list (.int .i64)) (.int .i64))))))) (.pair (.list (.pair (.int .i64) (.pair (.int .i64) (.pair (.int .i64) (.pair (.list .str) (.pair (.list .bool) (.int .i64))))))) (.int .i64)))))) y0.2.1 y0.2.2.2.1).2.2.1.2.2.2.2.2.2, ((Ty.rd (t := (.pair (.int .i64) (.pair (.int .i64) (.pair (.pair (.pair (.int .i64) (.pair .str (.pair .str (.pair (.int .i64) (.pair (.list (.int .i64)) (.int .i64)))))) (.pair (.int .i64) (.pair .str (.pair .str (.pair (.int .i64) (.pair (.list (.int .i64)) (.int .i64))))))) (.pair (.list (.pair (.int .i64) (.pair (.int .i64) (.pair (.int .i64) (.pair (.list .str) (.pair (.list .bool) (.int .i64))))))) (.int .i64)))))) y0.2.1 y0.2.2.2.1).2.2.2.1, ((Ty.rd (t := (.pair (.int .i64) (.pair (.int .i64) (.pair (.pair (.pair (.int .i64) (.pair .str (.pair .str (.pair (.int .i64) (.pair (.list (.int .i64)) (.int .i64)))))) (.pair (.int .i64) (.pair .str (.pair .str (.pair (.int .i64) (.pair (.list (.int .i64)) (.int .i64))))))) (.pair (.list (.pair (.int .i64) (.pair (.int .i64) (.pair (.int .i64) (.pair (.list .str) (.pair (.list .bool) (.int .i64))))))) (.int .i64)))))) y0.2.1 y0.2.2.2.1).2.2.2.2, ())))))))))))))))), ())).bind fun p1 =>
(if List.length y0.1 + List.length ([(p1.1.1, (p1.1.2.1, (((p1.1.2.2.1, (p1.1.2.2.2.1, (p1.1.2.2.2.2.1, (p1.1.2.2.2.2.2.1, (p1.1.2.2.2.2.2.2.1, p1.1.2.2.2.2.2.2.2.1))))), (p1.1.2.2.2.2.2.2.2.2.1, (p1.1.2.2.2.2.2.2.2.2.2.1, (p1.1.2.2.2.2.2.2.2.2.2.2.1, (p1.1.2.2.2.2.2.2.2.2.2.2.2.1, (p1.1.2.2.2.2.2.2.2.2.2.2.2.2.1, p1.1.2.2.2.2.2.2.2.2.2.2.2.2.2.1)))))), (p1.1.2.2.2.2.2.2.2.2.2.2.2.2.2.2.1, p1.1.2.2.2.2.2.2.2.2.2.2.2.2.2.2.2.1))))] : List (Int × Int × ((Int × ByteArray × ByteArray × Int × List (Int) × Int) × Int × ByteArray × ByteArray × Int × List (Int) × Int) × List (Int × Int × Int × List (ByteArray) × List (Bool) × Int) × Int)) ≤ capMax then
(rec0 ((y0.1 ++ ([(p1.1.1, (p1.1.2.1, (((p1.1.2.2.1, (p1.1.2.2.2.1, (p1.1.2.2.2.2.1, (p1.1.2.2.2.2.2.1, (p1.1.2.2.2.2.2.2.1, p1.1.2.2.2.2.2.2.2.1))))), (p1.1.2.2.2.2.2.2.2.2.1, (p1.1.2.2.2.2.2.2.2.2.2.1, (p1.1.2.2.2.2.2.2.2.2.2.2.1, (p1.1.2.2.2.2.2.2.2.2.2.2.2.1, (p1.1.2.2.2.2.2.2.2.2.2.2.2.2.1, p1.1.2.2.2.2.2.2.2.2.2.2.2.2.2.1)))))), (p1.1.2.2.2.2.2.2.2.2.2.2.2.2.2.2.1, p1.1.2.2.2.2.2.2.2.2.2.2.2.2.2.2.2.1))))] : List (Int × Int × ((Int × ByteArray × ByteArray × Int × List (Int) × Int) × Int × ByteArray × ByteArray × Int × List (Int) × Int) × List (Int × Int × Int × List (ByteArray) × List (Bool) × Int) × Int))), (y0.2.1, (y0.2.2.1, ((wi64 (y0.2.2.2.1 + (1 : Int))), ())))))
else none))
else none)
else
((fun (z1 : (List (Int × Int × ((Int × ByteArray × ByteArray × Int × List (Int) × Int) × Int × ByteArray × ByteArray × Int × List (Int) × Int) × List (Int × Int × Int × List (ByteArray) × List (Bool) × Int) × Int)) × Unit) =>
some (z1.1, ((), ()))) (y0.1, ())))) k (([] : List (Int × Int × ((Int × ByteArray × ByteArray × Int × List (Int) × Int) × Int × ByteArray × ByteArray × Int × List (Int) × Int) × List (Int × Int × Int × List (ByteArray) × List (Bool) × Int) × Int)), (x.1, ((List.length x.1 : Int), ((0 : Int), ())))))
theorem t_i_copyUsers (k : Nat) (x) : evF TTabO k [⟨100, 0, (.cons yP4 .nil), yP15, i_copyUser k⟩] [(0, ⟨[3, 7, 8, 9], (.cons (.own false 45 yT1) (.cons (.il true yT0) (.cons (.int .i64) yP3)))⟩, ⟨[3], (.cons (.own false 45 yT1) .nil)⟩)] Tryz.f130 (.cons (.il true yT0) .nil) (.own false 45 yT1) x = i_copyUsers k x := by kernel_rfl
theorem e_i_copyUsers [Names] (k : Nat) : EntryOk Tryz.prog ⟨130, 0, (.cons (.il true yT0) .nil), (.own false 45 yT1), i_copyUsers k⟩ := entry_ok tokO (by intro e he; simp only [List.mem_cons, List.not_mem_nil, or_false] at he; rcases he with rfl <;> first | exact e_i_copyUser k) (by kernel_rfl) (fn := Tryz.f130) (k := k) (es := [⟨100, 0, (.cons yP4 .nil), yP15, i_copyUser k⟩]) (loops := [(0, ⟨[3, 7, 8, 9], (.cons (.own false 45 yT1) (.cons (.il true yT0) (.cons (.int .i64) yP3)))⟩, ⟨[3], (.cons (.own false 45 yT1) .nil)⟩)]) (by kernel_rfl) (by kernel_rfl) (fun x r h => (t_i_copyUsers k x).trans h)
def i_copyHub (k : Nat) (x : (Int × Int × (List (Int × Int × Int)) × (List (Int × Int)) × (List ((Int × Int) × Int)) × (List (Int × Int × ((Int × ByteArray × ByteArray × Int × List (Int) × Int) × Int × ByteArray × ByteArray × Int × List (Int) × Int) × List (Int × Int × Int × List (ByteArray) × List (Bool) × Int) × Int)) × Unit) × Unit) : Option ((Int × Int × (List (Int × Int × Int)) × (List (Int × Int)) × (List ((Int × Int) × Int)) × (List (Int × Int × ((Int × ByteArray × ByteArray × Int × List (Int) × Int) × Int × ByteArray × ByteArray × Int × List (Int) × Int) × List (Int × Int × Int × List (ByteArray) × List (Bool) × Int) × Int)) × Unit) × Unit × Unit) :=
((i_copyPool k ((x.1.1, (x.1.2.1, (x.1.2.2.1, (x.1.2.2.2.1, ())))), ())).bind fun p1 =>
((i_copyRoutes k (x.1.2.2.2.2.1, ())).bind fun p2 =>
((i_copyUsers k (x.1.2.2.2.2.2.1, ())).bind fun p3 =>
some ((p1.1.1, (p1.1.2.1, (p1.1.2.2.1, (p1.1.2.2.2.1, (p2.1, (p3.1, ())))))), ((), ())))))
theorem t_i_copyHub (k : Nat) (x) : evF TTabO k [⟨128, 0, (.cons yP9 .nil), yP19, i_copyPool k⟩, ⟨129, 0, (.cons yP13 .nil), yP10, i_copyRoutes k⟩, ⟨130, 0, (.cons (.il true yT0) .nil), (.own false 45 yT1), i_copyUsers k⟩] [] Tryz.f54 (.cons yP6 .nil) yP17 x = i_copyHub k x := by kernel_rfl
theorem e_i_copyHub [Names] (k : Nat) : EntryOk Tryz.prog ⟨54, 0, (.cons yP6 .nil), yP17, i_copyHub k⟩ := entry_ok tokO (by intro e he; simp only [List.mem_cons, List.not_mem_nil, or_false] at he; rcases he with rfl | rfl | rfl <;> first | exact e_i_copyPool k | exact e_i_copyRoutes k | exact e_i_copyUsers k) (by kernel_rfl) (fn := Tryz.f54) (k := k) (es := [⟨128, 0, (.cons yP9 .nil), yP19, i_copyPool k⟩, ⟨129, 0, (.cons yP13 .nil), yP10, i_copyRoutes k⟩, ⟨130, 0, (.cons (.il true yT0) .nil), (.own false 45 yT1), i_copyUsers k⟩]) (loops := []) (by kernel_rfl) (by kernel_rfl) (fun x r h => (t_i_copyHub k x).trans h)
def i_within (k : Nat) (x : Int × Int × Int × Unit) : Option (Bool × Unit × Unit × Unit × Unit) :=
(if (decide (x.2.1 ≤ x.1)) = true then
some ((decide (x.1 ≤ x.2.2.1)), ((), ((), ((), ()))))
else
some (false, ((), ((), ((), ())))))
theorem t_i_within (k : Nat) (x) : evF TTab k [] [] Tryz.f55 yP11 .bool x = i_within k x := by kernel_rfl
theorem e_i_within [Names] (k : Nat) : EntryOk Tryz.prog ⟨55, 0, yP11, .bool, i_within k⟩ := entry_ok tok (by simp) (by kernel_rfl) (fn := Tryz.f55) (k := k) (es := []) (loops := []) (by kernel_rfl) (by kernel_rfl) (fun x r h => (t_i_within k x).trans h)
def i_userAt_1 (k : Nat) (x : (Int × Int × Int × ByteArray × ByteArray × Int × List (Int) × Int × Int × ByteArray × ByteArray × Int × List (Int) × Int × (List (Int × Int × Int × List (ByteArray) × List (Bool) × Int)) × Int × Unit) × (Int × Unit) × Unit) : Option (Bool × Unit × (Int × Unit) × Unit) :=
some ((decide (x.1.1 = x.2.1.1)), ((), ((x.2.1.1, ()), ())))
theorem t_i_userAt_1 (k : Nat) (x) : evF TTabO k [] [] Tryz.f132 (.cons yP4 (.cons (.ptr 0 yP3) .nil)) .bool x = i_userAt_1 k x := by kernel_rfl
theorem e_i_userAt_1 [Names] (k : Nat) : EntryOk Tryz.prog ⟨132, 0, (.cons yP4 (.cons (.ptr 0 yP3) .nil)), .bool, i_userAt_1 k⟩ := entry_ok tokO (by simp) (by kernel_rfl) (fn := Tryz.f132) (k := k) (es := []) (loops := []) (by kernel_rfl) (by kernel_rfl) (fun x r h => (t_i_userAt_1 k x).trans h)
def x_slices_IndexFunc_impl_User_impl_User_of_i_userAt_1 (k : Nat) (x : (List (Int × Int × ((Int × ByteArray × ByteArray × Int × List (Int) × Int) × Int × ByteArray × ByteArray × Int × List (Int) × Int) × List (Int × Int × Int × List (ByteArray) × List (Bool) × Int) × Int)) × ((Int × Unit) × Unit) × Unit) : Option (Int × Unit × ((Int × Unit) × Unit) × Unit) :=
(whileK (fun (rec0 : ((List (Int × Int × ((Int × ByteArray × ByteArray × Int × List (Int) × Int) × Int × ByteArray × ByteArray × Int × List (Int) × Int) × List (Int × Int × Int × List (ByteArray) × List (Bool) × Int) × Int)) × ((Int × Unit) × Unit) × Int × Int × Unit) → Option _) (y0 : (List (Int × Int × ((Int × ByteArray × ByteArray × Int × List (Int) × Int) × Int × ByteArray × ByteArray × Int × List (Int) × Int) × List (Int × Int × Int × List (ByteArray) × List (Bool) × Int) × Int)) × ((Int × Unit) × Unit) × Int × Int × Unit) =>
(if (decide (y0.2.2.2.1 < y0.2.2.1)) = true then
(if 0 ≤ y0.2.2.2.1 ∧ y0.2.2.2.1 < (List.length y0.1 : Int) then
((i_userAt_1 k (((Ty.rd (t := (.pair (.int .i64) (.pair (.int .i64) (.pair (.pair (.pair (.int .i64) (.pair .str (.pair .str (.pair (.int .i64) (.pair (.list (.int .i64)) (.int .i64)))))) (.pair (.int .i64) (.pair .str (.pair .str (.pair (.int .i64) (.pair (.list (.int .i64)) (.int .i64))))))) (.pair (.list (.pair (.int .i64) (.pair (.int .i64) (.pair (.int .i64) (.pair (.list .str) (.pair (.list .bool) (.int .i64))))))) (.int .i64)))))) y0.1 y0.2.2.2.1).1, ((Ty.rd (t := (.pair (.int .i64) (.pair (.int .i64) (.pair (.pair (.pair (.int .i64) (.pair .str (.pair .str (.pair (.int .i64) (.pair (.list (.int .i64)) (.int .i64)))))) (.pair (.int .i64) (.pair .str (.pair .str (.pair (.int .i64) (.pair (.list (.int .i64)) (.int .i64))))))) (.pair (.list (.pair (.int .i64) (.pair (.int .i64) (.pair (.int .i64) (.pair (.list .str) (.pair (.list .bool) (.int .i64))))))) (.int .i64)))))) y0.1 y0.2.2.2.1).2.1, ((Ty.rd (t := (.pair (.int .i64) (.pair (.int .i64) (.pair (.pair (.pair (.int .i64) (.pair .str (.pair .str (.pair (.int .i64) (.pair (.list (.int .i64)) (.int .i64)))))) (.pair (.int .i64) (.pair .str (.pair .str (.pair (.int .i64) (.pair (.list (.int .i64)) (.int .i64))))))) (.pair (.list (.pair (.int .i64) (.pair (.int .i64) (.pair (.int .i64) (.pair (.list .str) (.pair (.list .bool) (.int .i64))))))) (.int .i64)))))) y0.1 y0.2.2.2.1).2.2.1.1.1, ((Ty.rd (t := (.pair (.int .i64) (.pair (.int .i64) (.pair (.pair (.pair (.int .i64) (.pair .str (.pair .str (.pair (.int .i64) (.pair (.list (.int .i64)) (.int .i64)))))) (.pair (.int .i64) (.pair .str (.pair .str (.pair (.int .i64) (.pair (.list (.int .i64)) (.int .i64))))))) (.pair (.list (.pair (.int .i64) (.pair (.int .i64) (.pair (.int .i64) (.pair (.list .str) (.pair (.list .bool) (.int .i64))))))) (.int .i64)))))) y0.1 y0.2.2.2.1).2.2.1.1.2.1, ((Ty.rd (t := (.pair (.int .i64) (.pair (.int .i64) (.pair (.pair (.pair (.int .i64) (.pair .str (.pair .str (.pair (.int .i64) (.pair (.list (.int .i64)) (.int .i64)))))) (.pair (.int .i64) (.pair .str (.pair .str (.pair (.int .i64) (.pair (.list (.int .i64)) (.int .i64))))))) (.pair (.list (.pair (.int .i64) (.pair (.int .i64) (.pair (.int .i64) (.pair (.list .str) (.pair (.list .bool) (.int .i64))))))) (.int .i64)))))) y0.1 y0.2.2.2.1).2.2.1.1.2.2.1, ((Ty.rd (t := (.pair (.int .i64) (.pair (.int .i64) (.pair (.pair (.pair (.int .i64) (.pair .str (.pair .str (.pair (.int .i64) (.pair (.list (.int .i64)) (.int .i64)))))) (.pair (.int .i64) (.pair .str (.pair .str (.pair (.int .i64) (.pair (.list (.int .i64)) (.int .i64))))))) (.pair (.list (.pair (.int .i64) (.pair (.int .i64) (.pair (.int .i64) (.pair (.list .str) (.pair (.list .bool) (.int .i64))))))) (.int .i64)))))) y0.1 y0.2.2.2.1).2.2.1.1.2.2.2.1, ((Ty.rd (t := (.pair (.int .i64) (.pair (.int .i64) (.pair (.pair (.pair (.int .i64) (.pair .str (.pair .str (.pair (.int .i64) (.pair (.list (.int .i64)) (.int .i64)))))) (.pair (.int .i64) (.pair .str (.pair .str (.pair (.int .i64) (.pair (.list (.int .i64)) (.int .i64))))))) (.pair (.list (.pair (.int .i64) (.pair (.int .i64) (.pair (.int .i64) (.pair (.list .str) (.pair (.list .bool) (.int .i64))))))) (.int .i64)))))) y0.1 y0.2.2.2.1).2.2.1.1.2.2.2.2.1, ((Ty.rd (t := (.pair (.int .i64) (.pair (.int .i64) (.pair (.pair (.pair (.int .i64) (.pair .str (.pair .str (.pair (.int .i64) (.pair (.list (.int .i64)) (.int .i64)))))) (.pair (.int .i64) (.pair .str (.pair .str (.pair (.int .i64) (.pair (.list (.int .i64)) (.int .i64))))))) (.pair (.list (.pair (.int .i64) (.pair (.int .i64) (.pair (.int .i64) (.pair (.list .str) (.pair (.list .bool) (.int .i64))))))) (.int .i64)))))) y0.1 y0.2.2.2.1).2.2.1.1.2.2.2.2.2, ((Ty.rd (t := (.pair (.int .i64) (.pair (.int .i64) (.pair (.pair (.pair (.int .i64) (.pair .str (.pair .str (.pair (.int .i64) (.pair (.list (.int .i64)) (.int .i64)))))) (.pair (.int .i64) (.pair .str (.pair .str (.pair (.int .i64) (.pair (.list (.int .i64)) (.int .i64))))))) (.pair (.list (.pair (.int .i64) (.pair (.int .i64) (.pair (.int .i64) (.pair (.list .str) (.pair (.list .bool) (.int .i64))))))) (.int .i64)))))) y0.1 y0.2.2.2.1).2.2.1.2.1, ((Ty.rd (t := (.pair (.int .i64) (.pair (.int .i64) (.pair (.pair (.pair (.int .i64) (.pair .str (.pair .str (.pair (.int .i64) (.pair (.list (.int .i64)) (.int .i64)))))) (.pair (.int .i64) (.pair .str (.pair .str (.pair (.int .i64) (.pair (.list (.int .i64)) (.int .i64))))))) (.pair (.list (.pair (.int .i64) (.pair (.int .i64) (.pair (.int .i64) (.pair (.list .str) (.pair (.list .bool) (.int .i64))))))) (.int .i64)))))) y0.1 y0.2.2.2.1).2.2.1.2.2.1, ((Ty.rd (t := (.pair (.int .i64) (.pair (.int .i64) (.pair (.pair (.pair (.int .i64) (.pair .str (.pair .str (.pair (.int .i64) (.pair (.list (.int .i64)) (.int .i64)))))) (.pair (.int .i64) (.pair .str (.pair .str (.pair (.int .i64) (.pair (.list (.int .i64)) (.int .i64))))))) (.pair (.list (.pair (.int .i64) (.pair (.int .i64) (.pair (.int .i64) (.pair (.list .str) (.pair (.list .bool) (.int .i64))))))) (.int .i64)))))) y0.1 y0.2.2.2.1).2.2.1.2.2.2.1, ((Ty.rd (t := (.pair (.int .i64) (.pair (.int .i64) (.pair (.pair (.pair (.int .i64) (.pair .str (.pair .str (.pair (.int .i64) (.pair (.list (.int .i64)) (.int .i64)))))) (.pair (.int .i64) (.pair .str (.pair .str (.pair (.int .i64) (.pair (.list (.int .i64)) (.int .i64))))))) (.pair (.list (.pair (.int .i64) (.pair (.int .i64) (.pair (.int .i64) (.pair (.list .str) (.pair (.list .bool) (.int .i64))))))) (.int .i64)))))) y0.1 y0.2.2.2.1).2.2.1.2.2.2.2.1, ((Ty.rd (t := (.pair (.int .i64) (.pair (.int .i64) (.pair (.pair (.pair (.int .i64) (.pair .str (.pair .str (.pair (.int .i64) (.pair (.list (.int .i64)) (.int .i64)))))) (.pair (.int .i64) (.pair .str (.pair .str (.pair (.int .i64) (.pair (.list (.int .i64)) (.int .i64))))))) (.pair (.list (.pair (.int .i64) (.pair (.int .i64) (.pair (.int .i64) (.pair (.list .str) (.pair (.list .bool) (.int .i64))))))) (.int .i64)))))) y0.1 y0.2.2.2.1).2.2.1.2.2.2.2.2.1, ((Ty.rd (t := (.pair (.int .i64) (.pair (.int .i64) (.pair (.pair (.pair (.int .i64) (.pair .str (.pair .str (.pair (.int .i64) (.pair (.list (.int .i64)) (.int .i64)))))) (.pair (.int .i64) (.pair .str (.pair .str (.pair (.int .i64) (.pair (.list (.int .i64)) (.int .i64))))))) (.pair (.list (.pair (.int .i64) (.pair (.int .i64) (.pair (.int .i64) (.pair (.list .str) (.pair (.list .bool) (.int .i64))))))) (.int .i64)))))) y0.1 y0.2.2.2.1).2.2.1.2.2.2.2.2.2, ((Ty.rd (t := (.pair (.int .i64) (.pair (.int .i64) (.pair (.pair (.pair (.int .i64) (.pair .str (.pair .str (.pair (.int .i64) (.pair (.list (.int .i64)) (.int .i64)))))) (.pair (.int .i64) (.pair .str (.pair .str (.pair (.int .i64) (.pair (.list (.int .i64)) (.int .i64))))))) (.pair (.list (.pair (.int .i64) (.pair (.int .i64) (.pair (.int .i64) (.pair (.list .str) (.pair (.list .bool) (.int .i64))))))) (.int .i64)))))) y0.1 y0.2.2.2.1).2.2.2.1, ((Ty.rd (t := (.pair (.int .i64) (.pair (.int .i64) (.pair (.pair (.pair (.int .i64) (.pair .str (.pair .str (.pair (.int .i64) (.pair (.list (.int .i64)) (.int .i64)))))) (.pair (.int .i64) (.pair .str (.pair .str (.pair (.int .i64) (.pair (.list (.int .i64)) (.int .i64))))))) (.pair (.list (.pair (.int .i64) (.pair (.int .i64) (.pair (.int .i64) (.pair (.list .str) (.pair (.list .bool) (.int .i64))))))) (.int .i64)))))) y0.1 y0.2.2.2.1).2.2.2.2, ())))))))))))))))), ((y0.2.1.1.1, ()), ()))).bind fun p1 =>
(if p1.1 = true then
some (y0.2.2.2.1, ((), (((p1.2.2.1.1, ()), ()), ())))
else
(rec0 (y0.1, (((p1.2.2.1.1, ()), ()), (y0.2.2.1, ((wi64 (y0.2.2.2.1 + (1 : Int))), ())))))))
else none)
else
((fun (z1 : ((Int × Unit) × Unit) × Unit) =>
some ((-1 : Int), ((), (((z1.1.1.1, ()), ()), ())))) (((y0.2.1.1.1, ()), ()), ())))) k (x.1, (((x.2.1.1.1, ()), ()), ((List.length x.1 : Int), ((0 : Int), ())))))
theorem t_x_slices_IndexFunc_impl_User_impl_User_of_i_userAt_1 (k : Nat) (x) : evF TTabO k [⟨132, 0, (.cons yP4 (.cons (.ptr 0 yP3) .nil)), .bool, i_userAt_1 k⟩] [(0, ⟨[0, 1, 7, 8], (.cons (.il true yT0) (.cons (.fn 132 (.cons (.ptr 0 yP3) .nil)) (.cons (.int .i64) yP3)))⟩, ⟨[1], (.cons (.fn 132 (.cons (.ptr 0 yP3) .nil)) .nil)⟩)] Tryz.f131 (.cons (.il true yT0) (.cons (.fn 132 (.cons (.ptr 0 yP3) .nil)) .nil)) (.int .i64) x = x_slices_IndexFunc_impl_User_impl_User_of_i_userAt_1 k x := by kernel_rfl
theorem e_x_slices_IndexFunc_impl_User_impl_User_of_i_userAt_1 [Names] (k : Nat) : EntryOk Tryz.prog ⟨131, 133, (.cons (.il true yT0) (.cons (.fn 132 (.cons (.ptr 0 yP3) .nil)) .nil)), (.int .i64), x_slices_IndexFunc_impl_User_impl_User_of_i_userAt_1 k⟩ := entry_ok tokO (by intro e he; simp only [List.mem_cons, List.not_mem_nil, or_false] at he; rcases he with rfl <;> first | exact e_i_userAt_1 k) (by kernel_rfl) (fn := Tryz.f131) (k := k) (es := [⟨132, 0, (.cons yP4 (.cons (.ptr 0 yP3) .nil)), .bool, i_userAt_1 k⟩]) (loops := [(0, ⟨[0, 1, 7, 8], (.cons (.il true yT0) (.cons (.fn 132 (.cons (.ptr 0 yP3) .nil)) (.cons (.int .i64) yP3)))⟩, ⟨[1], (.cons (.fn 132 (.cons (.ptr 0 yP3) .nil)) .nil)⟩)]) (by kernel_rfl) (by kernel_rfl) (fun x r h => (t_x_slices_IndexFunc_impl_User_impl_User_of_i_userAt_1 k x).trans h)
def i_userAt (k : Nat) (x : (List (Int × Int × ((Int × ByteArray × ByteArray × Int × List (Int) × Int) × Int × ByteArray × ByteArray × Int × List (Int) × Int) × List (Int × Int × Int × List (ByteArray) × List (Bool) × Int) × Int)) × Int × Unit) : Option (Int × Unit × Unit × Unit) :=
((x_slices_IndexFunc_impl_User_impl_User_of_i_userAt_1 k (x.1, (((x.2.1, ()), ()), ()))).bind fun p1 =>
some (p1.1, ((), ((), ()))))
theorem t_i_userAt (k : Nat) (x) : evF TTabO k [⟨131, 133, (.cons (.il true yT0) (.cons (.fn 132 (.cons (.ptr 0 yP3) .nil)) .nil)), (.int .i64), x_slices_IndexFunc_impl_User_impl_User_of_i_userAt_1 k⟩] [] Tryz.f56 (.cons (.il true yT0) yP3) (.int .i64) x = i_userAt k x := by kernel_rfl
theorem e_i_userAt [Names] (k : Nat) : EntryOk Tryz.prog ⟨56, 0, (.cons (.il true yT0) yP3), (.int .i64), i_userAt k⟩ := entry_ok tokO (by intro e he; simp only [List.mem_cons, List.not_mem_nil, or_false] at he; rcases he with rfl <;> first | exact e_x_slices_IndexFunc_impl_User_impl_User_of_i_userAt_1 k) (by kernel_rfl) (fn := Tryz.f56) (k := k) (es := [⟨131, 133, (.cons (.il true yT0) (.cons (.fn 132 (.cons (.ptr 0 yP3) .nil)) .nil)), (.int .i64), x_slices_IndexFunc_impl_User_impl_User_of_i_userAt_1 k⟩]) (loops := []) (by kernel_rfl) (by kernel_rfl) (fun x r h => (t_i_userAt k x).trans h)
def i_isId (k : Nat) (x : Int × Unit) : Option (Bool × Unit × Unit) :=
((i_within k (x.1, ((1 : Int), ((99 : Int), ())))).bind fun p1 =>
some (p1.1, ((), ())))
theorem t_i_isId (k : Nat) (x) : evF TTab k [⟨55, 0, yP11, .bool, i_within k⟩] [] Tryz.f133 yP3 .bool x = i_isId k x := by kernel_rfl
theorem e_i_isId [Names] (k : Nat) : EntryOk Tryz.prog ⟨133, 0, yP3, .bool, i_isId k⟩ := entry_ok tok (by intro e he; simp only [List.mem_cons, List.not_mem_nil, or_false] at he; rcases he with rfl <;> first | exact e_i_within k) (by kernel_rfl) (fn := Tryz.f133) (k := k) (es := [⟨55, 0, yP11, .bool, i_within k⟩]) (loops := []) (by kernel_rfl) (by kernel_rfl) (fun x r h => (t_i_isId k x).trans h)
def i_AddrOk (k : Nat) (x : Int × Unit) : Option (Bool × Unit × Unit) :=
((i_within k (x.1, ((0 : Int), ((4294967295 : Int), ())))).bind fun p1 =>
some (p1.1, ((), ())))
theorem t_i_AddrOk (k : Nat) (x) : evF TTab k [⟨55, 0, yP11, .bool, i_within k⟩] [] Tryz.f236 yP3 .bool x = i_AddrOk k x := by kernel_rfl
theorem e_i_AddrOk [Names] (k : Nat) : EntryOk Tryz.prog ⟨236, 0, yP3, .bool, i_AddrOk k⟩ := entry_ok tok (by intro e he; simp only [List.mem_cons, List.not_mem_nil, or_false] at he; rcases he with rfl <;> first | exact e_i_within k) (by kernel_rfl) (fn := Tryz.f236) (k := k) (es := [⟨55, 0, yP11, .bool, i_within k⟩]) (loops := []) (by kernel_rfl) (by kernel_rfl) (fun x r h => (t_i_AddrOk k x).trans h)
def i_lastBits (k : Nat) (x : Int × Unit) : Option (Int × Unit × Unit) :=
(if (wi64 ((32 : Int) - x.1)) < 0 then
none
else
some ((wi64 ((wi64 ((1 : Int) * 2 ^ (min (Int.toNat (wi64 ((32 : Int) - x.1))) (IntKind.bits .i64)))) - (1 : Int))), ((), ())))
theorem t_i_lastBits (k : Nat) (x) : evF TTab k [] [] Tryz.f237 yP3 (.int .i64) x = i_lastBits k x := by kernel_rfl
theorem e_i_lastBits [Names] (k : Nat) : EntryOk Tryz.prog ⟨237, 0, yP3, (.int .i64), i_lastBits k⟩ := entry_ok tok (by simp) (by kernel_rfl) (fn := Tryz.f237) (k := k) (es := []) (loops := []) (by kernel_rfl) (by kernel_rfl) (fun x r h => (t_i_lastBits k x).trans h)
def i_PrefixOk (k : Nat) (x : (Int × Int × Unit) × Unit) : Option (Bool × Unit × Unit) :=
((i_AddrOk k (x.1.1, ())).bind fun p1 =>
(if p1.1 = true then
((i_within k (x.1.2.1, ((0 : Int), ((32 : Int), ())))).bind fun p2 =>
(if p2.1 = true then
((i_lastBits k (x.1.2.1, ())).bind fun p3 =>
some ((decide ((bitsI .and .i64 x.1.1 p3.1) = (0 : Int))), ((), ())))
else
some (false, ((), ()))))
else
some (false, ((), ()))))
theorem t_i_PrefixOk (k : Nat) (x) : evF TTab k [⟨55, 0, yP11, .bool, i_within k⟩, ⟨236, 0, yP3, .bool, i_AddrOk k⟩, ⟨237, 0, yP3, (.int .i64), i_lastBits k⟩] [] Tryz.f211 (.cons yP14 .nil) .bool x = i_PrefixOk k x := by kernel_rfl
theorem e_i_PrefixOk [Names] (k : Nat) : EntryOk Tryz.prog ⟨211, 0, (.cons yP14 .nil), .bool, i_PrefixOk k⟩ := entry_ok tok (by intro e he; simp only [List.mem_cons, List.not_mem_nil, or_false] at he; rcases he with rfl | rfl | rfl <;> first | exact e_i_within k | exact e_i_AddrOk k | exact e_i_lastBits k) (by kernel_rfl) (fn := Tryz.f211) (k := k) (es := [⟨55, 0, yP11, .bool, i_within k⟩, ⟨236, 0, yP3, .bool, i_AddrOk k⟩, ⟨237, 0, yP3, (.int .i64), i_lastBits k⟩]) (loops := []) (by kernel_rfl) (by kernel_rfl) (fun x r h => (t_i_PrefixOk k x).trans h)
def i_withoutPrefix_1 (k : Nat) (x : (Int × Int × Int × Unit) × (Int × Int × Unit) × Unit) : Option (Bool × Unit × (Int × Int × Unit) × Unit) :=
some ((decide (x.1.1 = x.2.1.1) && decide (x.1.2.1 = x.2.1.2.1)), ((), ((x.2.1.1, (x.2.1.2.1, ())), ())))
theorem t_i_withoutPrefix_1 (k : Nat) (x) : evF TTab k [] [] Tryz.f222 (.cons (.agg yP11) yP23) .bool x = i_withoutPrefix_1 k x := by kernel_rfl
theorem e_i_withoutPrefix_1 [Names] (k : Nat) : EntryOk Tryz.prog ⟨222, 0, (.cons (.agg yP11) yP23), .bool, i_withoutPrefix_1 k⟩ := entry_ok tok (by simp) (by kernel_rfl) (fn := Tryz.f222) (k := k) (es := []) (loops := []) (by kernel_rfl) (by kernel_rfl) (fun x r h => (t_i_withoutPrefix_1 k x).trans h)
def x_slices_IndexFunc_impl_Route_impl_Route_of_i_withoutPrefix_1 (k : Nat) (x : (List ((Int × Int) × Int)) × ((Int × Int × Unit) × Unit) × Unit) : Option (Int × Unit × ((Int × Int × Unit) × Unit) × Unit) :=
(whileK (fun (rec0 : ((List ((Int × Int) × Int)) × ((Int × Int × Unit) × Unit) × Int × Int × Unit) → Option _) (y0 : (List ((Int × Int) × Int)) × ((Int × Int × Unit) × Unit) × Int × Int × Unit) =>
(if (decide (y0.2.2.2.1 < y0.2.2.1)) = true then
(if 0 ≤ y0.2.2.2.1 ∧ y0.2.2.2.1 < (List.length y0.1 : Int) then
((i_withoutPrefix_1 k (((Ty.rd (t := (.pair (.pair (.int .i64) (.int .i64)) (.int .i64))) y0.1 y0.2.2.2.1).1.1, ((Ty.rd (t := (.pair (.pair (.int .i64) (.int .i64)) (.int .i64))) y0.1 y0.2.2.2.1).1.2, ((Ty.rd (t := (.pair (.pair (.int .i64) (.int .i64)) (.int .i64))) y0.1 y0.2.2.2.1).2, ()))), ((y0.2.1.1.1, (y0.2.1.1.2.1, ())), ()))).bind fun p1 =>
(if p1.1 = true then
some (y0.2.2.2.1, ((), (((p1.2.2.1.1, (p1.2.2.1.2.1, ())), ()), ())))
else
(rec0 (y0.1, (((p1.2.2.1.1, (p1.2.2.1.2.1, ())), ()), (y0.2.2.1, ((wi64 (y0.2.2.2.1 + (1 : Int))), ())))))))
else none)
else
((fun (z1 : ((Int × Int × Unit) × Unit) × Unit) =>
some ((-1 : Int), ((), (((z1.1.1.1, (z1.1.1.2.1, ())), ()), ())))) (((y0.2.1.1.1, (y0.2.1.1.2.1, ())), ()), ())))) k (x.1, (((x.2.1.1.1, (x.2.1.1.2.1, ())), ()), ((List.length x.1 : Int), ((0 : Int), ())))))
theorem t_x_slices_IndexFunc_impl_Route_impl_Route_of_i_withoutPrefix_1 (k : Nat) (x) : evF TTab k [⟨222, 0, (.cons (.agg yP11) yP23), .bool, i_withoutPrefix_1 k⟩] [(0, ⟨[0, 1, 7, 8], (.cons yP13 (.cons (.fn 222 yP23) (.cons (.int .i64) yP3)))⟩, ⟨[1], (.cons (.fn 222 yP23) .nil)⟩)] Tryz.f235 (.cons yP13 (.cons (.fn 222 yP23) .nil)) (.int .i64) x = x_slices_IndexFunc_impl_Route_impl_Route_of_i_withoutPrefix_1 k x := by kernel_rfl
theorem e_x_slices_IndexFunc_impl_Route_impl_Route_of_i_withoutPrefix_1 [Names] (k : Nat) : EntryOk Tryz.prog ⟨235, 223, (.cons yP13 (.cons (.fn 222 yP23) .nil)), (.int .i64), x_slices_IndexFunc_impl_Route_impl_Route_of_i_withoutPrefix_1 k⟩ := entry_ok tok (by intro e he; simp only [List.mem_cons, List.not_mem_nil, or_false] at he; rcases he with rfl <;> first | exact e_i_withoutPrefix_1 k) (by kernel_rfl) (fn := Tryz.f235) (k := k) (es := [⟨222, 0, (.cons (.agg yP11) yP23), .bool, i_withoutPrefix_1 k⟩]) (loops := [(0, ⟨[0, 1, 7, 8], (.cons yP13 (.cons (.fn 222 yP23) (.cons (.int .i64) yP3)))⟩, ⟨[1], (.cons (.fn 222 yP23) .nil)⟩)]) (by kernel_rfl) (by kernel_rfl) (fun x r h => (t_x_slices_IndexFunc_impl_Route_impl_Route_of_i_withoutPrefix_1 k x).trans h)
def x_slices_DeleteFunc_impl_Route_impl_Route_of_i_withoutPrefix_1 (k : Nat) (x : (List ((Int × Int) × Int)) × ((Int × Int × Unit) × Unit) × Unit) : Option ((List ((Int × Int) × Int)) × Unit × ((Int × Int × Unit) × Unit) × Unit) :=
((x_slices_IndexFunc_impl_Route_impl_Route_of_i_withoutPrefix_1 k (x.1, (((x.2.1.1.1, (x.2.1.1.2.1, ())), ()), ()))).bind fun p1 =>
(if (decide (p1.1 = (-1 : Int))) = true then
some (x.1, ((), (((p1.2.2.1.1.1, (p1.2.2.1.1.2.1, ())), ()), ())))
else
(whileK (fun (rec0 : ((List ((Int × Int) × Int)) × ((Int × Int × Unit) × Unit) × Int × Int × Unit) → Option _) (y0 : (List ((Int × Int) × Int)) × ((Int × Int × Unit) × Unit) × Int × Int × Unit) =>
(if (decide (y0.2.2.2.1 < (List.length y0.1 : Int))) = true then
(if 0 ≤ y0.2.2.2.1 ∧ y0.2.2.2.1 < (List.length y0.1 : Int) then
((i_withoutPrefix_1 k (((Ty.rd (t := (.pair (.pair (.int .i64) (.int .i64)) (.int .i64))) y0.1 y0.2.2.2.1).1.1, ((Ty.rd (t := (.pair (.pair (.int .i64) (.int .i64)) (.int .i64))) y0.1 y0.2.2.2.1).1.2, ((Ty.rd (t := (.pair (.pair (.int .i64) (.int .i64)) (.int .i64))) y0.1 y0.2.2.2.1).2, ()))), ((y0.2.1.1.1, (y0.2.1.1.2.1, ())), ()))).bind fun p2 =>
(if (!p2.1) = true then
(if 0 ≤ y0.2.2.1 ∧ y0.2.2.1 < (List.length y0.1 : Int) then
(rec0 ((List.set y0.1 (Int.toNat y0.2.2.1) (((Ty.rd (t := (.pair (.pair (.int .i64) (.int .i64)) (.int .i64))) y0.1 y0.2.2.2.1).1.1, (Ty.rd (t := (.pair (.pair (.int .i64) (.int .i64)) (.int .i64))) y0.1 y0.2.2.2.1).1.2), (Ty.rd (t := (.pair (.pair (.int .i64) (.int .i64)) (.int .i64))) y0.1 y0.2.2.2.1).2)), (((p2.2.2.1.1, (p2.2.2.1.2.1, ())), ()), ((wi64 (y0.2.2.1 + (1 : Int))), ((wi64 (y0.2.2.2.1 + (1 : Int))), ())))))
else none)
else
(rec0 (y0.1, (((p2.2.2.1.1, (p2.2.2.1.2.1, ())), ()), (y0.2.2.1, ((wi64 (y0.2.2.2.1 + (1 : Int))), ())))))))
else none)
else
((fun (z1 : (List ((Int × Int) × Int)) × ((Int × Int × Unit) × Unit) × Int × Unit) =>
(if 0 ≤ z1.2.2.1 ∧ z1.2.2.1 ≤ (List.length z1.1 : Int) then
(if 0 ≤ z1.2.2.1 ∧ z1.2.2.1 ≤ (List.length (List.take (Int.toNat z1.2.2.1) z1.1 ++ (List.replicate (Int.toNat ((List.length z1.1 : Int) - z1.2.2.1)) (((0 : Int), (0 : Int)), (0 : Int)) ++ List.drop (Int.toNat (List.length z1.1 : Int)) z1.1)) : Int) then
some ((List.drop (Int.toNat (0 : Int)) (List.take (Int.toNat z1.2.2.1) (List.take (Int.toNat z1.2.2.1) z1.1 ++ (List.replicate (Int.toNat ((List.length z1.1 : Int) - z1.2.2.1)) (((0 : Int), (0 : Int)), (0 : Int)) ++ List.drop (Int.toNat (List.length z1.1 : Int)) z1.1)))), ((), (((z1.2.1.1.1, (z1.2.1.1.2.1, ())), ()), ())))
else none)
else none)) (y0.1, (((y0.2.1.1.1, (y0.2.1.1.2.1, ())), ()), (y0.2.2.1, ())))))) k (x.1, (((p1.2.2.1.1.1, (p1.2.2.1.1.2.1, ())), ()), (p1.1, ((wi64 (p1.1 + (1 : Int))), ())))))))
theorem t_x_slices_DeleteFunc_impl_Route_impl_Route_of_i_withoutPrefix_1 (k : Nat) (x) : evF TTab k [⟨222, 0, (.cons (.agg yP11) yP23), .bool, i_withoutPrefix_1 k⟩, ⟨235, 223, (.cons yP13 (.cons (.fn 222 yP23) .nil)), (.int .i64), x_slices_IndexFunc_impl_Route_impl_Route_of_i_withoutPrefix_1 k⟩] [(0, ⟨[0, 1, 5, 6], (.cons yP10 (.cons (.fn 222 yP23) (.cons (.int .i64) yP3)))⟩, ⟨[0, 1, 5], (.cons yP10 (.cons (.fn 222 yP23) yP3))⟩)] Tryz.f150 (.cons yP10 (.cons (.fn 222 yP23) .nil)) yP10 x = x_slices_DeleteFunc_impl_Route_impl_Route_of_i_withoutPrefix_1 k x := by kernel_rfl
theorem e_x_slices_DeleteFunc_impl_Route_impl_Route_of_i_withoutPrefix_1 [Names] (k : Nat) : EntryOk Tryz.prog ⟨150, 223, (.cons yP10 (.cons (.fn 222 yP23) .nil)), yP10, x_slices_DeleteFunc_impl_Route_impl_Route_of_i_withoutPrefix_1 k⟩ := entry_ok tok (by intro e he; simp only [List.mem_cons, List.not_mem_nil, or_false] at he; rcases he with rfl | rfl <;> first | exact e_i_withoutPrefix_1 k | exact e_x_slices_IndexFunc_impl_Route_impl_Route_of_i_withoutPrefix_1 k) (by kernel_rfl) (fn := Tryz.f150) (k := k) (es := [⟨222, 0, (.cons (.agg yP11) yP23), .bool, i_withoutPrefix_1 k⟩, ⟨235, 223, (.cons yP13 (.cons (.fn 222 yP23) .nil)), (.int .i64), x_slices_IndexFunc_impl_Route_impl_Route_of_i_withoutPrefix_1 k⟩]) (loops := [(0, ⟨[0, 1, 5, 6], (.cons yP10 (.cons (.fn 222 yP23) (.cons (.int .i64) yP3)))⟩, ⟨[0, 1, 5], (.cons yP10 (.cons (.fn 222 yP23) yP3))⟩)]) (by kernel_rfl) (by kernel_rfl) (fun x r h => (t_x_slices_DeleteFunc_impl_Route_impl_Route_of_i_withoutPrefix_1 k x).trans h)
def i_withoutPrefix (k : Nat) (x : (List ((Int × Int) × Int)) × (Int × Int × Unit) × Unit) : Option ((List ((Int × Int) × Int)) × Unit × Unit × Unit) :=
((i_copyRoutes k (x.1, ())).bind fun p1 =>
((x_slices_DeleteFunc_impl_Route_impl_Route_of_i_withoutPrefix_1 k (p1.1, (((x.2.1.1, (x.2.1.2.1, ())), ()), ()))).bind fun p2 =>
some (p2.1, ((), ((), ())))))
theorem t_i_withoutPrefix (k : Nat) (x) : evF TTab k [⟨129, 0, (.cons yP13 .nil), yP10, i_copyRoutes k⟩, ⟨150, 223, (.cons yP10 (.cons (.fn 222 yP23) .nil)), yP10, x_slices_DeleteFunc_impl_Route_impl_Route_of_i_withoutPrefix_1 k⟩] [] Tryz.f137 (.cons yP13 (.cons yP14 .nil)) yP10 x = i_withoutPrefix k x := by kernel_rfl
theorem e_i_withoutPrefix [Names] (k : Nat) : EntryOk Tryz.prog ⟨137, 0, (.cons yP13 (.cons yP14 .nil)), yP10, i_withoutPrefix k⟩ := entry_ok tok (by intro e he; simp only [List.mem_cons, List.not_mem_nil, or_false] at he; rcases he with rfl | rfl <;> first | exact e_i_copyRoutes k | exact e_x_slices_DeleteFunc_impl_Route_impl_Route_of_i_withoutPrefix_1 k) (by kernel_rfl) (fn := Tryz.f137) (k := k) (es := [⟨129, 0, (.cons yP13 .nil), yP10, i_copyRoutes k⟩, ⟨150, 223, (.cons yP10 (.cons (.fn 222 yP23) .nil)), yP10, x_slices_DeleteFunc_impl_Route_impl_Route_of_i_withoutPrefix_1 k⟩]) (loops := []) (by kernel_rfl) (by kernel_rfl) (fun x r h => (t_i_withoutPrefix k x).trans h)
def x_cmp_Or_int (k : Nat) (x : List (Int) × Unit) : Option (Int × Unit × Unit) :=
(whileK (fun (rec0 : (Int × List (Int) × Int × Int × Unit) → Option _) (y0 : Int × List (Int) × Int × Int × Unit) =>
(if (decide (y0.2.2.2.1 < y0.2.2.1)) = true then
(if 0 ≤ y0.2.2.2.1 ∧ y0.2.2.2.1 < (List.length y0.2.1 : Int) then
(if (!decide ((Ty.rd (t := (.int .i64)) y0.2.1 y0.2.2.2.1) = y0.1)) = true then
some ((Ty.rd (t := (.int .i64)) y0.2.1 y0.2.2.2.1), ((), ()))
else
(rec0 (y0.1, (y0.2.1, (y0.2.2.1, ((wi64 (y0.2.2.2.1 + (1 : Int))), ()))))))
else none)
else
((fun (z1 : Int × Unit) =>
some (z1.1, ((), ()))) (y0.1, ())))) k ((0 : Int), (x.1, ((List.length x.1 : Int), ((0 : Int), ())))))
theorem t_x_cmp_Or_int (k : Nat) (x) : evF TTab k [] [(0, ⟨[3, 6, 7, 8], (.cons (.int .i64) (.cons (.il true (.int .i64)) (.cons (.int .i64) yP3)))⟩, ⟨[3], yP3⟩)] Tryz.f223 yP30 (.int .i64) x = x_cmp_Or_int k x := by kernel_rfl
theorem e_x_cmp_Or_int [Names] (k : Nat) : EntryOk Tryz.prog ⟨223, 0, yP30, (.int .i64), x_cmp_Or_int k⟩ := entry_ok tok (by simp) (by kernel_rfl) (fn := Tryz.f223) (k := k) (es := []) (loops := [(0, ⟨[3, 6, 7, 8], (.cons (.int .i64) (.cons (.il true (.int .i64)) (.cons (.int .i64) yP3)))⟩, ⟨[3], yP3⟩)]) (by kernel_rfl) (by kernel_rfl) (fun x r h => (t_x_cmp_Or_int k x).trans h)
def x_cmp_isNaN_int (k : Nat) (x : Int × Unit) : Option (Bool × Unit × Unit) :=
some ((!decide (x.1 = x.1)), ((), ()))
theorem t_x_cmp_isNaN_int (k : Nat) (x) : evF TTab k [] [] Tryz.f282 yP3 .bool x = x_cmp_isNaN_int k x := by kernel_rfl
theorem e_x_cmp_isNaN_int [Names] (k : Nat) : EntryOk Tryz.prog ⟨282, 0, yP3, .bool, x_cmp_isNaN_int k⟩ := entry_ok tok (by simp) (by kernel_rfl) (fn := Tryz.f282) (k := k) (es := []) (loops := []) (by kernel_rfl) (by kernel_rfl) (fun x r h => (t_x_cmp_isNaN_int k x).trans h)
def x_cmp_Compare_int (k : Nat) (x : Int × Int × Unit) : Option (Int × Unit × Unit × Unit) :=
((x_cmp_isNaN_int k (x.1, ())).bind fun p1 =>
((x_cmp_isNaN_int k (x.2.1, ())).bind fun p2 =>
(if p1.1 = true then
(if p2.1 = true then
some ((0 : Int), ((), ((), ())))
else
some ((-1 : Int), ((), ((), ()))))
else
(if p2.1 = true then
some ((1 : Int), ((), ((), ())))
else
(if (decide (x.1 < x.2.1)) = true then
some ((-1 : Int), ((), ((), ())))
else
(if (decide (x.2.1 < x.1)) = true then
some ((1 : Int), ((), ((), ())))
else
some ((0 : Int), ((), ((), ())))))))))
theorem t_x_cmp_Compare_int (k : Nat) (x) : evF TTab k [⟨282, 0, yP3, .bool, x_cmp_isNaN_int k⟩] [] Tryz.f224 (.cons (.int .i64) yP3) (.int .i64) x = x_cmp_Compare_int k x := by kernel_rfl
theorem e_x_cmp_Compare_int [Names] (k : Nat) : EntryOk Tryz.prog ⟨224, 0, (.cons (.int .i64) yP3), (.int .i64), x_cmp_Compare_int k⟩ := entry_ok tok (by intro e he; simp only [List.mem_cons, List.not_mem_nil, or_false] at he; rcases he with rfl <;> first | exact e_x_cmp_isNaN_int k) (by kernel_rfl) (fn := Tryz.f224) (k := k) (es := [⟨282, 0, yP3, .bool, x_cmp_isNaN_int k⟩]) (loops := []) (by kernel_rfl) (by kernel_rfl) (fun x r h => (t_x_cmp_Compare_int k x).trans h)
def i_comparePrefixes (k : Nat) (x : (Int × Int × Unit) × (Int × Int × Unit) × Unit) : Option (Int × Unit × Unit × Unit) :=
((x_cmp_Compare_int k (x.1.1, (x.2.1.1, ()))).bind fun p1 =>
((x_cmp_Compare_int k (x.1.2.1, (x.2.1.2.1, ()))).bind fun p2 =>
((x_cmp_Or_int k (([p1.1, p2.1] : List (Int)), ())).bind fun p3 =>
some (p3.1, ((), ((), ()))))))
theorem t_i_comparePrefixes (k : Nat) (x) : evF TTab k [⟨223, 0, yP30, (.int .i64), x_cmp_Or_int k⟩, ⟨224, 0, (.cons (.int .i64) yP3), (.int .i64), x_cmp_Compare_int k⟩] [] Tryz.f138 yP28 (.int .i64) x = i_comparePrefixes k x := by kernel_rfl
theorem e_i_comparePrefixes [Names] (k : Nat) : EntryOk Tryz.prog ⟨138, 0, yP28, (.int .i64), i_comparePrefixes k⟩ := entry_ok tok (by intro e he; simp only [List.mem_cons, List.not_mem_nil, or_false] at he; rcases he with rfl | rfl <;> first | exact e_x_cmp_Or_int k | exact e_x_cmp_Compare_int k) (by kernel_rfl) (fn := Tryz.f138) (k := k) (es := [⟨223, 0, yP30, (.int .i64), x_cmp_Or_int k⟩, ⟨224, 0, (.cons (.int .i64) yP3), (.int .i64), x_cmp_Compare_int k⟩]) (loops := []) (by kernel_rfl) (by kernel_rfl) (fun x r h => (t_i_comparePrefixes k x).trans h)
def x_slices_Insert_impl_Route_impl_Route (k : Nat) (x : (List ((Int × Int) × Int)) × Int × (List ((Int × Int) × Int)) × Unit) : Option ((List ((Int × Int) × Int)) × Unit × Unit × Unit × Unit) := insF 24 (.pair (.pair (.int .i64) (.int .i64)) (.int .i64)) x
theorem ins_x_slices_Insert_impl_Route_impl_Route : InsL Tryz.prog ⟨fun n => if n = 29 then 225 else if n = 30 then 226 else n, fun n => if n = 9 then 53 else if n = 24 then 30 else n, fun n => n⟩ 139 3 24 (Tryz.t53.zero.getD default) where
  mixed := by kernel_rfl
  f22 := ⟨Tryz.f139.name, Tryz.func139.trans (by kernel_rfl)⟩
  f29 := ⟨_, Tryz.func225, by kernel_rfl, by kernel_rfl, by kernel_rfl, by kernel_rfl⟩
  t0 := Tryz.underlying0
  a0 := Tryz.isAgg0
  z0 := Tryz.sizeOf0
  v0 := Tryz.zeroValue0
  t3 := Tryz.underlying3
  a3 := Tryz.isAgg3
  z3 := Tryz.sizeOf3
  v3 := Tryz.zeroValue3
  t4 := Tryz.underlying4
  a4 := Tryz.isAgg4
  z4 := Tryz.sizeOf4
  v4 := Tryz.zeroValue4
  t24 := Tryz.underlying30
  a24 := Tryz.isAgg30
  z24 := Tryz.sizeOf30
  v24 := Tryz.zeroValue30
  z9 := Tryz.sizeOf53
  i9 := by kernel_rfl
theorem e_x_slices_Insert_impl_Route_impl_Route [Names] (k : Nat) : EntryOk Tryz.prog ⟨139, 0, (.cons yP10 (.cons (.int .i64) (.cons yP10 .nil))), yP10, x_slices_Insert_impl_Route_impl_Route k⟩ := entry_insert (t := (.pair yT2 (.int .i64))) ins_x_slices_Insert_impl_Route_impl_Route (by decide) (by decide) (by kernel_rfl) Tryz.func139 (by kernel_rfl)
def i_RoutesOk (k : Nat) (x : (List ((Int × Int) × Int)) × Unit) : Option (Bool × Unit × Unit) :=
(whileK (fun (rec0 : ((List ((Int × Int) × Int)) × (List ((Int × Int) × Int)) × Int × Int × Unit) → Option _) (y0 : (List ((Int × Int) × Int)) × (List ((Int × Int) × Int)) × Int × Int × Unit) =>
(if (decide (y0.2.2.2.1 < y0.2.2.1)) = true then
(if 0 ≤ y0.2.2.2.1 ∧ y0.2.2.2.1 < (List.length y0.2.1 : Int) then
((i_PrefixOk k (((Ty.rd (t := (.pair (.pair (.int .i64) (.int .i64)) (.int .i64))) y0.2.1 y0.2.2.2.1).1.1, ((Ty.rd (t := (.pair (.pair (.int .i64) (.int .i64)) (.int .i64))) y0.2.1 y0.2.2.2.1).1.2, ())), ())).bind fun p1 =>
(if (!p1.1) = false then
((i_isId k ((Ty.rd (t := (.pair (.pair (.int .i64) (.int .i64)) (.int .i64))) y0.2.1 y0.2.2.2.1).2, ())).bind fun p2 =>
(if (!p2.1) = false then
(if (decide ((0 : Int) < y0.2.2.2.1)) = true then
(if 0 ≤ (wi64 (y0.2.2.2.1 - (1 : Int))) ∧ (wi64 (y0.2.2.2.1 - (1 : Int))) < (List.length y0.1 : Int) then
((i_comparePrefixes k (((Ty.rd (t := (.pair (.pair (.int .i64) (.int .i64)) (.int .i64))) y0.1 (wi64 (y0.2.2.2.1 - (1 : Int)))).1.1, ((Ty.rd (t := (.pair (.pair (.int .i64) (.int .i64)) (.int .i64))) y0.1 (wi64 (y0.2.2.2.1 - (1 : Int)))).1.2, ())), (((Ty.rd (t := (.pair (.pair (.int .i64) (.int .i64)) (.int .i64))) y0.2.1 y0.2.2.2.1).1.1, ((Ty.rd (t := (.pair (.pair (.int .i64) (.int .i64)) (.int .i64))) y0.2.1 y0.2.2.2.1).1.2, ())), ()))).bind fun p3 =>
(if (decide ((0 : Int) ≤ p3.1)) = true then
some (false, ((), ()))
else
(rec0 (y0.1, (y0.2.1, (y0.2.2.1, ((wi64 (y0.2.2.2.1 + (1 : Int))), ())))))))
else none)
else
(rec0 (y0.1, (y0.2.1, (y0.2.2.1, ((wi64 (y0.2.2.2.1 + (1 : Int))), ()))))))
else
some (false, ((), ()))))
else
some (false, ((), ()))))
else none)
else
((fun (z1 : (List ((Int × Int) × Int)) × Unit) =>
some ((decide ((List.length z1.1 : Int) ≤ (12 : Int))), ((), ()))) (y0.1, ())))) k (x.1, (x.1, ((List.length x.1 : Int), ((0 : Int), ())))))
theorem t_i_RoutesOk (k : Nat) (x) : evF TTab k [⟨133, 0, yP3, .bool, i_isId k⟩, ⟨138, 0, yP28, (.int .i64), i_comparePrefixes k⟩, ⟨211, 0, (.cons yP14 .nil), .bool, i_PrefixOk k⟩] [(0, ⟨[0, 5, 6, 7], (.cons yP13 (.cons yP13 (.cons (.int .i64) yP3)))⟩, ⟨[0], (.cons yP13 .nil)⟩)] Tryz.f140 (.cons yP13 .nil) .bool x = i_RoutesOk k x := by kernel_rfl
theorem e_i_RoutesOk [Names] (k : Nat) : EntryOk Tryz.prog ⟨140, 0, (.cons yP13 .nil), .bool, i_RoutesOk k⟩ := entry_ok tok (by intro e he; simp only [List.mem_cons, List.not_mem_nil, or_false] at he; rcases he with rfl | rfl | rfl <;> first | exact e_i_isId k | exact e_i_comparePrefixes k | exact e_i_PrefixOk k) (by kernel_rfl) (fn := Tryz.f140) (k := k) (es := [⟨133, 0, yP3, .bool, i_isId k⟩, ⟨138, 0, yP28, (.int .i64), i_comparePrefixes k⟩, ⟨211, 0, (.cons yP14 .nil), .bool, i_PrefixOk k⟩]) (loops := [(0, ⟨[0, 5, 6, 7], (.cons yP13 (.cons yP13 (.cons (.int .i64) yP3)))⟩, ⟨[0], (.cons yP13 .nil)⟩)]) (by kernel_rfl) (by kernel_rfl) (fun x r h => (t_i_RoutesOk k x).trans h)
def i_PutRoute (k : Nat) (x : (List ((Int × Int) × Int)) × (Int × Int × Int × Unit) × Unit) : Option (((List ((Int × Int) × Int)) × Bool × Unit) × Unit × Unit × Unit) :=
((i_withoutPrefix k (x.1, ((x.2.1.1, (x.2.1.2.1, ())), ()))).bind fun p1 =>
(jn (fun (z1 : (List ((Int × Int) × Int)) × (Int × Int × Int × Unit) × (List ((Int × Int) × Int)) × Int × Unit) =>
((x_slices_Insert_impl_Route_impl_Route k (z1.2.2.1, (z1.2.2.2.1, (([((z1.2.1.1, z1.2.1.2.1), z1.2.1.2.2.1)] : List ((Int × Int) × Int)), ())))).bind fun p3 =>
((i_RoutesOk k (z1.1, ())).bind fun p4 =>
(if (!p4.1) = false then
((i_RoutesOk k (p3.1, ())).bind fun p5 =>
(if (!p5.1) = true then
((i_copyRoutes k (z1.1, ())).bind fun p6 =>
some ((p6.1, (false, ())), ((), ((), ()))))
else
some ((p3.1, (true, ())), ((), ((), ())))))
else
((i_copyRoutes k (z1.1, ())).bind fun p7 =>
some ((p7.1, (false, ())), ((), ((), ())))))))) (fun (E1 : ((List ((Int × Int) × Int)) × (Int × Int × Int × Unit) × (List ((Int × Int) × Int)) × Int × Unit) → Option _) =>
(whileK (fun (rec0 : ((List ((Int × Int) × Int)) × (Int × Int × Int × Unit) × (List ((Int × Int) × Int)) × Int × Unit) → Option _) (y0 : (List ((Int × Int) × Int)) × (Int × Int × Int × Unit) × (List ((Int × Int) × Int)) × Int × Unit) =>
(if (decide (y0.2.2.2.1 < (List.length y0.2.2.1 : Int))) = true then
(if 0 ≤ y0.2.2.2.1 ∧ y0.2.2.2.1 < (List.length y0.2.2.1 : Int) then
((i_comparePrefixes k (((Ty.rd (t := (.pair (.pair (.int .i64) (.int .i64)) (.int .i64))) y0.2.2.1 y0.2.2.2.1).1.1, ((Ty.rd (t := (.pair (.pair (.int .i64) (.int .i64)) (.int .i64))) y0.2.2.1 y0.2.2.2.1).1.2, ())), ((y0.2.1.1, (y0.2.1.2.1, ())), ()))).bind fun p2 =>
(if (decide (p2.1 < (0 : Int))) = true then
(rec0 (y0.1, ((y0.2.1.1, (y0.2.1.2.1, (y0.2.1.2.2.1, ()))), (y0.2.2.1, ((wi64 (y0.2.2.2.1 + (1 : Int))), ())))))
else
(E1 (y0.1, ((y0.2.1.1, (y0.2.1.2.1, (y0.2.1.2.2.1, ()))), (y0.2.2.1, (y0.2.2.2.1, ())))))))
else none)
else
(E1 (y0.1, ((y0.2.1.1, (y0.2.1.2.1, (y0.2.1.2.2.1, ()))), (y0.2.2.1, (y0.2.2.2.1, ()))))))) k (x.1, ((x.2.1.1, (x.2.1.2.1, (x.2.1.2.2.1, ()))), (p1.1, ((0 : Int), ()))))))))
theorem t_i_PutRoute (k : Nat) (x) : evF TTab k [⟨129, 0, (.cons yP13 .nil), yP10, i_copyRoutes k⟩, ⟨137, 0, (.cons yP13 (.cons yP14 .nil)), yP10, i_withoutPrefix k⟩, ⟨138, 0, yP28, (.int .i64), i_comparePrefixes k⟩, ⟨139, 0, (.cons yP10 (.cons (.int .i64) (.cons yP10 .nil))), yP10, x_slices_Insert_impl_Route_impl_Route k⟩, ⟨140, 0, (.cons yP13 .nil), .bool, i_RoutesOk k⟩] [(0, ⟨[0, 3, 6, 7], (.cons yP13 (.cons (.ptr 0 yP11) (.cons yP10 yP3)))⟩, ⟨[0, 3, 6, 7], (.cons yP13 (.cons (.ptr 0 yP11) (.cons yP10 yP3)))⟩)] Tryz.f58 (.cons yP13 yP32) (.tup (.cons yP10 (.cons .bool .nil))) x = i_PutRoute k x := by kernel_rfl
theorem e_i_PutRoute [Names] (k : Nat) : EntryOk Tryz.prog ⟨58, 0, (.cons yP13 yP32), (.tup (.cons yP10 (.cons .bool .nil))), i_PutRoute k⟩ := entry_ok tok (by intro e he; simp only [List.mem_cons, List.not_mem_nil, or_false] at he; rcases he with rfl | rfl | rfl | rfl | rfl <;> first | exact e_i_copyRoutes k | exact e_i_withoutPrefix k | exact e_i_comparePrefixes k | exact e_x_slices_Insert_impl_Route_impl_Route k | exact e_i_RoutesOk k) (by kernel_rfl) (fn := Tryz.f58) (k := k) (es := [⟨129, 0, (.cons yP13 .nil), yP10, i_copyRoutes k⟩, ⟨137, 0, (.cons yP13 (.cons yP14 .nil)), yP10, i_withoutPrefix k⟩, ⟨138, 0, yP28, (.int .i64), i_comparePrefixes k⟩, ⟨139, 0, (.cons yP10 (.cons (.int .i64) (.cons yP10 .nil))), yP10, x_slices_Insert_impl_Route_impl_Route k⟩, ⟨140, 0, (.cons yP13 .nil), .bool, i_RoutesOk k⟩]) (loops := [(0, ⟨[0, 3, 6, 7], (.cons yP13 (.cons (.ptr 0 yP11) (.cons yP10 yP3)))⟩, ⟨[0, 3, 6, 7], (.cons yP13 (.cons (.ptr 0 yP11) (.cons yP10 yP3)))⟩)]) (by kernel_rfl) (by kernel_rfl) (fun x r h => (t_i_PutRoute k x).trans h)
def w_szLeaseS (k : Nat) (x : (List (Int × Int × Int)) × Int × Unit) : Option (Int × Unit × Unit × Unit) :=
(if (decide ((wi64 (x.2.1 - (List.length x.1 : Int))) < (0 : Int))) = true then
some ((-1 : Int), ((), ((), ())))
else
some ((wi64 (x.2.1 - (List.length x.1 : Int))), ((), ((), ()))))
theorem t_w_szLeaseS (k : Nat) (x) : evF TTab k [] [] Tryz.f153 (.cons yP22 yP3) (.int .i64) x = w_szLeaseS k x := by kernel_rfl
theorem e_w_szLeaseS [Names] (k : Nat) : EntryOk Tryz.prog ⟨153, 0, (.cons yP22 yP3), (.int .i64), w_szLeaseS k⟩ := entry_ok tok (by simp) (by kernel_rfl) (fn := Tryz.f153) (k := k) (es := []) (loops := []) (by kernel_rfl) (by kernel_rfl) (fun x r h => (t_w_szLeaseS k x).trans h)
def w_szFixedS (k : Nat) (x : (List (Int × Int)) × Int × Unit) : Option (Int × Unit × Unit × Unit) :=
(if (decide ((wi64 (x.2.1 - (List.length x.1 : Int))) < (0 : Int))) = true then
some ((-1 : Int), ((), ((), ())))
else
some ((wi64 (x.2.1 - (List.length x.1 : Int))), ((), ((), ()))))
theorem t_w_szFixedS (k : Nat) (x) : evF TTab k [] [] Tryz.f154 (.cons (.il true yT2) yP3) (.int .i64) x = w_szFixedS k x := by kernel_rfl
theorem e_w_szFixedS [Names] (k : Nat) : EntryOk Tryz.prog ⟨154, 0, (.cons (.il true yT2) yP3), (.int .i64), w_szFixedS k⟩ := entry_ok tok (by simp) (by kernel_rfl) (fn := Tryz.f154) (k := k) (es := []) (loops := []) (by kernel_rfl) (by kernel_rfl) (fun x r h => (t_w_szFixedS k x).trans h)
def w_szPool (k : Nat) (x : (Int × Int × (List (Int × Int × Int)) × (List (Int × Int)) × Unit) × Int × Unit) : Option (Int × Unit × Unit × Unit) :=
((w_szLeaseS k (x.1.2.2.1, (x.2.1, ()))).bind fun p1 =>
(if (decide (p1.1 < (0 : Int))) = true then
some ((-1 : Int), ((), ((), ())))
else
((w_szFixedS k (x.1.2.2.2.1, (p1.1, ()))).bind fun p2 =>
(if (decide (p2.1 < (0 : Int))) = true then
some ((-1 : Int), ((), ((), ())))
else
some (p2.1, ((), ((), ())))))))
theorem t_w_szPool (k : Nat) (x) : evF TTab k [⟨153, 0, (.cons yP22 yP3), (.int .i64), w_szLeaseS k⟩, ⟨154, 0, (.cons (.il true yT2) yP3), (.int .i64), w_szFixedS k⟩] [] Tryz.f73 (.cons yP9 yP3) (.int .i64) x = w_szPool k x := by kernel_rfl
theorem e_w_szPool [Names] (k : Nat) : EntryOk Tryz.prog ⟨73, 0, (.cons yP9 yP3), (.int .i64), w_szPool k⟩ := entry_ok tok (by intro e he; simp only [List.mem_cons, List.not_mem_nil, or_false] at he; rcases he with rfl | rfl <;> first | exact e_w_szLeaseS k | exact e_w_szFixedS k) (by kernel_rfl) (fn := Tryz.f73) (k := k) (es := [⟨153, 0, (.cons yP22 yP3), (.int .i64), w_szLeaseS k⟩, ⟨154, 0, (.cons (.il true yT2) yP3), (.int .i64), w_szFixedS k⟩]) (loops := []) (by kernel_rfl) (by kernel_rfl) (fun x r h => (t_w_szPool k x).trans h)
def w_szRouteS (k : Nat) (x : (List ((Int × Int) × Int)) × Int × Unit) : Option (Int × Unit × Unit × Unit) :=
(if (decide ((wi64 (x.2.1 - (List.length x.1 : Int))) < (0 : Int))) = true then
some ((-1 : Int), ((), ((), ())))
else
some ((wi64 (x.2.1 - (List.length x.1 : Int))), ((), ((), ()))))
theorem t_w_szRouteS (k : Nat) (x) : evF TTab k [] [] Tryz.f74 (.cons yP13 yP3) (.int .i64) x = w_szRouteS k x := by kernel_rfl
theorem e_w_szRouteS [Names] (k : Nat) : EntryOk Tryz.prog ⟨74, 0, (.cons yP13 yP3), (.int .i64), w_szRouteS k⟩ := entry_ok tok (by simp) (by kernel_rfl) (fn := Tryz.f74) (k := k) (es := []) (loops := []) (by kernel_rfl) (by kernel_rfl) (fun x r h => (t_w_szRouteS k x).trans h)
def w_szIntS (k : Nat) (x : List (Int) × Int × Unit) : Option (Int × Unit × Unit × Unit) :=
(if (decide ((wi64 (x.2.1 - (List.length x.1 : Int))) < (0 : Int))) = true then
some ((-1 : Int), ((), ((), ())))
else
some ((wi64 (x.2.1 - (List.length x.1 : Int))), ((), ((), ()))))
theorem t_w_szIntS (k : Nat) (x) : evF TTab k [] [] Tryz.f111 (.cons (.il true (.int .i64)) yP3) (.int .i64) x = w_szIntS k x := by kernel_rfl
theorem e_w_szIntS [Names] (k : Nat) : EntryOk Tryz.prog ⟨111, 0, (.cons (.il true (.int .i64)) yP3), (.int .i64), w_szIntS k⟩ := entry_ok tok (by simp) (by kernel_rfl) (fn := Tryz.f111) (k := k) (es := []) (loops := []) (by kernel_rfl) (by kernel_rfl) (fun x r h => (t_w_szIntS k x).trans h)
def w_szSlot (k : Nat) (x : (Int × ByteArray × ByteArray × Int × List (Int) × Int × Unit) × Int × Unit) : Option (Int × Unit × Unit × Unit) :=
(if (decide ((wi64 (x.2.1 - (ByteArray.size x.1.2.1 : Int))) < (0 : Int))) = true then
some ((-1 : Int), ((), ((), ())))
else
(if (decide ((wi64 ((wi64 (x.2.1 - (ByteArray.size x.1.2.1 : Int))) - (ByteArray.size x.1.2.2.1 : Int))) < (0 : Int))) = true then
some ((-1 : Int), ((), ((), ())))
else
((w_szIntS k (x.1.2.2.2.2.1, ((wi64 ((wi64 (x.2.1 - (ByteArray.size x.1.2.1 : Int))) - (ByteArray.size x.1.2.2.1 : Int))), ()))).bind fun p1 =>
(if (decide (p1.1 < (0 : Int))) = true then
some ((-1 : Int), ((), ((), ())))
else
some (p1.1, ((), ((), ())))))))
theorem t_w_szSlot (k : Nat) (x) : evF TTab k [⟨111, 0, (.cons (.il true (.int .i64)) yP3), (.int .i64), w_szIntS k⟩] [] Tryz.f168 (.cons yP16 yP3) (.int .i64) x = w_szSlot k x := by kernel_rfl
theorem e_w_szSlot [Names] (k : Nat) : EntryOk Tryz.prog ⟨168, 0, (.cons yP16 yP3), (.int .i64), w_szSlot k⟩ := entry_ok tok (by intro e he; simp only [List.mem_cons, List.not_mem_nil, or_false] at he; rcases he with rfl <;> first | exact e_w_szIntS k) (by kernel_rfl) (fn := Tryz.f168) (k := k) (es := [⟨111, 0, (.cons (.il true (.int .i64)) yP3), (.int .i64), w_szIntS k⟩]) (loops := []) (by kernel_rfl) (by kernel_rfl) (fun x r h => (t_w_szSlot k x).trans h)
def w_szSlots (k : Nat) (x : (Int × ByteArray × ByteArray × Int × List (Int) × Int × Int × ByteArray × ByteArray × Int × List (Int) × Int × Unit) × Int × Unit) : Option (Int × Unit × Unit × Unit) :=
((w_szSlot k ((x.1.1, (x.1.2.1, (x.1.2.2.1, (x.1.2.2.2.1, (x.1.2.2.2.2.1, (x.1.2.2.2.2.2.1, ())))))), (x.2.1, ()))).bind fun p1 =>
(if (decide (p1.1 < (0 : Int))) = true then
some ((-1 : Int), ((), ((), ())))
else
((w_szSlot k ((x.1.2.2.2.2.2.2.1, (x.1.2.2.2.2.2.2.2.1, (x.1.2.2.2.2.2.2.2.2.1, (x.1.2.2.2.2.2.2.2.2.2.1, (x.1.2.2.2.2.2.2.2.2.2.2.1, (x.1.2.2.2.2.2.2.2.2.2.2.2.1, ())))))), (p1.1, ()))).bind fun p2 =>
(if (decide (p2.1 < (0 : Int))) = true then
some ((-1 : Int), ((), ((), ())))
else
some (p2.1, ((), ((), ())))))))
theorem t_w_szSlots (k : Nat) (x) : evF TTab k [⟨168, 0, (.cons yP16 yP3), (.int .i64), w_szSlot k⟩] [] Tryz.f90 (.cons yP7 yP3) (.int .i64) x = w_szSlots k x := by kernel_rfl
theorem e_w_szSlots [Names] (k : Nat) : EntryOk Tryz.prog ⟨90, 0, (.cons yP7 yP3), (.int .i64), w_szSlots k⟩ := entry_ok tok (by intro e he; simp only [List.mem_cons, List.not_mem_nil, or_false] at he; rcases he with rfl <;> first | exact e_w_szSlot k) (by kernel_rfl) (fn := Tryz.f90) (k := k) (es := [⟨168, 0, (.cons yP16 yP3), (.int .i64), w_szSlot k⟩]) (loops := []) (by kernel_rfl) (by kernel_rfl) (fun x r h => (t_w_szSlots k x).trans h)
def w_szStringS (k : Nat) (x : List (ByteArray) × Int × Unit) : Option (Int × Unit × Unit × Unit) :=
(if (decide ((wi64 (x.2.1 - (List.length x.1 : Int))) < (0 : Int))) = true then
some ((-1 : Int), ((), ((), ())))
else
(whileK (fun (rec0 : (List (ByteArray) × Int × Int × Unit) → Option _) (y0 : List (ByteArray) × Int × Int × Unit) =>
(if (decide (y0.2.2.1 < (List.length y0.1 : Int))) = true then
(if 0 ≤ y0.2.2.1 ∧ y0.2.2.1 < (List.length y0.1 : Int) then
(if (decide ((wi64 (y0.2.1 - (ByteArray.size (Ty.rd (t := .str) y0.1 y0.2.2.1) : Int))) < (0 : Int))) = true then
some ((-1 : Int), ((), ((), ())))
else
(rec0 (y0.1, ((wi64 (y0.2.1 - (ByteArray.size (Ty.rd (t := .str) y0.1 y0.2.2.1) : Int))), ((wi64 (y0.2.2.1 + (1 : Int))), ())))))
else none)
else
((fun (z1 : Int × Unit) =>
some (z1.1, ((), ((), ())))) (y0.2.1, ())))) k (x.1, ((wi64 (x.2.1 - (List.length x.1 : Int))), ((0 : Int), ())))))
theorem t_w_szStringS (k : Nat) (x) : evF TTab k [] [(0, ⟨[0, 1, 5], (.cons (.il true .str) (.cons (.int .i64) yP3))⟩, ⟨[1], yP3⟩)] Tryz.f288 (.cons (.il true .str) yP3) (.int .i64) x = w_szStringS k x := by kernel_rfl
theorem e_w_szStringS [Names] (k : Nat) : EntryOk Tryz.prog ⟨288, 0, (.cons (.il true .str) yP3), (.int .i64), w_szStringS k⟩ := entry_ok tok (by simp) (by kernel_rfl) (fn := Tryz.f288) (k := k) (es := []) (loops := [(0, ⟨[0, 1, 5], (.cons (.il true .str) (.cons (.int .i64) yP3))⟩, ⟨[1], yP3⟩)]) (by kernel_rfl) (by kernel_rfl) (fun x r h => (t_w_szStringS k x).trans h)
def w_szBoolS (k : Nat) (x : List (Bool) × Int × Unit) : Option (Int × Unit × Unit × Unit) :=
(if (decide ((wi64 (x.2.1 - (List.length x.1 : Int))) < (0 : Int))) = true then
some ((-1 : Int), ((), ((), ())))
else
some ((wi64 (x.2.1 - (List.length x.1 : Int))), ((), ((), ()))))
theorem t_w_szBoolS (k : Nat) (x) : evF TTab k [] [] Tryz.f289 (.cons (.il true .bool) yP3) (.int .i64) x = w_szBoolS k x := by kernel_rfl
theorem e_w_szBoolS [Names] (k : Nat) : EntryOk Tryz.prog ⟨289, 0, (.cons (.il true .bool) yP3), (.int .i64), w_szBoolS k⟩ := entry_ok tok (by simp) (by kernel_rfl) (fn := Tryz.f289) (k := k) (es := []) (loops := []) (by kernel_rfl) (by kernel_rfl) (fun x r h => (t_w_szBoolS k x).trans h)
def w_szHeld (k : Nat) (x : (Int × Int × Int × List (ByteArray) × List (Bool) × Int × Unit) × Int × Unit) : Option (Int × Unit × Unit × Unit) :=
((w_szStringS k (x.1.2.2.2.1, (x.2.1, ()))).bind fun p1 =>
(if (decide (p1.1 < (0 : Int))) = true then
some ((-1 : Int), ((), ((), ())))
else
((w_szBoolS k (x.1.2.2.2.2.1, (p1.1, ()))).bind fun p2 =>
(if (decide (p2.1 < (0 : Int))) = true then
some ((-1 : Int), ((), ((), ())))
else
some (p2.1, ((), ((), ())))))))
theorem t_w_szHeld (k : Nat) (x) : evF TTab k [⟨288, 0, (.cons (.il true .str) yP3), (.int .i64), w_szStringS k⟩, ⟨289, 0, (.cons (.il true .bool) yP3), (.int .i64), w_szBoolS k⟩] [] Tryz.f246 (.cons yP18 yP3) (.int .i64) x = w_szHeld k x := by kernel_rfl
theorem e_w_szHeld [Names] (k : Nat) : EntryOk Tryz.prog ⟨246, 0, (.cons yP18 yP3), (.int .i64), w_szHeld k⟩ := entry_ok tok (by intro e he; simp only [List.mem_cons, List.not_mem_nil, or_false] at he; rcases he with rfl | rfl <;> first | exact e_w_szStringS k | exact e_w_szBoolS k) (by kernel_rfl) (fn := Tryz.f246) (k := k) (es := [⟨288, 0, (.cons (.il true .str) yP3), (.int .i64), w_szStringS k⟩, ⟨289, 0, (.cons (.il true .bool) yP3), (.int .i64), w_szBoolS k⟩]) (loops := []) (by kernel_rfl) (by kernel_rfl) (fun x r h => (t_w_szHeld k x).trans h)
def w_szHeldS (k : Nat) (x : (List (Int × Int × Int × List (ByteArray) × List (Bool) × Int)) × Int × Unit) : Option (Int × Unit × Unit × Unit) :=
(if (decide ((wi64 (x.2.1 - (List.length x.1 : Int))) < (0 : Int))) = true then
some ((-1 : Int), ((), ((), ())))
else
(whileK (fun (rec0 : ((List (Int × Int × Int × List (ByteArray) × List (Bool) × Int)) × Int × Int × Unit) → Option _) (y0 : (List (Int × Int × Int × List (ByteArray) × List (Bool) × Int)) × Int × Int × Unit) =>
(if (decide (y0.2.2.1 < (List.length y0.1 : Int))) = true then
(if 0 ≤ y0.2.2.1 ∧ y0.2.2.1 < (List.length y0.1 : Int) then
((w_szHeld k (((Ty.rd (t := (.pair (.int .i64) (.pair (.int .i64) (.pair (.int .i64) (.pair (.list .str) (.pair (.list .bool) (.int .i64))))))) y0.1 y0.2.2.1).1, ((Ty.rd (t := (.pair (.int .i64) (.pair (.int .i64) (.pair (.int .i64) (.pair (.list .str) (.pair (.list .bool) (.int .i64))))))) y0.1 y0.2.2.1).2.1, ((Ty.rd (t := (.pair (.int .i64) (.pair (.int .i64) (.pair (.int .i64) (.pair (.list .str) (.pair (.list .bool) (.int .i64))))))) y0.1 y0.2.2.1).2.2.1, ((Ty.rd (t := (.pair (.int .i64) (.pair (.int .i64) (.pair (.int .i64) (.pair (.list .str) (.pair (.list .bool) (.int .i64))))))) y0.1 y0.2.2.1).2.2.2.1, ((Ty.rd (t := (.pair (.int .i64) (.pair (.int .i64) (.pair (.int .i64) (.pair (.list .str) (.pair (.list .bool) (.int .i64))))))) y0.1 y0.2.2.1).2.2.2.2.1, ((Ty.rd (t := (.pair (.int .i64) (.pair (.int .i64) (.pair (.int .i64) (.pair (.list .str) (.pair (.list .bool) (.int .i64))))))) y0.1 y0.2.2.1).2.2.2.2.2, ())))))), (y0.2.1, ()))).bind fun p1 =>
(if (decide (p1.1 < (0 : Int))) = true then
some ((-1 : Int), ((), ((), ())))
else
(rec0 (y0.1, (p1.1, ((wi64 (y0.2.2.1 + (1 : Int))), ()))))))
else none)
else
((fun (z1 : Int × Unit) =>
some (z1.1, ((), ((), ())))) (y0.2.1, ())))) k (x.1, ((wi64 (x.2.1 - (List.length x.1 : Int))), ((0 : Int), ())))))
theorem t_w_szHeldS (k : Nat) (x) : evF TTabO k [⟨246, 0, (.cons yP18 yP3), (.int .i64), w_szHeld k⟩] [(0, ⟨[0, 1, 5], (.cons (.il true yT5) (.cons (.int .i64) yP3))⟩, ⟨[1], yP3⟩)] Tryz.f169 (.cons (.il true yT5) yP3) (.int .i64) x = w_szHeldS k x := by kernel_rfl
theorem e_w_szHeldS [Names] (k : Nat) : EntryOk Tryz.prog ⟨169, 0, (.cons (.il true yT5) yP3), (.int .i64), w_szHeldS k⟩ := entry_ok tokO (by intro e he; simp only [List.mem_cons, List.not_mem_nil, or_false] at he; rcases he with rfl <;> first | exact e_w_szHeld k) (by kernel_rfl) (fn := Tryz.f169) (k := k) (es := [⟨246, 0, (.cons yP18 yP3), (.int .i64), w_szHeld k⟩]) (loops := [(0, ⟨[0, 1, 5], (.cons (.il true yT5) (.cons (.int .i64) yP3))⟩, ⟨[1], yP3⟩)]) (by kernel_rfl) (by kernel_rfl) (fun x r h => (t_w_szHeldS k x).trans h)
def w_szShelf (k : Nat) (x : ((List (Int × Int × Int × List (ByteArray) × List (Bool) × Int)) × Unit) × Int × Unit) : Option (Int × Unit × Unit × Unit) :=
((w_szHeldS k (x.1.1, (x.2.1, ()))).bind fun p1 =>
(if (decide (p1.1 < (0 : Int))) = true then
some ((-1 : Int), ((), ((), ())))
else
some (p1.1, ((), ((), ())))))
theorem t_w_szShelf (k : Nat) (x) : evF TTabO k [⟨169, 0, (.cons (.il true yT5) yP3), (.int .i64), w_szHeldS k⟩] [] Tryz.f91 (.cons (.agg yP25) yP3) (.int .i64) x = w_szShelf k x := by kernel_rfl
theorem e_w_szShelf [Names] (k : Nat) : EntryOk Tryz.prog ⟨91, 0, (.cons (.agg yP25) yP3), (.int .i64), w_szShelf k⟩ := entry_ok tokO (by intro e he; simp only [List.mem_cons, List.not_mem_nil, or_false] at he; rcases he with rfl <;> first | exact e_w_szHeldS k) (by kernel_rfl) (fn := Tryz.f91) (k := k) (es := [⟨169, 0, (.cons (.il true yT5) yP3), (.int .i64), w_szHeldS k⟩]) (loops := []) (by kernel_rfl) (by kernel_rfl) (fun x r h => (t_w_szShelf k x).trans h)
def w_szUser (k : Nat) (x : (Int × Int × Int × ByteArray × ByteArray × Int × List (Int) × Int × Int × ByteArray × ByteArray × Int × List (Int) × Int × (List (Int × Int × Int × List (ByteArray) × List (Bool) × Int)) × Int × Unit) × Int × Unit) : Option (Int × Unit × Unit × Unit) :=
((w_szSlots k ((x.1.2.2.1, (x.1.2.2.2.1, (x.1.2.2.2.2.1, (x.1.2.2.2.2.2.1, (x.1.2.2.2.2.2.2.1, (x.1.2.2.2.2.2.2.2.1, (x.1.2.2.2.2.2.2.2.2.1, (x.1.2.2.2.2.2.2.2.2.2.1, (x.1.2.2.2.2.2.2.2.2.2.2.1, (x.1.2.2.2.2.2.2.2.2.2.2.2.1, (x.1.2.2.2.2.2.2.2.2.2.2.2.2.1, (x.1.2.2.2.2.2.2.2.2.2.2.2.2.2.1, ())))))))))))), (x.2.1, ()))).bind fun p1 =>
(if (decide (p1.1 < (0 : Int))) = true then
some ((-1 : Int), ((), ((), ())))
else
((w_szShelf k ((x.1.2.2.2.2.2.2.2.2.2.2.2.2.2.2.1, ()), (p1.1, ()))).bind fun p2 =>
(if (decide (p2.1 < (0 : Int))) = true then
some ((-1 : Int), ((), ((), ())))
else
some (p2.1, ((), ((), ())))))))
theorem t_w_szUser (k : Nat) (x) : evF TTabO k [⟨90, 0, (.cons yP7 yP3), (.int .i64), w_szSlots k⟩, ⟨91, 0, (.cons (.agg yP25) yP3), (.int .i64), w_szShelf k⟩] [] Tryz.f28 (.cons yP4 yP3) (.int .i64) x = w_szUser k x := by kernel_rfl
theorem e_w_szUser [Names] (k : Nat) : EntryOk Tryz.prog ⟨28, 0, (.cons yP4 yP3), (.int .i64), w_szUser k⟩ := entry_ok tokO (by intro e he; simp only [List.mem_cons, List.not_mem_nil, or_false] at he; rcases he with rfl | rfl <;> first | exact e_w_szSlots k | exact e_w_szShelf k) (by kernel_rfl) (fn := Tryz.f28) (k := k) (es := [⟨90, 0, (.cons yP7 yP3), (.int .i64), w_szSlots k⟩, ⟨91, 0, (.cons (.agg yP25) yP3), (.int .i64), w_szShelf k⟩]) (loops := []) (by kernel_rfl) (by kernel_rfl) (fun x r h => (t_w_szUser k x).trans h)
def w_szUserS (k : Nat) (x : (List (Int × Int × ((Int × ByteArray × ByteArray × Int × List (Int) × Int) × Int × ByteArray × ByteArray × Int × List (Int) × Int) × List (Int × Int × Int × List (ByteArray) × List (Bool) × Int) × Int)) × Int × Unit) : Option (Int × Unit × Unit × Unit) :=
(if (decide ((wi64 (x.2.1 - (List.length x.1 : Int))) < (0 : Int))) = true then
some ((-1 : Int), ((), ((), ())))
else
(whileK (fun (rec0 : ((List (Int × Int × ((Int × ByteArray × ByteArray × Int × List (Int) × Int) × Int × ByteArray × ByteArray × Int × List (Int) × Int) × List (Int × Int × Int × List (ByteArray) × List (Bool) × Int) × Int)) × Int × Int × Unit) → Option _) (y0 : (List (Int × Int × ((Int × ByteArray × ByteArray × Int × List (Int) × Int) × Int × ByteArray × ByteArray × Int × List (Int) × Int) × List (Int × Int × Int × List (ByteArray) × List (Bool) × Int) × Int)) × Int × Int × Unit) =>
(if (decide (y0.2.2.1 < (List.length y0.1 : Int))) = true then
(if 0 ≤ y0.2.2.1 ∧ y0.2.2.1 < (List.length y0.1 : Int) then
((w_szUser k (((Ty.rd (t := (.pair (.int .i64) (.pair (.int .i64) (.pair (.pair (.pair (.int .i64) (.pair .str (.pair .str (.pair (.int .i64) (.pair (.list (.int .i64)) (.int .i64)))))) (.pair (.int .i64) (.pair .str (.pair .str (.pair (.int .i64) (.pair (.list (.int .i64)) (.int .i64))))))) (.pair (.list (.pair (.int .i64) (.pair (.int .i64) (.pair (.int .i64) (.pair (.list .str) (.pair (.list .bool) (.int .i64))))))) (.int .i64)))))) y0.1 y0.2.2.1).1, ((Ty.rd (t := (.pair (.int .i64) (.pair (.int .i64) (.pair (.pair (.pair (.int .i64) (.pair .str (.pair .str (.pair (.int .i64) (.pair (.list (.int .i64)) (.int .i64)))))) (.pair (.int .i64) (.pair .str (.pair .str (.pair (.int .i64) (.pair (.list (.int .i64)) (.int .i64))))))) (.pair (.list (.pair (.int .i64) (.pair (.int .i64) (.pair (.int .i64) (.pair (.list .str) (.pair (.list .bool) (.int .i64))))))) (.int .i64)))))) y0.1 y0.2.2.1).2.1, ((Ty.rd (t := (.pair (.int .i64) (.pair (.int .i64) (.pair (.pair (.pair (.int .i64) (.pair .str (.pair .str (.pair (.int .i64) (.pair (.list (.int .i64)) (.int .i64)))))) (.pair (.int .i64) (.pair .str (.pair .str (.pair (.int .i64) (.pair (.list (.int .i64)) (.int .i64))))))) (.pair (.list (.pair (.int .i64) (.pair (.int .i64) (.pair (.int .i64) (.pair (.list .str) (.pair (.list .bool) (.int .i64))))))) (.int .i64)))))) y0.1 y0.2.2.1).2.2.1.1.1, ((Ty.rd (t := (.pair (.int .i64) (.pair (.int .i64) (.pair (.pair (.pair (.int .i64) (.pair .str (.pair .str (.pair (.int .i64) (.pair (.list (.int .i64)) (.int .i64)))))) (.pair (.int .i64) (.pair .str (.pair .str (.pair (.int .i64) (.pair (.list (.int .i64)) (.int .i64))))))) (.pair (.list (.pair (.int .i64) (.pair (.int .i64) (.pair (.int .i64) (.pair (.list .str) (.pair (.list .bool) (.int .i64))))))) (.int .i64)))))) y0.1 y0.2.2.1).2.2.1.1.2.1, ((Ty.rd (t := (.pair (.int .i64) (.pair (.int .i64) (.pair (.pair (.pair (.int .i64) (.pair .str (.pair .str (.pair (.int .i64) (.pair (.list (.int .i64)) (.int .i64)))))) (.pair (.int .i64) (.pair .str (.pair .str (.pair (.int .i64) (.pair (.list (.int .i64)) (.int .i64))))))) (.pair (.list (.pair (.int .i64) (.pair (.int .i64) (.pair (.int .i64) (.pair (.list .str) (.pair (.list .bool) (.int .i64))))))) (.int .i64)))))) y0.1 y0.2.2.1).2.2.1.1.2.2.1, ((Ty.rd (t := (.pair (.int .i64) (.pair (.int .i64) (.pair (.pair (.pair (.int .i64) (.pair .str (.pair .str (.pair (.int .i64) (.pair (.list (.int .i64)) (.int .i64)))))) (.pair (.int .i64) (.pair .str (.pair .str (.pair (.int .i64) (.pair (.list (.int .i64)) (.int .i64))))))) (.pair (.list (.pair (.int .i64) (.pair (.int .i64) (.pair (.int .i64) (.pair (.list .str) (.pair (.list .bool) (.int .i64))))))) (.int .i64)))))) y0.1 y0.2.2.1).2.2.1.1.2.2.2.1, ((Ty.rd (t := (.pair (.int .i64) (.pair (.int .i64) (.pair (.pair (.pair (.int .i64) (.pair .str (.pair .str (.pair (.int .i64) (.pair (.list (.int .i64)) (.int .i64)))))) (.pair (.int .i64) (.pair .str (.pair .str (.pair (.int .i64) (.pair (.list (.int .i64)) (.int .i64))))))) (.pair (.list (.pair (.int .i64) (.pair (.int .i64) (.pair (.int .i64) (.pair (.list .str) (.pair (.list .bool) (.int .i64))))))) (.int .i64)))))) y0.1 y0.2.2.1).2.2.1.1.2.2.2.2.1, ((Ty.rd (t := (.pair (.int .i64) (.pair (.int .i64) (.pair (.pair (.pair (.int .i64) (.pair .str (.pair .str (.pair (.int .i64) (.pair (.list (.int .i64)) (.int .i64)))))) (.pair (.int .i64) (.pair .str (.pair .str (.pair (.int .i64) (.pair (.list (.int .i64)) (.int .i64))))))) (.pair (.list (.pair (.int .i64) (.pair (.int .i64) (.pair (.int .i64) (.pair (.list .str) (.pair (.list .bool) (.int .i64))))))) (.int .i64)))))) y0.1 y0.2.2.1).2.2.1.1.2.2.2.2.2, ((Ty.rd (t := (.pair (.int .i64) (.pair (.int .i64) (.pair (.pair (.pair (.int .i64) (.pair .str (.pair .str (.pair (.int .i64) (.pair (.list (.int .i64)) (.int .i64)))))) (.pair (.int .i64) (.pair .str (.pair .str (.pair (.int .i64) (.pair (.list (.int .i64)) (.int .i64))))))) (.pair (.list (.pair (.int .i64) (.pair (.int .i64) (.pair (.int .i64) (.pair (.list .str) (.pair (.list .bool) (.int .i64))))))) (.int .i64)))))) y0.1 y0.2.2.1).2.2.1.2.1, ((Ty.rd (t := (.pair (.int .i64) (.pair (.int .i64) (.pair (.pair (.pair (.int .i64) (.pair .str (.pair .str (.pair (.int .i64) (.pair (.list (.int .i64)) (.int .i64)))))) (.pair (.int .i64) (.pair .str (.pair .str (.pair (.int .i64) (.pair (.list (.int .i64)) (.int .i64))))))) (.pair (.list (.pair (.int .i64) (.pair (.int .i64) (.pair (.int .i64) (.pair (.list .str) (.pair (.list .bool) (.int .i64))))))) (.int .i64)))))) y0.1 y0.2.2.1).2.2.1.2.2.1, ((Ty.rd (t := (.pair (.int .i64) (.pair (.int .i64) (.pair (.pair (.pair (.int .i64) (.pair .str (.pair .str (.pair (.int .i64) (.pair (.list (.int .i64)) (.int .i64)))))) (.pair (.int .i64) (.pair .str (.pair .str (.pair (.int .i64) (.pair (.list (.int .i64)) (.int .i64))))))) (.pair (.list (.pair (.int .i64) (.pair (.int .i64) (.pair (.int .i64) (.pair (.list .str) (.pair (.list .bool) (.int .i64))))))) (.int .i64)))))) y0.1 y0.2.2.1).2.2.1.2.2.2.1, ((Ty.rd (t := (.pair (.int .i64) (.pair (.int .i64) (.pair (.pair (.pair (.int .i64) (.pair .str (.pair .str (.pair (.int .i64) (.pair (.list (.int .i64)) (.int .i64)))))) (.pair (.int .i64) (.pair .str (.pair .str (.pair (.int .i64) (.pair (.list (.int .i64)) (.int .i64))))))) (.pair (.list (.pair (.int .i64) (.pair (.int .i64) (.pair (.int .i64) (.pair (.list .str) (.pair (.list .bool) (.int .i64))))))) (.int .i64)))))) y0.1 y0.2.2.1).2.2.1.2.2.2.2.1, ((Ty.rd (t := (.pair (.int .i64) (.pair (.int .i64) (.pair (.pair (.pair (.int .i64) (.pair .str (.pair .str (.pair (.int .i64) (.pair (.list (.int .i64)) (.int .i64)))))) (.pair (.int .i64) (.pair .str (.pair .str (.pair (.int .i64) (.pair (.list (.int .i64)) (.int .i64))))))) (.pair (.list (.pair (.int .i64) (.pair (.int .i64) (.pair (.int .i64) (.pair (.list .str) (.pair (.list .bool) (.int .i64))))))) (.int .i64)))))) y0.1 y0.2.2.1).2.2.1.2.2.2.2.2.1, ((Ty.rd (t := (.pair (.int .i64) (.pair (.int .i64) (.pair (.pair (.pair (.int .i64) (.pair .str (.pair .str (.pair (.int .i64) (.pair (.list (.int .i64)) (.int .i64)))))) (.pair (.int .i64) (.pair .str (.pair .str (.pair (.int .i64) (.pair (.list (.int .i64)) (.int .i64))))))) (.pair (.list (.pair (.int .i64) (.pair (.int .i64) (.pair (.int .i64) (.pair (.list .str) (.pair (.list .bool) (.int .i64))))))) (.int .i64)))))) y0.1 y0.2.2.1).2.2.1.2.2.2.2.2.2, ((Ty.rd (t := (.pair (.int .i64) (.pair (.int .i64) (.pair (.pair (.pair (.int .i64) (.pair .str (.pair .str (.pair (.int .i64) (.pair (.list (.int .i64)) (.int .i64)))))) (.pair (.int .i64) (.pair .str (.pair .str (.pair (.int .i64) (.pair (.list (.int .i64)) (.int .i64))))))) (.pair (.list (.pair (.int .i64) (.pair (.int .i64) (.pair (.int .i64) (.pair (.list .str) (.pair (.list .bool) (.int .i64))))))) (.int .i64)))))) y0.1 y0.2.2.1).2.2.2.1, ((Ty.rd (t := (.pair (.int .i64) (.pair (.int .i64) (.pair (.pair (.pair (.int .i64) (.pair .str (.pair .str (.pair (.int .i64) (.pair (.list (.int .i64)) (.int .i64)))))) (.pair (.int .i64) (.pair .str (.pair .str (.pair (.int .i64) (.pair (.list (.int .i64)) (.int .i64))))))) (.pair (.list (.pair (.int .i64) (.pair (.int .i64) (.pair (.int .i64) (.pair (.list .str) (.pair (.list .bool) (.int .i64))))))) (.int .i64)))))) y0.1 y0.2.2.1).2.2.2.2, ())))))))))))))))), (y0.2.1, ()))).bind fun p1 =>
(if (decide (p1.1 < (0 : Int))) = true then
some ((-1 : Int), ((), ((), ())))
else
(rec0 (y0.1, (p1.1, ((wi64 (y0.2.2.1 + (1 : Int))), ()))))))
else none)
else
((fun (z1 : Int × Unit) =>
some (z1.1, ((), ((), ())))) (y0.2.1, ())))) k (x.1, ((wi64 (x.2.1 - (List.length x.1 : Int))), ((0 : Int), ())))))
theorem t_w_szUserS (k : Nat) (x) : evF TTabO k [⟨28, 0, (.cons yP4 yP3), (.int .i64), w_szUser k⟩] [(0, ⟨[0, 1, 5], (.cons (.il true yT0) (.cons (.int .i64) yP3))⟩, ⟨[1], yP3⟩)] Tryz.f75 (.cons (.il true yT0) yP3) (.int .i64) x = w_szUserS k x := by kernel_rfl
theorem e_w_szUserS [Names] (k : Nat) : EntryOk Tryz.prog ⟨75, 0, (.cons (.il true yT0) yP3), (.int .i64), w_szUserS k⟩ := entry_ok tokO (by intro e he; simp only [List.mem_cons, List.not_mem_nil, or_false] at he; rcases he with rfl <;> first | exact e_w_szUser k) (by kernel_rfl) (fn := Tryz.f75) (k := k) (es := [⟨28, 0, (.cons yP4 yP3), (.int .i64), w_szUser k⟩]) (loops := [(0, ⟨[0, 1, 5], (.cons (.il true yT0) (.cons (.int .i64) yP3))⟩, ⟨[1], yP3⟩)]) (by kernel_rfl) (by kernel_rfl) (fun x r h => (t_w_szUserS k x).trans h)
def w_szHub (k : Nat) (x : (Int × Int × (List (Int × Int × Int)) × (List (Int × Int)) × (List ((Int × Int) × Int)) × (List (Int × Int × ((Int × ByteArray × ByteArray × Int × List (Int) × Int) × Int × ByteArray × ByteArray × Int × List (Int) × Int) × List (Int × Int × Int × List (ByteArray) × List (Bool) × Int) × Int)) × Unit) × Int × Unit) : Option (Int × Unit × Unit × Unit) :=
((w_szPool k ((x.1.1, (x.1.2.1, (x.1.2.2.1, (x.1.2.2.2.1, ())))), (x.2.1, ()))).bind fun p1 =>
(if (decide (p1.1 < (0 : Int))) = true then
some ((-1 : Int), ((), ((), ())))
else
((w_szRouteS k (x.1.2.2.2.2.1, (p1.1, ()))).bind fun p2 =>
(if (decide (p2.1 < (0 : Int))) = true then
some ((-1 : Int), ((), ((), ())))
else
((w_szUserS k (x.1.2.2.2.2.2.1, (p2.1, ()))).bind fun p3 =>
(if (decide (p3.1 < (0 : Int))) = true then
some ((-1 : Int), ((), ((), ())))
else
some (p3.1, ((), ((), ())))))))))
theorem t_w_szHub (k : Nat) (x) : evF TTabO k [⟨73, 0, (.cons yP9 yP3), (.int .i64), w_szPool k⟩, ⟨74, 0, (.cons yP13 yP3), (.int .i64), w_szRouteS k⟩, ⟨75, 0, (.cons (.il true yT0) yP3), (.int .i64), w_szUserS k⟩] [] Tryz.f19 (.cons yP6 yP3) (.int .i64) x = w_szHub k x := by kernel_rfl
theorem e_w_szHub [Names] (k : Nat) : EntryOk Tryz.prog ⟨19, 0, (.cons yP6 yP3), (.int .i64), w_szHub k⟩ := entry_ok tokO (by intro e he; simp only [List.mem_cons, List.not_mem_nil, or_false] at he; rcases he with rfl | rfl | rfl <;> first | exact e_w_szPool k | exact e_w_szRouteS k | exact e_w_szUserS k) (by kernel_rfl) (fn := Tryz.f19) (k := k) (es := [⟨73, 0, (.cons yP9 yP3), (.int .i64), w_szPool k⟩, ⟨74, 0, (.cons yP13 yP3), (.int .i64), w_szRouteS k⟩, ⟨75, 0, (.cons (.il true yT0) yP3), (.int .i64), w_szUserS k⟩]) (loops := []) (by kernel_rfl) (by kernel_rfl) (fun x r h => (t_w_szHub k x).trans h)
def w_toPrefix (k : Nat) (x : (Int × Int × Unit) × Unit) : Option ((Int × Int × Unit) × Unit × Unit) :=
some ((x.1.1, (x.1.2.1, ())), ((), ()))
theorem t_w_toPrefix (k : Nat) (x) : evF TTab k [] [] Tryz.f22 (.cons yP14 .nil) yP14 x = w_toPrefix k x := by kernel_rfl
theorem e_w_toPrefix [Names] (k : Nat) : EntryOk Tryz.prog ⟨22, 0, (.cons yP14 .nil), yP14, w_toPrefix k⟩ := entry_ok tok (by simp) (by kernel_rfl) (fn := Tryz.f22) (k := k) (es := []) (loops := []) (by kernel_rfl) (by kernel_rfl) (fun x r h => (t_w_toPrefix k x).trans h)
def w_toLease (k : Nat) (x : (Int × Int × Int × Unit) × Unit) : Option ((Int × Int × Int × Unit) × Unit × Unit) :=
some ((x.1.1, (x.1.2.1, (x.1.2.2.1, ()))), ((), ()))
theorem t_w_toLease (k : Nat) (x) : evF TTab k [] [] Tryz.f238 yP32 (.agg yP11) x = w_toLease k x := by kernel_rfl
theorem e_w_toLease [Names] (k : Nat) : EntryOk Tryz.prog ⟨238, 0, yP32, (.agg yP11), w_toLease k⟩ := entry_ok tok (by simp) (by kernel_rfl) (fn := Tryz.f238) (k := k) (es := []) (loops := []) (by kernel_rfl) (by kernel_rfl) (fun x r h => (t_w_toLease k x).trans h)
def w_toLeaseS (k : Nat) (x : (List (Int × Int × Int)) × Unit) : Option ((List (Int × Int × Int)) × Unit × Unit) :=
(if (List.length x.1 : Int) = (List.length x.1 : Int) then
(if 0 ≤ (List.length x.1 : Int) ∧ (List.length x.1 : Int) ≤ (capMax : Int) then
(whileK (fun (rec0 : ((List (Int × Int × Int)) × (List (Int × Int × Int)) × Int × Unit) → Option _) (y0 : (List (Int × Int × Int)) × (List (Int × Int × Int)) × Int × Unit) =>
(if (decide (y0.2.2.1 < (List.length y0.1 : Int))) = true then
(if 0 ≤ y0.2.2.1 ∧ y0.2.2.1 < (List.length y0.1 : Int) then
((w_toLease k (((Ty.rd (t := (.pair (.int .i64) (.pair (.int .i64) (.int .i64)))) y0.1 y0.2.2.1).1, ((Ty.rd (t := (.pair (.int .i64) (.pair (.int .i64) (.int .i64)))) y0.1 y0.2.2.1).2.1, ((Ty.rd (t := (.pair (.int .i64) (.pair (.int .i64) (.int .i64)))) y0.1 y0.2.2.1).2.2, ()))), ())).bind fun p1 =>
(if 0 ≤ y0.2.2.1 ∧ y0.2.2.1 < (List.length y0.2.1 : Int) then
(rec0 (y0.1, ((List.set y0.2.1 (Int.toNat y0.2.2.1) (p1.1.1, (p1.1.2.1, p1.1.2.2.1))), ((wi64 (y0.2.2.1 + (1 : Int))), ()))))
else none))
else none)
else
((fun (z1 : (List (Int × Int × Int)) × Unit) =>
some (z1.1, ((), ()))) (y0.2.1, ())))) k (x.1, ((List.replicate (Int.toNat (List.length x.1 : Int)) ((0 : Int), ((0 : Int), (0 : Int)))), ((0 : Int), ()))))
else none)
else none)
theorem t_w_toLeaseS (k : Nat) (x) : evF TTab k [⟨238, 0, yP32, (.agg yP11), w_toLease k⟩] [(0, ⟨[0, 3, 4], (.cons yP22 (.cons yP29 yP3))⟩, ⟨[3], (.cons yP29 .nil)⟩)] Tryz.f155 (.cons yP22 .nil) yP29 x = w_toLeaseS k x := by kernel_rfl
theorem e_w_toLeaseS [Names] (k : Nat) : EntryOk Tryz.prog ⟨155, 0, (.cons yP22 .nil), yP29, w_toLeaseS k⟩ := entry_ok tok (by intro e he; simp only [List.mem_cons, List.not_mem_nil, or_false] at he; rcases he with rfl <;> first | exact e_w_toLease k) (by kernel_rfl) (fn := Tryz.f155) (k := k) (es := [⟨238, 0, yP32, (.agg yP11), w_toLease k⟩]) (loops := [(0, ⟨[0, 3, 4], (.cons yP22 (.cons yP29 yP3))⟩, ⟨[3], (.cons yP29 .nil)⟩)]) (by kernel_rfl) (by kernel_rfl) (fun x r h => (t_w_toLeaseS k x).trans h)
def w_toFixed (k : Nat) (x : (Int × Int × Unit) × Unit) : Option ((Int × Int × Unit) × Unit × Unit) :=
some ((x.1.1, (x.1.2.1, ())), ((), ()))
theorem t_w_toFixed (k : Nat) (x) : evF TTab k [] [] Tryz.f239 (.cons yP14 .nil) yP14 x = w_toFixed k x := by kernel_rfl
theorem e_w_toFixed [Names] (k : Nat) : EntryOk Tryz.prog ⟨239, 0, (.cons yP14 .nil), yP14, w_toFixed k⟩ := entry_ok tok (by simp) (by kernel_rfl) (fn := Tryz.f239) (k := k) (es := []) (loops := []) (by kernel_rfl) (by kernel_rfl) (fun x r h => (t_w_toFixed k x).trans h)
def w_toFixedS (k : Nat) (x : (List (Int × Int)) × Unit) : Option ((List (Int × Int)) × Unit × Unit) :=
(if (List.length x.1 : Int) = (List.length x.1 : Int) then
(if 0 ≤ (List.length x.1 : Int) ∧ (List.length x.1 : Int) ≤ (capMax : Int) then
(whileK (fun (rec0 : ((List (Int × Int)) × (List (Int × Int)) × Int × Unit) → Option _) (y0 : (List (Int × Int)) × (List (Int × Int)) × Int × Unit) =>
(if (decide (y0.2.2.1 < (List.length y0.1 : Int))) = true then
(if 0 ≤ y0.2.2.1 ∧ y0.2.2.1 < (List.length y0.1 : Int) then
((w_toFixed k (((Ty.rd (t := (.pair (.int .i64) (.int .i64))) y0.1 y0.2.2.1).1, ((Ty.rd (t := (.pair (.int .i64) (.int .i64))) y0.1 y0.2.2.1).2, ())), ())).bind fun p1 =>
(if 0 ≤ y0.2.2.1 ∧ y0.2.2.1 < (List.length y0.2.1 : Int) then
(rec0 (y0.1, ((List.set y0.2.1 (Int.toNat y0.2.2.1) (p1.1.1, p1.1.2.1)), ((wi64 (y0.2.2.1 + (1 : Int))), ()))))
else none))
else none)
else
((fun (z1 : (List (Int × Int)) × Unit) =>
some (z1.1, ((), ()))) (y0.2.1, ())))) k (x.1, ((List.replicate (Int.toNat (List.length x.1 : Int)) ((0 : Int), (0 : Int))), ((0 : Int), ()))))
else none)
else none)
theorem t_w_toFixedS (k : Nat) (x) : evF TTab k [⟨239, 0, (.cons yP14 .nil), yP14, w_toFixed k⟩] [(0, ⟨[0, 3, 4], (.cons (.il true yT2) (.cons (.own false 252 yT2) yP3))⟩, ⟨[3], (.cons (.own false 252 yT2) .nil)⟩)] Tryz.f156 (.cons (.il true yT2) .nil) (.own false 252 yT2) x = w_toFixedS k x := by kernel_rfl
theorem e_w_toFixedS [Names] (k : Nat) : EntryOk Tryz.prog ⟨156, 0, (.cons (.il true yT2) .nil), (.own false 252 yT2), w_toFixedS k⟩ := entry_ok tok (by intro e he; simp only [List.mem_cons, List.not_mem_nil, or_false] at he; rcases he with rfl <;> first | exact e_w_toFixed k) (by kernel_rfl) (fn := Tryz.f156) (k := k) (es := [⟨239, 0, (.cons yP14 .nil), yP14, w_toFixed k⟩]) (loops := [(0, ⟨[0, 3, 4], (.cons (.il true yT2) (.cons (.own false 252 yT2) yP3))⟩, ⟨[3], (.cons (.own false 252 yT2) .nil)⟩)]) (by kernel_rfl) (by kernel_rfl) (fun x r h => (t_w_toFixedS k x).trans h)
def w_toPool (k : Nat) (x : (Int × Int × (List (Int × Int × Int)) × (List (Int × Int)) × Unit) × Unit) : Option ((Int × Int × (List (Int × Int × Int)) × (List (Int × Int)) × Unit) × Unit × Unit) :=
((w_toPrefix k ((x.1.1, (x.1.2.1, ())), ())).bind fun p1 =>
((w_toLeaseS k (x.1.2.2.1, ())).bind fun p2 =>
((w_toFixedS k (x.1.2.2.2.1, ())).bind fun p3 =>
some ((p1.1.1, (p1.1.2.1, (p2.1, (p3.1, ())))), ((), ())))))
theorem t_w_toPool (k : Nat) (x) : evF TTab k [⟨22, 0, (.cons yP14 .nil), yP14, w_toPrefix k⟩, ⟨155, 0, (.cons yP22 .nil), yP29, w_toLeaseS k⟩, ⟨156, 0, (.cons (.il true yT2) .nil), (.own false 252 yT2), w_toFixedS k⟩] [] Tryz.f76 (.cons yP9 .nil) yP19 x = w_toPool k x := by kernel_rfl
theorem e_w_toPool [Names] (k : Nat) : EntryOk Tryz.prog ⟨76, 0, (.cons yP9 .nil), yP19, w_toPool k⟩ := entry_ok tok (by intro e he; simp only [List.mem_cons, List.not_mem_nil, or_false] at he; rcases he with rfl | rfl | rfl <;> first | exact e_w_toPrefix k | exact e_w_toLeaseS k | exact e_w_toFixedS k) (by kernel_rfl) (fn := Tryz.f76) (k := k) (es := [⟨22, 0, (.cons yP14 .nil), yP14, w_toPrefix k⟩, ⟨155, 0, (.cons yP22 .nil), yP29, w_toLeaseS k⟩, ⟨156, 0, (.cons (.il true yT2) .nil), (.own false 252 yT2), w_toFixedS k⟩]) (loops := []) (by kernel_rfl) (by kernel_rfl) (fun x r h => (t_w_toPool k x).trans h)
def w_toRoute (k : Nat) (x : (Int × Int × Int × Unit) × Unit) : Option ((Int × Int × Int × Unit) × Unit × Unit) :=
((w_toPrefix k ((x.1.1, (x.1.2.1, ())), ())).bind fun p1 =>
some ((p1.1.1, (p1.1.2.1, (x.1.2.2.1, ()))), ((), ())))
theorem t_w_toRoute (k : Nat) (x) : evF TTab k [⟨22, 0, (.cons yP14 .nil), yP14, w_toPrefix k⟩] [] Tryz.f157 yP32 (.agg yP11) x = w_toRoute k x := by kernel_rfl
theorem e_w_toRoute [Names] (k : Nat) : EntryOk Tryz.prog ⟨157, 0, yP32, (.agg yP11), w_toRoute k⟩ := entry_ok tok (by intro e he; simp only [List.mem_cons, List.not_mem_nil, or_false] at he; rcases he with rfl <;> first | exact e_w_toPrefix k) (by kernel_rfl) (fn := Tryz.f157) (k := k) (es := [⟨22, 0, (.cons yP14 .nil), yP14, w_toPrefix k⟩]) (loops := []) (by kernel_rfl) (by kernel_rfl) (fun x r h => (t_w_toRoute k x).trans h)
def w_toRouteS (k : Nat) (x : (List ((Int × Int) × Int)) × Unit) : Option ((List ((Int × Int) × Int)) × Unit × Unit) :=
(if (List.length x.1 : Int) = (List.length x.1 : Int) then
(if 0 ≤ (List.length x.1 : Int) ∧ (List.length x.1 : Int) ≤ (capMax : Int) then
(whileK (fun (rec0 : ((List ((Int × Int) × Int)) × (List ((Int × Int) × Int)) × Int × Unit) → Option _) (y0 : (List ((Int × Int) × Int)) × (List ((Int × Int) × Int)) × Int × Unit) =>
(if (decide (y0.2.2.1 < (List.length y0.1 : Int))) = true then
(if 0 ≤ y0.2.2.1 ∧ y0.2.2.1 < (List.length y0.1 : Int) then
((w_toRoute k (((Ty.rd (t := (.pair (.pair (.int .i64) (.int .i64)) (.int .i64))) y0.1 y0.2.2.1).1.1, ((Ty.rd (t := (.pair (.pair (.int .i64) (.int .i64)) (.int .i64))) y0.1 y0.2.2.1).1.2, ((Ty.rd (t := (.pair (.pair (.int .i64) (.int .i64)) (.int .i64))) y0.1 y0.2.2.1).2, ()))), ())).bind fun p1 =>
(if 0 ≤ y0.2.2.1 ∧ y0.2.2.1 < (List.length y0.2.1 : Int) then
(rec0 (y0.1, ((List.set y0.2.1 (Int.toNat y0.2.2.1) ((p1.1.1, p1.1.2.1), p1.1.2.2.1)), ((wi64 (y0.2.2.1 + (1 : Int))), ()))))
else none))
else none)
else
((fun (z1 : (List ((Int × Int) × Int)) × Unit) =>
some (z1.1, ((), ()))) (y0.2.1, ())))) k (x.1, ((List.replicate (Int.toNat (List.length x.1 : Int)) (((0 : Int), (0 : Int)), (0 : Int))), ((0 : Int), ()))))
else none)
else none)
theorem t_w_toRouteS (k : Nat) (x) : evF TTab k [⟨157, 0, yP32, (.agg yP11), w_toRoute k⟩] [(0, ⟨[0, 3, 4], (.cons yP13 (.cons yP10 yP3))⟩, ⟨[3], (.cons yP10 .nil)⟩)] Tryz.f77 (.cons yP13 .nil) yP10 x = w_toRouteS k x := by kernel_rfl
theorem e_w_toRouteS [Names] (k : Nat) : EntryOk Tryz.prog ⟨77, 0, (.cons yP13 .nil), yP10, w_toRouteS k⟩ := entry_ok tok (by intro e he; simp only [List.mem_cons, List.not_mem_nil, or_false] at he; rcases he with rfl <;> first | exact e_w_toRoute k) (by kernel_rfl) (fn := Tryz.f77) (k := k) (es := [⟨157, 0, yP32, (.agg yP11), w_toRoute k⟩]) (loops := [(0, ⟨[0, 3, 4], (.cons yP13 (.cons yP10 yP3))⟩, ⟨[3], (.cons yP10 .nil)⟩)]) (by kernel_rfl) (by kernel_rfl) (fun x r h => (t_w_toRouteS k x).trans h)
def w_toIntS (k : Nat) (x : List (Int) × Unit) : Option (List (Int) × Unit × Unit) :=
(if (List.length x.1 : Int) = (List.length x.1 : Int) then
(if 0 ≤ (List.length x.1 : Int) ∧ (List.length x.1 : Int) ≤ (capMax : Int) then
(whileK (fun (rec0 : (List (Int) × List (Int) × Int × Unit) → Option _) (y0 : List (Int) × List (Int) × Int × Unit) =>
(if (decide (y0.2.2.1 < (List.length y0.1 : Int))) = true then
(if 0 ≤ y0.2.2.1 ∧ y0.2.2.1 < (List.length y0.1 : Int) then
(if 0 ≤ y0.2.2.1 ∧ y0.2.2.1 < (List.length y0.2.1 : Int) then
(rec0 (y0.1, ((List.set y0.2.1 (Int.toNat y0.2.2.1) (Ty.rd (t := (.int .i64)) y0.1 y0.2.2.1)), ((wi64 (y0.2.2.1 + (1 : Int))), ()))))
else none)
else none)
else
((fun (z1 : List (Int) × Unit) =>
some (z1.1, ((), ()))) (y0.2.1, ())))) k (x.1, ((List.replicate (Int.toNat (List.length x.1 : Int)) (0 : Int)), ((0 : Int), ()))))
else none)
else none)
theorem t_w_toIntS (k : Nat) (x) : evF TTab k [] [(0, ⟨[0, 3, 4], (.cons (.il true (.int .i64)) (.cons yP31 yP3))⟩, ⟨[3], (.cons yP31 .nil)⟩)] Tryz.f115 yP30 yP31 x = w_toIntS k x := by kernel_rfl
theorem e_w_toIntS [Names] (k : Nat) : EntryOk Tryz.prog ⟨115, 0, yP30, yP31, w_toIntS k⟩ := entry_ok tok (by simp) (by kernel_rfl) (fn := Tryz.f115) (k := k) (es := []) (loops := [(0, ⟨[0, 3, 4], (.cons (.il true (.int .i64)) (.cons yP31 yP3))⟩, ⟨[3], (.cons yP31 .nil)⟩)]) (by kernel_rfl) (by kernel_rfl) (fun x r h => (t_w_toIntS k x).trans h)
def w_toSlot (k : Nat) (x : (Int × ByteArray × ByteArray × Int × List (Int) × Int × Unit) × Unit) : Option ((Int × ByteArray × ByteArray × Int × List (Int) × Int × Unit) × Unit × Unit) :=
((w_toIntS k (x.1.2.2.2.2.1, ())).bind fun p1 =>
some ((x.1.1, (x.1.2.1, (x.1.2.2.1, (x.1.2.2.2.1, (p1.1, (x.1.2.2.2.2.2.1, ())))))), ((), ())))
theorem t_w_toSlot (k : Nat) (x) : evF TTab k [⟨115, 0, yP30, yP31, w_toIntS k⟩] [] Tryz.f178 (.cons yP16 .nil) (.agg yP24) x = w_toSlot k x := by kernel_rfl
theorem e_w_toSlot [Names] (k : Nat) : EntryOk Tryz.prog ⟨178, 0, (.cons yP16 .nil), (.agg yP24), w_toSlot k⟩ := entry_ok tok (by intro e he; simp only [List.mem_cons, List.not_mem_nil, or_false] at he; rcases he with rfl <;> first | exact e_w_toIntS k) (by kernel_rfl) (fn := Tryz.f178) (k := k) (es := [⟨115, 0, yP30, yP31, w_toIntS k⟩]) (loops := []) (by kernel_rfl) (by kernel_rfl) (fun x r h => (t_w_toSlot k x).trans h)
end Go.Proofs.YtnfllchbpechlaaGreat
