import Derived.Test.YtdcfekhjhopbfaaFun0
/- What functions of the program compute, as plain functions, and that their calls do so (part 1). Conditions: the plain function answers. -/
set_option linter.unusedVariables false
namespace Go.Proofs.Ytdcfekhjhopbfaa
open Go Go.Eng Go.Proofs
def s_l01In (k : Nat) (x : Int × Int × Int × Unit) : Option (Bool × Unit × Unit × Unit × Unit) :=
(if (decide (x.2.1 ≤ x.1)) = true then
some ((decide (x.1 ≤ x.2.2.1)), ((), ((), ((), ()))))
else
some (false, ((), ((), ((), ())))))
theorem t_s_l01In (k : Nat) (x) : evF TTab k [] [] Try.f40 (.cons (.int .i64) (.cons (.int .i64) (.cons (.int .i64) .nil))) .bool x = s_l01In k x := by kernel_rfl
theorem e_s_l01In (k : Nat) : EntryOk Try.prog ⟨40, 0, (.cons (.int .i64) (.cons (.int .i64) (.cons (.int .i64) .nil))), .bool, s_l01In k⟩ := entry_ok tok (by simp) (by kernel_rfl) (fn := Try.f40) (k := k) (es := []) (loops := []) (by kernel_rfl) (by kernel_rfl) (fun x r h => (t_s_l01In k x).trans h)
def s_AddrOk (k : Nat) (x : Int × Unit) : Option (Bool × Unit × Unit) :=
((s_l01In k (x.1, ((0 : Int), ((4294967295 : Int), ())))).bind fun p1 =>
some (p1.1, ((), ())))
theorem t_s_AddrOk (k : Nat) (x) : evF TTab k [⟨40, 0, (.cons (.int .i64) (.cons (.int .i64) (.cons (.int .i64) .nil))), .bool, s_l01In k⟩] [] Try.f65 (.cons (.int .i64) .nil) .bool x = s_AddrOk k x := by kernel_rfl
theorem e_s_AddrOk (k : Nat) : EntryOk Try.prog ⟨65, 0, (.cons (.int .i64) .nil), .bool, s_AddrOk k⟩ := entry_ok tok (by intro e he; simp only [List.mem_cons, List.not_mem_nil, or_false] at he; rcases he with rfl <;> first | exact e_s_l01In k) (by kernel_rfl) (fn := Try.f65) (k := k) (es := [⟨40, 0, (.cons (.int .i64) (.cons (.int .i64) (.cons (.int .i64) .nil))), .bool, s_l01In k⟩]) (loops := []) (by kernel_rfl) (by kernel_rfl) (fun x r h => (t_s_AddrOk k x).trans h)
def s_l08Size (k : Nat) (x : Int × Unit) : Option (Int × Unit × Unit) :=
(whileK (fun (rec0 : (Int × Int × Unit) → Option _) (y0 : Int × Int × Unit) =>
(if (decide (y0.2.1 < (32 : Int))) = true then
(rec0 ((wi64 ((2 : Int) * y0.1)), ((wi64 (y0.2.1 + (1 : Int))), ())))
else
((fun (z1 : Int × Unit) =>
some (z1.1, ((), ()))) (y0.1, ())))) k ((1 : Int), (x.1, ())))
theorem t_s_l08Size (k : Nat) (x) : evF TTab k [] [(0, ⟨[3, 4], (.cons (.int .i64) (.cons (.int .i64) .nil))⟩, ⟨[3], (.cons (.int .i64) .nil)⟩)] Try.f66 (.cons (.int .i64) .nil) (.int .i64) x = s_l08Size k x := by kernel_rfl
theorem e_s_l08Size (k : Nat) : EntryOk Try.prog ⟨66, 0, (.cons (.int .i64) .nil), (.int .i64), s_l08Size k⟩ := entry_ok tok (by simp) (by kernel_rfl) (fn := Try.f66) (k := k) (es := []) (loops := [(0, ⟨[3, 4], (.cons (.int .i64) (.cons (.int .i64) .nil))⟩, ⟨[3], (.cons (.int .i64) .nil)⟩)]) (by kernel_rfl) (by kernel_rfl) (fun x r h => (t_s_l08Size k x).trans h)
def s_PrefixOk (k : Nat) (x : (Int × Int × Unit) × Unit) : Option (Bool × Unit × Unit) :=
((s_AddrOk k (x.1.1, ())).bind fun p1 =>
(if p1.1 = true then
((s_l01In k (x.1.2.1, ((0 : Int), ((32 : Int), ())))).bind fun p2 =>
(if p2.1 = true then
((s_l08Size k (x.1.2.1, ())).bind fun p3 =>
(if p3.1 = 0 then
none
else
some ((decide ((Int.tmod x.1.1 p3.1) = (0 : Int))), ((), ()))))
else
some (false, ((), ()))))
else
some (false, ((), ()))))
theorem t_s_PrefixOk (k : Nat) (x) : evF TTab k [⟨40, 0, (.cons (.int .i64) (.cons (.int .i64) (.cons (.int .i64) .nil))), .bool, s_l01In k⟩, ⟨65, 0, (.cons (.int .i64) .nil), .bool, s_AddrOk k⟩, ⟨66, 0, (.cons (.int .i64) .nil), (.int .i64), s_l08Size k⟩] [] Try.f39 (.cons (.agg (.cons (.int .i64) (.cons (.int .i64) .nil))) .nil) .bool x = s_PrefixOk k x := by kernel_rfl
theorem e_s_PrefixOk (k : Nat) : EntryOk Try.prog ⟨39, 0, (.cons (.agg (.cons (.int .i64) (.cons (.int .i64) .nil))) .nil), .bool, s_PrefixOk k⟩ := entry_ok tok (by intro e he; simp only [List.mem_cons, List.not_mem_nil, or_false] at he; rcases he with rfl | rfl | rfl <;> first | exact e_s_l01In k | exact e_s_AddrOk k | exact e_s_l08Size k) (by kernel_rfl) (fn := Try.f39) (k := k) (es := [⟨40, 0, (.cons (.int .i64) (.cons (.int .i64) (.cons (.int .i64) .nil))), .bool, s_l01In k⟩, ⟨65, 0, (.cons (.int .i64) .nil), .bool, s_AddrOk k⟩, ⟨66, 0, (.cons (.int .i64) .nil), (.int .i64), s_l08Size k⟩]) (loops := []) (by kernel_rfl) (by kernel_rfl) (fun x r h => (t_s_PrefixOk k x).trans h)
def s_InPrefix (k : Nat) (x : (Int × Int × Unit) × Int × Unit) : Option (Bool × Unit × Unit × Unit) :=
((s_PrefixOk k ((x.1.1, (x.1.2.1, ())), ())).bind fun p1 =>
(if p1.1 = true then
((s_AddrOk k (x.2.1, ())).bind fun p2 =>
(if p2.1 = true then
((s_l08Size k (x.1.2.1, ())).bind fun p3 =>
(if p3.1 = 0 then
none
else
some ((decide ((wi64 (x.2.1 - (Int.tmod x.2.1 p3.1))) = x.1.1)), ((), ((), ())))))
else
some (false, ((), ((), ())))))
else
some (false, ((), ((), ())))))
theorem t_s_InPrefix (k : Nat) (x) : evF TTab k [⟨39, 0, (.cons (.agg (.cons (.int .i64) (.cons (.int .i64) .nil))) .nil), .bool, s_PrefixOk k⟩, ⟨65, 0, (.cons (.int .i64) .nil), .bool, s_AddrOk k⟩, ⟨66, 0, (.cons (.int .i64) .nil), (.int .i64), s_l08Size k⟩] [] Try.f67 (.cons (.agg (.cons (.int .i64) (.cons (.int .i64) .nil))) (.cons (.int .i64) .nil)) .bool x = s_InPrefix k x := by kernel_rfl
theorem e_s_InPrefix (k : Nat) : EntryOk Try.prog ⟨67, 0, (.cons (.agg (.cons (.int .i64) (.cons (.int .i64) .nil))) (.cons (.int .i64) .nil)), .bool, s_InPrefix k⟩ := entry_ok tok (by intro e he; simp only [List.mem_cons, List.not_mem_nil, or_false] at he; rcases he with rfl | rfl | rfl <;> first | exact e_s_PrefixOk k | exact e_s_AddrOk k | exact e_s_l08Size k) (by kernel_rfl) (fn := Try.f67) (k := k) (es := [⟨39, 0, (.cons (.agg (.cons (.int .i64) (.cons (.int .i64) .nil))) .nil), .bool, s_PrefixOk k⟩, ⟨65, 0, (.cons (.int .i64) .nil), .bool, s_AddrOk k⟩, ⟨66, 0, (.cons (.int .i64) .nil), (.int .i64), s_l08Size k⟩]) (loops := []) (by kernel_rfl) (by kernel_rfl) (fun x r h => (t_s_InPrefix k x).trans h)
def s_l11Inside (k : Nat) (x : (Int × Int × (List (Int × Int × Int)) × (List (Int × Int)) × Unit) × Int × Unit) : Option (Bool × Unit × Unit × Unit) :=
((s_InPrefix k ((x.1.1, (x.1.2.1, ())), (x.2.1, ()))).bind fun p1 =>
(if p1.1 = true then
(if (!decide (x.2.1 = x.1.1)) = true then
((s_l08Size k (x.1.2.1, ())).bind fun p2 =>
some ((!decide (x.2.1 = (wi64 ((wi64 (x.1.1 + p2.1)) - (1 : Int))))), ((), ((), ()))))
else
some (false, ((), ((), ()))))
else
some (false, ((), ((), ())))))
theorem t_s_l11Inside (k : Nat) (x) : evF TTab k [⟨66, 0, (.cons (.int .i64) .nil), (.int .i64), s_l08Size k⟩, ⟨67, 0, (.cons (.agg (.cons (.int .i64) (.cons (.int .i64) .nil))) (.cons (.int .i64) .nil)), .bool, s_InPrefix k⟩] [] Try.f41 (.cons (.agg (.cons (.int .i64) (.cons (.int .i64) (.cons (.il true (.pair (.int .i64) (.pair (.int .i64) (.int .i64)))) (.cons (.il true (.pair (.int .i64) (.int .i64))) .nil))))) (.cons (.int .i64) .nil)) .bool x = s_l11Inside k x := by kernel_rfl
theorem e_s_l11Inside (k : Nat) : EntryOk Try.prog ⟨41, 0, (.cons (.agg (.cons (.int .i64) (.cons (.int .i64) (.cons (.il true (.pair (.int .i64) (.pair (.int .i64) (.int .i64)))) (.cons (.il true (.pair (.int .i64) (.int .i64))) .nil))))) (.cons (.int .i64) .nil)), .bool, s_l11Inside k⟩ := entry_ok tok (by intro e he; simp only [List.mem_cons, List.not_mem_nil, or_false] at he; rcases he with rfl | rfl <;> first | exact e_s_l08Size k | exact e_s_InPrefix k) (by kernel_rfl) (fn := Try.f41) (k := k) (es := [⟨66, 0, (.cons (.int .i64) .nil), (.int .i64), s_l08Size k⟩, ⟨67, 0, (.cons (.agg (.cons (.int .i64) (.cons (.int .i64) .nil))) (.cons (.int .i64) .nil)), .bool, s_InPrefix k⟩]) (loops := []) (by kernel_rfl) (by kernel_rfl) (fun x r h => (t_s_l11Inside k x).trans h)
def s_l11FixedFor (k : Nat) (x : (Int × Int × (List (Int × Int × Int)) × (List (Int × Int)) × Unit) × Int × Unit) : Option (Int × Unit × Unit × Unit) :=
(whileK (fun (rec0 : (Int × (Int × Int × (List (Int × Int × Int)) × (List (Int × Int)) × Unit) × Int × Unit) → Option _) (y0 : Int × (Int × Int × (List (Int × Int × Int)) × (List (Int × Int)) × Unit) × Int × Unit) =>
(if (decide (y0.2.2.1 < (List.length y0.2.1.2.2.2.1 : Int))) = true then
(if 0 ≤ y0.2.2.1 ∧ y0.2.2.1 < (List.length y0.2.1.2.2.2.1 : Int) then
(if (decide ((Ty.rd (t := (.pair (.int .i64) (.int .i64))) y0.2.1.2.2.2.1 y0.2.2.1).2 = y0.1)) = true then
(if 0 ≤ y0.2.2.1 ∧ y0.2.2.1 < (List.length y0.2.1.2.2.2.1 : Int) then
some ((Ty.rd (t := (.pair (.int .i64) (.int .i64))) y0.2.1.2.2.2.1 y0.2.2.1).1, ((), ((), ())))
else none)
else
(rec0 (y0.1, ((y0.2.1.1, (y0.2.1.2.1, (y0.2.1.2.2.1, (y0.2.1.2.2.2.1, ())))), ((wi64 (y0.2.2.1 + (1 : Int))), ())))))
else none)
else
((fun (z1 : Unit) =>
some ((0 : Int), ((), ((), ())))) ()))) k (x.2.1, ((x.1.1, (x.1.2.1, (x.1.2.2.1, (x.1.2.2.2.1, ())))), ((0 : Int), ()))))
theorem t_s_l11FixedFor (k : Nat) (x) : evF TTab k [] [(0, ⟨[1, 2, 5], (.cons (.int .i64) (.cons (.ptr (.cons (.int .i64) (.cons (.int .i64) (.cons (.il true (.pair (.int .i64) (.pair (.int .i64) (.int .i64)))) (.cons (.il true (.pair (.int .i64) (.int .i64))) .nil))))) (.cons (.int .i64) .nil)))⟩, ⟨[], .nil⟩)] Try.f42 (.cons (.agg (.cons (.int .i64) (.cons (.int .i64) (.cons (.il true (.pair (.int .i64) (.pair (.int .i64) (.int .i64)))) (.cons (.il true (.pair (.int .i64) (.int .i64))) .nil))))) (.cons (.int .i64) .nil)) (.int .i64) x = s_l11FixedFor k x := by kernel_rfl
theorem e_s_l11FixedFor (k : Nat) : EntryOk Try.prog ⟨42, 0, (.cons (.agg (.cons (.int .i64) (.cons (.int .i64) (.cons (.il true (.pair (.int .i64) (.pair (.int .i64) (.int .i64)))) (.cons (.il true (.pair (.int .i64) (.int .i64))) .nil))))) (.cons (.int .i64) .nil)), (.int .i64), s_l11FixedFor k⟩ := entry_ok tok (by simp) (by kernel_rfl) (fn := Try.f42) (k := k) (es := []) (loops := [(0, ⟨[1, 2, 5], (.cons (.int .i64) (.cons (.ptr (.cons (.int .i64) (.cons (.int .i64) (.cons (.il true (.pair (.int .i64) (.pair (.int .i64) (.int .i64)))) (.cons (.il true (.pair (.int .i64) (.int .i64))) .nil))))) (.cons (.int .i64) .nil)))⟩, ⟨[], .nil⟩)]) (by kernel_rfl) (by kernel_rfl) (fun x r h => (t_s_l11FixedFor k x).trans h)
def s_PoolOk (k : Nat) (x : (Int × Int × (List (Int × Int × Int)) × (List (Int × Int)) × Unit) × Unit) : Option (Bool × Unit × Unit) :=
((s_PrefixOk k ((x.1.1, (x.1.2.1, ())), ())).bind fun p1 =>
(if (!p1.1) = false then
((s_l01In k (x.1.2.1, ((24 : Int), ((30 : Int), ())))).bind fun p2 =>
(if (!p2.1) = false then
(if (decide ((6 : Int) < (List.length x.1.2.2.1 : Int))) = false then
(if (decide ((4 : Int) < (List.length x.1.2.2.2.1 : Int))) = true then
some (false, ((), ()))
else
(whileK (fun (rec0 : ((Int × Int × (List (Int × Int × Int)) × (List (Int × Int)) × Unit) × Int × Unit) → Option _) (y0 : (Int × Int × (List (Int × Int × Int)) × (List (Int × Int)) × Unit) × Int × Unit) =>
(if (decide (y0.2.1 < (List.length y0.1.2.2.2.1 : Int))) = true then
(if 0 ≤ y0.2.1 ∧ y0.2.1 < (List.length y0.1.2.2.2.1 : Int) then
((s_l01In k ((Ty.rd (t := (.pair (.int .i64) (.int .i64))) y0.1.2.2.2.1 y0.2.1).1, ((1 : Int), ((99 : Int), ())))).bind fun p3 =>
(if (!p3.1) = false then
((s_l11Inside k ((y0.1.1, (y0.1.2.1, (y0.1.2.2.1, (y0.1.2.2.2.1, ())))), ((Ty.rd (t := (.pair (.int .i64) (.int .i64))) y0.1.2.2.2.1 y0.2.1).2, ()))).bind fun p4 =>
(if (!p4.1) = false then
(if (decide ((0 : Int) < y0.2.1)) = true then
(if 0 ≤ (wi64 (y0.2.1 - (1 : Int))) ∧ (wi64 (y0.2.1 - (1 : Int))) < (List.length y0.1.2.2.2.1 : Int) then
(if (decide ((Ty.rd (t := (.pair (.int .i64) (.int .i64))) y0.1.2.2.2.1 y0.2.1).1 ≤ (Ty.rd (t := (.pair (.int .i64) (.int .i64))) y0.1.2.2.2.1 (wi64 (y0.2.1 - (1 : Int)))).1)) = false then
((s_l11FixedFor k ((y0.1.1, (y0.1.2.1, (y0.1.2.2.1, (y0.1.2.2.2.1, ())))), ((Ty.rd (t := (.pair (.int .i64) (.int .i64))) y0.1.2.2.2.1 y0.2.1).2, ()))).bind fun p5 =>
(if (!decide (p5.1 = (Ty.rd (t := (.pair (.int .i64) (.int .i64))) y0.1.2.2.2.1 y0.2.1).1)) = true then
some (false, ((), ()))
else
(rec0 ((y0.1.1, (y0.1.2.1, (y0.1.2.2.1, (y0.1.2.2.2.1, ())))), ((wi64 (y0.2.1 + (1 : Int))), ())))))
else
some (false, ((), ())))
else none)
else
((s_l11FixedFor k ((y0.1.1, (y0.1.2.1, (y0.1.2.2.1, (y0.1.2.2.2.1, ())))), ((Ty.rd (t := (.pair (.int .i64) (.int .i64))) y0.1.2.2.2.1 y0.2.1).2, ()))).bind fun p6 =>
(if (!decide (p6.1 = (Ty.rd (t := (.pair (.int .i64) (.int .i64))) y0.1.2.2.2.1 y0.2.1).1)) = true then
some (false, ((), ()))
else
(rec0 ((y0.1.1, (y0.1.2.1, (y0.1.2.2.1, (y0.1.2.2.2.1, ())))), ((wi64 (y0.2.1 + (1 : Int))), ()))))))
else
some (false, ((), ()))))
else
some (false, ((), ()))))
else none)
else
((fun (z1 : (Int × Int × (List (Int × Int × Int)) × (List (Int × Int)) × Unit) × Unit) =>
(whileK (fun (rec2 : ((Int × Int × (List (Int × Int × Int)) × (List (Int × Int)) × Unit) × Int × Unit) → Option _) (y2 : (Int × Int × (List (Int × Int × Int)) × (List (Int × Int)) × Unit) × Int × Unit) =>
(if (decide (y2.2.1 < (List.length y2.1.2.2.1 : Int))) = true then
(if 0 ≤ y2.2.1 ∧ y2.2.1 < (List.length y2.1.2.2.1 : Int) then
(jn (
((s_l11FixedFor k ((y2.1.1, (y2.1.2.1, (y2.1.2.2.1, (y2.1.2.2.2.1, ())))), ((Ty.rd (t := (.pair (.int .i64) (.pair (.int .i64) (.int .i64)))) y2.1.2.2.1 y2.2.1).1, ()))).bind fun p11 =>
(jn (
(whileK (fun (rec4 : ((Int × Int × (List (Int × Int × Int)) × (List (Int × Int)) × Unit) × Int × (Int × Int × Int × Unit) × Int × Unit) → Option _) (y4 : (Int × Int × (List (Int × Int × Int)) × (List (Int × Int)) × Unit) × Int × (Int × Int × Int × Unit) × Int × Unit) =>
(if (decide (y4.2.2.2.1 < y4.2.1)) = true then
(if 0 ≤ y4.2.2.2.1 ∧ y4.2.2.2.1 < (List.length y4.1.2.2.1 : Int) then
(if (decide ((Ty.rd (t := (.pair (.int .i64) (.pair (.int .i64) (.int .i64)))) y4.1.2.2.1 y4.2.2.2.1).2.1 = y4.2.2.1.2.1)) = true then
some (false, ((), ()))
else
(rec4 ((y4.1.1, (y4.1.2.1, (y4.1.2.2.1, (y4.1.2.2.2.1, ())))), (y4.2.1, ((y4.2.2.1.1, (y4.2.2.1.2.1, (y4.2.2.1.2.2.1, ()))), ((wi64 (y4.2.2.2.1 + (1 : Int))), ()))))))
else none)
else
((fun (z5 : (Int × Int × (List (Int × Int × Int)) × (List (Int × Int)) × Unit) × Int × Unit) =>
(rec2 ((z5.1.1, (z5.1.2.1, (z5.1.2.2.1, (z5.1.2.2.2.1, ())))), ((wi64 (z5.2.1 + (1 : Int))), ())))) ((y4.1.1, (y4.1.2.1, (y4.1.2.2.1, (y4.1.2.2.2.1, ())))), (y4.2.1, ()))))) k ((y2.1.1, (y2.1.2.1, (y2.1.2.2.1, (y2.1.2.2.2.1, ())))), (y2.2.1, (((Ty.rd (t := (.pair (.int .i64) (.pair (.int .i64) (.int .i64)))) y2.1.2.2.1 y2.2.1).1, ((Ty.rd (t := (.pair (.int .i64) (.pair (.int .i64) (.int .i64)))) y2.1.2.2.1 y2.2.1).2.1, ((Ty.rd (t := (.pair (.int .i64) (.pair (.int .i64) (.int .i64)))) y2.1.2.2.1 y2.2.1).2.2, ()))), ((0 : Int), ())))))) (fun (j3 : Option _) =>
(if (!decide (p11.1 = (0 : Int))) = true then
(if (!decide (p11.1 = (Ty.rd (t := (.pair (.int .i64) (.pair (.int .i64) (.int .i64)))) y2.1.2.2.1 y2.2.1).2.1)) = true then
some (false, ((), ()))
else
j3)
else
j3))))) (fun (j2 : Option _) =>
((s_l11Inside k ((y2.1.1, (y2.1.2.1, (y2.1.2.2.1, (y2.1.2.2.2.1, ())))), ((Ty.rd (t := (.pair (.int .i64) (.pair (.int .i64) (.int .i64)))) y2.1.2.2.1 y2.2.1).1, ()))).bind fun p7 =>
(if (!p7.1) = false then
((s_l01In k ((Ty.rd (t := (.pair (.int .i64) (.pair (.int .i64) (.int .i64)))) y2.1.2.2.1 y2.2.1).2.1, ((1 : Int), ((99 : Int), ())))).bind fun p8 =>
(if (!p8.1) = false then
((s_l01In k ((Ty.rd (t := (.pair (.int .i64) (.pair (.int .i64) (.int .i64)))) y2.1.2.2.1 y2.2.1).2.2, ((0 : Int), ((1000000000 : Int), ())))).bind fun p9 =>
(if (!p9.1) = false then
(if (decide ((0 : Int) < y2.2.1)) = true then
(if 0 ≤ (wi64 (y2.2.1 - (1 : Int))) ∧ (wi64 (y2.2.1 - (1 : Int))) < (List.length y2.1.2.2.1 : Int) then
(if (decide ((Ty.rd (t := (.pair (.int .i64) (.pair (.int .i64) (.int .i64)))) y2.1.2.2.1 y2.2.1).1 ≤ (Ty.rd (t := (.pair (.int .i64) (.pair (.int .i64) (.int .i64)))) y2.1.2.2.1 (wi64 (y2.2.1 - (1 : Int)))).1)) = true then
some (false, ((), ()))
else
j2)
else none)
else
j2)
else
some (false, ((), ()))))
else
some (false, ((), ()))))
else
some (false, ((), ()))))))
else none)
else
((fun (z6 : Unit) =>
some (true, ((), ()))) ()))) k ((z1.1.1, (z1.1.2.1, (z1.1.2.2.1, (z1.1.2.2.2.1, ())))), ((0 : Int), ())))) ((y0.1.1, (y0.1.2.1, (y0.1.2.2.1, (y0.1.2.2.2.1, ())))), ())))) k ((x.1.1, (x.1.2.1, (x.1.2.2.1, (x.1.2.2.2.1, ())))), ((0 : Int), ()))))
else
some (false, ((), ())))
else
some (false, ((), ()))))
else
some (false, ((), ()))))
theorem t_s_PoolOk (k : Nat) (x) : evF TTab k [⟨39, 0, (.cons (.agg (.cons (.int .i64) (.cons (.int .i64) .nil))) .nil), .bool, s_PrefixOk k⟩, ⟨40, 0, (.cons (.int .i64) (.cons (.int .i64) (.cons (.int .i64) .nil))), .bool, s_l01In k⟩, ⟨41, 0, (.cons (.agg (.cons (.int .i64) (.cons (.int .i64) (.cons (.il true (.pair (.int .i64) (.pair (.int .i64) (.int .i64)))) (.cons (.il true (.pair (.int .i64) (.int .i64))) .nil))))) (.cons (.int .i64) .nil)), .bool, s_l11Inside k⟩, ⟨42, 0, (.cons (.agg (.cons (.int .i64) (.cons (.int .i64) (.cons (.il true (.pair (.int .i64) (.pair (.int .i64) (.int .i64)))) (.cons (.il true (.pair (.int .i64) (.int .i64))) .nil))))) (.cons (.int .i64) .nil)), (.int .i64), s_l11FixedFor k⟩] [(0, ⟨[1, 3], (.cons (.ptr (.cons (.int .i64) (.cons (.int .i64) (.cons (.il true (.pair (.int .i64) (.pair (.int .i64) (.int .i64)))) (.cons (.il true (.pair (.int .i64) (.int .i64))) .nil))))) (.cons (.int .i64) .nil))⟩, ⟨[1], (.cons (.ptr (.cons (.int .i64) (.cons (.int .i64) (.cons (.il true (.pair (.int .i64) (.pair (.int .i64) (.int .i64)))) (.cons (.il true (.pair (.int .i64) (.int .i64))) .nil))))) .nil)⟩), (2, ⟨[1, 5], (.cons (.ptr (.cons (.int .i64) (.cons (.int .i64) (.cons (.il true (.pair (.int .i64) (.pair (.int .i64) (.int .i64)))) (.cons (.il true (.pair (.int .i64) (.int .i64))) .nil))))) (.cons (.int .i64) .nil))⟩, ⟨[], .nil⟩), (4, ⟨[1, 5, 6, 8], (.cons (.ptr (.cons (.int .i64) (.cons (.int .i64) (.cons (.il true (.pair (.int .i64) (.pair (.int .i64) (.int .i64)))) (.cons (.il true (.pair (.int .i64) (.int .i64))) .nil))))) (.cons (.int .i64) (.cons (.ptr (.cons (.int .i64) (.cons (.int .i64) (.cons (.int .i64) .nil)))) (.cons (.int .i64) .nil))))⟩, ⟨[1, 5], (.cons (.ptr (.cons (.int .i64) (.cons (.int .i64) (.cons (.il true (.pair (.int .i64) (.pair (.int .i64) (.int .i64)))) (.cons (.il true (.pair (.int .i64) (.int .i64))) .nil))))) (.cons (.int .i64) .nil))⟩)] Try.f16 (.cons (.agg (.cons (.int .i64) (.cons (.int .i64) (.cons (.il true (.pair (.int .i64) (.pair (.int .i64) (.int .i64)))) (.cons (.il true (.pair (.int .i64) (.int .i64))) .nil))))) .nil) .bool x = s_PoolOk k x := by kernel_rfl
theorem e_s_PoolOk (k : Nat) : EntryOk Try.prog ⟨16, 0, (.cons (.agg (.cons (.int .i64) (.cons (.int .i64) (.cons (.il true (.pair (.int .i64) (.pair (.int .i64) (.int .i64)))) (.cons (.il true (.pair (.int .i64) (.int .i64))) .nil))))) .nil), .bool, s_PoolOk k⟩ := entry_ok tok (by intro e he; simp only [List.mem_cons, List.not_mem_nil, or_false] at he; rcases he with rfl | rfl | rfl | rfl <;> first | exact e_s_PrefixOk k | exact e_s_l01In k | exact e_s_l11Inside k | exact e_s_l11FixedFor k) (by kernel_rfl) (fn := Try.f16) (k := k) (es := [⟨39, 0, (.cons (.agg (.cons (.int .i64) (.cons (.int .i64) .nil))) .nil), .bool, s_PrefixOk k⟩, ⟨40, 0, (.cons (.int .i64) (.cons (.int .i64) (.cons (.int .i64) .nil))), .bool, s_l01In k⟩, ⟨41, 0, (.cons (.agg (.cons (.int .i64) (.cons (.int .i64) (.cons (.il true (.pair (.int .i64) (.pair (.int .i64) (.int .i64)))) (.cons (.il true (.pair (.int .i64) (.int .i64))) .nil))))) (.cons (.int .i64) .nil)), .bool, s_l11Inside k⟩, ⟨42, 0, (.cons (.agg (.cons (.int .i64) (.cons (.int .i64) (.cons (.il true (.pair (.int .i64) (.pair (.int .i64) (.int .i64)))) (.cons (.il true (.pair (.int .i64) (.int .i64))) .nil))))) (.cons (.int .i64) .nil)), (.int .i64), s_l11FixedFor k⟩]) (loops := [(0, ⟨[1, 3], (.cons (.ptr (.cons (.int .i64) (.cons (.int .i64) (.cons (.il true (.pair (.int .i64) (.pair (.int .i64) (.int .i64)))) (.cons (.il true (.pair (.int .i64) (.int .i64))) .nil))))) (.cons (.int .i64) .nil))⟩, ⟨[1], (.cons (.ptr (.cons (.int .i64) (.cons (.int .i64) (.cons (.il true (.pair (.int .i64) (.pair (.int .i64) (.int .i64)))) (.cons (.il true (.pair (.int .i64) (.int .i64))) .nil))))) .nil)⟩), (2, ⟨[1, 5], (.cons (.ptr (.cons (.int .i64) (.cons (.int .i64) (.cons (.il true (.pair (.int .i64) (.pair (.int .i64) (.int .i64)))) (.cons (.il true (.pair (.int .i64) (.int .i64))) .nil))))) (.cons (.int .i64) .nil))⟩, ⟨[], .nil⟩), (4, ⟨[1, 5, 6, 8], (.cons (.ptr (.cons (.int .i64) (.cons (.int .i64) (.cons (.il true (.pair (.int .i64) (.pair (.int .i64) (.int .i64)))) (.cons (.il true (.pair (.int .i64) (.int .i64))) .nil))))) (.cons (.int .i64) (.cons (.ptr (.cons (.int .i64) (.cons (.int .i64) (.cons (.int .i64) .nil)))) (.cons (.int .i64) .nil))))⟩, ⟨[1, 5], (.cons (.ptr (.cons (.int .i64) (.cons (.int .i64) (.cons (.il true (.pair (.int .i64) (.pair (.int .i64) (.int .i64)))) (.cons (.il true (.pair (.int .i64) (.int .i64))) .nil))))) (.cons (.int .i64) .nil))⟩)]) (by kernel_rfl) (by kernel_rfl) (fun x r h => (t_s_PoolOk k x).trans h)
def s_HubNew (k : Nat) (x : (Int × Int × Unit) × Unit) : Option (((Int × Int × (List (Int × Int × Int)) × (List (Int × Int)) × (List ((Int × Int) × Int)) × (List (Int × Int × ((Int × ByteArray × ByteArray × Int × List (Int) × Int) × Int × ByteArray × ByteArray × Int × List (Int) × Int) × List (Int × Int × Int × List (ByteArray) × List (Bool) × Int) × Int)) × Unit) × Bool × Unit) × Unit × Unit) :=
((s_PoolOk k ((x.1.1, (x.1.2.1, ([], ([], ())))), ())).bind fun p1 =>
(if (!p1.1) = true then
some ((((0 : Int), ((0 : Int), ([], ([], ([], ([], ())))))), (false, ())), ((), ()))
else
some (((x.1.1, (x.1.2.1, ([], ([], ([], ([], ())))))), (true, ())), ((), ()))))
theorem t_s_HubNew (k : Nat) (x) : evF TTab k [⟨16, 0, (.cons (.agg (.cons (.int .i64) (.cons (.int .i64) (.cons (.il true (.pair (.int .i64) (.pair (.int .i64) (.int .i64)))) (.cons (.il true (.pair (.int .i64) (.int .i64))) .nil))))) .nil), .bool, s_PoolOk k⟩] [] Try.f5 (.cons (.agg (.cons (.int .i64) (.cons (.int .i64) .nil))) .nil) (.tup (.cons (.agg (.cons (.int .i64) (.cons (.int .i64) (.cons (.own false 70 (.pair (.int .i64) (.pair (.int .i64) (.int .i64)))) (.cons (.own false 67 (.pair (.int .i64) (.int .i64))) (.cons (.own false 78 (.pair (.pair (.int .i64) (.int .i64)) (.int .i64))) (.cons (.own false 88 (.pair (.int .i64) (.pair (.int .i64) (.pair (.pair (.pair (.int .i64) (.pair .str (.pair .str (.pair (.int .i64) (.pair (.list (.int .i64)) (.int .i64)))))) (.pair (.int .i64) (.pair .str (.pair .str (.pair (.int .i64) (.pair (.list (.int .i64)) (.int .i64))))))) (.pair (.list (.pair (.int .i64) (.pair (.int .i64) (.pair (.int .i64) (.pair (.list .str) (.pair (.list .bool) (.int .i64))))))) (.int .i64)))))) .nil))))))) (.cons .bool .nil))) x = s_HubNew k x := by kernel_rfl
theorem e_s_HubNew (k : Nat) : EntryOk Try.prog ⟨5, 0, (.cons (.agg (.cons (.int .i64) (.cons (.int .i64) .nil))) .nil), (.tup (.cons (.agg (.cons (.int .i64) (.cons (.int .i64) (.cons (.own false 70 (.pair (.int .i64) (.pair (.int .i64) (.int .i64)))) (.cons (.own false 67 (.pair (.int .i64) (.int .i64))) (.cons (.own false 78 (.pair (.pair (.int .i64) (.int .i64)) (.int .i64))) (.cons (.own false 88 (.pair (.int .i64) (.pair (.int .i64) (.pair (.pair (.pair (.int .i64) (.pair .str (.pair .str (.pair (.int .i64) (.pair (.list (.int .i64)) (.int .i64)))))) (.pair (.int .i64) (.pair .str (.pair .str (.pair (.int .i64) (.pair (.list (.int .i64)) (.int .i64))))))) (.pair (.list (.pair (.int .i64) (.pair (.int .i64) (.pair (.int .i64) (.pair (.list .str) (.pair (.list .bool) (.int .i64))))))) (.int .i64)))))) .nil))))))) (.cons .bool .nil))), s_HubNew k⟩ := entry_ok tok (by intro e he; simp only [List.mem_cons, List.not_mem_nil, or_false] at he; rcases he with rfl <;> first | exact e_s_PoolOk k) (by kernel_rfl) (fn := Try.f5) (k := k) (es := [⟨16, 0, (.cons (.agg (.cons (.int .i64) (.cons (.int .i64) (.cons (.il true (.pair (.int .i64) (.pair (.int .i64) (.int .i64)))) (.cons (.il true (.pair (.int .i64) (.int .i64))) .nil))))) .nil), .bool, s_PoolOk k⟩]) (loops := []) (by kernel_rfl) (by kernel_rfl) (fun x r h => (t_s_HubNew k x).trans h)
def w_toPrefix (k : Nat) (x : (Int × Int × Unit) × Unit) : Option ((Int × Int × Unit) × Unit × Unit) :=
some ((x.1.1, (x.1.2.1, ())), ((), ()))
theorem t_w_toPrefix (k : Nat) (x) : evF TTab k [] [] Try.f6 (.cons (.agg (.cons (.int .i64) (.cons (.int .i64) .nil))) .nil) (.agg (.cons (.int .i64) (.cons (.int .i64) .nil))) x = w_toPrefix k x := by kernel_rfl
theorem e_w_toPrefix (k : Nat) : EntryOk Try.prog ⟨6, 0, (.cons (.agg (.cons (.int .i64) (.cons (.int .i64) .nil))) .nil), (.agg (.cons (.int .i64) (.cons (.int .i64) .nil))), w_toPrefix k⟩ := entry_ok tok (by simp) (by kernel_rfl) (fn := Try.f6) (k := k) (es := []) (loops := []) (by kernel_rfl) (by kernel_rfl) (fun x r h => (t_w_toPrefix k x).trans h)
def i_within (k : Nat) (x : Int × Int × Int × Unit) : Option (Bool × Unit × Unit × Unit × Unit) :=
(if (decide (x.2.1 ≤ x.1)) = true then
some ((decide (x.1 ≤ x.2.2.1)), ((), ((), ((), ()))))
else
some (false, ((), ((), ((), ())))))
theorem t_i_within (k : Nat) (x) : evF TTab k [] [] Try.f44 (.cons (.int .i64) (.cons (.int .i64) (.cons (.int .i64) .nil))) .bool x = i_within k x := by kernel_rfl
theorem e_i_within (k : Nat) : EntryOk Try.prog ⟨44, 0, (.cons (.int .i64) (.cons (.int .i64) (.cons (.int .i64) .nil))), .bool, i_within k⟩ := entry_ok tok (by simp) (by kernel_rfl) (fn := Try.f44) (k := k) (es := []) (loops := []) (by kernel_rfl) (by kernel_rfl) (fun x r h => (t_i_within k x).trans h)
def i_AddrOk (k : Nat) (x : Int × Unit) : Option (Bool × Unit × Unit) :=
((i_within k (x.1, ((0 : Int), ((4294967295 : Int), ())))).bind fun p1 =>
some (p1.1, ((), ())))
theorem t_i_AddrOk (k : Nat) (x) : evF TTab k [⟨44, 0, (.cons (.int .i64) (.cons (.int .i64) (.cons (.int .i64) .nil))), .bool, i_within k⟩] [] Try.f68 (.cons (.int .i64) .nil) .bool x = i_AddrOk k x := by kernel_rfl
theorem e_i_AddrOk (k : Nat) : EntryOk Try.prog ⟨68, 0, (.cons (.int .i64) .nil), .bool, i_AddrOk k⟩ := entry_ok tok (by intro e he; simp only [List.mem_cons, List.not_mem_nil, or_false] at he; rcases he with rfl <;> first | exact e_i_within k) (by kernel_rfl) (fn := Try.f68) (k := k) (es := [⟨44, 0, (.cons (.int .i64) (.cons (.int .i64) (.cons (.int .i64) .nil))), .bool, i_within k⟩]) (loops := []) (by kernel_rfl) (by kernel_rfl) (fun x r h => (t_i_AddrOk k x).trans h)
def i_lastBits (k : Nat) (x : Int × Unit) : Option (Int × Unit × Unit) :=
(if (wi64 ((32 : Int) - x.1)) < 0 then
none
else
some ((wi64 ((wi64 ((1 : Int) * 2 ^ (min (Int.toNat (wi64 ((32 : Int) - x.1))) (IntKind.bits .i64)))) - (1 : Int))), ((), ())))
theorem t_i_lastBits (k : Nat) (x) : evF TTab k [] [] Try.f69 (.cons (.int .i64) .nil) (.int .i64) x = i_lastBits k x := by kernel_rfl
theorem e_i_lastBits (k : Nat) : EntryOk Try.prog ⟨69, 0, (.cons (.int .i64) .nil), (.int .i64), i_lastBits k⟩ := entry_ok tok (by simp) (by kernel_rfl) (fn := Try.f69) (k := k) (es := []) (loops := []) (by kernel_rfl) (by kernel_rfl) (fun x r h => (t_i_lastBits k x).trans h)
def i_PrefixOk (k : Nat) (x : (Int × Int × Unit) × Unit) : Option (Bool × Unit × Unit) :=
((i_AddrOk k (x.1.1, ())).bind fun p1 =>
(if p1.1 = true then
((i_within k (x.1.2.1, ((0 : Int), ((32 : Int), ())))).bind fun p2 =>
(if p2.1 = true then
((i_lastBits k (x.1.2.1, ())).bind fun p3 =>
some ((decide ((bitsI .and .i64 x.1.1 p3.1) = (0 : Int))), ((), ())))
else
some (false, ((), ()))))
else
some (false, ((), ()))))
theorem t_i_PrefixOk (k : Nat) (x) : evF TTab k [⟨44, 0, (.cons (.int .i64) (.cons (.int .i64) (.cons (.int .i64) .nil))), .bool, i_within k⟩, ⟨68, 0, (.cons (.int .i64) .nil), .bool, i_AddrOk k⟩, ⟨69, 0, (.cons (.int .i64) .nil), (.int .i64), i_lastBits k⟩] [] Try.f43 (.cons (.agg (.cons (.int .i64) (.cons (.int .i64) .nil))) .nil) .bool x = i_PrefixOk k x := by kernel_rfl
theorem e_i_PrefixOk (k : Nat) : EntryOk Try.prog ⟨43, 0, (.cons (.agg (.cons (.int .i64) (.cons (.int .i64) .nil))) .nil), .bool, i_PrefixOk k⟩ := entry_ok tok (by intro e he; simp only [List.mem_cons, List.not_mem_nil, or_false] at he; rcases he with rfl | rfl | rfl <;> first | exact e_i_within k | exact e_i_AddrOk k | exact e_i_lastBits k) (by kernel_rfl) (fn := Try.f43) (k := k) (es := [⟨44, 0, (.cons (.int .i64) (.cons (.int .i64) (.cons (.int .i64) .nil))), .bool, i_within k⟩, ⟨68, 0, (.cons (.int .i64) .nil), .bool, i_AddrOk k⟩, ⟨69, 0, (.cons (.int .i64) .nil), (.int .i64), i_lastBits k⟩]) (loops := []) (by kernel_rfl) (by kernel_rfl) (fun x r h => (t_i_PrefixOk k x).trans h)
def i_InPrefix (k : Nat) (x : (Int × Int × Unit) × Int × Unit) : Option (Bool × Unit × Unit × Unit) :=
((i_PrefixOk k ((x.1.1, (x.1.2.1, ())), ())).bind fun p1 =>
(if p1.1 = true then
((i_AddrOk k (x.2.1, ())).bind fun p2 =>
(if p2.1 = true then
((i_lastBits k (x.1.2.1, ())).bind fun p3 =>
some ((decide ((bitsI .andNot .i64 x.2.1 p3.1) = x.1.1)), ((), ((), ()))))
else
some (false, ((), ((), ())))))
else
some (false, ((), ((), ())))))
theorem t_i_InPrefix (k : Nat) (x) : evF TTab k [⟨43, 0, (.cons (.agg (.cons (.int .i64) (.cons (.int .i64) .nil))) .nil), .bool, i_PrefixOk k⟩, ⟨68, 0, (.cons (.int .i64) .nil), .bool, i_AddrOk k⟩, ⟨69, 0, (.cons (.int .i64) .nil), (.int .i64), i_lastBits k⟩] [] Try.f70 (.cons (.agg (.cons (.int .i64) (.cons (.int .i64) .nil))) (.cons (.int .i64) .nil)) .bool x = i_InPrefix k x := by kernel_rfl
theorem e_i_InPrefix (k : Nat) : EntryOk Try.prog ⟨70, 0, (.cons (.agg (.cons (.int .i64) (.cons (.int .i64) .nil))) (.cons (.int .i64) .nil)), .bool, i_InPrefix k⟩ := entry_ok tok (by intro e he; simp only [List.mem_cons, List.not_mem_nil, or_false] at he; rcases he with rfl | rfl | rfl <;> first | exact e_i_PrefixOk k | exact e_i_AddrOk k | exact e_i_lastBits k) (by kernel_rfl) (fn := Try.f70) (k := k) (es := [⟨43, 0, (.cons (.agg (.cons (.int .i64) (.cons (.int .i64) .nil))) .nil), .bool, i_PrefixOk k⟩, ⟨68, 0, (.cons (.int .i64) .nil), .bool, i_AddrOk k⟩, ⟨69, 0, (.cons (.int .i64) .nil), (.int .i64), i_lastBits k⟩]) (loops := []) (by kernel_rfl) (by kernel_rfl) (fun x r h => (t_i_InPrefix k x).trans h)
def i_isHost (k : Nat) (x : (Int × Int × Unit) × Int × Unit) : Option (Bool × Unit × Unit × Unit) :=
((i_InPrefix k ((x.1.1, (x.1.2.1, ())), (x.2.1, ()))).bind fun p1 =>
(if p1.1 = true then
(if (!decide (x.2.1 = x.1.1)) = true then
((i_lastBits k (x.1.2.1, ())).bind fun p2 =>
some ((!decide (x.2.1 = (bitsI .or .i64 x.1.1 p2.1))), ((), ((), ()))))
else
some (false, ((), ((), ()))))
else
some (false, ((), ((), ())))))
theorem t_i_isHost (k : Nat) (x) : evF TTab k [⟨69, 0, (.cons (.int .i64) .nil), (.int .i64), i_lastBits k⟩, ⟨70, 0, (.cons (.agg (.cons (.int .i64) (.cons (.int .i64) .nil))) (.cons (.int .i64) .nil)), .bool, i_InPrefix k⟩] [] Try.f46 (.cons (.agg (.cons (.int .i64) (.cons (.int .i64) .nil))) (.cons (.int .i64) .nil)) .bool x = i_isHost k x := by kernel_rfl
theorem e_i_isHost (k : Nat) : EntryOk Try.prog ⟨46, 0, (.cons (.agg (.cons (.int .i64) (.cons (.int .i64) .nil))) (.cons (.int .i64) .nil)), .bool, i_isHost k⟩ := entry_ok tok (by intro e he; simp only [List.mem_cons, List.not_mem_nil, or_false] at he; rcases he with rfl | rfl <;> first | exact e_i_lastBits k | exact e_i_InPrefix k) (by kernel_rfl) (fn := Try.f46) (k := k) (es := [⟨69, 0, (.cons (.int .i64) .nil), (.int .i64), i_lastBits k⟩, ⟨70, 0, (.cons (.agg (.cons (.int .i64) (.cons (.int .i64) .nil))) (.cons (.int .i64) .nil)), .bool, i_InPrefix k⟩]) (loops := []) (by kernel_rfl) (by kernel_rfl) (fun x r h => (t_i_isHost k x).trans h)
def i_isId (k : Nat) (x : Int × Unit) : Option (Bool × Unit × Unit) :=
((i_within k (x.1, ((1 : Int), ((99 : Int), ())))).bind fun p1 =>
some (p1.1, ((), ())))
theorem t_i_isId (k : Nat) (x) : evF TTab k [⟨44, 0, (.cons (.int .i64) (.cons (.int .i64) (.cons (.int .i64) .nil))), .bool, i_within k⟩] [] Try.f47 (.cons (.int .i64) .nil) .bool x = i_isId k x := by kernel_rfl
theorem e_i_isId (k : Nat) : EntryOk Try.prog ⟨47, 0, (.cons (.int .i64) .nil), .bool, i_isId k⟩ := entry_ok tok (by intro e he; simp only [List.mem_cons, List.not_mem_nil, or_false] at he; rcases he with rfl <;> first | exact e_i_within k) (by kernel_rfl) (fn := Try.f47) (k := k) (es := [⟨44, 0, (.cons (.int .i64) (.cons (.int .i64) (.cons (.int .i64) .nil))), .bool, i_within k⟩]) (loops := []) (by kernel_rfl) (by kernel_rfl) (fun x r h => (t_i_isId k x).trans h)
def i_fixedFor (k : Nat) (x : (Int × Int × (List (Int × Int × Int)) × (List (Int × Int)) × Unit) × Int × Unit) : Option (Int × Unit × Unit × Unit) :=
(whileK (fun (rec0 : (Int × (List (Int × Int)) × Int × Int × Unit) → Option _) (y0 : Int × (List (Int × Int)) × Int × Int × Unit) =>
(if (decide (y0.2.2.2.1 < y0.2.2.1)) = true then
(if 0 ≤ y0.2.2.2.1 ∧ y0.2.2.2.1 < (List.length y0.2.1 : Int) then
(if (decide ((Ty.rd (t := (.pair (.int .i64) (.int .i64))) y0.2.1 y0.2.2.2.1).2 = y0.1)) = true then
some ((Ty.rd (t := (.pair (.int .i64) (.int .i64))) y0.2.1 y0.2.2.2.1).1, ((), ((), ())))
else
(rec0 (y0.1, (y0.2.1, (y0.2.2.1, ((wi64 (y0.2.2.2.1 + (1 : Int))), ()))))))
else none)
else
((fun (z1 : Unit) =>
some ((0 : Int), ((), ((), ())))) ()))) k (x.2.1, (x.1.2.2.2.1, ((List.length x.1.2.2.2.1 : Int), ((0 : Int), ())))))
theorem t_i_fixedFor (k : Nat) (x) : evF TTab k [] [(0, ⟨[1, 8, 9, 10], (.cons (.int .i64) (.cons (.il true (.pair (.int .i64) (.int .i64))) (.cons (.int .i64) (.cons (.int .i64) .nil))))⟩, ⟨[], .nil⟩)] Try.f48 (.cons (.agg (.cons (.int .i64) (.cons (.int .i64) (.cons (.il true (.pair (.int .i64) (.pair (.int .i64) (.int .i64)))) (.cons (.il true (.pair (.int .i64) (.int .i64))) .nil))))) (.cons (.int .i64) .nil)) (.int .i64) x = i_fixedFor k x := by kernel_rfl
theorem e_i_fixedFor (k : Nat) : EntryOk Try.prog ⟨48, 0, (.cons (.agg (.cons (.int .i64) (.cons (.int .i64) (.cons (.il true (.pair (.int .i64) (.pair (.int .i64) (.int .i64)))) (.cons (.il true (.pair (.int .i64) (.int .i64))) .nil))))) (.cons (.int .i64) .nil)), (.int .i64), i_fixedFor k⟩ := entry_ok tok (by simp) (by kernel_rfl) (fn := Try.f48) (k := k) (es := []) (loops := [(0, ⟨[1, 8, 9, 10], (.cons (.int .i64) (.cons (.il true (.pair (.int .i64) (.int .i64))) (.cons (.int .i64) (.cons (.int .i64) .nil))))⟩, ⟨[], .nil⟩)]) (by kernel_rfl) (by kernel_rfl) (fun x r h => (t_i_fixedFor k x).trans h)
def i_fixesOk (k : Nat) (x : (Int × Int × (List (Int × Int × Int)) × (List (Int × Int)) × Unit) × Unit) : Option (Bool × Unit × Unit) :=
(whileK (fun (rec0 : ((Int × Int × (List (Int × Int × Int)) × (List (Int × Int)) × Unit) × (List (Int × Int)) × Int × Int × Unit) → Option _) (y0 : (Int × Int × (List (Int × Int × Int)) × (List (Int × Int)) × Unit) × (List (Int × Int)) × Int × Int × Unit) =>
(if (decide (y0.2.2.2.1 < y0.2.2.1)) = true then
(if 0 ≤ y0.2.2.2.1 ∧ y0.2.2.2.1 < (List.length y0.2.1 : Int) then
((i_isId k ((Ty.rd (t := (.pair (.int .i64) (.int .i64))) y0.2.1 y0.2.2.2.1).1, ())).bind fun p1 =>
(if (!p1.1) = false then
((i_isHost k ((y0.1.1, (y0.1.2.1, ())), ((Ty.rd (t := (.pair (.int .i64) (.int .i64))) y0.2.1 y0.2.2.2.1).2, ()))).bind fun p2 =>
(if (!p2.1) = false then
(if (decide ((0 : Int) < y0.2.2.2.1)) = true then
(if 0 ≤ (wi64 (y0.2.2.2.1 - (1 : Int))) ∧ (wi64 (y0.2.2.2.1 - (1 : Int))) < (List.length y0.1.2.2.2.1 : Int) then
(if (decide ((Ty.rd (t := (.pair (.int .i64) (.int .i64))) y0.2.1 y0.2.2.2.1).1 ≤ (Ty.rd (t := (.pair (.int .i64) (.int .i64))) y0.1.2.2.2.1 (wi64 (y0.2.2.2.1 - (1 : Int)))).1)) = false then
((i_fixedFor k ((y0.1.1, (y0.1.2.1, (y0.1.2.2.1, (y0.1.2.2.2.1, ())))), ((Ty.rd (t := (.pair (.int .i64) (.int .i64))) y0.2.1 y0.2.2.2.1).2, ()))).bind fun p3 =>
(if (!decide (p3.1 = (Ty.rd (t := (.pair (.int .i64) (.int .i64))) y0.2.1 y0.2.2.2.1).1)) = true then
some (false, ((), ()))
else
(rec0 ((y0.1.1, (y0.1.2.1, (y0.1.2.2.1, (y0.1.2.2.2.1, ())))), (y0.2.1, (y0.2.2.1, ((wi64 (y0.2.2.2.1 + (1 : Int))), ())))))))
else
some (false, ((), ())))
else none)
else
((i_fixedFor k ((y0.1.1, (y0.1.2.1, (y0.1.2.2.1, (y0.1.2.2.2.1, ())))), ((Ty.rd (t := (.pair (.int .i64) (.int .i64))) y0.2.1 y0.2.2.2.1).2, ()))).bind fun p4 =>
(if (!decide (p4.1 = (Ty.rd (t := (.pair (.int .i64) (.int .i64))) y0.2.1 y0.2.2.2.1).1)) = true then
some (false, ((), ()))
else
(rec0 ((y0.1.1, (y0.1.2.1, (y0.1.2.2.1, (y0.1.2.2.2.1, ())))), (y0.2.1, (y0.2.2.1, ((wi64 (y0.2.2.2.1 + (1 : Int))), ()))))))))
else
some (false, ((), ()))))
else
some (false, ((), ()))))
else none)
else
((fun (z1 : (Int × Int × (List (Int × Int × Int)) × (List (Int × Int)) × Unit) × Unit) =>
some ((decide ((List.length z1.1.2.2.2.1 : Int) ≤ (4 : Int))), ((), ()))) ((y0.1.1, (y0.1.2.1, (y0.1.2.2.1, (y0.1.2.2.2.1, ())))), ())))) k ((x.1.1, (x.1.2.1, (x.1.2.2.1, (x.1.2.2.2.1, ())))), (x.1.2.2.2.1, ((List.length x.1.2.2.2.1 : Int), ((0 : Int), ())))))
theorem t_i_fixesOk (k : Nat) (x) : evF TTab k [⟨46, 0, (.cons (.agg (.cons (.int .i64) (.cons (.int .i64) .nil))) (.cons (.int .i64) .nil)), .bool, i_isHost k⟩, ⟨47, 0, (.cons (.int .i64) .nil), .bool, i_isId k⟩, ⟨48, 0, (.cons (.agg (.cons (.int .i64) (.cons (.int .i64) (.cons (.il true (.pair (.int .i64) (.pair (.int .i64) (.int .i64)))) (.cons (.il true (.pair (.int .i64) (.int .i64))) .nil))))) (.cons (.int .i64) .nil)), (.int .i64), i_fixedFor k⟩] [(0, ⟨[1, 6, 7, 8], (.cons (.ptr (.cons (.int .i64) (.cons (.int .i64) (.cons (.il true (.pair (.int .i64) (.pair (.int .i64) (.int .i64)))) (.cons (.il true (.pair (.int .i64) (.int .i64))) .nil))))) (.cons (.il true (.pair (.int .i64) (.int .i64))) (.cons (.int .i64) (.cons (.int .i64) .nil))))⟩, ⟨[1], (.cons (.ptr (.cons (.int .i64) (.cons (.int .i64) (.cons (.il true (.pair (.int .i64) (.pair (.int .i64) (.int .i64)))) (.cons (.il true (.pair (.int .i64) (.int .i64))) .nil))))) .nil)⟩)] Try.f45 (.cons (.agg (.cons (.int .i64) (.cons (.int .i64) (.cons (.il true (.pair (.int .i64) (.pair (.int .i64) (.int .i64)))) (.cons (.il true (.pair (.int .i64) (.int .i64))) .nil))))) .nil) .bool x = i_fixesOk k x := by kernel_rfl
theorem e_i_fixesOk (k : Nat) : EntryOk Try.prog ⟨45, 0, (.cons (.agg (.cons (.int .i64) (.cons (.int .i64) (.cons (.il true (.pair (.int .i64) (.pair (.int .i64) (.int .i64)))) (.cons (.il true (.pair (.int .i64) (.int .i64))) .nil))))) .nil), .bool, i_fixesOk k⟩ := entry_ok tok (by intro e he; simp only [List.mem_cons, List.not_mem_nil, or_false] at he; rcases he with rfl | rfl | rfl <;> first | exact e_i_isHost k | exact e_i_isId k | exact e_i_fixedFor k) (by kernel_rfl) (fn := Try.f45) (k := k) (es := [⟨46, 0, (.cons (.agg (.cons (.int .i64) (.cons (.int .i64) .nil))) (.cons (.int .i64) .nil)), .bool, i_isHost k⟩, ⟨47, 0, (.cons (.int .i64) .nil), .bool, i_isId k⟩, ⟨48, 0, (.cons (.agg (.cons (.int .i64) (.cons (.int .i64) (.cons (.il true (.pair (.int .i64) (.pair (.int .i64) (.int .i64)))) (.cons (.il true (.pair (.int .i64) (.int .i64))) .nil))))) (.cons (.int .i64) .nil)), (.int .i64), i_fixedFor k⟩]) (loops := [(0, ⟨[1, 6, 7, 8], (.cons (.ptr (.cons (.int .i64) (.cons (.int .i64) (.cons (.il true (.pair (.int .i64) (.pair (.int .i64) (.int .i64)))) (.cons (.il true (.pair (.int .i64) (.int .i64))) .nil))))) (.cons (.il true (.pair (.int .i64) (.int .i64))) (.cons (.int .i64) (.cons (.int .i64) .nil))))⟩, ⟨[1], (.cons (.ptr (.cons (.int .i64) (.cons (.int .i64) (.cons (.il true (.pair (.int .i64) (.pair (.int .i64) (.int .i64)))) (.cons (.il true (.pair (.int .i64) (.int .i64))) .nil))))) .nil)⟩)]) (by kernel_rfl) (by kernel_rfl) (fun x r h => (t_i_fixesOk k x).trans h)
def i_leaseOf_1 (k : Nat) (x : (Int × Int × Int × Unit) × (Int × Unit) × Unit) : Option (Bool × Unit × (Int × Unit) × Unit) :=
some ((decide (x.1.2.1 = x.2.1.1)), ((), ((x.2.1.1, ()), ())))
theorem t_i_leaseOf_1 (k : Nat) (x) : evF TTab k [] [] Try.f72 (.cons (.agg (.cons (.int .i64) (.cons (.int .i64) (.cons (.int .i64) .nil)))) (.cons (.ptr (.cons (.int .i64) .nil)) .nil)) .bool x = i_leaseOf_1 k x := by kernel_rfl
theorem e_i_leaseOf_1 (k : Nat) : EntryOk Try.prog ⟨72, 0, (.cons (.agg (.cons (.int .i64) (.cons (.int .i64) (.cons (.int .i64) .nil)))) (.cons (.ptr (.cons (.int .i64) .nil)) .nil)), .bool, i_leaseOf_1 k⟩ := entry_ok tok (by simp) (by kernel_rfl) (fn := Try.f72) (k := k) (es := []) (loops := []) (by kernel_rfl) (by kernel_rfl) (fun x r h => (t_i_leaseOf_1 k x).trans h)
def x_slices_IndexFunc_impl_Lease_impl_Lease_of_i_leaseOf_1 (k : Nat) (x : (List (Int × Int × Int)) × ((Int × Unit) × Unit) × Unit) : Option (Int × Unit × ((Int × Unit) × Unit) × Unit) :=
(whileK (fun (rec0 : ((List (Int × Int × Int)) × ((Int × Unit) × Unit) × Int × Int × Unit) → Option _) (y0 : (List (Int × Int × Int)) × ((Int × Unit) × Unit) × Int × Int × Unit) =>
(if (decide (y0.2.2.2.1 < y0.2.2.1)) = true then
(if 0 ≤ y0.2.2.2.1 ∧ y0.2.2.2.1 < (List.length y0.1 : Int) then
((i_leaseOf_1 k (((Ty.rd (t := (.pair (.int .i64) (.pair (.int .i64) (.int .i64)))) y0.1 y0.2.2.2.1).1, ((Ty.rd (t := (.pair (.int .i64) (.pair (.int .i64) (.int .i64)))) y0.1 y0.2.2.2.1).2.1, ((Ty.rd (t := (.pair (.int .i64) (.pair (.int .i64) (.int .i64)))) y0.1 y0.2.2.2.1).2.2, ()))), ((y0.2.1.1.1, ()), ()))).bind fun p1 =>
(if p1.1 = true then
some (y0.2.2.2.1, ((), (((p1.2.2.1.1, ()), ()), ())))
else
(rec0 (y0.1, (((p1.2.2.1.1, ()), ()), (y0.2.2.1, ((wi64 (y0.2.2.2.1 + (1 : Int))), ())))))))
else none)
else
((fun (z1 : ((Int × Unit) × Unit) × Unit) =>
some ((-1 : Int), ((), (((z1.1.1.1, ()), ()), ())))) (((y0.2.1.1.1, ()), ()), ())))) k (x.1, (((x.2.1.1.1, ()), ()), ((List.length x.1 : Int), ((0 : Int), ())))))
theorem t_x_slices_IndexFunc_impl_Lease_impl_Lease_of_i_leaseOf_1 (k : Nat) (x) : evF TTab k [⟨72, 0, (.cons (.agg (.cons (.int .i64) (.cons (.int .i64) (.cons (.int .i64) .nil)))) (.cons (.ptr (.cons (.int .i64) .nil)) .nil)), .bool, i_leaseOf_1 k⟩] [(0, ⟨[0, 1, 7, 8], (.cons (.il true (.pair (.int .i64) (.pair (.int .i64) (.int .i64)))) (.cons (.fn 72 (.cons (.ptr (.cons (.int .i64) .nil)) .nil)) (.cons (.int .i64) (.cons (.int .i64) .nil))))⟩, ⟨[1], (.cons (.fn 72 (.cons (.ptr (.cons (.int .i64) .nil)) .nil)) .nil)⟩)] Try.f71 (.cons (.il true (.pair (.int .i64) (.pair (.int .i64) (.int .i64)))) (.cons (.fn 72 (.cons (.ptr (.cons (.int .i64) .nil)) .nil)) .nil)) (.int .i64) x = x_slices_IndexFunc_impl_Lease_impl_Lease_of_i_leaseOf_1 k x := by kernel_rfl
theorem e_x_slices_IndexFunc_impl_Lease_impl_Lease_of_i_leaseOf_1 (k : Nat) : EntryOk Try.prog ⟨71, 73, (.cons (.il true (.pair (.int .i64) (.pair (.int .i64) (.int .i64)))) (.cons (.fn 72 (.cons (.ptr (.cons (.int .i64) .nil)) .nil)) .nil)), (.int .i64), x_slices_IndexFunc_impl_Lease_impl_Lease_of_i_leaseOf_1 k⟩ := entry_ok tok (by intro e he; simp only [List.mem_cons, List.not_mem_nil, or_false] at he; rcases he with rfl <;> first | exact e_i_leaseOf_1 k) (by kernel_rfl) (fn := Try.f71) (k := k) (es := [⟨72, 0, (.cons (.agg (.cons (.int .i64) (.cons (.int .i64) (.cons (.int .i64) .nil)))) (.cons (.ptr (.cons (.int .i64) .nil)) .nil)), .bool, i_leaseOf_1 k⟩]) (loops := [(0, ⟨[0, 1, 7, 8], (.cons (.il true (.pair (.int .i64) (.pair (.int .i64) (.int .i64)))) (.cons (.fn 72 (.cons (.ptr (.cons (.int .i64) .nil)) .nil)) (.cons (.int .i64) (.cons (.int .i64) .nil))))⟩, ⟨[1], (.cons (.fn 72 (.cons (.ptr (.cons (.int .i64) .nil)) .nil)) .nil)⟩)]) (by kernel_rfl) (by kernel_rfl) (fun x r h => (t_x_slices_IndexFunc_impl_Lease_impl_Lease_of_i_leaseOf_1 k x).trans h)
def i_leaseOf (k : Nat) (x : (Int × Int × (List (Int × Int × Int)) × (List (Int × Int)) × Unit) × Int × Unit) : Option (Int × Unit × Unit × Unit) :=
((x_slices_IndexFunc_impl_Lease_impl_Lease_of_i_leaseOf_1 k (x.1.2.2.1, (((x.2.1, ()), ()), ()))).bind fun p1 =>
some (p1.1, ((), ((), ()))))
theorem t_i_leaseOf (k : Nat) (x) : evF TTab k [⟨71, 73, (.cons (.il true (.pair (.int .i64) (.pair (.int .i64) (.int .i64)))) (.cons (.fn 72 (.cons (.ptr (.cons (.int .i64) .nil)) .nil)) .nil)), (.int .i64), x_slices_IndexFunc_impl_Lease_impl_Lease_of_i_leaseOf_1 k⟩] [] Try.f49 (.cons (.agg (.cons (.int .i64) (.cons (.int .i64) (.cons (.il true (.pair (.int .i64) (.pair (.int .i64) (.int .i64)))) (.cons (.il true (.pair (.int .i64) (.int .i64))) .nil))))) (.cons (.int .i64) .nil)) (.int .i64) x = i_leaseOf k x := by kernel_rfl
theorem e_i_leaseOf (k : Nat) : EntryOk Try.prog ⟨49, 0, (.cons (.agg (.cons (.int .i64) (.cons (.int .i64) (.cons (.il true (.pair (.int .i64) (.pair (.int .i64) (.int .i64)))) (.cons (.il true (.pair (.int .i64) (.int .i64))) .nil))))) (.cons (.int .i64) .nil)), (.int .i64), i_leaseOf k⟩ := entry_ok tok (by intro e he; simp only [List.mem_cons, List.not_mem_nil, or_false] at he; rcases he with rfl <;> first | exact e_x_slices_IndexFunc_impl_Lease_impl_Lease_of_i_leaseOf_1 k) (by kernel_rfl) (fn := Try.f49) (k := k) (es := [⟨71, 73, (.cons (.il true (.pair (.int .i64) (.pair (.int .i64) (.int .i64)))) (.cons (.fn 72 (.cons (.ptr (.cons (.int .i64) .nil)) .nil)) .nil)), (.int .i64), x_slices_IndexFunc_impl_Lease_impl_Lease_of_i_leaseOf_1 k⟩]) (loops := []) (by kernel_rfl) (by kernel_rfl) (fun x r h => (t_i_leaseOf k x).trans h)
def i_PoolOk (k : Nat) (x : (Int × Int × (List (Int × Int × Int)) × (List (Int × Int)) × Unit) × Unit) : Option (Bool × Unit × Unit) :=
((i_PrefixOk k ((x.1.1, (x.1.2.1, ())), ())).bind fun p1 =>
(if (!p1.1) = false then
((i_within k (x.1.2.1, ((24 : Int), ((30 : Int), ())))).bind fun p2 =>
(if (!p2.1) = false then
((i_fixesOk k ((x.1.1, (x.1.2.1, (x.1.2.2.1, (x.1.2.2.2.1, ())))), ())).bind fun p3 =>
(if (!p3.1) = false then
(if (decide ((6 : Int) < (List.length x.1.2.2.1 : Int))) = true then
some (false, ((), ()))
else
(whileK (fun (rec0 : ((Int × Int × (List (Int × Int × Int)) × (List (Int × Int)) × Unit) × (List (Int × Int × Int)) × Int × Int × Unit) → Option _) (y0 : (Int × Int × (List (Int × Int × Int)) × (List (Int × Int)) × Unit) × (List (Int × Int × Int)) × Int × Int × Unit) =>
(if (decide (y0.2.2.2.1 < y0.2.2.1)) = true then
(if 0 ≤ y0.2.2.2.1 ∧ y0.2.2.2.1 < (List.length y0.2.1 : Int) then
(if (decide ((0 : Int) < y0.2.2.2.1)) = true then
(if 0 ≤ (wi64 (y0.2.2.2.1 - (1 : Int))) ∧ (wi64 (y0.2.2.2.1 - (1 : Int))) < (List.length y0.1.2.2.1 : Int) then
(if (decide ((Ty.rd (t := (.pair (.int .i64) (.pair (.int .i64) (.int .i64)))) y0.2.1 y0.2.2.2.1).1 ≤ (Ty.rd (t := (.pair (.int .i64) (.pair (.int .i64) (.int .i64)))) y0.1.2.2.1 (wi64 (y0.2.2.2.1 - (1 : Int)))).1)) = false then
((i_isHost k ((y0.1.1, (y0.1.2.1, ())), ((Ty.rd (t := (.pair (.int .i64) (.pair (.int .i64) (.int .i64)))) y0.2.1 y0.2.2.2.1).1, ()))).bind fun p4 =>
(if (!p4.1) = false then
((i_isId k ((Ty.rd (t := (.pair (.int .i64) (.pair (.int .i64) (.int .i64)))) y0.2.1 y0.2.2.2.1).2.1, ())).bind fun p5 =>
(if (!p5.1) = false then
((i_within k ((Ty.rd (t := (.pair (.int .i64) (.pair (.int .i64) (.int .i64)))) y0.2.1 y0.2.2.2.1).2.2, ((0 : Int), ((1000000000 : Int), ())))).bind fun p6 =>
(if (!p6.1) = true then
some (false, ((), ()))
else
((i_fixedFor k ((y0.1.1, (y0.1.2.1, (y0.1.2.2.1, (y0.1.2.2.2.1, ())))), ((Ty.rd (t := (.pair (.int .i64) (.pair (.int .i64) (.int .i64)))) y0.2.1 y0.2.2.2.1).1, ()))).bind fun p12 =>
((i_leaseOf k ((y0.1.1, (y0.1.2.1, (y0.1.2.2.1, (y0.1.2.2.2.1, ())))), ((Ty.rd (t := (.pair (.int .i64) (.pair (.int .i64) (.int .i64)))) y0.2.1 y0.2.2.2.1).2.1, ()))).bind fun p13 =>
(if (!decide (p13.1 = y0.2.2.2.1)) = false then
(if (!decide (p12.1 = (0 : Int))) = true then
(if (!decide (p12.1 = (Ty.rd (t := (.pair (.int .i64) (.pair (.int .i64) (.int .i64)))) y0.2.1 y0.2.2.2.1).2.1)) = true then
some (false, ((), ()))
else
(rec0 ((y0.1.1, (y0.1.2.1, (y0.1.2.2.1, (y0.1.2.2.2.1, ())))), (y0.2.1, (y0.2.2.1, ((wi64 (y0.2.2.2.1 + (1 : Int))), ()))))))
else
(rec0 ((y0.1.1, (y0.1.2.1, (y0.1.2.2.1, (y0.1.2.2.2.1, ())))), (y0.2.1, (y0.2.2.1, ((wi64 (y0.2.2.2.1 + (1 : Int))), ()))))))
else
some (false, ((), ())))))))
else
some (false, ((), ()))))
else
some (false, ((), ()))))
else
some (false, ((), ())))
else none)
else
((i_isHost k ((y0.1.1, (y0.1.2.1, ())), ((Ty.rd (t := (.pair (.int .i64) (.pair (.int .i64) (.int .i64)))) y0.2.1 y0.2.2.2.1).1, ()))).bind fun p7 =>
(if (!p7.1) = false then
((i_isId k ((Ty.rd (t := (.pair (.int .i64) (.pair (.int .i64) (.int .i64)))) y0.2.1 y0.2.2.2.1).2.1, ())).bind fun p8 =>
(if (!p8.1) = false then
((i_within k ((Ty.rd (t := (.pair (.int .i64) (.pair (.int .i64) (.int .i64)))) y0.2.1 y0.2.2.2.1).2.2, ((0 : Int), ((1000000000 : Int), ())))).bind fun p9 =>
(if (!p9.1) = true then
some (false, ((), ()))
else
((i_fixedFor k ((y0.1.1, (y0.1.2.1, (y0.1.2.2.1, (y0.1.2.2.2.1, ())))), ((Ty.rd (t := (.pair (.int .i64) (.pair (.int .i64) (.int .i64)))) y0.2.1 y0.2.2.2.1).1, ()))).bind fun p14 =>
((i_leaseOf k ((y0.1.1, (y0.1.2.1, (y0.1.2.2.1, (y0.1.2.2.2.1, ())))), ((Ty.rd (t := (.pair (.int .i64) (.pair (.int .i64) (.int .i64)))) y0.2.1 y0.2.2.2.1).2.1, ()))).bind fun p15 =>
(if (!decide (p15.1 = y0.2.2.2.1)) = false then
(if (!decide (p14.1 = (0 : Int))) = true then
(if (!decide (p14.1 = (Ty.rd (t := (.pair (.int .i64) (.pair (.int .i64) (.int .i64)))) y0.2.1 y0.2.2.2.1).2.1)) = true then
some (false, ((), ()))
else
(rec0 ((y0.1.1, (y0.1.2.1, (y0.1.2.2.1, (y0.1.2.2.2.1, ())))), (y0.2.1, (y0.2.2.1, ((wi64 (y0.2.2.2.1 + (1 : Int))), ()))))))
else
(rec0 ((y0.1.1, (y0.1.2.1, (y0.1.2.2.1, (y0.1.2.2.2.1, ())))), (y0.2.1, (y0.2.2.1, ((wi64 (y0.2.2.2.1 + (1 : Int))), ()))))))
else
some (false, ((), ())))))))
else
some (false, ((), ()))))
else
some (false, ((), ())))))
else none)
else
((fun (z1 : Unit) =>
some (true, ((), ()))) ()))) k ((x.1.1, (x.1.2.1, (x.1.2.2.1, (x.1.2.2.2.1, ())))), (x.1.2.2.1, ((List.length x.1.2.2.1 : Int), ((0 : Int), ()))))))
else
some (false, ((), ()))))
else
some (false, ((), ()))))
else
some (false, ((), ()))))
theorem t_i_PoolOk (k : Nat) (x) : evF TTab k [⟨43, 0, (.cons (.agg (.cons (.int .i64) (.cons (.int .i64) .nil))) .nil), .bool, i_PrefixOk k⟩, ⟨44, 0, (.cons (.int .i64) (.cons (.int .i64) (.cons (.int .i64) .nil))), .bool, i_within k⟩, ⟨45, 0, (.cons (.agg (.cons (.int .i64) (.cons (.int .i64) (.cons (.il true (.pair (.int .i64) (.pair (.int .i64) (.int .i64)))) (.cons (.il true (.pair (.int .i64) (.int .i64))) .nil))))) .nil), .bool, i_fixesOk k⟩, ⟨46, 0, (.cons (.agg (.cons (.int .i64) (.cons (.int .i64) .nil))) (.cons (.int .i64) .nil)), .bool, i_isHost k⟩, ⟨47, 0, (.cons (.int .i64) .nil), .bool, i_isId k⟩, ⟨48, 0, (.cons (.agg (.cons (.int .i64) (.cons (.int .i64) (.cons (.il true (.pair (.int .i64) (.pair (.int .i64) (.int .i64)))) (.cons (.il true (.pair (.int .i64) (.int .i64))) .nil))))) (.cons (.int .i64) .nil)), (.int .i64), i_fixedFor k⟩, ⟨49, 0, (.cons (.agg (.cons (.int .i64) (.cons (.int .i64) (.cons (.il true (.pair (.int .i64) (.pair (.int .i64) (.int .i64)))) (.cons (.il true (.pair (.int .i64) (.int .i64))) .nil))))) (.cons (.int .i64) .nil)), (.int .i64), i_leaseOf k⟩] [(0, ⟨[1, 29, 30, 31], (.cons (.ptr (.cons (.int .i64) (.cons (.int .i64) (.cons (.il true (.pair (.int .i64) (.pair (.int .i64) (.int .i64)))) (.cons (.il true (.pair (.int .i64) (.int .i64))) .nil))))) (.cons (.il true (.pair (.int .i64) (.pair (.int .i64) (.int .i64)))) (.cons (.int .i64) (.cons (.int .i64) .nil))))⟩, ⟨[], .nil⟩)] Try.f17 (.cons (.agg (.cons (.int .i64) (.cons (.int .i64) (.cons (.il true (.pair (.int .i64) (.pair (.int .i64) (.int .i64)))) (.cons (.il true (.pair (.int .i64) (.int .i64))) .nil))))) .nil) .bool x = i_PoolOk k x := by kernel_rfl
theorem e_i_PoolOk (k : Nat) : EntryOk Try.prog ⟨17, 0, (.cons (.agg (.cons (.int .i64) (.cons (.int .i64) (.cons (.il true (.pair (.int .i64) (.pair (.int .i64) (.int .i64)))) (.cons (.il true (.pair (.int .i64) (.int .i64))) .nil))))) .nil), .bool, i_PoolOk k⟩ := entry_ok tok (by intro e he; simp only [List.mem_cons, List.not_mem_nil, or_false] at he; rcases he with rfl | rfl | rfl | rfl | rfl | rfl | rfl <;> first | exact e_i_PrefixOk k | exact e_i_within k | exact e_i_fixesOk k | exact e_i_isHost k | exact e_i_isId k | exact e_i_fixedFor k | exact e_i_leaseOf k) (by kernel_rfl) (fn := Try.f17) (k := k) (es := [⟨43, 0, (.cons (.agg (.cons (.int .i64) (.cons (.int .i64) .nil))) .nil), .bool, i_PrefixOk k⟩, ⟨44, 0, (.cons (.int .i64) (.cons (.int .i64) (.cons (.int .i64) .nil))), .bool, i_within k⟩, ⟨45, 0, (.cons (.agg (.cons (.int .i64) (.cons (.int .i64) (.cons (.il true (.pair (.int .i64) (.pair (.int .i64) (.int .i64)))) (.cons (.il true (.pair (.int .i64) (.int .i64))) .nil))))) .nil), .bool, i_fixesOk k⟩, ⟨46, 0, (.cons (.agg (.cons (.int .i64) (.cons (.int .i64) .nil))) (.cons (.int .i64) .nil)), .bool, i_isHost k⟩, ⟨47, 0, (.cons (.int .i64) .nil), .bool, i_isId k⟩, ⟨48, 0, (.cons (.agg (.cons (.int .i64) (.cons (.int .i64) (.cons (.il true (.pair (.int .i64) (.pair (.int .i64) (.int .i64)))) (.cons (.il true (.pair (.int .i64) (.int .i64))) .nil))))) (.cons (.int .i64) .nil)), (.int .i64), i_fixedFor k⟩, ⟨49, 0, (.cons (.agg (.cons (.int .i64) (.cons (.int .i64) (.cons (.il true (.pair (.int .i64) (.pair (.int .i64) (.int .i64)))) (.cons (.il true (.pair (.int .i64) (.int .i64))) .nil))))) (.cons (.int .i64) .nil)), (.int .i64), i_leaseOf k⟩]) (loops := [(0, ⟨[1, 29, 30, 31], (.cons (.ptr (.cons (.int .i64) (.cons (.int .i64) (.cons (.il true (.pair (.int .i64) (.pair (.int .i64) (.int .i64)))) (.cons (.il true (.pair (.int .i64) (.int .i64))) .nil))))) (.cons (.il true (.pair (.int .i64) (.pair (.int .i64) (.int .i64)))) (.cons (.int .i64) (.cons (.int .i64) .nil))))⟩, ⟨[], .nil⟩)]) (by kernel_rfl) (by kernel_rfl) (fun x r h => (t_i_PoolOk k x).trans h)
def i_HubNew (k : Nat) (x : (Int × Int × Unit) × Unit) : Option (((Int × Int × Unit × Unit × Unit × Unit × Unit) × Bool × Unit) × Unit × Unit) :=
((i_PoolOk k ((x.1.1, (x.1.2.1, ([], ([], ())))), ())).bind fun p1 =>
(if (!p1.1) = true then
some ((((0 : Int), ((0 : Int), ((), ((), ((), ((), ())))))), (false, ())), ((), ()))
else
some (((x.1.1, (x.1.2.1, ((), ((), ((), ((), ())))))), (true, ())), ((), ()))))
theorem t_i_HubNew (k : Nat) (x) : evF TTab k [⟨17, 0, (.cons (.agg (.cons (.int .i64) (.cons (.int .i64) (.cons (.il true (.pair (.int .i64) (.pair (.int .i64) (.int .i64)))) (.cons (.il true (.pair (.int .i64) (.int .i64))) .nil))))) .nil), .bool, i_PoolOk k⟩] [] Try.f7 (.cons (.agg (.cons (.int .i64) (.cons (.int .i64) .nil))) .nil) (.tup (.cons (.agg (.cons (.int .i64) (.cons (.int .i64) (.cons .nils (.cons .nils (.cons .nils (.cons .nils .nil))))))) (.cons .bool .nil))) x = i_HubNew k x := by kernel_rfl
theorem e_i_HubNew (k : Nat) : EntryOk Try.prog ⟨7, 0, (.cons (.agg (.cons (.int .i64) (.cons (.int .i64) .nil))) .nil), (.tup (.cons (.agg (.cons (.int .i64) (.cons (.int .i64) (.cons .nils (.cons .nils (.cons .nils (.cons .nils .nil))))))) (.cons .bool .nil))), i_HubNew k⟩ := entry_ok tok (by intro e he; simp only [List.mem_cons, List.not_mem_nil, or_false] at he; rcases he with rfl <;> first | exact e_i_PoolOk k) (by kernel_rfl) (fn := Try.f7) (k := k) (es := [⟨17, 0, (.cons (.agg (.cons (.int .i64) (.cons (.int .i64) (.cons (.il true (.pair (.int .i64) (.pair (.int .i64) (.int .i64)))) (.cons (.il true (.pair (.int .i64) (.int .i64))) .nil))))) .nil), .bool, i_PoolOk k⟩]) (loops := []) (by kernel_rfl) (by kernel_rfl) (fun x r h => (t_i_HubNew k x).trans h)
def w_eqPrefix (k : Nat) (x : (Int × Int × Unit) × (Int × Int × Unit) × Unit) : Option (Bool × Unit × Unit × Unit) :=
(if (!decide (x.1.1 = x.2.1.1)) = true then
some (false, ((), ((), ())))
else
(if (!decide (x.1.2.1 = x.2.1.2.1)) = true then
some (false, ((), ((), ())))
else
some (true, ((), ((), ())))))
theorem t_w_eqPrefix (k : Nat) (x) : evF TTab k [] [] Try.f50 (.cons (.agg (.cons (.int .i64) (.cons (.int .i64) .nil))) (.cons (.agg (.cons (.int .i64) (.cons (.int .i64) .nil))) .nil)) .bool x = w_eqPrefix k x := by kernel_rfl
theorem e_w_eqPrefix (k : Nat) : EntryOk Try.prog ⟨50, 0, (.cons (.agg (.cons (.int .i64) (.cons (.int .i64) .nil))) (.cons (.agg (.cons (.int .i64) (.cons (.int .i64) .nil))) .nil)), .bool, w_eqPrefix k⟩ := entry_ok tok (by simp) (by kernel_rfl) (fn := Try.f50) (k := k) (es := []) (loops := []) (by kernel_rfl) (by kernel_rfl) (fun x r h => (t_w_eqPrefix k x).trans h)
def w_eqLease (k : Nat) (x : (Int × Int × Int × Unit) × (Int × Int × Int × Unit) × Unit) : Option (Bool × Unit × Unit × Unit) :=
(if (!decide (x.1.1 = x.2.1.1)) = true then
some (false, ((), ((), ())))
else
(if (!decide (x.1.2.1 = x.2.1.2.1)) = true then
some (false, ((), ((), ())))
else
(if (!decide (x.1.2.2.1 = x.2.1.2.2.1)) = true then
some (false, ((), ((), ())))
else
some (true, ((), ((), ()))))))
theorem t_w_eqLease (k : Nat) (x) : evF TTab k [] [] Try.f73 (.cons (.agg (.cons (.int .i64) (.cons (.int .i64) (.cons (.int .i64) .nil)))) (.cons (.agg (.cons (.int .i64) (.cons (.int .i64) (.cons (.int .i64) .nil)))) .nil)) .bool x = w_eqLease k x := by kernel_rfl
theorem e_w_eqLease (k : Nat) : EntryOk Try.prog ⟨73, 0, (.cons (.agg (.cons (.int .i64) (.cons (.int .i64) (.cons (.int .i64) .nil)))) (.cons (.agg (.cons (.int .i64) (.cons (.int .i64) (.cons (.int .i64) .nil)))) .nil)), .bool, w_eqLease k⟩ := entry_ok tok (by simp) (by kernel_rfl) (fn := Try.f73) (k := k) (es := []) (loops := []) (by kernel_rfl) (by kernel_rfl) (fun x r h => (t_w_eqLease k x).trans h)
def w_eqLeaseS (k : Nat) (x : (List (Int × Int × Int)) × (List (Int × Int × Int)) × Unit) : Option (Bool × Unit × Unit × Unit) :=
(if (!decide ((List.length x.1 : Int) = (List.length x.2.1 : Int))) = true then
some (false, ((), ((), ())))
else
(whileK (fun (rec0 : ((List (Int × Int × Int)) × (List (Int × Int × Int)) × Int × Unit) → Option _) (y0 : (List (Int × Int × Int)) × (List (Int × Int × Int)) × Int × Unit) =>
(if (decide (y0.2.2.1 < (List.length y0.1 : Int))) = true then
(if 0 ≤ y0.2.2.1 ∧ y0.2.2.1 < (List.length y0.1 : Int) then
(if 0 ≤ y0.2.2.1 ∧ y0.2.2.1 < (List.length y0.2.1 : Int) then
((w_eqLease k (((Ty.rd (t := (.pair (.int .i64) (.pair (.int .i64) (.int .i64)))) y0.1 y0.2.2.1).1, ((Ty.rd (t := (.pair (.int .i64) (.pair (.int .i64) (.int .i64)))) y0.1 y0.2.2.1).2.1, ((Ty.rd (t := (.pair (.int .i64) (.pair (.int .i64) (.int .i64)))) y0.1 y0.2.2.1).2.2, ()))), (((Ty.rd (t := (.pair (.int .i64) (.pair (.int .i64) (.int .i64)))) y0.2.1 y0.2.2.1).1, ((Ty.rd (t := (.pair (.int .i64) (.pair (.int .i64) (.int .i64)))) y0.2.1 y0.2.2.1).2.1, ((Ty.rd (t := (.pair (.int .i64) (.pair (.int .i64) (.int .i64)))) y0.2.1 y0.2.2.1).2.2, ()))), ()))).bind fun p1 =>
(if (!p1.1) = true then
some (false, ((), ((), ())))
else
(rec0 (y0.1, (y0.2.1, ((wi64 (y0.2.2.1 + (1 : Int))), ()))))))
else none)
else none)
else
((fun (z1 : Unit) =>
some (true, ((), ((), ())))) ()))) k (x.1, (x.2.1, ((0 : Int), ())))))
theorem t_w_eqLeaseS (k : Nat) (x) : evF TTab k [⟨73, 0, (.cons (.agg (.cons (.int .i64) (.cons (.int .i64) (.cons (.int .i64) .nil)))) (.cons (.agg (.cons (.int .i64) (.cons (.int .i64) (.cons (.int .i64) .nil)))) .nil)), .bool, w_eqLease k⟩] [(0, ⟨[0, 1, 5], (.cons (.il true (.pair (.int .i64) (.pair (.int .i64) (.int .i64)))) (.cons (.il true (.pair (.int .i64) (.pair (.int .i64) (.int .i64)))) (.cons (.int .i64) .nil)))⟩, ⟨[], .nil⟩)] Try.f51 (.cons (.il true (.pair (.int .i64) (.pair (.int .i64) (.int .i64)))) (.cons (.il true (.pair (.int .i64) (.pair (.int .i64) (.int .i64)))) .nil)) .bool x = w_eqLeaseS k x := by kernel_rfl
theorem e_w_eqLeaseS (k : Nat) : EntryOk Try.prog ⟨51, 0, (.cons (.il true (.pair (.int .i64) (.pair (.int .i64) (.int .i64)))) (.cons (.il true (.pair (.int .i64) (.pair (.int .i64) (.int .i64)))) .nil)), .bool, w_eqLeaseS k⟩ := entry_ok tok (by intro e he; simp only [List.mem_cons, List.not_mem_nil, or_false] at he; rcases he with rfl <;> first | exact e_w_eqLease k) (by kernel_rfl) (fn := Try.f51) (k := k) (es := [⟨73, 0, (.cons (.agg (.cons (.int .i64) (.cons (.int .i64) (.cons (.int .i64) .nil)))) (.cons (.agg (.cons (.int .i64) (.cons (.int .i64) (.cons (.int .i64) .nil)))) .nil)), .bool, w_eqLease k⟩]) (loops := [(0, ⟨[0, 1, 5], (.cons (.il true (.pair (.int .i64) (.pair (.int .i64) (.int .i64)))) (.cons (.il true (.pair (.int .i64) (.pair (.int .i64) (.int .i64)))) (.cons (.int .i64) .nil)))⟩, ⟨[], .nil⟩)]) (by kernel_rfl) (by kernel_rfl) (fun x r h => (t_w_eqLeaseS k x).trans h)
def w_eqFixed (k : Nat) (x : (Int × Int × Unit) × (Int × Int × Unit) × Unit) : Option (Bool × Unit × Unit × Unit) :=
(if (!decide (x.1.1 = x.2.1.1)) = true then
some (false, ((), ((), ())))
else
(if (!decide (x.1.2.1 = x.2.1.2.1)) = true then
some (false, ((), ((), ())))
else
some (true, ((), ((), ())))))
theorem t_w_eqFixed (k : Nat) (x) : evF TTab k [] [] Try.f74 (.cons (.agg (.cons (.int .i64) (.cons (.int .i64) .nil))) (.cons (.agg (.cons (.int .i64) (.cons (.int .i64) .nil))) .nil)) .bool x = w_eqFixed k x := by kernel_rfl
theorem e_w_eqFixed (k : Nat) : EntryOk Try.prog ⟨74, 0, (.cons (.agg (.cons (.int .i64) (.cons (.int .i64) .nil))) (.cons (.agg (.cons (.int .i64) (.cons (.int .i64) .nil))) .nil)), .bool, w_eqFixed k⟩ := entry_ok tok (by simp) (by kernel_rfl) (fn := Try.f74) (k := k) (es := []) (loops := []) (by kernel_rfl) (by kernel_rfl) (fun x r h => (t_w_eqFixed k x).trans h)
def w_eqFixedS (k : Nat) (x : (List (Int × Int)) × (List (Int × Int)) × Unit) : Option (Bool × Unit × Unit × Unit) :=
(if (!decide ((List.length x.1 : Int) = (List.length x.2.1 : Int))) = true then
some (false, ((), ((), ())))
else
(whileK (fun (rec0 : ((List (Int × Int)) × (List (Int × Int)) × Int × Unit) → Option _) (y0 : (List (Int × Int)) × (List (Int × Int)) × Int × Unit) =>
(if (decide (y0.2.2.1 < (List.length y0.1 : Int))) = true then
(if 0 ≤ y0.2.2.1 ∧ y0.2.2.1 < (List.length y0.1 : Int) then
(if 0 ≤ y0.2.2.1 ∧ y0.2.2.1 < (List.length y0.2.1 : Int) then
((w_eqFixed k (((Ty.rd (t := (.pair (.int .i64) (.int .i64))) y0.1 y0.2.2.1).1, ((Ty.rd (t := (.pair (.int .i64) (.int .i64))) y0.1 y0.2.2.1).2, ())), (((Ty.rd (t := (.pair (.int .i64) (.int .i64))) y0.2.1 y0.2.2.1).1, ((Ty.rd (t := (.pair (.int .i64) (.int .i64))) y0.2.1 y0.2.2.1).2, ())), ()))).bind fun p1 =>
(if (!p1.1) = true then
some (false, ((), ((), ())))
else
(rec0 (y0.1, (y0.2.1, ((wi64 (y0.2.2.1 + (1 : Int))), ()))))))
else none)
else none)
else
((fun (z1 : Unit) =>
some (true, ((), ((), ())))) ()))) k (x.1, (x.2.1, ((0 : Int), ())))))
theorem t_w_eqFixedS (k : Nat) (x) : evF TTab k [⟨74, 0, (.cons (.agg (.cons (.int .i64) (.cons (.int .i64) .nil))) (.cons (.agg (.cons (.int .i64) (.cons (.int .i64) .nil))) .nil)), .bool, w_eqFixed k⟩] [(0, ⟨[0, 1, 5], (.cons (.il true (.pair (.int .i64) (.int .i64))) (.cons (.il true (.pair (.int .i64) (.int .i64))) (.cons (.int .i64) .nil)))⟩, ⟨[], .nil⟩)] Try.f52 (.cons (.il true (.pair (.int .i64) (.int .i64))) (.cons (.il true (.pair (.int .i64) (.int .i64))) .nil)) .bool x = w_eqFixedS k x := by kernel_rfl
theorem e_w_eqFixedS (k : Nat) : EntryOk Try.prog ⟨52, 0, (.cons (.il true (.pair (.int .i64) (.int .i64))) (.cons (.il true (.pair (.int .i64) (.int .i64))) .nil)), .bool, w_eqFixedS k⟩ := entry_ok tok (by intro e he; simp only [List.mem_cons, List.not_mem_nil, or_false] at he; rcases he with rfl <;> first | exact e_w_eqFixed k) (by kernel_rfl) (fn := Try.f52) (k := k) (es := [⟨74, 0, (.cons (.agg (.cons (.int .i64) (.cons (.int .i64) .nil))) (.cons (.agg (.cons (.int .i64) (.cons (.int .i64) .nil))) .nil)), .bool, w_eqFixed k⟩]) (loops := [(0, ⟨[0, 1, 5], (.cons (.il true (.pair (.int .i64) (.int .i64))) (.cons (.il true (.pair (.int .i64) (.int .i64))) (.cons (.int .i64) .nil)))⟩, ⟨[], .nil⟩)]) (by kernel_rfl) (by kernel_rfl) (fun x r h => (t_w_eqFixedS k x).trans h)
def w_eqPool (k : Nat) (x : (Int × Int × (List (Int × Int × Int)) × (List (Int × Int)) × Unit) × (Int × Int × (List (Int × Int × Int)) × (List (Int × Int)) × Unit) × Unit) : Option (Bool × Unit × Unit × Unit) :=
((w_eqPrefix k ((x.1.1, (x.1.2.1, ())), ((x.2.1.1, (x.2.1.2.1, ())), ()))).bind fun p1 =>
(if (!p1.1) = true then
some (false, ((), ((), ())))
else
((w_eqLeaseS k (x.1.2.2.1, (x.2.1.2.2.1, ()))).bind fun p2 =>
(if (!p2.1) = true then
some (false, ((), ((), ())))
else
((w_eqFixedS k (x.1.2.2.2.1, (x.2.1.2.2.2.1, ()))).bind fun p3 =>
(if (!p3.1) = true then
some (false, ((), ((), ())))
else
some (true, ((), ((), ())))))))))
theorem t_w_eqPool (k : Nat) (x) : evF TTab k [⟨50, 0, (.cons (.agg (.cons (.int .i64) (.cons (.int .i64) .nil))) (.cons (.agg (.cons (.int .i64) (.cons (.int .i64) .nil))) .nil)), .bool, w_eqPrefix k⟩, ⟨51, 0, (.cons (.il true (.pair (.int .i64) (.pair (.int .i64) (.int .i64)))) (.cons (.il true (.pair (.int .i64) (.pair (.int .i64) (.int .i64)))) .nil)), .bool, w_eqLeaseS k⟩, ⟨52, 0, (.cons (.il true (.pair (.int .i64) (.int .i64))) (.cons (.il true (.pair (.int .i64) (.int .i64))) .nil)), .bool, w_eqFixedS k⟩] [] Try.f18 (.cons (.agg (.cons (.int .i64) (.cons (.int .i64) (.cons (.il true (.pair (.int .i64) (.pair (.int .i64) (.int .i64)))) (.cons (.il true (.pair (.int .i64) (.int .i64))) .nil))))) (.cons (.agg (.cons (.int .i64) (.cons (.int .i64) (.cons (.il true (.pair (.int .i64) (.pair (.int .i64) (.int .i64)))) (.cons (.il true (.pair (.int .i64) (.int .i64))) .nil))))) .nil)) .bool x = w_eqPool k x := by kernel_rfl
theorem e_w_eqPool (k : Nat) : EntryOk Try.prog ⟨18, 0, (.cons (.agg (.cons (.int .i64) (.cons (.int .i64) (.cons (.il true (.pair (.int .i64) (.pair (.int .i64) (.int .i64)))) (.cons (.il true (.pair (.int .i64) (.int .i64))) .nil))))) (.cons (.agg (.cons (.int .i64) (.cons (.int .i64) (.cons (.il true (.pair (.int .i64) (.pair (.int .i64) (.int .i64)))) (.cons (.il true (.pair (.int .i64) (.int .i64))) .nil))))) .nil)), .bool, w_eqPool k⟩ := entry_ok tok (by intro e he; simp only [List.mem_cons, List.not_mem_nil, or_false] at he; rcases he with rfl | rfl | rfl <;> first | exact e_w_eqPrefix k | exact e_w_eqLeaseS k | exact e_w_eqFixedS k) (by kernel_rfl) (fn := Try.f18) (k := k) (es := [⟨50, 0, (.cons (.agg (.cons (.int .i64) (.cons (.int .i64) .nil))) (.cons (.agg (.cons (.int .i64) (.cons (.int .i64) .nil))) .nil)), .bool, w_eqPrefix k⟩, ⟨51, 0, (.cons (.il true (.pair (.int .i64) (.pair (.int .i64) (.int .i64)))) (.cons (.il true (.pair (.int .i64) (.pair (.int .i64) (.int .i64)))) .nil)), .bool, w_eqLeaseS k⟩, ⟨52, 0, (.cons (.il true (.pair (.int .i64) (.int .i64))) (.cons (.il true (.pair (.int .i64) (.int .i64))) .nil)), .bool, w_eqFixedS k⟩]) (loops := []) (by kernel_rfl) (by kernel_rfl) (fun x r h => (t_w_eqPool k x).trans h)
def w_eqRoute (k : Nat) (x : (Int × Int × Int × Unit) × (Int × Int × Int × Unit) × Unit) : Option (Bool × Unit × Unit × Unit) :=
((w_eqPrefix k ((x.1.1, (x.1.2.1, ())), ((x.2.1.1, (x.2.1.2.1, ())), ()))).bind fun p1 =>
(if (!p1.1) = true then
some (false, ((), ((), ())))
else
(if (!decide (x.1.2.2.1 = x.2.1.2.2.1)) = true then
some (false, ((), ((), ())))
else
some (true, ((), ((), ()))))))
theorem t_w_eqRoute (k : Nat) (x) : evF TTab k [⟨50, 0, (.cons (.agg (.cons (.int .i64) (.cons (.int .i64) .nil))) (.cons (.agg (.cons (.int .i64) (.cons (.int .i64) .nil))) .nil)), .bool, w_eqPrefix k⟩] [] Try.f53 (.cons (.agg (.cons (.int .i64) (.cons (.int .i64) (.cons (.int .i64) .nil)))) (.cons (.agg (.cons (.int .i64) (.cons (.int .i64) (.cons (.int .i64) .nil)))) .nil)) .bool x = w_eqRoute k x := by kernel_rfl
theorem e_w_eqRoute (k : Nat) : EntryOk Try.prog ⟨53, 0, (.cons (.agg (.cons (.int .i64) (.cons (.int .i64) (.cons (.int .i64) .nil)))) (.cons (.agg (.cons (.int .i64) (.cons (.int .i64) (.cons (.int .i64) .nil)))) .nil)), .bool, w_eqRoute k⟩ := entry_ok tok (by intro e he; simp only [List.mem_cons, List.not_mem_nil, or_false] at he; rcases he with rfl <;> first | exact e_w_eqPrefix k) (by kernel_rfl) (fn := Try.f53) (k := k) (es := [⟨50, 0, (.cons (.agg (.cons (.int .i64) (.cons (.int .i64) .nil))) (.cons (.agg (.cons (.int .i64) (.cons (.int .i64) .nil))) .nil)), .bool, w_eqPrefix k⟩]) (loops := []) (by kernel_rfl) (by kernel_rfl) (fun x r h => (t_w_eqRoute k x).trans h)
def w_eqRouteS (k : Nat) (x : (List ((Int × Int) × Int)) × (List ((Int × Int) × Int)) × Unit) : Option (Bool × Unit × Unit × Unit) :=
(if (!decide ((List.length x.1 : Int) = (List.length x.2.1 : Int))) = true then
some (false, ((), ((), ())))
else
(whileK (fun (rec0 : ((List ((Int × Int) × Int)) × (List ((Int × Int) × Int)) × Int × Unit) → Option _) (y0 : (List ((Int × Int) × Int)) × (List ((Int × Int) × Int)) × Int × Unit) =>
(if (decide (y0.2.2.1 < (List.length y0.1 : Int))) = true then
(if 0 ≤ y0.2.2.1 ∧ y0.2.2.1 < (List.length y0.1 : Int) then
(if 0 ≤ y0.2.2.1 ∧ y0.2.2.1 < (List.length y0.2.1 : Int) then
((w_eqRoute k (((Ty.rd (t := (.pair (.pair (.int .i64) (.int .i64)) (.int .i64))) y0.1 y0.2.2.1).1.1, ((Ty.rd (t := (.pair (.pair (.int .i64) (.int .i64)) (.int .i64))) y0.1 y0.2.2.1).1.2, ((Ty.rd (t := (.pair (.pair (.int .i64) (.int .i64)) (.int .i64))) y0.1 y0.2.2.1).2, ()))), (((Ty.rd (t := (.pair (.pair (.int .i64) (.int .i64)) (.int .i64))) y0.2.1 y0.2.2.1).1.1, ((Ty.rd (t := (.pair (.pair (.int .i64) (.int .i64)) (.int .i64))) y0.2.1 y0.2.2.1).1.2, ((Ty.rd (t := (.pair (.pair (.int .i64) (.int .i64)) (.int .i64))) y0.2.1 y0.2.2.1).2, ()))), ()))).bind fun p1 =>
(if (!p1.1) = true then
some (false, ((), ((), ())))
else
(rec0 (y0.1, (y0.2.1, ((wi64 (y0.2.2.1 + (1 : Int))), ()))))))
else none)
else none)
else
((fun (z1 : Unit) =>
some (true, ((), ((), ())))) ()))) k (x.1, (x.2.1, ((0 : Int), ())))))
theorem t_w_eqRouteS (k : Nat) (x) : evF TTab k [⟨53, 0, (.cons (.agg (.cons (.int .i64) (.cons (.int .i64) (.cons (.int .i64) .nil)))) (.cons (.agg (.cons (.int .i64) (.cons (.int .i64) (.cons (.int .i64) .nil)))) .nil)), .bool, w_eqRoute k⟩] [(0, ⟨[0, 1, 5], (.cons (.il true (.pair (.pair (.int .i64) (.int .i64)) (.int .i64))) (.cons (.il true (.pair (.pair (.int .i64) (.int .i64)) (.int .i64))) (.cons (.int .i64) .nil)))⟩, ⟨[], .nil⟩)] Try.f19 (.cons (.il true (.pair (.pair (.int .i64) (.int .i64)) (.int .i64))) (.cons (.il true (.pair (.pair (.int .i64) (.int .i64)) (.int .i64))) .nil)) .bool x = w_eqRouteS k x := by kernel_rfl
theorem e_w_eqRouteS (k : Nat) : EntryOk Try.prog ⟨19, 0, (.cons (.il true (.pair (.pair (.int .i64) (.int .i64)) (.int .i64))) (.cons (.il true (.pair (.pair (.int .i64) (.int .i64)) (.int .i64))) .nil)), .bool, w_eqRouteS k⟩ := entry_ok tok (by intro e he; simp only [List.mem_cons, List.not_mem_nil, or_false] at he; rcases he with rfl <;> first | exact e_w_eqRoute k) (by kernel_rfl) (fn := Try.f19) (k := k) (es := [⟨53, 0, (.cons (.agg (.cons (.int .i64) (.cons (.int .i64) (.cons (.int .i64) .nil)))) (.cons (.agg (.cons (.int .i64) (.cons (.int .i64) (.cons (.int .i64) .nil)))) .nil)), .bool, w_eqRoute k⟩]) (loops := [(0, ⟨[0, 1, 5], (.cons (.il true (.pair (.pair (.int .i64) (.int .i64)) (.int .i64))) (.cons (.il true (.pair (.pair (.int .i64) (.int .i64)) (.int .i64))) (.cons (.int .i64) .nil)))⟩, ⟨[], .nil⟩)]) (by kernel_rfl) (by kernel_rfl) (fun x r h => (t_w_eqRouteS k x).trans h)
def w_eqIntS (k : Nat) (x : List (Int) × List (Int) × Unit) : Option (Bool × Unit × Unit × Unit) :=
(if (!decide ((List.length x.1 : Int) = (List.length x.2.1 : Int))) = true then
some (false, ((), ((), ())))
else
(whileK (fun (rec0 : (List (Int) × List (Int) × Int × Unit) → Option _) (y0 : List (Int) × List (Int) × Int × Unit) =>
(if (decide (y0.2.2.1 < (List.length y0.1 : Int))) = true then
(if 0 ≤ y0.2.2.1 ∧ y0.2.2.1 < (List.length y0.1 : Int) then
(if 0 ≤ y0.2.2.1 ∧ y0.2.2.1 < (List.length y0.2.1 : Int) then
(if (!decide ((Ty.rd (t := (.int .i64)) y0.1 y0.2.2.1) = (Ty.rd (t := (.int .i64)) y0.2.1 y0.2.2.1))) = true then
some (false, ((), ((), ())))
else
(rec0 (y0.1, (y0.2.1, ((wi64 (y0.2.2.1 + (1 : Int))), ())))))
else none)
else none)
else
((fun (z1 : Unit) =>
some (true, ((), ((), ())))) ()))) k (x.1, (x.2.1, ((0 : Int), ())))))
theorem t_w_eqIntS (k : Nat) (x) : evF TTab k [] [(0, ⟨[0, 1, 5], (.cons (.il true (.int .i64)) (.cons (.il true (.int .i64)) (.cons (.int .i64) .nil)))⟩, ⟨[], .nil⟩)] Try.f27 (.cons (.il true (.int .i64)) (.cons (.il true (.int .i64)) .nil)) .bool x = w_eqIntS k x := by kernel_rfl
theorem e_w_eqIntS (k : Nat) : EntryOk Try.prog ⟨27, 0, (.cons (.il true (.int .i64)) (.cons (.il true (.int .i64)) .nil)), .bool, w_eqIntS k⟩ := entry_ok tok (by simp) (by kernel_rfl) (fn := Try.f27) (k := k) (es := []) (loops := [(0, ⟨[0, 1, 5], (.cons (.il true (.int .i64)) (.cons (.il true (.int .i64)) (.cons (.int .i64) .nil)))⟩, ⟨[], .nil⟩)]) (by kernel_rfl) (by kernel_rfl) (fun x r h => (t_w_eqIntS k x).trans h)
def w_eqSlot (k : Nat) (x : (Int × ByteArray × ByteArray × Int × List (Int) × Int × Unit) × (Int × ByteArray × ByteArray × Int × List (Int) × Int × Unit) × Unit) : Option (Bool × Unit × Unit × Unit) :=
(if (!decide (x.1.1 = x.2.1.1)) = true then
some (false, ((), ((), ())))
else
(if (!decide (x.1.2.1 = x.2.1.2.1)) = true then
some (false, ((), ((), ())))
else
(if (!decide (x.1.2.2.1 = x.2.1.2.2.1)) = true then
some (false, ((), ((), ())))
else
(if (!decide (x.1.2.2.2.1 = x.2.1.2.2.2.1)) = true then
some (false, ((), ((), ())))
else
((w_eqIntS k (x.1.2.2.2.2.1, (x.2.1.2.2.2.2.1, ()))).bind fun p1 =>
(if (!p1.1) = true then
some (false, ((), ((), ())))
else
(if (!decide (x.1.2.2.2.2.2.1 = x.2.1.2.2.2.2.2.1)) = true then
some (false, ((), ((), ())))
else
some (true, ((), ((), ()))))))))))
theorem t_w_eqSlot (k : Nat) (x) : evF TTab k [⟨27, 0, (.cons (.il true (.int .i64)) (.cons (.il true (.int .i64)) .nil)), .bool, w_eqIntS k⟩] [] Try.f83 (.cons (.agg (.cons (.int .i64) (.cons .str (.cons .str (.cons (.int .i64) (.cons (.il true (.int .i64)) (.cons (.int .i64) .nil))))))) (.cons (.agg (.cons (.int .i64) (.cons .str (.cons .str (.cons (.int .i64) (.cons (.il true (.int .i64)) (.cons (.int .i64) .nil))))))) .nil)) .bool x = w_eqSlot k x := by kernel_rfl
theorem e_w_eqSlot (k : Nat) : EntryOk Try.prog ⟨83, 0, (.cons (.agg (.cons (.int .i64) (.cons .str (.cons .str (.cons (.int .i64) (.cons (.il true (.int .i64)) (.cons (.int .i64) .nil))))))) (.cons (.agg (.cons (.int .i64) (.cons .str (.cons .str (.cons (.int .i64) (.cons (.il true (.int .i64)) (.cons (.int .i64) .nil))))))) .nil)), .bool, w_eqSlot k⟩ := entry_ok tok (by intro e he; simp only [List.mem_cons, List.not_mem_nil, or_false] at he; rcases he with rfl <;> first | exact e_w_eqIntS k) (by kernel_rfl) (fn := Try.f83) (k := k) (es := [⟨27, 0, (.cons (.il true (.int .i64)) (.cons (.il true (.int .i64)) .nil)), .bool, w_eqIntS k⟩]) (loops := []) (by kernel_rfl) (by kernel_rfl) (fun x r h => (t_w_eqSlot k x).trans h)
def w_eqSlots (k : Nat) (x : (Int × ByteArray × ByteArray × Int × List (Int) × Int × Int × ByteArray × ByteArray × Int × List (Int) × Int × Unit) × (Int × ByteArray × ByteArray × Int × List (Int) × Int × Int × ByteArray × ByteArray × Int × List (Int) × Int × Unit) × Unit) : Option (Bool × Unit × Unit × Unit) :=
((w_eqSlot k ((x.1.1, (x.1.2.1, (x.1.2.2.1, (x.1.2.2.2.1, (x.1.2.2.2.2.1, (x.1.2.2.2.2.2.1, ())))))), ((x.2.1.1, (x.2.1.2.1, (x.2.1.2.2.1, (x.2.1.2.2.2.1, (x.2.1.2.2.2.2.1, (x.2.1.2.2.2.2.2.1, ())))))), ()))).bind fun p1 =>
(if (!p1.1) = true then
some (false, ((), ((), ())))
else
((w_eqSlot k ((x.1.2.2.2.2.2.2.1, (x.1.2.2.2.2.2.2.2.1, (x.1.2.2.2.2.2.2.2.2.1, (x.1.2.2.2.2.2.2.2.2.2.1, (x.1.2.2.2.2.2.2.2.2.2.2.1, (x.1.2.2.2.2.2.2.2.2.2.2.2.1, ())))))), ((x.2.1.2.2.2.2.2.2.1, (x.2.1.2.2.2.2.2.2.2.1, (x.2.1.2.2.2.2.2.2.2.2.1, (x.2.1.2.2.2.2.2.2.2.2.2.1, (x.2.1.2.2.2.2.2.2.2.2.2.2.1, (x.2.1.2.2.2.2.2.2.2.2.2.2.2.1, ())))))), ()))).bind fun p2 =>
(if (!p2.1) = true then
some (false, ((), ((), ())))
else
some (true, ((), ((), ())))))))
theorem t_w_eqSlots (k : Nat) (x) : evF TTab k [⟨83, 0, (.cons (.agg (.cons (.int .i64) (.cons .str (.cons .str (.cons (.int .i64) (.cons (.il true (.int .i64)) (.cons (.int .i64) .nil))))))) (.cons (.agg (.cons (.int .i64) (.cons .str (.cons .str (.cons (.int .i64) (.cons (.il true (.int .i64)) (.cons (.int .i64) .nil))))))) .nil)), .bool, w_eqSlot k⟩] [] Try.f75 (.cons (.agg (.cons (.int .i64) (.cons .str (.cons .str (.cons (.int .i64) (.cons (.il true (.int .i64)) (.cons (.int .i64) (.cons (.int .i64) (.cons .str (.cons .str (.cons (.int .i64) (.cons (.il true (.int .i64)) (.cons (.int .i64) .nil))))))))))))) (.cons (.agg (.cons (.int .i64) (.cons .str (.cons .str (.cons (.int .i64) (.cons (.il true (.int .i64)) (.cons (.int .i64) (.cons (.int .i64) (.cons .str (.cons .str (.cons (.int .i64) (.cons (.il true (.int .i64)) (.cons (.int .i64) .nil))))))))))))) .nil)) .bool x = w_eqSlots k x := by kernel_rfl
theorem e_w_eqSlots (k : Nat) : EntryOk Try.prog ⟨75, 0, (.cons (.agg (.cons (.int .i64) (.cons .str (.cons .str (.cons (.int .i64) (.cons (.il true (.int .i64)) (.cons (.int .i64) (.cons (.int .i64) (.cons .str (.cons .str (.cons (.int .i64) (.cons (.il true (.int .i64)) (.cons (.int .i64) .nil))))))))))))) (.cons (.agg (.cons (.int .i64) (.cons .str (.cons .str (.cons (.int .i64) (.cons (.il true (.int .i64)) (.cons (.int .i64) (.cons (.int .i64) (.cons .str (.cons .str (.cons (.int .i64) (.cons (.il true (.int .i64)) (.cons (.int .i64) .nil))))))))))))) .nil)), .bool, w_eqSlots k⟩ := entry_ok tok (by intro e he; simp only [List.mem_cons, List.not_mem_nil, or_false] at he; rcases he with rfl <;> first | exact e_w_eqSlot k) (by kernel_rfl) (fn := Try.f75) (k := k) (es := [⟨83, 0, (.cons (.agg (.cons (.int .i64) (.cons .str (.cons .str (.cons (.int .i64) (.cons (.il true (.int .i64)) (.cons (.int .i64) .nil))))))) (.cons (.agg (.cons (.int .i64) (.cons .str (.cons .str (.cons (.int .i64) (.cons (.il true (.int .i64)) (.cons (.int .i64) .nil))))))) .nil)), .bool, w_eqSlot k⟩]) (loops := []) (by kernel_rfl) (by kernel_rfl) (fun x r h => (t_w_eqSlots k x).trans h)
def w_eqStringS (k : Nat) (x : List (ByteArray) × List (ByteArray) × Unit) : Option (Bool × Unit × Unit × Unit) :=
(if (!decide ((List.length x.1 : Int) = (List.length x.2.1 : Int))) = true then
some (false, ((), ((), ())))
else
(whileK (fun (rec0 : (List (ByteArray) × List (ByteArray) × Int × Unit) → Option _) (y0 : List (ByteArray) × List (ByteArray) × Int × Unit) =>
(if (decide (y0.2.2.1 < (List.length y0.1 : Int))) = true then
(if 0 ≤ y0.2.2.1 ∧ y0.2.2.1 < (List.length y0.1 : Int) then
(if 0 ≤ y0.2.2.1 ∧ y0.2.2.1 < (List.length y0.2.1 : Int) then
(if (!decide ((Ty.rd (t := .str) y0.1 y0.2.2.1) = (Ty.rd (t := .str) y0.2.1 y0.2.2.1))) = true then
some (false, ((), ((), ())))
else
(rec0 (y0.1, (y0.2.1, ((wi64 (y0.2.2.1 + (1 : Int))), ())))))
else none)
else none)
else
((fun (z1 : Unit) =>
some (true, ((), ((), ())))) ()))) k (x.1, (x.2.1, ((0 : Int), ())))))
theorem t_w_eqStringS (k : Nat) (x) : evF TTab k [] [(0, ⟨[0, 1, 5], (.cons (.il true .str) (.cons (.il true .str) (.cons (.int .i64) .nil)))⟩, ⟨[], .nil⟩)] Try.f86 (.cons (.il true .str) (.cons (.il true .str) .nil)) .bool x = w_eqStringS k x := by kernel_rfl
theorem e_w_eqStringS (k : Nat) : EntryOk Try.prog ⟨86, 0, (.cons (.il true .str) (.cons (.il true .str) .nil)), .bool, w_eqStringS k⟩ := entry_ok tok (by simp) (by kernel_rfl) (fn := Try.f86) (k := k) (es := []) (loops := [(0, ⟨[0, 1, 5], (.cons (.il true .str) (.cons (.il true .str) (.cons (.int .i64) .nil)))⟩, ⟨[], .nil⟩)]) (by kernel_rfl) (by kernel_rfl) (fun x r h => (t_w_eqStringS k x).trans h)
def w_eqBoolS (k : Nat) (x : List (Bool) × List (Bool) × Unit) : Option (Bool × Unit × Unit × Unit) :=
(if (!decide ((List.length x.1 : Int) = (List.length x.2.1 : Int))) = true then
some (false, ((), ((), ())))
else
(whileK (fun (rec0 : (List (Bool) × List (Bool) × Int × Unit) → Option _) (y0 : List (Bool) × List (Bool) × Int × Unit) =>
(if (decide (y0.2.2.1 < (List.length y0.1 : Int))) = true then
(if 0 ≤ y0.2.2.1 ∧ y0.2.2.1 < (List.length y0.1 : Int) then
(if 0 ≤ y0.2.2.1 ∧ y0.2.2.1 < (List.length y0.2.1 : Int) then
(if (!decide ((Ty.rd (t := .bool) y0.1 y0.2.2.1) = (Ty.rd (t := .bool) y0.2.1 y0.2.2.1))) = true then
some (false, ((), ((), ())))
else
(rec0 (y0.1, (y0.2.1, ((wi64 (y0.2.2.1 + (1 : Int))), ())))))
else none)
else none)
else
((fun (z1 : Unit) =>
some (true, ((), ((), ())))) ()))) k (x.1, (x.2.1, ((0 : Int), ())))))
theorem t_w_eqBoolS (k : Nat) (x) : evF TTab k [] [(0, ⟨[0, 1, 5], (.cons (.il true .bool) (.cons (.il true .bool) (.cons (.int .i64) .nil)))⟩, ⟨[], .nil⟩)] Try.f87 (.cons (.il true .bool) (.cons (.il true .bool) .nil)) .bool x = w_eqBoolS k x := by kernel_rfl
theorem e_w_eqBoolS (k : Nat) : EntryOk Try.prog ⟨87, 0, (.cons (.il true .bool) (.cons (.il true .bool) .nil)), .bool, w_eqBoolS k⟩ := entry_ok tok (by simp) (by kernel_rfl) (fn := Try.f87) (k := k) (es := []) (loops := [(0, ⟨[0, 1, 5], (.cons (.il true .bool) (.cons (.il true .bool) (.cons (.int .i64) .nil)))⟩, ⟨[], .nil⟩)]) (by kernel_rfl) (by kernel_rfl) (fun x r h => (t_w_eqBoolS k x).trans h)
def w_eqHeld (k : Nat) (x : (Int × Int × Int × List (ByteArray) × List (Bool) × Int × Unit) × (Int × Int × Int × List (ByteArray) × List (Bool) × Int × Unit) × Unit) : Option (Bool × Unit × Unit × Unit) :=
(if (!decide (x.1.1 = x.2.1.1)) = true then
some (false, ((), ((), ())))
else
(if (!decide (x.1.2.1 = x.2.1.2.1)) = true then
some (false, ((), ((), ())))
else
(if (!decide (x.1.2.2.1 = x.2.1.2.2.1)) = true then
some (false, ((), ((), ())))
else
((w_eqStringS k (x.1.2.2.2.1, (x.2.1.2.2.2.1, ()))).bind fun p1 =>
(if (!p1.1) = true then
some (false, ((), ((), ())))
else
((w_eqBoolS k (x.1.2.2.2.2.1, (x.2.1.2.2.2.2.1, ()))).bind fun p2 =>
(if (!p2.1) = true then
some (false, ((), ((), ())))
else
(if (!decide (x.1.2.2.2.2.2.1 = x.2.1.2.2.2.2.2.1)) = true then
some (false, ((), ((), ())))
else
some (true, ((), ((), ())))))))))))
theorem t_w_eqHeld (k : Nat) (x) : evF TTab k [⟨86, 0, (.cons (.il true .str) (.cons (.il true .str) .nil)), .bool, w_eqStringS k⟩, ⟨87, 0, (.cons (.il true .bool) (.cons (.il true .bool) .nil)), .bool, w_eqBoolS k⟩] [] Try.f85 (.cons (.agg (.cons (.int .i64) (.cons (.int .i64) (.cons (.int .i64) (.cons (.il true .str) (.cons (.il true .bool) (.cons (.int .i64) .nil))))))) (.cons (.agg (.cons (.int .i64) (.cons (.int .i64) (.cons (.int .i64) (.cons (.il true .str) (.cons (.il true .bool) (.cons (.int .i64) .nil))))))) .nil)) .bool x = w_eqHeld k x := by kernel_rfl
theorem e_w_eqHeld (k : Nat) : EntryOk Try.prog ⟨85, 0, (.cons (.agg (.cons (.int .i64) (.cons (.int .i64) (.cons (.int .i64) (.cons (.il true .str) (.cons (.il true .bool) (.cons (.int .i64) .nil))))))) (.cons (.agg (.cons (.int .i64) (.cons (.int .i64) (.cons (.int .i64) (.cons (.il true .str) (.cons (.il true .bool) (.cons (.int .i64) .nil))))))) .nil)), .bool, w_eqHeld k⟩ := entry_ok tok (by intro e he; simp only [List.mem_cons, List.not_mem_nil, or_false] at he; rcases he with rfl | rfl <;> first | exact e_w_eqStringS k | exact e_w_eqBoolS k) (by kernel_rfl) (fn := Try.f85) (k := k) (es := [⟨86, 0, (.cons (.il true .str) (.cons (.il true .str) .nil)), .bool, w_eqStringS k⟩, ⟨87, 0, (.cons (.il true .bool) (.cons (.il true .bool) .nil)), .bool, w_eqBoolS k⟩]) (loops := []) (by kernel_rfl) (by kernel_rfl) (fun x r h => (t_w_eqHeld k x).trans h)
def w_eqHeldS (k : Nat) (x : (List (Int × Int × Int × List (ByteArray) × List (Bool) × Int)) × (List (Int × Int × Int × List (ByteArray) × List (Bool) × Int)) × Unit) : Option (Bool × Unit × Unit × Unit) :=
(if (!decide ((List.length x.1 : Int) = (List.length x.2.1 : Int))) = true then
some (false, ((), ((), ())))
else
(whileK (fun (rec0 : ((List (Int × Int × Int × List (ByteArray) × List (Bool) × Int)) × (List (Int × Int × Int × List (ByteArray) × List (Bool) × Int)) × Int × Unit) → Option _) (y0 : (List (Int × Int × Int × List (ByteArray) × List (Bool) × Int)) × (List (Int × Int × Int × List (ByteArray) × List (Bool) × Int)) × Int × Unit) =>
(if (decide (y0.2.2.1 < (List.length y0.1 : Int))) = true then
(if 0 ≤ y0.2.2.1 ∧ y0.2.2.1 < (List.length y0.1 : Int) then
(if 0 ≤ y0.2.2.1 ∧ y0.2.2.1 < (List.length y0.2.1 : Int) then
((w_eqHeld k (((Ty.rd (t := (.pair (.int .i64) (.pair (.int .i64) (.pair (.int .i64) (.pair (.list .str) (.pair (.list .bool) (.int .i64))))))) y0.1 y0.2.2.1).1, ((Ty.rd (t := (.pair (.int .i64) (.pair (.int .i64) (.pair (.int .i64) (.pair (.list .str) (.pair (.list .bool) (.int .i64))))))) y0.1 y0.2.2.1).2.1, ((Ty.rd (t := (.pair (.int .i64) (.pair (.int .i64) (.pair (.int .i64) (.pair (.list .str) (.pair (.list .bool) (.int .i64))))))) y0.1 y0.2.2.1).2.2.1, ((Ty.rd (t := (.pair (.int .i64) (.pair (.int .i64) (.pair (.int .i64) (.pair (.list .str) (.pair (.list .bool) (.int .i64))))))) y0.1 y0.2.2.1).2.2.2.1, ((Ty.rd (t := (.pair (.int .i64) (.pair (.int .i64) (.pair (.int .i64) (.pair (.list .str) (.pair (.list .bool) (.int .i64))))))) y0.1 y0.2.2.1).2.2.2.2.1, ((Ty.rd (t := (.pair (.int .i64) (.pair (.int .i64) (.pair (.int .i64) (.pair (.list .str) (.pair (.list .bool) (.int .i64))))))) y0.1 y0.2.2.1).2.2.2.2.2, ())))))), (((Ty.rd (t := (.pair (.int .i64) (.pair (.int .i64) (.pair (.int .i64) (.pair (.list .str) (.pair (.list .bool) (.int .i64))))))) y0.2.1 y0.2.2.1).1, ((Ty.rd (t := (.pair (.int .i64) (.pair (.int .i64) (.pair (.int .i64) (.pair (.list .str) (.pair (.list .bool) (.int .i64))))))) y0.2.1 y0.2.2.1).2.1, ((Ty.rd (t := (.pair (.int .i64) (.pair (.int .i64) (.pair (.int .i64) (.pair (.list .str) (.pair (.list .bool) (.int .i64))))))) y0.2.1 y0.2.2.1).2.2.1, ((Ty.rd (t := (.pair (.int .i64) (.pair (.int .i64) (.pair (.int .i64) (.pair (.list .str) (.pair (.list .bool) (.int .i64))))))) y0.2.1 y0.2.2.1).2.2.2.1, ((Ty.rd (t := (.pair (.int .i64) (.pair (.int .i64) (.pair (.int .i64) (.pair (.list .str) (.pair (.list .bool) (.int .i64))))))) y0.2.1 y0.2.2.1).2.2.2.2.1, ((Ty.rd (t := (.pair (.int .i64) (.pair (.int .i64) (.pair (.int .i64) (.pair (.list .str) (.pair (.list .bool) (.int .i64))))))) y0.2.1 y0.2.2.1).2.2.2.2.2, ())))))), ()))).bind fun p1 =>
(if (!p1.1) = true then
some (false, ((), ((), ())))
else
(rec0 (y0.1, (y0.2.1, ((wi64 (y0.2.2.1 + (1 : Int))), ()))))))
else none)
else none)
else
((fun (z1 : Unit) =>
some (true, ((), ((), ())))) ()))) k (x.1, (x.2.1, ((0 : Int), ())))))
theorem t_w_eqHeldS (k : Nat) (x) : evF TTab k [⟨85, 0, (.cons (.agg (.cons (.int .i64) (.cons (.int .i64) (.cons (.int .i64) (.cons (.il true .str) (.cons (.il true .bool) (.cons (.int .i64) .nil))))))) (.cons (.agg (.cons (.int .i64) (.cons (.int .i64) (.cons (.int .i64) (.cons (.il true .str) (.cons (.il true .bool) (.cons (.int .i64) .nil))))))) .nil)), .bool, w_eqHeld k⟩] [(0, ⟨[0, 1, 5], (.cons (.il true (.pair (.int .i64) (.pair (.int .i64) (.pair (.int .i64) (.pair (.list .str) (.pair (.list .bool) (.int .i64))))))) (.cons (.il true (.pair (.int .i64) (.pair (.int .i64) (.pair (.int .i64) (.pair (.list .str) (.pair (.list .bool) (.int .i64))))))) (.cons (.int .i64) .nil)))⟩, ⟨[], .nil⟩)] Try.f84 (.cons (.il true (.pair (.int .i64) (.pair (.int .i64) (.pair (.int .i64) (.pair (.list .str) (.pair (.list .bool) (.int .i64))))))) (.cons (.il true (.pair (.int .i64) (.pair (.int .i64) (.pair (.int .i64) (.pair (.list .str) (.pair (.list .bool) (.int .i64))))))) .nil)) .bool x = w_eqHeldS k x := by kernel_rfl
theorem e_w_eqHeldS (k : Nat) : EntryOk Try.prog ⟨84, 0, (.cons (.il true (.pair (.int .i64) (.pair (.int .i64) (.pair (.int .i64) (.pair (.list .str) (.pair (.list .bool) (.int .i64))))))) (.cons (.il true (.pair (.int .i64) (.pair (.int .i64) (.pair (.int .i64) (.pair (.list .str) (.pair (.list .bool) (.int .i64))))))) .nil)), .bool, w_eqHeldS k⟩ := entry_ok tok (by intro e he; simp only [List.mem_cons, List.not_mem_nil, or_false] at he; rcases he with rfl <;> first | exact e_w_eqHeld k) (by kernel_rfl) (fn := Try.f84) (k := k) (es := [⟨85, 0, (.cons (.agg (.cons (.int .i64) (.cons (.int .i64) (.cons (.int .i64) (.cons (.il true .str) (.cons (.il true .bool) (.cons (.int .i64) .nil))))))) (.cons (.agg (.cons (.int .i64) (.cons (.int .i64) (.cons (.int .i64) (.cons (.il true .str) (.cons (.il true .bool) (.cons (.int .i64) .nil))))))) .nil)), .bool, w_eqHeld k⟩]) (loops := [(0, ⟨[0, 1, 5], (.cons (.il true (.pair (.int .i64) (.pair (.int .i64) (.pair (.int .i64) (.pair (.list .str) (.pair (.list .bool) (.int .i64))))))) (.cons (.il true (.pair (.int .i64) (.pair (.int .i64) (.pair (.int .i64) (.pair (.list .str) (.pair (.list .bool) (.int .i64))))))) (.cons (.int .i64) .nil)))⟩, ⟨[], .nil⟩)]) (by kernel_rfl) (by kernel_rfl) (fun x r h => (t_w_eqHeldS k x).trans h)
def w_eqShelf (k : Nat) (x : ((List (Int × Int × Int × List (ByteArray) × List (Bool) × Int)) × Unit) × ((List (Int × Int × Int × List (ByteArray) × List (Bool) × Int)) × Unit) × Unit) : Option (Bool × Unit × Unit × Unit) :=
((w_eqHeldS k (x.1.1, (x.2.1.1, ()))).bind fun p1 =>
(if (!p1.1) = true then
some (false, ((), ((), ())))
else
some (true, ((), ((), ())))))
theorem t_w_eqShelf (k : Nat) (x) : evF TTab k [⟨84, 0, (.cons (.il true (.pair (.int .i64) (.pair (.int .i64) (.pair (.int .i64) (.pair (.list .str) (.pair (.list .bool) (.int .i64))))))) (.cons (.il true (.pair (.int .i64) (.pair (.int .i64) (.pair (.int .i64) (.pair (.list .str) (.pair (.list .bool) (.int .i64))))))) .nil)), .bool, w_eqHeldS k⟩] [] Try.f76 (.cons (.agg (.cons (.il true (.pair (.int .i64) (.pair (.int .i64) (.pair (.int .i64) (.pair (.list .str) (.pair (.list .bool) (.int .i64))))))) .nil)) (.cons (.agg (.cons (.il true (.pair (.int .i64) (.pair (.int .i64) (.pair (.int .i64) (.pair (.list .str) (.pair (.list .bool) (.int .i64))))))) .nil)) .nil)) .bool x = w_eqShelf k x := by kernel_rfl
theorem e_w_eqShelf (k : Nat) : EntryOk Try.prog ⟨76, 0, (.cons (.agg (.cons (.il true (.pair (.int .i64) (.pair (.int .i64) (.pair (.int .i64) (.pair (.list .str) (.pair (.list .bool) (.int .i64))))))) .nil)) (.cons (.agg (.cons (.il true (.pair (.int .i64) (.pair (.int .i64) (.pair (.int .i64) (.pair (.list .str) (.pair (.list .bool) (.int .i64))))))) .nil)) .nil)), .bool, w_eqShelf k⟩ := entry_ok tok (by intro e he; simp only [List.mem_cons, List.not_mem_nil, or_false] at he; rcases he with rfl <;> first | exact e_w_eqHeldS k) (by kernel_rfl) (fn := Try.f76) (k := k) (es := [⟨84, 0, (.cons (.il true (.pair (.int .i64) (.pair (.int .i64) (.pair (.int .i64) (.pair (.list .str) (.pair (.list .bool) (.int .i64))))))) (.cons (.il true (.pair (.int .i64) (.pair (.int .i64) (.pair (.int .i64) (.pair (.list .str) (.pair (.list .bool) (.int .i64))))))) .nil)), .bool, w_eqHeldS k⟩]) (loops := []) (by kernel_rfl) (by kernel_rfl) (fun x r h => (t_w_eqShelf k x).trans h)
def w_eqUser (k : Nat) (x : (Int × Int × Int × ByteArray × ByteArray × Int × List (Int) × Int × Int × ByteArray × ByteArray × Int × List (Int) × Int × (List (Int × Int × Int × List (ByteArray) × List (Bool) × Int)) × Int × Unit) × (Int × Int × Int × ByteArray × ByteArray × Int × List (Int) × Int × Int × ByteArray × ByteArray × Int × List (Int) × Int × (List (Int × Int × Int × List (ByteArray) × List (Bool) × Int)) × Int × Unit) × Unit) : Option (Bool × Unit × Unit × Unit) :=
(if (!decide (x.1.1 = x.2.1.1)) = true then
some (false, ((), ((), ())))
else
(if (!decide (x.1.2.1 = x.2.1.2.1)) = true then
some (false, ((), ((), ())))
else
((w_eqSlots k ((x.1.2.2.1, (x.1.2.2.2.1, (x.1.2.2.2.2.1, (x.1.2.2.2.2.2.1, (x.1.2.2.2.2.2.2.1, (x.1.2.2.2.2.2.2.2.1, (x.1.2.2.2.2.2.2.2.2.1, (x.1.2.2.2.2.2.2.2.2.2.1, (x.1.2.2.2.2.2.2.2.2.2.2.1, (x.1.2.2.2.2.2.2.2.2.2.2.2.1, (x.1.2.2.2.2.2.2.2.2.2.2.2.2.1, (x.1.2.2.2.2.2.2.2.2.2.2.2.2.2.1, ())))))))))))), ((x.2.1.2.2.1, (x.2.1.2.2.2.1, (x.2.1.2.2.2.2.1, (x.2.1.2.2.2.2.2.1, (x.2.1.2.2.2.2.2.2.1, (x.2.1.2.2.2.2.2.2.2.1, (x.2.1.2.2.2.2.2.2.2.2.1, (x.2.1.2.2.2.2.2.2.2.2.2.1, (x.2.1.2.2.2.2.2.2.2.2.2.2.1, (x.2.1.2.2.2.2.2.2.2.2.2.2.2.1, (x.2.1.2.2.2.2.2.2.2.2.2.2.2.2.1, (x.2.1.2.2.2.2.2.2.2.2.2.2.2.2.2.1, ())))))))))))), ()))).bind fun p1 =>
(if (!p1.1) = true then
some (false, ((), ((), ())))
else
((w_eqShelf k ((x.1.2.2.2.2.2.2.2.2.2.2.2.2.2.2.1, ()), ((x.2.1.2.2.2.2.2.2.2.2.2.2.2.2.2.2.1, ()), ()))).bind fun p2 =>
(if (!p2.1) = true then
some (false, ((), ((), ())))
else
(if (!decide (x.1.2.2.2.2.2.2.2.2.2.2.2.2.2.2.2.1 = x.2.1.2.2.2.2.2.2.2.2.2.2.2.2.2.2.2.1)) = true then
some (false, ((), ((), ())))
else
some (true, ((), ((), ()))))))))))
theorem t_w_eqUser (k : Nat) (x) : evF TTab k [⟨75, 0, (.cons (.agg (.cons (.int .i64) (.cons .str (.cons .str (.cons (.int .i64) (.cons (.il true (.int .i64)) (.cons (.int .i64) (.cons (.int .i64) (.cons .str (.cons .str (.cons (.int .i64) (.cons (.il true (.int .i64)) (.cons (.int .i64) .nil))))))))))))) (.cons (.agg (.cons (.int .i64) (.cons .str (.cons .str (.cons (.int .i64) (.cons (.il true (.int .i64)) (.cons (.int .i64) (.cons (.int .i64) (.cons .str (.cons .str (.cons (.int .i64) (.cons (.il true (.int .i64)) (.cons (.int .i64) .nil))))))))))))) .nil)), .bool, w_eqSlots k⟩, ⟨76, 0, (.cons (.agg (.cons (.il true (.pair (.int .i64) (.pair (.int .i64) (.pair (.int .i64) (.pair (.list .str) (.pair (.list .bool) (.int .i64))))))) .nil)) (.cons (.agg (.cons (.il true (.pair (.int .i64) (.pair (.int .i64) (.pair (.int .i64) (.pair (.list .str) (.pair (.list .bool) (.int .i64))))))) .nil)) .nil)), .bool, w_eqShelf k⟩] [] Try.f54 (.cons (.agg (.cons (.int .i64) (.cons (.int .i64) (.cons (.int .i64) (.cons .str (.cons .str (.cons (.int .i64) (.cons (.il true (.int .i64)) (.cons (.int .i64) (.cons (.int .i64) (.cons .str (.cons .str (.cons (.int .i64) (.cons (.il true (.int .i64)) (.cons (.int .i64) (.cons (.il true (.pair (.int .i64) (.pair (.int .i64) (.pair (.int .i64) (.pair (.list .str) (.pair (.list .bool) (.int .i64))))))) (.cons (.int .i64) .nil))))))))))))))))) (.cons (.agg (.cons (.int .i64) (.cons (.int .i64) (.cons (.int .i64) (.cons .str (.cons .str (.cons (.int .i64) (.cons (.il true (.int .i64)) (.cons (.int .i64) (.cons (.int .i64) (.cons .str (.cons .str (.cons (.int .i64) (.cons (.il true (.int .i64)) (.cons (.int .i64) (.cons (.il true (.pair (.int .i64) (.pair (.int .i64) (.pair (.int .i64) (.pair (.list .str) (.pair (.list .bool) (.int .i64))))))) (.cons (.int .i64) .nil))))))))))))))))) .nil)) .bool x = w_eqUser k x := by kernel_rfl
theorem e_w_eqUser (k : Nat) : EntryOk Try.prog ⟨54, 0, (.cons (.agg (.cons (.int .i64) (.cons (.int .i64) (.cons (.int .i64) (.cons .str (.cons .str (.cons (.int .i64) (.cons (.il true (.int .i64)) (.cons (.int .i64) (.cons (.int .i64) (.cons .str (.cons .str (.cons (.int .i64) (.cons (.il true (.int .i64)) (.cons (.int .i64) (.cons (.il true (.pair (.int .i64) (.pair (.int .i64) (.pair (.int .i64) (.pair (.list .str) (.pair (.list .bool) (.int .i64))))))) (.cons (.int .i64) .nil))))))))))))))))) (.cons (.agg (.cons (.int .i64) (.cons (.int .i64) (.cons (.int .i64) (.cons .str (.cons .str (.cons (.int .i64) (.cons (.il true (.int .i64)) (.cons (.int .i64) (.cons (.int .i64) (.cons .str (.cons .str (.cons (.int .i64) (.cons (.il true (.int .i64)) (.cons (.int .i64) (.cons (.il true (.pair (.int .i64) (.pair (.int .i64) (.pair (.int .i64) (.pair (.list .str) (.pair (.list .bool) (.int .i64))))))) (.cons (.int .i64) .nil))))))))))))))))) .nil)), .bool, w_eqUser k⟩ := entry_ok tok (by intro e he; simp only [List.mem_cons, List.not_mem_nil, or_false] at he; rcases he with rfl | rfl <;> first | exact e_w_eqSlots k | exact e_w_eqShelf k) (by kernel_rfl) (fn := Try.f54) (k := k) (es := [⟨75, 0, (.cons (.agg (.cons (.int .i64) (.cons .str (.cons .str (.cons (.int .i64) (.cons (.il true (.int .i64)) (.cons (.int .i64) (.cons (.int .i64) (.cons .str (.cons .str (.cons (.int .i64) (.cons (.il true (.int .i64)) (.cons (.int .i64) .nil))))))))))))) (.cons (.agg (.cons (.int .i64) (.cons .str (.cons .str (.cons (.int .i64) (.cons (.il true (.int .i64)) (.cons (.int .i64) (.cons (.int .i64) (.cons .str (.cons .str (.cons (.int .i64) (.cons (.il true (.int .i64)) (.cons (.int .i64) .nil))))))))))))) .nil)), .bool, w_eqSlots k⟩, ⟨76, 0, (.cons (.agg (.cons (.il true (.pair (.int .i64) (.pair (.int .i64) (.pair (.int .i64) (.pair (.list .str) (.pair (.list .bool) (.int .i64))))))) .nil)) (.cons (.agg (.cons (.il true (.pair (.int .i64) (.pair (.int .i64) (.pair (.int .i64) (.pair (.list .str) (.pair (.list .bool) (.int .i64))))))) .nil)) .nil)), .bool, w_eqShelf k⟩]) (loops := []) (by kernel_rfl) (by kernel_rfl) (fun x r h => (t_w_eqUser k x).trans h)
def w_eqUserS (k : Nat) (x : (List (Int × Int × ((Int × ByteArray × ByteArray × Int × List (Int) × Int) × Int × ByteArray × ByteArray × Int × List (Int) × Int) × List (Int × Int × Int × List (ByteArray) × List (Bool) × Int) × Int)) × (List (Int × Int × ((Int × ByteArray × ByteArray × Int × List (Int) × Int) × Int × ByteArray × ByteArray × Int × List (Int) × Int) × List (Int × Int × Int × List (ByteArray) × List (Bool) × Int) × Int)) × Unit) : Option (Bool × Unit × Unit × Unit) :=
(if (!decide ((List.length x.1 : Int) = (List.length x.2.1 : Int))) = true then
some (false, ((), ((), ())))
else
(whileK (fun (rec0 : ((List (Int × Int × ((Int × ByteArray × ByteArray × Int × List (Int) × Int) × Int × ByteArray × ByteArray × Int × List (Int) × Int) × List (Int × Int × Int × List (ByteArray) × List (Bool) × Int) × Int)) × (List (Int × Int × ((Int × ByteArray × ByteArray × Int × List (Int) × Int) × Int × ByteArray × ByteArray × Int × List (Int) × Int) × List (Int × Int × Int × List (ByteArray) × List (Bool) × Int) × Int)) × Int × Unit) → Option _) (y0 : (List (Int × Int × ((Int × ByteArray × ByteArray × Int × List (Int) × Int) × Int × ByteArray × ByteArray × Int × List (Int) × Int) × List (Int × Int × Int × List (ByteArray) × List (Bool) × Int) × Int)) × (List (Int × Int × ((Int × ByteArray × ByteArray × Int × List (Int) × Int) × Int × ByteArray × ByteArray × Int × List (Int) × Int) × List (Int × Int × Int × List (ByteArray) × List (Bool) × Int) × Int)) × Int × Unit) =>
(if (decide (y0.2.2.1 < (List.length y0.1 : Int))) = true then
(if 0 ≤ y0.2.2.1 ∧ y0.2.2.1 < (List.length y0.1 : Int) then
(if 0 ≤ y0.2.2.1 ∧ y0.2.2.1 < (List.length y0.2.1 : Int) then
((w_eqUser k (((Ty.rd (t := (.pair (.int .i64) (.pair (.int .i64) (.pair (.pair (.pair (.int .i64) (.pair .str (.pair .str (.pair (.int .i64) (.pair (.list (.int .i64)) (.int .i64)))))) (.pair (.int .i64) (.pair .str (.pair .str (.pair (.int .i64) (.pair (.list (.int .i64)) (.int .i64))))))) (.pair (.list (.pair (.int .i64) (.pair (.int .i64) (.pair (.int .i64) (.pair (.list .str) (.pair (.list .bool) (.int .i64))))))) (.int .i64)))))) y0.1 y0.2.2.1).1, ((Ty.rd (t := (.pair (.int .i64) (.pair (.int .i64) (.pair (.pair (.pair (.int .i64) (.pair .str (.pair .str (.pair (.int .i64) (.pair (.list (.int .i64)) (.int .i64)))))) (.pair (.int .i64) (.pair .str (.pair .str (.pair (.int .i64) (.pair (.list (.int .i64)) (.int .i64))))))) (.pair (.list (.pair (.int .i64) (.pair (.int .i64) (.pair (.int .i64) (.pair (.list .str) (.pair (.list .bool) (.int .i64))))))) (.int .i64)))))) y0.1 y0.2.2.1).2.1, ((Ty.rd (t := (.pair (.int .i64) (.pair (.int .i64) (.pair (.pair (.pair (.int .i64) (.pair .str (.pair .str (.pair (.int .i64) (.pair (.list (.int .i64)) (.int .i64)))))) (.pair (.int .i64) (.pair .str (.pair .str (.pair (.int .i64) (.pair (.list (.int .i64)) (.int .i64))))))) (.pair (.list (.pair (.int .i64) (.pair (.int .i64) (.pair (.int .i64) (.pair (.list .str) (.pair (.list .bool) (.int .i64))))))) (.int .i64)))))) y0.1 y0.2.2.1).2.2.1.1.1, ((Ty.rd (t := (.pair (.int .i64) (.pair (.int .i64) (.pair (.pair (.pair (.int .i64) (.pair .str (.pair .str (.pair (.int .i64) (.pair (.list (.int .i64)) (.int .i64)))))) (.pair (.int .i64) (.pair .str (.pair .str (.pair (.int .i64) (.pair (.list (.int .i64)) (.int .i64))))))) (.pair (.list (.pair (.int .i64) (.pair (.int .i64) (.pair (.int .i64) (.pair (.list .str) (.pair (.list .bool) (.int .i64))))))) (.int .i64)))))) y0.1 y0.2.2.1).2.2.1.1.2.1, ((Ty.rd (t := (.pair (.int .i64) (.pair (.int .i64) (.pair (.pair (.pair (.int .i64) (.pair .str (.pair .str (.pair (.int .i64) (.pair (.list (.int .i64)) (.int .i64)))))) (.pair (.int .i64) (.pair .str (.pair .str (.pair (.int .i64) (.pair (.list (.int .i64)) (.int .i64))))))) (.pair (.list (.pair (.int .i64) (.pair (.int .i64) (.pair (.int .i64) (.pair (.list .str) (.pair (.list .bool) (.int .i64))))))) (.int .i64)))))) y0.1 y0.2.2.1).2.2.1.1.2.2.1, ((Ty.rd (t := (.pair (.int .i64) (.pair (.int .i64) (.pair (.pair (.pair (.int .i64) (.pair .str (.pair .str (.pair (.int .i64) (.pair (.list (.int .i64)) (.int .i64)))))) (.pair (.int .i64) (.pair .str (.pair .str (.pair (.int .i64) (.pair (.list (.int .i64)) (.int .i64))))))) (.pair (.list (.pair (.int .i64) (.pair (.int .i64) (.pair (.int .i64) (.pair (.list .str) (.pair (.list .bool) (.int .i64))))))) (.int .i64)))))) y0.1 y0.2.2.1).2.2.1.1.2.2.2.1, ((Ty.rd (t := (.pair (.int .i64) (.pair (.int .i64) (.pair (.pair (.pair (.int .i64) (.pair .str (.pair .str (.pair (.int .i64) (.pair (.list (.int .i64)) (.int .i64)))))) (.pair (.int .i64) (.pair .str (.pair .str (.pair (.int .i64) (.pair (.list (.int .i64)) (.int .i64))))))) (.pair (.list (.pair (.int .i64) (.pair (.int .i64) (.pair (.int .i64) (.pair (.list .str) (.pair (.list .bool) (.int .i64))))))) (.int .i64)))))) y0.1 y0.2.2.1).2.2.1.1.2.2.2.2.1, ((Ty.rd (t := (.pair (.int .i64) (.pair (.int .i64) (.pair (.pair (.pair (.int .i64) (.pair .str (.pair .str (.pair (.int .i64) (.pair (.list (.int .i64)) (.int .i64)))))) (.pair (.int .i64) (.pair .str (.pair .str (.pair (.int .i64) (.pair (.list (.int .i64)) (.int .i64))))))) (.pair (.list (.pair (.int .i64) (.pair (.int .i64) (.pair (.int .i64) (.pair (.list .str) (.pair (.list .bool) (.int .i64))))))) (.int .i64)))))) y0.1 y0.2.2.1).2.2.1.1.2.2.2.2.2, ((Ty.rd (t := (.pair (.int .i64) (.pair (.int .i64) (.pair (.pair (.pair (.int .i64) (.pair .str (.pair .str (.pair (.int .i64) (.pair (.list (.int .i64)) (.int .i64)))))) (.pair (.int .i64) (.pair .str (.pair .str (.pair (.int .i64) (.pair (.list (.int .i64)) (.int .i64))))))) (.pair (.list (.pair (.int .i64) (.pair (.int .i64) (.pair (.int .i64) (.pair (.list .str) (.pair (.list .bool) (.int .i64))))))) (.int .i64)))))) y0.1 y0.2.2.1).2.2.1.2.1, ((Ty.rd (t := (.pair (.int .i64) (.pair (.int .i64) (.pair (.pair (.pair (.int .i64) (.pair .str (.pair .str (.pair (.int .i64) (.pair (.list (.int .i64)) (.int .i64)))))) (.pair (.int .i64) (.pair .str (.pair .str (.pair (.int .i64) (.pair (.list (.int .i64)) (.int .i64))))))) (.pair (.list (.pair (.int .i64) (.pair (.int .i64) (.pair (.int .i64) (.pair (.list .str) (.pair (.list .bool) (.int .i64))))))) (.int .i64)))))) y0.1 y0.2.2.1).2.2.1.2.2.1, ((Ty.rd (t := (.pair (.int .i64) (.pair (.int .i64) (.pair (.pair (.pair (.int .i64) (.pair .str (.pair .str (.pair (.int .i64) (.pair (.list (.int .i64)) (.int .i64)))))) (.pair (.int .i64) (.pair .str (.pair .str (.pair (.int .i64) (.pair (.list (.int .i64)) (.int .i64))))))) (.pair (.list (.pair (.int .i64) (.pair (.int .i64) (.pair (.int .i64) (.pair (.list .str) (.pair (.list .bool) (.int .i64))))))) (.int .i64)))))) y0.1 y0.2.2.1).2.2.1.2.2.2.1, ((Ty.rd (t := (.pair (.int .i64) (.pair (.int .i64) (.pair (.pair (.pair (.int .i64) (.pair .str (.pair .str (.pair (.int .i64) (.pair (.list (.int .i64)) (.int .i64)))))) (.pair (.int .i64) (.pair .str (.pair .str (.pair (.int .i64) (.pair (.list (.int .i64)) (.int .i64))))))) (.pair (.list (.pair (.int .i64) (.pair (.int .i64) (.pair (.int .i64) (.pair (.list .str) (.pair (.list .bool) (.int .i64))))))) (.int .i64)))))) y0.1 y0.2.2.1).2.2.1.2.2.2.2.1, ((Ty.rd (t := (.pair (.int .i64) (.pair (.int .i64) (.pair (.pair (.pair (.int .i64) (.pair .str (.pair .str (.pair (.int .i64) (.pair (.list (.int .i64)) (.int .i64)))))) (.pair (.int .i64) (.pair .str (.pair .str (.pair (.int .i64) (.pair (.list (.int .i64)) (.int .i64))))))) (.pair (.list (.pair (.int .i64) (.pair (.int .i64) (.pair (.int .i64) (.pair (.list .str) (.pair (.list .bool) (.int .i64))))))) (.int .i64)))))) y0.1 y0.2.2.1).2.2.1.2.2.2.2.2.1, ((Ty.rd (t := (.pair (.int .i64) (.pair (.int .i64) (.pair (.pair (.pair (.int .i64) (.pair .str (.pair .str (.pair (.int .i64) (.pair (.list (.int .i64)) (.int .i64)))))) (.pair (.int .i64) (.pair .str (.pair .str (.pair (.int .i64) (.pair (.list (.int .i64)) (.int .i64))))))) (.pair (.list (.pair (.int .i64) (.pair (.int .i64) (.pair (.int .i64) (.pair (.list .str) (.pair (.list .bool) (.int .i64))))))) (.int .i64)))))) y0.1 y0.2.2.1).2.2.1.2.2.2.2.2.2, ((Ty.rd (t := (.pair (.int .i64) (.pair (.int .i64) (.pair (.pair (.pair (.int .i64) (.pair .str (.pair .str (.pair (.int .i64) (.pair (.list (.int .i64)) (.int .i64)))))) (.pair (.int .i64) (.pair .str (.pair .str (.pair (.int .i64) (.pair (.list (.int .i64)) (.int .i64))))))) (.pair (.list (.pair (.int .i64) (.pair (.int .i64) (.pair (.int .i64) (.pair (.list .str) (.pair (.list .bool) (.int .i64))))))) (.int .i64)))))) y0.1 y0.2.2.1).2.2.2.1, ((Ty.rd (t := (.pair (.int .i64) (.pair (.int .i64) (.pair (.pair (.pair (.int .i64) (.pair .str (.pair .str (.pair (.int .i64) (.pair (.list (.int .i64)) (.int .i64)))))) (.pair (.int .i64) (.pair .str (.pair .str (.pair (.int .i64) (.pair (.list (.int .i64)) (.int .i64))))))) (.pair (.list (.pair (.int .i64) (.pair (.int .i64) (.pair (.int .i64) (.pair (.list .str) (.pair (.list .bool) (.int .i64))))))) (.int .i64)))))) y0.1 y0.2.2.1).2.2.2.2, ())))))))))))))))), (((Ty.rd (t := (.pair (.int .i64) (.pair (.int .i64) (.pair (.pair (.pair (.int .i64) (.pair .str (.pair .str (.pair (.int .i64) (.pair (.list (.int .i64)) (.int .i64)))))) (.pair (.int .i64) (.pair .str (.pair .str (.pair (.int .i64) (.pair (.list (.int .i64)) (.int .i64))))))) (.pair (.list (.pair (.int .i64) (.pair (.int .i64) (.pair (.int .i64) (.pair (.list .str) (.pair (.list .bool) (.int .i64))))))) (.int .i64)))))) y0.2.1 y0.2.2.1).1, ((Ty.rd (t := (.pair (.int .i64) (.pair (.int .i64) (.pair (.pair (.pair (.int .i64) (.pair .str (.pair .str (.pair (.int .i64) (.pair (.list (.int .i64)) (.int .i64)))))) (.pair (.int .i64) (.pair .str (.pair .str (.pair (.int .i64) (.pair (.list (.int .i64)) (.int .i64))))))) (.pair (.list (.pair (.int .i64) (.pair (.int .i64) (.pair (.int .i64) (.pair (.list .str) (.pair (.list .bool) (.int .i64))))))) (.int .i64)))))) y0.2.1 y0.2.2.1).2.1, ((Ty.rd (t := (.pair (.int .i64) (.pair (.int .i64) (.pair (.pair (.pair (.int .i64) (.pair .str (.pair .str (.pair (.int .i64) (.pair (.list (.int .i64)) (.int .i64)))))) (.pair (.int .i64) (.pair .str (.pair .str (.pair (.int .i64) (.pair (.list (.int .i64)) (.int .i64))))))) (.pair (.list (.pair (.int .i64) (.pair (.int .i64) (.pair (.int .i64) (.pair (.list .str) (.pair (.list .bool) (.int .i64))))))) (.int .i64)))))) y0.2.1 y0.2.2.1).2.2.1.1.1, ((Ty.rd (t := (.pair (.int .i64) (.pair (.int .i64) (.pair (.pair (.pair (.int .i64) (.pair .str (.pair .str (.pair (.int .i64) (.pair (.list (.int .i64)) (.int .i64)))))) (.pair (.int .i64) (.pair .str (.pair .str (.pair (.int .i64) (.pair (.list (.int .i64)) (.int .i64))))))) (.pair (.list (.pair (.int .i64) (.pair (.int .i64) (.pair (.int .i64) (.pair (.list .str) (.pair (.list .bool) (.int .i64))))))) (.int .i64)))))) y0.2.1 y0.2.2.1).2.2.1.1.2.1, ((Ty.rd (t := (.pair (.int .i64) (.pair (.int .i64) (.pair (.pair (.pair (.int .i64) (.pair .str (.pair .str (.pair (.int .i64) (.pair (.list (.int .i64)) (.int .i64)))))) (.pair (.int .i64) (.pair .str (.pair .str (.pair (.int .i64) (.pair (.list (.int .i64)) (.int .i64))))))) (.pair (.list (.pair (.int .i64) (.pair (.int .i64) (.pair (.int .i64) (.pair (.list .str) (.pair (.list .bool) (.int .i64))))))) (.int .i64)))))) y0.2.1 y0.2.2.1).2.2.1.1.2.2.1, ((Ty.rd (t := (.pair (.int .i64) (.pair (.int .i64) (.pair (.pair (.pair (.int .i64) (.pair .str (.pair .str (.pair (.int .i64) (.pair (.list (.int .i64)) (.int .i64)))))) (.pair (.int .i64) (.pair .str (.pair .str (.pair (.int .i64) (.pair (.list (.int .i64)) (.int .i64))))))) (.pair (.list (.pair (.int .i64) (.pair (.int .i64) (.pair (.int .i64) (.pair (.list .str) (.pair (.list .bool) (.int .i64))))))) (.int .i64)))))) y0.2.1 y0.2.2.1).2.2.1.1.2.2.2.1, ((Ty.rd (t := (.pair (.int .i64) (.pair (.int .i64) (.pair (.pair (.pair (.int .i64) (.pair .str (.pair .str (.pair (.int .i64) (.pair (.list (.int .i64)) (.int .i64)))))) (.pair (.int .i64) (.pair .str (.pair .str (.pair (.int .i64) (.pair (.list (.int .i64)) (.int .i64))))))) (.pair (.list (.pair (.int .i64) (.pair (.int .i64) (.pair (.int .i64) (.pair (.list .str) (.pair (.list .bool) (.int .i64))))))) (.int .i64)))))) y0.2.1 y0.2.2.1).2.2.1.1.2.2.2.2.1, ((Ty.rd (t := (.pair (.int .i64) (.pair (.int .i64) (.pair (.pair (.pair (.int .i64) (.pair .str (.pair .str (.pair (.int .i64) (.pair (.list (.int .i64)) (.int .i64)))))) (.pair (.int .i64) (.pair .str (.pair .str (.pair (.int .i64) (.pair (.list (.int .i64)) (.int .i64))))))) (.pair (.list (.pair (.int .i64) (.pair (.int .i64) (.pair (.int .i64) (.pair (.list .str) (.pair (.list .bool) (.int .i64))))))) (.int .i64)))))) y0.2.1 y0.2.2.1).2.2.1.1.2.2.2.2.2, ((Ty.rd (t := (.pair (.int .i64) (.pair (.int .i64) (.pair (.pair (.pair (.int .i64) (.pair .str (.pair .str (.pair (.int .i64) (.pair (.list (.int .i64)) (.int .i64)))))) (.pair (.int .i64) (.pair .str (.pair .str (.pair (.int .i64) (.pair (.list (.int .i64)) (.int .i64))))))) (.pair (.list (.pair (.int .i64) (.pair (.int .i64) (.pair (.int .i64) (.pair (.list .str) (.pair (.list .bool) (.int .i64))))))) (.int .i64)))))) y0.2.1 y0.2.2.1).2.2.1.2.1, ((Ty.rd (t := (.pair (.int .i64) (.pair (.int .i64) (.pair (.pair (.pair (.int .i64) (.pair .str (.pair .str (.pair (.int .i64) (.pair (.list (.int .i64)) (.int .i64)))))) (.pair (.int .i64) (.pair .str (.pair .str (.pair (.int .i64) (.pair (.list (.int .i64)) (.int .i64))))))) (.pair (.list (.pair (.int .i64) (.pair (.int .i64) (.pair (.int .i64) (.pair (.list .str) (.pair (.list .bool) (.int .i64))))))) (.int .i64)))))) y0.2.1 y0.2.2.1).2.2.1.2.2.1, ((Ty.rd (t := (.pair (.int .i64) (.pair (.int .i64) (.pair (.pair (.pair (.int .i64) (.pair .str (.pair .str (.pair (.int .i64) (.pair (.list (.int .i64)) (.int .i64)))))) (.pair (.int .i64) (.pair .str (.pair .str (.pair (.int .i64) (.pair (.list (.int .i64)) (.int .i64))))))) (.pair (.list (.pair (.int .i64) (.pair (.int .i64) (.pair (.int .i64) (.pair (.list .str) (.pair (.list .bool) (.int .i64))))))) (.int .i64)))))) y0.2.1 y0.2.2.1).2.2.1.2.2.2.1, ((Ty.rd (t := (.pair (.int .i64) (.pair (.int .i64) (.pair (.pair (.pair (.int .i64) (.pair .str (.pair .str (.pair (.int .i64) (.pair (.list (.int .i64)) (.int .i64)))))) (.pair (.int .i64) (.pair .str (.pair .str (.pair (.int .i64) (.pair (.list (.int .i64)) (.int .i64))))))) (.pair (.list (.pair (.int .i64) (.pair (.int .i64) (.pair (.int .i64) (.pair (.list .str) (.pair (.list .bool) (.int .i64))))))) (.int .i64)))))) y0.2.1 y0.2.2.1).2.2.1.2.2.2.2.1, ((Ty.rd (t := (.pair (.int .i64) (.pair (.int .i64) (.pair (.pair (.pair (.int .i64) (.pair .str (.pair .str (.pair (.int .i64) (.pair (.list (.int .i64)) (.int .i64)))))) (.pair (.int .i64) (.pair .str (.pair .str (.pair (.int .i64) (.pair (.list (.int .i64)) (.int .i64))))))) (.pair (.list (.pair (.int .i64) (.pair (.int .i64) (.pair (.int .i64) (.pair (.list .str) (.pair (.list .bool) (.int .i64))))))) (.int .i64)))))) y0.2.1 y0.2.2.1).2.2.1.2.2.2.2.2.1, ((Ty.rd (t := (.pair (.int .i64) (.pair (.int .i64) (.pair (.pair (.pair (.int .i64) (.pair .str (.pair .str (.pair (.int .i64) (.pair (.list (.int .i64)) (.int .i64)))))) (.pair (.int .i64) (.pair .str (.pair .str (.pair (.int .i64) (.pair (.list (.int .i64)) (.int .i64))))))) (.pair (.list (.pair (.int .i64) (.pair (.int .i64) (.pair (.int .i64) (.pair (.list .str) (.pair (.list .bool) (.int .i64))))))) (.int .i64)))))) y0.2.1 y0.2.2.1).2.2.1.2.2.2.2.2.2, ((Ty.rd (t := (.pair (.int .i64) (.pair (.int .i64) (.pair (.pair (.pair (.int .i64) (.pair .str (.pair .str (.pair (.int .i64) (.pair (.list (.int .i64)) (.int .i64)))))) (.pair (.int .i64) (.pair .str (.pair .str (.pair (.int .i64) (.pair (.list (.int .i64)) (.int .i64))))))) (.pair (.list (.pair (.int .i64) (.pair (.int .i64) (.pair (.int .i64) (.pair (.list .str) (.pair (.list .bool) (.int .i64))))))) (.int .i64)))))) y0.2.1 y0.2.2.1).2.2.2.1, ((Ty.rd (t := (.pair (.int .i64) (.pair (.int .i64) (.pair (.pair (.pair (.int .i64) (.pair .str (.pair .str (.pair (.int .i64) (.pair (.list (.int .i64)) (.int .i64)))))) (.pair (.int .i64) (.pair .str (.pair .str (.pair (.int .i64) (.pair (.list (.int .i64)) (.int .i64))))))) (.pair (.list (.pair (.int .i64) (.pair (.int .i64) (.pair (.int .i64) (.pair (.list .str) (.pair (.list .bool) (.int .i64))))))) (.int .i64)))))) y0.2.1 y0.2.2.1).2.2.2.2, ())))))))))))))))), ()))).bind fun p1 =>
(if (!p1.1) = true then
some (false, ((), ((), ())))
else
(rec0 (y0.1, (y0.2.1, ((wi64 (y0.2.2.1 + (1 : Int))), ()))))))
else none)
else none)
else
((fun (z1 : Unit) =>
some (true, ((), ((), ())))) ()))) k (x.1, (x.2.1, ((0 : Int), ())))))
theorem t_w_eqUserS (k : Nat) (x) : evF TTab k [⟨54, 0, (.cons (.agg (.cons (.int .i64) (.cons (.int .i64) (.cons (.int .i64) (.cons .str (.cons .str (.cons (.int .i64) (.cons (.il true (.int .i64)) (.cons (.int .i64) (.cons (.int .i64) (.cons .str (.cons .str (.cons (.int .i64) (.cons (.il true (.int .i64)) (.cons (.int .i64) (.cons (.il true (.pair (.int .i64) (.pair (.int .i64) (.pair (.int .i64) (.pair (.list .str) (.pair (.list .bool) (.int .i64))))))) (.cons (.int .i64) .nil))))))))))))))))) (.cons (.agg (.cons (.int .i64) (.cons (.int .i64) (.cons (.int .i64) (.cons .str (.cons .str (.cons (.int .i64) (.cons (.il true (.int .i64)) (.cons (.int .i64) (.cons (.int .i64) (.cons .str (.cons .str (.cons (.int .i64) (.cons (.il true (.int .i64)) (.cons (.int .i64) (.cons (.il true (.pair (.int .i64) (.pair (.int .i64) (.pair (.int .i64) (.pair (.list .str) (.pair (.list .bool) (.int .i64))))))) (.cons (.int .i64) .nil))))))))))))))))) .nil)), .bool, w_eqUser k⟩] [(0, ⟨[0, 1, 5], (.cons (.il true (.pair (.int .i64) (.pair (.int .i64) (.pair (.pair (.pair (.int .i64) (.pair .str (.pair .str (.pair (.int .i64) (.pair (.list (.int .i64)) (.int .i64)))))) (.pair (.int .i64) (.pair .str (.pair .str (.pair (.int .i64) (.pair (.list (.int .i64)) (.int .i64))))))) (.pair (.list (.pair (.int .i64) (.pair (.int .i64) (.pair (.int .i64) (.pair (.list .str) (.pair (.list .bool) (.int .i64))))))) (.int .i64)))))) (.cons (.il true (.pair (.int .i64) (.pair (.int .i64) (.pair (.pair (.pair (.int .i64) (.pair .str (.pair .str (.pair (.int .i64) (.pair (.list (.int .i64)) (.int .i64)))))) (.pair (.int .i64) (.pair .str (.pair .str (.pair (.int .i64) (.pair (.list (.int .i64)) (.int .i64))))))) (.pair (.list (.pair (.int .i64) (.pair (.int .i64) (.pair (.int .i64) (.pair (.list .str) (.pair (.list .bool) (.int .i64))))))) (.int .i64)))))) (.cons (.int .i64) .nil)))⟩, ⟨[], .nil⟩)] Try.f20 (.cons (.il true (.pair (.int .i64) (.pair (.int .i64) (.pair (.pair (.pair (.int .i64) (.pair .str (.pair .str (.pair (.int .i64) (.pair (.list (.int .i64)) (.int .i64)))))) (.pair (.int .i64) (.pair .str (.pair .str (.pair (.int .i64) (.pair (.list (.int .i64)) (.int .i64))))))) (.pair (.list (.pair (.int .i64) (.pair (.int .i64) (.pair (.int .i64) (.pair (.list .str) (.pair (.list .bool) (.int .i64))))))) (.int .i64)))))) (.cons (.il true (.pair (.int .i64) (.pair (.int .i64) (.pair (.pair (.pair (.int .i64) (.pair .str (.pair .str (.pair (.int .i64) (.pair (.list (.int .i64)) (.int .i64)))))) (.pair (.int .i64) (.pair .str (.pair .str (.pair (.int .i64) (.pair (.list (.int .i64)) (.int .i64))))))) (.pair (.list (.pair (.int .i64) (.pair (.int .i64) (.pair (.int .i64) (.pair (.list .str) (.pair (.list .bool) (.int .i64))))))) (.int .i64)))))) .nil)) .bool x = w_eqUserS k x := by kernel_rfl
theorem e_w_eqUserS (k : Nat) : EntryOk Try.prog ⟨20, 0, (.cons (.il true (.pair (.int .i64) (.pair (.int .i64) (.pair (.pair (.pair (.int .i64) (.pair .str (.pair .str (.pair (.int .i64) (.pair (.list (.int .i64)) (.int .i64)))))) (.pair (.int .i64) (.pair .str (.pair .str (.pair (.int .i64) (.pair (.list (.int .i64)) (.int .i64))))))) (.pair (.list (.pair (.int .i64) (.pair (.int .i64) (.pair (.int .i64) (.pair (.list .str) (.pair (.list .bool) (.int .i64))))))) (.int .i64)))))) (.cons (.il true (.pair (.int .i64) (.pair (.int .i64) (.pair (.pair (.pair (.int .i64) (.pair .str (.pair .str (.pair (.int .i64) (.pair (.list (.int .i64)) (.int .i64)))))) (.pair (.int .i64) (.pair .str (.pair .str (.pair (.int .i64) (.pair (.list (.int .i64)) (.int .i64))))))) (.pair (.list (.pair (.int .i64) (.pair (.int .i64) (.pair (.int .i64) (.pair (.list .str) (.pair (.list .bool) (.int .i64))))))) (.int .i64)))))) .nil)), .bool, w_eqUserS k⟩ := entry_ok tok (by intro e he; simp only [List.mem_cons, List.not_mem_nil, or_false] at he; rcases he with rfl <;> first | exact e_w_eqUser k) (by kernel_rfl) (fn := Try.f20) (k := k) (es := [⟨54, 0, (.cons (.agg (.cons (.int .i64) (.cons (.int .i64) (.cons (.int .i64) (.cons .str (.cons .str (.cons (.int .i64) (.cons (.il true (.int .i64)) (.cons (.int .i64) (.cons (.int .i64) (.cons .str (.cons .str (.cons (.int .i64) (.cons (.il true (.int .i64)) (.cons (.int .i64) (.cons (.il true (.pair (.int .i64) (.pair (.int .i64) (.pair (.int .i64) (.pair (.list .str) (.pair (.list .bool) (.int .i64))))))) (.cons (.int .i64) .nil))))))))))))))))) (.cons (.agg (.cons (.int .i64) (.cons (.int .i64) (.cons (.int .i64) (.cons .str (.cons .str (.cons (.int .i64) (.cons (.il true (.int .i64)) (.cons (.int .i64) (.cons (.int .i64) (.cons .str (.cons .str (.cons (.int .i64) (.cons (.il true (.int .i64)) (.cons (.int .i64) (.cons (.il true (.pair (.int .i64) (.pair (.int .i64) (.pair (.int .i64) (.pair (.list .str) (.pair (.list .bool) (.int .i64))))))) (.cons (.int .i64) .nil))))))))))))))))) .nil)), .bool, w_eqUser k⟩]) (loops := [(0, ⟨[0, 1, 5], (.cons (.il true (.pair (.int .i64) (.pair (.int .i64) (.pair (.pair (.pair (.int .i64) (.pair .str (.pair .str (.pair (.int .i64) (.pair (.list (.int .i64)) (.int .i64)))))) (.pair (.int .i64) (.pair .str (.pair .str (.pair (.int .i64) (.pair (.list (.int .i64)) (.int .i64))))))) (.pair (.list (.pair (.int .i64) (.pair (.int .i64) (.pair (.int .i64) (.pair (.list .str) (.pair (.list .bool) (.int .i64))))))) (.int .i64)))))) (.cons (.il true (.pair (.int .i64) (.pair (.int .i64) (.pair (.pair (.pair (.int .i64) (.pair .str (.pair .str (.pair (.int .i64) (.pair (.list (.int .i64)) (.int .i64)))))) (.pair (.int .i64) (.pair .str (.pair .str (.pair (.int .i64) (.pair (.list (.int .i64)) (.int .i64))))))) (.pair (.list (.pair (.int .i64) (.pair (.int .i64) (.pair (.int .i64) (.pair (.list .str) (.pair (.list .bool) (.int .i64))))))) (.int .i64)))))) (.cons (.int .i64) .nil)))⟩, ⟨[], .nil⟩)]) (by kernel_rfl) (by kernel_rfl) (fun x r h => (t_w_eqUserS k x).trans h)
def w_eqHub (k : Nat) (x : (Int × Int × (List (Int × Int × Int)) × (List (Int × Int)) × (List ((Int × Int) × Int)) × (List (Int × Int × ((Int × ByteArray × ByteArray × Int × List (Int) × Int) × Int × ByteArray × ByteArray × Int × List (Int) × Int) × List (Int × Int × Int × List (ByteArray) × List (Bool) × Int) × Int)) × Unit) × (Int × Int × (List (Int × Int × Int)) × (List (Int × Int)) × (List ((Int × Int) × Int)) × (List (Int × Int × ((Int × ByteArray × ByteArray × Int × List (Int) × Int) × Int × ByteArray × ByteArray × Int × List (Int) × Int) × List (Int × Int × Int × List (ByteArray) × List (Bool) × Int) × Int)) × Unit) × Unit) : Option (Bool × Unit × Unit × Unit) :=
((w_eqPool k ((x.1.1, (x.1.2.1, (x.1.2.2.1, (x.1.2.2.2.1, ())))), ((x.2.1.1, (x.2.1.2.1, (x.2.1.2.2.1, (x.2.1.2.2.2.1, ())))), ()))).bind fun p1 =>
(if (!p1.1) = true then
some (false, ((), ((), ())))
else
((w_eqRouteS k (x.1.2.2.2.2.1, (x.2.1.2.2.2.2.1, ()))).bind fun p2 =>
(if (!p2.1) = true then
some (false, ((), ((), ())))
else
((w_eqUserS k (x.1.2.2.2.2.2.1, (x.2.1.2.2.2.2.2.1, ()))).bind fun p3 =>
(if (!p3.1) = true then
some (false, ((), ((), ())))
else
some (true, ((), ((), ())))))))))
theorem t_w_eqHub (k : Nat) (x) : evF TTab k [⟨18, 0, (.cons (.agg (.cons (.int .i64) (.cons (.int .i64) (.cons (.il true (.pair (.int .i64) (.pair (.int .i64) (.int .i64)))) (.cons (.il true (.pair (.int .i64) (.int .i64))) .nil))))) (.cons (.agg (.cons (.int .i64) (.cons (.int .i64) (.cons (.il true (.pair (.int .i64) (.pair (.int .i64) (.int .i64)))) (.cons (.il true (.pair (.int .i64) (.int .i64))) .nil))))) .nil)), .bool, w_eqPool k⟩, ⟨19, 0, (.cons (.il true (.pair (.pair (.int .i64) (.int .i64)) (.int .i64))) (.cons (.il true (.pair (.pair (.int .i64) (.int .i64)) (.int .i64))) .nil)), .bool, w_eqRouteS k⟩, ⟨20, 0, (.cons (.il true (.pair (.int .i64) (.pair (.int .i64) (.pair (.pair (.pair (.int .i64) (.pair .str (.pair .str (.pair (.int .i64) (.pair (.list (.int .i64)) (.int .i64)))))) (.pair (.int .i64) (.pair .str (.pair .str (.pair (.int .i64) (.pair (.list (.int .i64)) (.int .i64))))))) (.pair (.list (.pair (.int .i64) (.pair (.int .i64) (.pair (.int .i64) (.pair (.list .str) (.pair (.list .bool) (.int .i64))))))) (.int .i64)))))) (.cons (.il true (.pair (.int .i64) (.pair (.int .i64) (.pair (.pair (.pair (.int .i64) (.pair .str (.pair .str (.pair (.int .i64) (.pair (.list (.int .i64)) (.int .i64)))))) (.pair (.int .i64) (.pair .str (.pair .str (.pair (.int .i64) (.pair (.list (.int .i64)) (.int .i64))))))) (.pair (.list (.pair (.int .i64) (.pair (.int .i64) (.pair (.int .i64) (.pair (.list .str) (.pair (.list .bool) (.int .i64))))))) (.int .i64)))))) .nil)), .bool, w_eqUserS k⟩] [] Try.f8 (.cons (.agg (.cons (.int .i64) (.cons (.int .i64) (.cons (.il true (.pair (.int .i64) (.pair (.int .i64) (.int .i64)))) (.cons (.il true (.pair (.int .i64) (.int .i64))) (.cons (.il true (.pair (.pair (.int .i64) (.int .i64)) (.int .i64))) (.cons (.il true (.pair (.int .i64) (.pair (.int .i64) (.pair (.pair (.pair (.int .i64) (.pair .str (.pair .str (.pair (.int .i64) (.pair (.list (.int .i64)) (.int .i64)))))) (.pair (.int .i64) (.pair .str (.pair .str (.pair (.int .i64) (.pair (.list (.int .i64)) (.int .i64))))))) (.pair (.list (.pair (.int .i64) (.pair (.int .i64) (.pair (.int .i64) (.pair (.list .str) (.pair (.list .bool) (.int .i64))))))) (.int .i64)))))) .nil))))))) (.cons (.agg (.cons (.int .i64) (.cons (.int .i64) (.cons (.il true (.pair (.int .i64) (.pair (.int .i64) (.int .i64)))) (.cons (.il true (.pair (.int .i64) (.int .i64))) (.cons (.il true (.pair (.pair (.int .i64) (.int .i64)) (.int .i64))) (.cons (.il true (.pair (.int .i64) (.pair (.int .i64) (.pair (.pair (.pair (.int .i64) (.pair .str (.pair .str (.pair (.int .i64) (.pair (.list (.int .i64)) (.int .i64)))))) (.pair (.int .i64) (.pair .str (.pair .str (.pair (.int .i64) (.pair (.list (.int .i64)) (.int .i64))))))) (.pair (.list (.pair (.int .i64) (.pair (.int .i64) (.pair (.int .i64) (.pair (.list .str) (.pair (.list .bool) (.int .i64))))))) (.int .i64)))))) .nil))))))) .nil)) .bool x = w_eqHub k x := by kernel_rfl
theorem e_w_eqHub (k : Nat) : EntryOk Try.prog ⟨8, 0, (.cons (.agg (.cons (.int .i64) (.cons (.int .i64) (.cons (.il true (.pair (.int .i64) (.pair (.int .i64) (.int .i64)))) (.cons (.il true (.pair (.int .i64) (.int .i64))) (.cons (.il true (.pair (.pair (.int .i64) (.int .i64)) (.int .i64))) (.cons (.il true (.pair (.int .i64) (.pair (.int .i64) (.pair (.pair (.pair (.int .i64) (.pair .str (.pair .str (.pair (.int .i64) (.pair (.list (.int .i64)) (.int .i64)))))) (.pair (.int .i64) (.pair .str (.pair .str (.pair (.int .i64) (.pair (.list (.int .i64)) (.int .i64))))))) (.pair (.list (.pair (.int .i64) (.pair (.int .i64) (.pair (.int .i64) (.pair (.list .str) (.pair (.list .bool) (.int .i64))))))) (.int .i64)))))) .nil))))))) (.cons (.agg (.cons (.int .i64) (.cons (.int .i64) (.cons (.il true (.pair (.int .i64) (.pair (.int .i64) (.int .i64)))) (.cons (.il true (.pair (.int .i64) (.int .i64))) (.cons (.il true (.pair (.pair (.int .i64) (.int .i64)) (.int .i64))) (.cons (.il true (.pair (.int .i64) (.pair (.int .i64) (.pair (.pair (.pair (.int .i64) (.pair .str (.pair .str (.pair (.int .i64) (.pair (.list (.int .i64)) (.int .i64)))))) (.pair (.int .i64) (.pair .str (.pair .str (.pair (.int .i64) (.pair (.list (.int .i64)) (.int .i64))))))) (.pair (.list (.pair (.int .i64) (.pair (.int .i64) (.pair (.int .i64) (.pair (.list .str) (.pair (.list .bool) (.int .i64))))))) (.int .i64)))))) .nil))))))) .nil)), .bool, w_eqHub k⟩ := entry_ok tok (by intro e he; simp only [List.mem_cons, List.not_mem_nil, or_false] at he; rcases he with rfl | rfl | rfl <;> first | exact e_w_eqPool k | exact e_w_eqRouteS k | exact e_w_eqUserS k) (by kernel_rfl) (fn := Try.f8) (k := k) (es := [⟨18, 0, (.cons (.agg (.cons (.int .i64) (.cons (.int .i64) (.cons (.il true (.pair (.int .i64) (.pair (.int .i64) (.int .i64)))) (.cons (.il true (.pair (.int .i64) (.int .i64))) .nil))))) (.cons (.agg (.cons (.int .i64) (.cons (.int .i64) (.cons (.il true (.pair (.int .i64) (.pair (.int .i64) (.int .i64)))) (.cons (.il true (.pair (.int .i64) (.int .i64))) .nil))))) .nil)), .bool, w_eqPool k⟩, ⟨19, 0, (.cons (.il true (.pair (.pair (.int .i64) (.int .i64)) (.int .i64))) (.cons (.il true (.pair (.pair (.int .i64) (.int .i64)) (.int .i64))) .nil)), .bool, w_eqRouteS k⟩, ⟨20, 0, (.cons (.il true (.pair (.int .i64) (.pair (.int .i64) (.pair (.pair (.pair (.int .i64) (.pair .str (.pair .str (.pair (.int .i64) (.pair (.list (.int .i64)) (.int .i64)))))) (.pair (.int .i64) (.pair .str (.pair .str (.pair (.int .i64) (.pair (.list (.int .i64)) (.int .i64))))))) (.pair (.list (.pair (.int .i64) (.pair (.int .i64) (.pair (.int .i64) (.pair (.list .str) (.pair (.list .bool) (.int .i64))))))) (.int .i64)))))) (.cons (.il true (.pair (.int .i64) (.pair (.int .i64) (.pair (.pair (.pair (.int .i64) (.pair .str (.pair .str (.pair (.int .i64) (.pair (.list (.int .i64)) (.int .i64)))))) (.pair (.int .i64) (.pair .str (.pair .str (.pair (.int .i64) (.pair (.list (.int .i64)) (.int .i64))))))) (.pair (.list (.pair (.int .i64) (.pair (.int .i64) (.pair (.int .i64) (.pair (.list .str) (.pair (.list .bool) (.int .i64))))))) (.int .i64)))))) .nil)), .bool, w_eqUserS k⟩]) (loops := []) (by kernel_rfl) (by kernel_rfl) (fun x r h => (t_w_eqHub k x).trans h)
def w_markLeaseS (k : Nat) (x : Unit × Int × Unit) : Option (Int × Unit × Unit × Unit) :=
(whileK (fun (rec0 : (Unit × Int × Int × Unit) → Option _) (y0 : Unit × Int × Int × Unit) =>
(if (decide (y0.2.2.1 < (0 : Int))) = true then
none
else
((fun (z1 : Int × Unit) =>
some (z1.1, ((), ((), ())))) (y0.2.1, ())))) k ((), (x.2.1, ((0 : Int), ()))))
theorem t_w_markLeaseS (k : Nat) (x) : evF TTab k [] [(0, ⟨[0, 1, 5], (.cons .nils (.cons (.int .i64) (.cons (.int .i64) .nil)))⟩, ⟨[1], (.cons (.int .i64) .nil)⟩)] Try.f55 (.cons .nils (.cons (.int .i64) .nil)) (.int .i64) x = w_markLeaseS k x := by kernel_rfl
theorem e_w_markLeaseS (k : Nat) : EntryOk Try.prog ⟨55, 0, (.cons .nils (.cons (.int .i64) .nil)), (.int .i64), w_markLeaseS k⟩ := entry_ok tok (by simp) (by kernel_rfl) (fn := Try.f55) (k := k) (es := []) (loops := [(0, ⟨[0, 1, 5], (.cons .nils (.cons (.int .i64) (.cons (.int .i64) .nil)))⟩, ⟨[1], (.cons (.int .i64) .nil)⟩)]) (by kernel_rfl) (by kernel_rfl) (fun x r h => (t_w_markLeaseS k x).trans h)
def w_markFixedS (k : Nat) (x : Unit × Int × Unit) : Option (Int × Unit × Unit × Unit) :=
(whileK (fun (rec0 : (Unit × Int × Int × Unit) → Option _) (y0 : Unit × Int × Int × Unit) =>
(if (decide (y0.2.2.1 < (0 : Int))) = true then
none
else
((fun (z1 : Int × Unit) =>
some (z1.1, ((), ((), ())))) (y0.2.1, ())))) k ((), (x.2.1, ((0 : Int), ()))))
theorem t_w_markFixedS (k : Nat) (x) : evF TTab k [] [(0, ⟨[0, 1, 5], (.cons .nils (.cons (.int .i64) (.cons (.int .i64) .nil)))⟩, ⟨[1], (.cons (.int .i64) .nil)⟩)] Try.f56 (.cons .nils (.cons (.int .i64) .nil)) (.int .i64) x = w_markFixedS k x := by kernel_rfl
theorem e_w_markFixedS (k : Nat) : EntryOk Try.prog ⟨56, 0, (.cons .nils (.cons (.int .i64) .nil)), (.int .i64), w_markFixedS k⟩ := entry_ok tok (by simp) (by kernel_rfl) (fn := Try.f56) (k := k) (es := []) (loops := [(0, ⟨[0, 1, 5], (.cons .nils (.cons (.int .i64) (.cons (.int .i64) .nil)))⟩, ⟨[1], (.cons (.int .i64) .nil)⟩)]) (by kernel_rfl) (by kernel_rfl) (fun x r h => (t_w_markFixedS k x).trans h)
def w_markPool (k : Nat) (x : (Int × Int × Unit × Unit × Unit) × Int × Unit) : Option (Int × Unit × Unit × Unit) :=
((w_markLeaseS k ((), (x.2.1, ()))).bind fun p1 =>
((w_markFixedS k ((), (p1.1, ()))).bind fun p2 =>
some (p2.1, ((), ((), ())))))
theorem t_w_markPool (k : Nat) (x) : evF TTab k [⟨55, 0, (.cons .nils (.cons (.int .i64) .nil)), (.int .i64), w_markLeaseS k⟩, ⟨56, 0, (.cons .nils (.cons (.int .i64) .nil)), (.int .i64), w_markFixedS k⟩] [] Try.f21 (.cons (.agg (.cons (.int .i64) (.cons (.int .i64) (.cons .nils (.cons .nils .nil))))) (.cons (.int .i64) .nil)) (.int .i64) x = w_markPool k x := by kernel_rfl
theorem e_w_markPool (k : Nat) : EntryOk Try.prog ⟨21, 0, (.cons (.agg (.cons (.int .i64) (.cons (.int .i64) (.cons .nils (.cons .nils .nil))))) (.cons (.int .i64) .nil)), (.int .i64), w_markPool k⟩ := entry_ok tok (by intro e he; simp only [List.mem_cons, List.not_mem_nil, or_false] at he; rcases he with rfl | rfl <;> first | exact e_w_markLeaseS k | exact e_w_markFixedS k) (by kernel_rfl) (fn := Try.f21) (k := k) (es := [⟨55, 0, (.cons .nils (.cons (.int .i64) .nil)), (.int .i64), w_markLeaseS k⟩, ⟨56, 0, (.cons .nils (.cons (.int .i64) .nil)), (.int .i64), w_markFixedS k⟩]) (loops := []) (by kernel_rfl) (by kernel_rfl) (fun x r h => (t_w_markPool k x).trans h)
def w_markRouteS (k : Nat) (x : Unit × Int × Unit) : Option (Int × Unit × Unit × Unit) :=
(whileK (fun (rec0 : (Unit × Int × Int × Unit) → Option _) (y0 : Unit × Int × Int × Unit) =>
(if (decide (y0.2.2.1 < (0 : Int))) = true then
none
else
((fun (z1 : Int × Unit) =>
some (z1.1, ((), ((), ())))) (y0.2.1, ())))) k ((), (x.2.1, ((0 : Int), ()))))
theorem t_w_markRouteS (k : Nat) (x) : evF TTab k [] [(0, ⟨[0, 1, 5], (.cons .nils (.cons (.int .i64) (.cons (.int .i64) .nil)))⟩, ⟨[1], (.cons (.int .i64) .nil)⟩)] Try.f22 (.cons .nils (.cons (.int .i64) .nil)) (.int .i64) x = w_markRouteS k x := by kernel_rfl
theorem e_w_markRouteS (k : Nat) : EntryOk Try.prog ⟨22, 0, (.cons .nils (.cons (.int .i64) .nil)), (.int .i64), w_markRouteS k⟩ := entry_ok tok (by simp) (by kernel_rfl) (fn := Try.f22) (k := k) (es := []) (loops := [(0, ⟨[0, 1, 5], (.cons .nils (.cons (.int .i64) (.cons (.int .i64) .nil)))⟩, ⟨[1], (.cons (.int .i64) .nil)⟩)]) (by kernel_rfl) (by kernel_rfl) (fun x r h => (t_w_markRouteS k x).trans h)
def w_markIntS (k : Nat) (x : Unit × Int × Unit) : Option (Int × Unit × Unit × Unit) :=
(whileK (fun (rec0 : (Unit × Int × Int × Unit) → Option _) (y0 : Unit × Int × Int × Unit) =>
(if (decide (y0.2.2.1 < (0 : Int))) = true then
none
else
((fun (z1 : Int × Unit) =>
some (z1.1, ((), ((), ())))) (y0.2.1, ())))) k ((), (x.2.1, ((0 : Int), ()))))
theorem t_w_markIntS (k : Nat) (x) : evF TTab k [] [(0, ⟨[0, 1, 5], (.cons .nils (.cons (.int .i64) (.cons (.int .i64) .nil)))⟩, ⟨[1], (.cons (.int .i64) .nil)⟩)] Try.f31 (.cons .nils (.cons (.int .i64) .nil)) (.int .i64) x = w_markIntS k x := by kernel_rfl
theorem e_w_markIntS (k : Nat) : EntryOk Try.prog ⟨31, 0, (.cons .nils (.cons (.int .i64) .nil)), (.int .i64), w_markIntS k⟩ := entry_ok tok (by simp) (by kernel_rfl) (fn := Try.f31) (k := k) (es := []) (loops := [(0, ⟨[0, 1, 5], (.cons .nils (.cons (.int .i64) (.cons (.int .i64) .nil)))⟩, ⟨[1], (.cons (.int .i64) .nil)⟩)]) (by kernel_rfl) (by kernel_rfl) (fun x r h => (t_w_markIntS k x).trans h)
def w_markText (k : Nat) (x : Int × Unit) : Option (ByteArray × Unit × Unit) :=
(if (decide (x.1 ≤ (0 : Int))) = true then
some ((⟨#[109, 48]⟩ : ByteArray), ((), ()))
else
(whileK (fun (rec0 : (Int × ByteArray × Unit) → Option _) (y0 : Int × ByteArray × Unit) =>
(if (decide ((0 : Int) < y0.1)) = true then
(if ByteArray.size (strOf ([(wu8 ((wi64 ((48 : Int) + (Int.tmod y0.1 (10 : Int))))))] : List (Int))) + ByteArray.size y0.2.1 ≤ maxStr then
(rec0 ((wi64 (Int.tdiv y0.1 (10 : Int))), (((strOf ([(wu8 ((wi64 ((48 : Int) + (Int.tmod y0.1 (10 : Int))))))] : List (Int))) ++ y0.2.1), ())))
else none)
else
((fun (z1 : ByteArray × Unit) =>
(if ByteArray.size (⟨#[109]⟩ : ByteArray) + ByteArray.size z1.1 ≤ maxStr then
some (((⟨#[109]⟩ : ByteArray) ++ z1.1), ((), ()))
else none)) (y0.2.1, ())))) k (x.1, ((⟨#[]⟩ : ByteArray), ()))))
theorem t_w_markText (k : Nat) (x) : evF TTab k [] [(0, ⟨[0, 3], (.cons (.int .i64) (.cons .str .nil))⟩, ⟨[3], (.cons .str .nil)⟩)] Try.f57 (.cons (.int .i64) .nil) .str x = w_markText k x := by kernel_rfl
theorem e_w_markText (k : Nat) : EntryOk Try.prog ⟨57, 0, (.cons (.int .i64) .nil), .str, w_markText k⟩ := entry_ok tok (by simp) (by kernel_rfl) (fn := Try.f57) (k := k) (es := []) (loops := [(0, ⟨[0, 3], (.cons (.int .i64) (.cons .str .nil))⟩, ⟨[3], (.cons .str .nil)⟩)]) (by kernel_rfl) (by kernel_rfl) (fun x r h => (t_w_markText k x).trans h)
def w_markUserS (k : Nat) (x : Unit × Int × Unit) : Option (Int × Unit × Unit × Unit) :=
(whileK (fun (rec0 : (Unit × Int × Int × Unit) → Option _) (y0 : Unit × Int × Int × Unit) =>
(if (decide (y0.2.2.1 < (0 : Int))) = true then
none
else
((fun (z1 : Int × Unit) =>
some (z1.1, ((), ((), ())))) (y0.2.1, ())))) k ((), (x.2.1, ((0 : Int), ()))))
theorem t_w_markUserS (k : Nat) (x) : evF TTab k [] [(0, ⟨[0, 1, 5], (.cons .nils (.cons (.int .i64) (.cons (.int .i64) .nil)))⟩, ⟨[1], (.cons (.int .i64) .nil)⟩)] Try.f23 (.cons .nils (.cons (.int .i64) .nil)) (.int .i64) x = w_markUserS k x := by kernel_rfl
theorem e_w_markUserS (k : Nat) : EntryOk Try.prog ⟨23, 0, (.cons .nils (.cons (.int .i64) .nil)), (.int .i64), w_markUserS k⟩ := entry_ok tok (by simp) (by kernel_rfl) (fn := Try.f23) (k := k) (es := []) (loops := [(0, ⟨[0, 1, 5], (.cons .nils (.cons (.int .i64) (.cons (.int .i64) .nil)))⟩, ⟨[1], (.cons (.int .i64) .nil)⟩)]) (by kernel_rfl) (by kernel_rfl) (fun x r h => (t_w_markUserS k x).trans h)
def w_markHub (k : Nat) (x : (Int × Int × Unit × Unit × Unit × Unit × Unit) × Int × Unit) : Option (Int × Unit × Unit × Unit) :=
((w_markPool k ((x.1.1, (x.1.2.1, ((), ((), ())))), (x.2.1, ()))).bind fun p1 =>
((w_markRouteS k ((), (p1.1, ()))).bind fun p2 =>
((w_markUserS k ((), (p2.1, ()))).bind fun p3 =>
some (p3.1, ((), ((), ()))))))
theorem t_w_markHub (k : Nat) (x) : evF TTab k [⟨21, 0, (.cons (.agg (.cons (.int .i64) (.cons (.int .i64) (.cons .nils (.cons .nils .nil))))) (.cons (.int .i64) .nil)), (.int .i64), w_markPool k⟩, ⟨22, 0, (.cons .nils (.cons (.int .i64) .nil)), (.int .i64), w_markRouteS k⟩, ⟨23, 0, (.cons .nils (.cons (.int .i64) .nil)), (.int .i64), w_markUserS k⟩] [] Try.f9 (.cons (.agg (.cons (.int .i64) (.cons (.int .i64) (.cons .nils (.cons .nils (.cons .nils (.cons .nils .nil))))))) (.cons (.int .i64) .nil)) (.int .i64) x = w_markHub k x := by kernel_rfl
theorem e_w_markHub (k : Nat) : EntryOk Try.prog ⟨9, 0, (.cons (.agg (.cons (.int .i64) (.cons (.int .i64) (.cons .nils (.cons .nils (.cons .nils (.cons .nils .nil))))))) (.cons (.int .i64) .nil)), (.int .i64), w_markHub k⟩ := entry_ok tok (by intro e he; simp only [List.mem_cons, List.not_mem_nil, or_false] at he; rcases he with rfl | rfl | rfl <;> first | exact e_w_markPool k | exact e_w_markRouteS k | exact e_w_markUserS k) (by kernel_rfl) (fn := Try.f9) (k := k) (es := [⟨21, 0, (.cons (.agg (.cons (.int .i64) (.cons (.int .i64) (.cons .nils (.cons .nils .nil))))) (.cons (.int .i64) .nil)), (.int .i64), w_markPool k⟩, ⟨22, 0, (.cons .nils (.cons (.int .i64) .nil)), (.int .i64), w_markRouteS k⟩, ⟨23, 0, (.cons .nils (.cons (.int .i64) .nil)), (.int .i64), w_markUserS k⟩]) (loops := []) (by kernel_rfl) (by kernel_rfl) (fun x r h => (t_w_markHub k x).trans h)
def w_heldLeaseS (k : Nat) (x : (List (Int × Int × Int)) × Int × Unit) : Option (Int × Unit × Unit × Unit) :=
(whileK (fun (rec0 : ((List (Int × Int × Int)) × Int × Int × Unit) → Option _) (y0 : (List (Int × Int × Int)) × Int × Int × Unit) =>
(if (decide (y0.2.2.1 < (List.length y0.1 : Int))) = true then
(if 0 ≤ y0.2.2.1 ∧ y0.2.2.1 < (List.length y0.1 : Int) then
(if (!decide ((Ty.rd (t := (.pair (.int .i64) (.pair (.int .i64) (.int .i64)))) y0.1 y0.2.2.1).1 = y0.2.1)) = true then
some ((-1 : Int), ((), ((), ())))
else
(if 0 ≤ y0.2.2.1 ∧ y0.2.2.1 < (List.length y0.1 : Int) then
(if (!decide ((Ty.rd (t := (.pair (.int .i64) (.pair (.int .i64) (.int .i64)))) y0.1 y0.2.2.1).2.1 = (wi64 (y0.2.1 + (1 : Int))))) = true then
some ((-1 : Int), ((), ((), ())))
else
(if 0 ≤ y0.2.2.1 ∧ y0.2.2.1 < (List.length y0.1 : Int) then
(if (!decide ((Ty.rd (t := (.pair (.int .i64) (.pair (.int .i64) (.int .i64)))) y0.1 y0.2.2.1).2.2 = (wi64 ((wi64 (y0.2.1 + (1 : Int))) + (1 : Int))))) = true then
some ((-1 : Int), ((), ((), ())))
else
(rec0 (y0.1, ((wi64 ((wi64 ((wi64 (y0.2.1 + (1 : Int))) + (1 : Int))) + (1 : Int))), ((wi64 (y0.2.2.1 + (1 : Int))), ())))))
else none))
else none))
else none)
else
((fun (z1 : Int × Unit) =>
some (z1.1, ((), ((), ())))) (y0.2.1, ())))) k (x.1, (x.2.1, ((0 : Int), ()))))
theorem t_w_heldLeaseS (k : Nat) (x) : evF TTab k [] [(0, ⟨[0, 1, 5], (.cons (.il true (.pair (.int .i64) (.pair (.int .i64) (.int .i64)))) (.cons (.int .i64) (.cons (.int .i64) .nil)))⟩, ⟨[1], (.cons (.int .i64) .nil)⟩)] Try.f59 (.cons (.il true (.pair (.int .i64) (.pair (.int .i64) (.int .i64)))) (.cons (.int .i64) .nil)) (.int .i64) x = w_heldLeaseS k x := by kernel_rfl
theorem e_w_heldLeaseS (k : Nat) : EntryOk Try.prog ⟨59, 0, (.cons (.il true (.pair (.int .i64) (.pair (.int .i64) (.int .i64)))) (.cons (.int .i64) .nil)), (.int .i64), w_heldLeaseS k⟩ := entry_ok tok (by simp) (by kernel_rfl) (fn := Try.f59) (k := k) (es := []) (loops := [(0, ⟨[0, 1, 5], (.cons (.il true (.pair (.int .i64) (.pair (.int .i64) (.int .i64)))) (.cons (.int .i64) (.cons (.int .i64) .nil)))⟩, ⟨[1], (.cons (.int .i64) .nil)⟩)]) (by kernel_rfl) (by kernel_rfl) (fun x r h => (t_w_heldLeaseS k x).trans h)
def w_heldFixedS (k : Nat) (x : (List (Int × Int)) × Int × Unit) : Option (Int × Unit × Unit × Unit) :=
(whileK (fun (rec0 : ((List (Int × Int)) × Int × Int × Unit) → Option _) (y0 : (List (Int × Int)) × Int × Int × Unit) =>
(if (decide (y0.2.2.1 < (List.length y0.1 : Int))) = true then
(if 0 ≤ y0.2.2.1 ∧ y0.2.2.1 < (List.length y0.1 : Int) then
(if (!decide ((Ty.rd (t := (.pair (.int .i64) (.int .i64))) y0.1 y0.2.2.1).1 = y0.2.1)) = true then
some ((-1 : Int), ((), ((), ())))
else
(if 0 ≤ y0.2.2.1 ∧ y0.2.2.1 < (List.length y0.1 : Int) then
(if (!decide ((Ty.rd (t := (.pair (.int .i64) (.int .i64))) y0.1 y0.2.2.1).2 = (wi64 (y0.2.1 + (1 : Int))))) = true then
some ((-1 : Int), ((), ((), ())))
else
(rec0 (y0.1, ((wi64 ((wi64 (y0.2.1 + (1 : Int))) + (1 : Int))), ((wi64 (y0.2.2.1 + (1 : Int))), ())))))
else none))
else none)
else
((fun (z1 : Int × Unit) =>
some (z1.1, ((), ((), ())))) (y0.2.1, ())))) k (x.1, (x.2.1, ((0 : Int), ()))))
theorem t_w_heldFixedS (k : Nat) (x) : evF TTab k [] [(0, ⟨[0, 1, 5], (.cons (.il true (.pair (.int .i64) (.int .i64))) (.cons (.int .i64) (.cons (.int .i64) .nil)))⟩, ⟨[1], (.cons (.int .i64) .nil)⟩)] Try.f60 (.cons (.il true (.pair (.int .i64) (.int .i64))) (.cons (.int .i64) .nil)) (.int .i64) x = w_heldFixedS k x := by kernel_rfl
theorem e_w_heldFixedS (k : Nat) : EntryOk Try.prog ⟨60, 0, (.cons (.il true (.pair (.int .i64) (.int .i64))) (.cons (.int .i64) .nil)), (.int .i64), w_heldFixedS k⟩ := entry_ok tok (by simp) (by kernel_rfl) (fn := Try.f60) (k := k) (es := []) (loops := [(0, ⟨[0, 1, 5], (.cons (.il true (.pair (.int .i64) (.int .i64))) (.cons (.int .i64) (.cons (.int .i64) .nil)))⟩, ⟨[1], (.cons (.int .i64) .nil)⟩)]) (by kernel_rfl) (by kernel_rfl) (fun x r h => (t_w_heldFixedS k x).trans h)
def w_heldPool (k : Nat) (x : (Int × Int × (List (Int × Int × Int)) × (List (Int × Int)) × Unit) × Int × Unit) : Option (Int × Unit × Unit × Unit) :=
((w_heldLeaseS k (x.1.2.2.1, (x.2.1, ()))).bind fun p1 =>
(if (decide (p1.1 < (0 : Int))) = true then
some ((-1 : Int), ((), ((), ())))
else
((w_heldFixedS k (x.1.2.2.2.1, (p1.1, ()))).bind fun p2 =>
(if (decide (p2.1 < (0 : Int))) = true then
some ((-1 : Int), ((), ((), ())))
else
some (p2.1, ((), ((), ())))))))
theorem t_w_heldPool (k : Nat) (x) : evF TTab k [⟨59, 0, (.cons (.il true (.pair (.int .i64) (.pair (.int .i64) (.int .i64)))) (.cons (.int .i64) .nil)), (.int .i64), w_heldLeaseS k⟩, ⟨60, 0, (.cons (.il true (.pair (.int .i64) (.int .i64))) (.cons (.int .i64) .nil)), (.int .i64), w_heldFixedS k⟩] [] Try.f24 (.cons (.agg (.cons (.int .i64) (.cons (.int .i64) (.cons (.il true (.pair (.int .i64) (.pair (.int .i64) (.int .i64)))) (.cons (.il true (.pair (.int .i64) (.int .i64))) .nil))))) (.cons (.int .i64) .nil)) (.int .i64) x = w_heldPool k x := by kernel_rfl
theorem e_w_heldPool (k : Nat) : EntryOk Try.prog ⟨24, 0, (.cons (.agg (.cons (.int .i64) (.cons (.int .i64) (.cons (.il true (.pair (.int .i64) (.pair (.int .i64) (.int .i64)))) (.cons (.il true (.pair (.int .i64) (.int .i64))) .nil))))) (.cons (.int .i64) .nil)), (.int .i64), w_heldPool k⟩ := entry_ok tok (by intro e he; simp only [List.mem_cons, List.not_mem_nil, or_false] at he; rcases he with rfl | rfl <;> first | exact e_w_heldLeaseS k | exact e_w_heldFixedS k) (by kernel_rfl) (fn := Try.f24) (k := k) (es := [⟨59, 0, (.cons (.il true (.pair (.int .i64) (.pair (.int .i64) (.int .i64)))) (.cons (.int .i64) .nil)), (.int .i64), w_heldLeaseS k⟩, ⟨60, 0, (.cons (.il true (.pair (.int .i64) (.int .i64))) (.cons (.int .i64) .nil)), (.int .i64), w_heldFixedS k⟩]) (loops := []) (by kernel_rfl) (by kernel_rfl) (fun x r h => (t_w_heldPool k x).trans h)
def w_heldRouteS (k : Nat) (x : (List ((Int × Int) × Int)) × Int × Unit) : Option (Int × Unit × Unit × Unit) :=
(whileK (fun (rec0 : ((List ((Int × Int) × Int)) × Int × Int × Unit) → Option _) (y0 : (List ((Int × Int) × Int)) × Int × Int × Unit) =>
(if (decide (y0.2.2.1 < (List.length y0.1 : Int))) = true then
(if 0 ≤ y0.2.2.1 ∧ y0.2.2.1 < (List.length y0.1 : Int) then
(if (!decide ((Ty.rd (t := (.pair (.pair (.int .i64) (.int .i64)) (.int .i64))) y0.1 y0.2.2.1).1.1 = y0.2.1)) = true then
some ((-1 : Int), ((), ((), ())))
else
(if 0 ≤ y0.2.2.1 ∧ y0.2.2.1 < (List.length y0.1 : Int) then
(if (!decide ((Ty.rd (t := (.pair (.pair (.int .i64) (.int .i64)) (.int .i64))) y0.1 y0.2.2.1).1.2 = (wi64 (y0.2.1 + (1 : Int))))) = true then
some ((-1 : Int), ((), ((), ())))
else
(if 0 ≤ y0.2.2.1 ∧ y0.2.2.1 < (List.length y0.1 : Int) then
(if (!decide ((Ty.rd (t := (.pair (.pair (.int .i64) (.int .i64)) (.int .i64))) y0.1 y0.2.2.1).2 = (wi64 ((wi64 (y0.2.1 + (1 : Int))) + (1 : Int))))) = true then
some ((-1 : Int), ((), ((), ())))
else
(rec0 (y0.1, ((wi64 ((wi64 ((wi64 (y0.2.1 + (1 : Int))) + (1 : Int))) + (1 : Int))), ((wi64 (y0.2.2.1 + (1 : Int))), ())))))
else none))
else none))
else none)
else
((fun (z1 : Int × Unit) =>
some (z1.1, ((), ((), ())))) (y0.2.1, ())))) k (x.1, (x.2.1, ((0 : Int), ()))))
theorem t_w_heldRouteS (k : Nat) (x) : evF TTab k [] [(0, ⟨[0, 1, 5], (.cons (.il true (.pair (.pair (.int .i64) (.int .i64)) (.int .i64))) (.cons (.int .i64) (.cons (.int .i64) .nil)))⟩, ⟨[1], (.cons (.int .i64) .nil)⟩)] Try.f25 (.cons (.il true (.pair (.pair (.int .i64) (.int .i64)) (.int .i64))) (.cons (.int .i64) .nil)) (.int .i64) x = w_heldRouteS k x := by kernel_rfl
theorem e_w_heldRouteS (k : Nat) : EntryOk Try.prog ⟨25, 0, (.cons (.il true (.pair (.pair (.int .i64) (.int .i64)) (.int .i64))) (.cons (.int .i64) .nil)), (.int .i64), w_heldRouteS k⟩ := entry_ok tok (by simp) (by kernel_rfl) (fn := Try.f25) (k := k) (es := []) (loops := [(0, ⟨[0, 1, 5], (.cons (.il true (.pair (.pair (.int .i64) (.int .i64)) (.int .i64))) (.cons (.int .i64) (.cons (.int .i64) .nil)))⟩, ⟨[1], (.cons (.int .i64) .nil)⟩)]) (by kernel_rfl) (by kernel_rfl) (fun x r h => (t_w_heldRouteS k x).trans h)
def w_heldIntS (k : Nat) (x : List (Int) × Int × Unit) : Option (Int × Unit × Unit × Unit) :=
(whileK (fun (rec0 : (List (Int) × Int × Int × Unit) → Option _) (y0 : List (Int) × Int × Int × Unit) =>
(if (decide (y0.2.2.1 < (List.length y0.1 : Int))) = true then
(if 0 ≤ y0.2.2.1 ∧ y0.2.2.1 < (List.length y0.1 : Int) then
(if (!decide ((Ty.rd (t := (.int .i64)) y0.1 y0.2.2.1) = y0.2.1)) = true then
some ((-1 : Int), ((), ((), ())))
else
(rec0 (y0.1, ((wi64 (y0.2.1 + (1 : Int))), ((wi64 (y0.2.2.1 + (1 : Int))), ())))))
else none)
else
((fun (z1 : Int × Unit) =>
some (z1.1, ((), ((), ())))) (y0.2.1, ())))) k (x.1, (x.2.1, ((0 : Int), ()))))
theorem t_w_heldIntS (k : Nat) (x) : evF TTab k [] [(0, ⟨[0, 1, 5], (.cons (.il true (.int .i64)) (.cons (.int .i64) (.cons (.int .i64) .nil)))⟩, ⟨[1], (.cons (.int .i64) .nil)⟩)] Try.f35 (.cons (.il true (.int .i64)) (.cons (.int .i64) .nil)) (.int .i64) x = w_heldIntS k x := by kernel_rfl
theorem e_w_heldIntS (k : Nat) : EntryOk Try.prog ⟨35, 0, (.cons (.il true (.int .i64)) (.cons (.int .i64) .nil)), (.int .i64), w_heldIntS k⟩ := entry_ok tok (by simp) (by kernel_rfl) (fn := Try.f35) (k := k) (es := []) (loops := [(0, ⟨[0, 1, 5], (.cons (.il true (.int .i64)) (.cons (.int .i64) (.cons (.int .i64) .nil)))⟩, ⟨[1], (.cons (.int .i64) .nil)⟩)]) (by kernel_rfl) (by kernel_rfl) (fun x r h => (t_w_heldIntS k x).trans h)
def w_heldStringS (k : Nat) (x : List (ByteArray) × Int × Unit) : Option (Int × Unit × Unit × Unit) :=
(whileK (fun (rec0 : (List (ByteArray) × Int × Int × Unit) → Option _) (y0 : List (ByteArray) × Int × Int × Unit) =>
(if (decide (y0.2.2.1 < (List.length y0.1 : Int))) = true then
(if 0 ≤ y0.2.2.1 ∧ y0.2.2.1 < (List.length y0.1 : Int) then
((w_markText k (y0.2.1, ())).bind fun p1 =>
(if (!decide ((Ty.rd (t := .str) y0.1 y0.2.2.1) = p1.1)) = true then
some ((-1 : Int), ((), ((), ())))
else
(rec0 (y0.1, ((wi64 (y0.2.1 + (1 : Int))), ((wi64 (y0.2.2.1 + (1 : Int))), ()))))))
else none)
else
((fun (z1 : Int × Unit) =>
some (z1.1, ((), ((), ())))) (y0.2.1, ())))) k (x.1, (x.2.1, ((0 : Int), ()))))
theorem t_w_heldStringS (k : Nat) (x) : evF TTab k [⟨57, 0, (.cons (.int .i64) .nil), .str, w_markText k⟩] [(0, ⟨[0, 1, 5], (.cons (.il true .str) (.cons (.int .i64) (.cons (.int .i64) .nil)))⟩, ⟨[1], (.cons (.int .i64) .nil)⟩)] Try.f79 (.cons (.il true .str) (.cons (.int .i64) .nil)) (.int .i64) x = w_heldStringS k x := by kernel_rfl
theorem e_w_heldStringS (k : Nat) : EntryOk Try.prog ⟨79, 0, (.cons (.il true .str) (.cons (.int .i64) .nil)), (.int .i64), w_heldStringS k⟩ := entry_ok tok (by intro e he; simp only [List.mem_cons, List.not_mem_nil, or_false] at he; rcases he with rfl <;> first | exact e_w_markText k) (by kernel_rfl) (fn := Try.f79) (k := k) (es := [⟨57, 0, (.cons (.int .i64) .nil), .str, w_markText k⟩]) (loops := [(0, ⟨[0, 1, 5], (.cons (.il true .str) (.cons (.int .i64) (.cons (.int .i64) .nil)))⟩, ⟨[1], (.cons (.int .i64) .nil)⟩)]) (by kernel_rfl) (by kernel_rfl) (fun x r h => (t_w_heldStringS k x).trans h)
def w_heldBoolS (k : Nat) (x : List (Bool) × Int × Unit) : Option (Int × Unit × Unit × Unit) :=
(whileK (fun (rec0 : (List (Bool) × Int × Int × Unit) → Option _) (y0 : List (Bool) × Int × Int × Unit) =>
(if (decide (y0.2.2.1 < (List.length y0.1 : Int))) = true then
(if 0 ≤ y0.2.2.1 ∧ y0.2.2.1 < (List.length y0.1 : Int) then
(if (!decide ((Ty.rd (t := .bool) y0.1 y0.2.2.1) = (decide ((Int.tmod y0.2.1 (3 : Int)) = (0 : Int))))) = true then
some ((-1 : Int), ((), ((), ())))
else
(rec0 (y0.1, ((wi64 (y0.2.1 + (1 : Int))), ((wi64 (y0.2.2.1 + (1 : Int))), ())))))
else none)
else
((fun (z1 : Int × Unit) =>
some (z1.1, ((), ((), ())))) (y0.2.1, ())))) k (x.1, (x.2.1, ((0 : Int), ()))))
theorem t_w_heldBoolS (k : Nat) (x) : evF TTab k [] [(0, ⟨[0, 1, 5], (.cons (.il true .bool) (.cons (.int .i64) (.cons (.int .i64) .nil)))⟩, ⟨[1], (.cons (.int .i64) .nil)⟩)] Try.f80 (.cons (.il true .bool) (.cons (.int .i64) .nil)) (.int .i64) x = w_heldBoolS k x := by kernel_rfl
theorem e_w_heldBoolS (k : Nat) : EntryOk Try.prog ⟨80, 0, (.cons (.il true .bool) (.cons (.int .i64) .nil)), (.int .i64), w_heldBoolS k⟩ := entry_ok tok (by simp) (by kernel_rfl) (fn := Try.f80) (k := k) (es := []) (loops := [(0, ⟨[0, 1, 5], (.cons (.il true .bool) (.cons (.int .i64) (.cons (.int .i64) .nil)))⟩, ⟨[1], (.cons (.int .i64) .nil)⟩)]) (by kernel_rfl) (by kernel_rfl) (fun x r h => (t_w_heldBoolS k x).trans h)
end Go.Proofs.Ytdcfekhjhopbfaa
