import Derived.Test.YtaamcelinnnncaaFun1
/- What functions of the program compute, as plain functions, and that their calls do so (part 2). Conditions: the plain function answers. -/
set_option linter.unusedVariables false
namespace Go.Proofs.Ytaamcelinnnncaa
open Go Go.Eng Go.Proofs
def s_PacketOk (k : Nat) (x : (Int × Int × Int × Int × Int × List (Int) × ByteArray × Unit) × Unit) : Option (Bool × Unit × Unit) :=
((s_l01In k (x.1.1, ((1 : Int), ((3 : Int), ())))).bind fun p1 =>
(if (!p1.1) = false then
((s_l01In k (x.1.2.1, ((0 : Int), ((7 : Int), ())))).bind fun p2 =>
(if (!p2.1) = false then
((s_l01In k (x.1.2.2.1, ((1 : Int), ((99 : Int), ())))).bind fun p3 =>
(if (!p3.1) = false then
((s_l01In k (x.1.2.2.2.1, ((1 : Int), ((99 : Int), ())))).bind fun p4 =>
(if (!p4.1) = false then
((s_l01In k (x.1.2.2.2.2.1, ((0 : Int), ((1000000000 : Int), ())))).bind fun p5 =>
(if (!p5.1) = false then
(if (decide ((4 : Int) < (List.length x.1.2.2.2.2.2.1 : Int))) = false then
(if (decide ((120 : Int) < (ByteArray.size x.1.2.2.2.2.2.2.1 : Int))) = true then
some (false, ((), ()))
else
(whileK (fun (rec0 : ((Int × Int × Int × Int × Int × List (Int) × ByteArray × Unit) × Int × Unit) → Option _) (y0 : (Int × Int × Int × Int × Int × List (Int) × ByteArray × Unit) × Int × Unit) =>
(if (decide (y0.2.1 < (List.length y0.1.2.2.2.2.2.1 : Int))) = true then
(if 0 ≤ y0.2.1 ∧ y0.2.1 < (List.length y0.1.2.2.2.2.2.1 : Int) then
((s_l01In k ((Ty.rd (t := (.int .i64)) y0.1.2.2.2.2.2.1 y0.2.1), ((1 : Int), ((1000000000 : Int), ())))).bind fun p6 =>
(if (!p6.1) = false then
(if (decide (y0.1.1 = (3 : Int))) = true then
some (false, ((), ()))
else
(rec0 ((y0.1.1, (y0.1.2.1, (y0.1.2.2.1, (y0.1.2.2.2.1, (y0.1.2.2.2.2.1, (y0.1.2.2.2.2.2.1, (y0.1.2.2.2.2.2.2.1, ()))))))), ((wi64 (y0.2.1 + (1 : Int))), ()))))
else
some (false, ((), ()))))
else none)
else
((fun (z1 : (Int × Int × Int × Int × Int × List (Int) × ByteArray × Unit) × Unit) =>
(if (!decide (z1.1.1 = (2 : Int))) = false then
(if (decide (z1.1.2.2.2.2.2.2.1 = (⟨#[]⟩ : ByteArray))) = true then
some ((decide (z1.1.2.2.2.2.1 = (0 : Int))), ((), ()))
else
some (false, ((), ())))
else
some (true, ((), ())))) ((y0.1.1, (y0.1.2.1, (y0.1.2.2.1, (y0.1.2.2.2.1, (y0.1.2.2.2.2.1, (y0.1.2.2.2.2.2.1, (y0.1.2.2.2.2.2.2.1, ()))))))), ())))) k ((x.1.1, (x.1.2.1, (x.1.2.2.1, (x.1.2.2.2.1, (x.1.2.2.2.2.1, (x.1.2.2.2.2.2.1, (x.1.2.2.2.2.2.2.1, ()))))))), ((0 : Int), ()))))
else
some (false, ((), ())))
else
some (false, ((), ()))))
else
some (false, ((), ()))))
else
some (false, ((), ()))))
else
some (false, ((), ()))))
else
some (false, ((), ()))))
abbrev E_s_PacketOk (k : Nat) : Entry := ⟨171, 0, (.cons (.agg yP7) .nil), .bool, s_PacketOk k⟩
theorem t_s_PacketOk (k : Nat) (x) : evF TTab k [E_s_l01In k] [(0, ⟨[1, 3], (.cons (.ptr 0 yP7) yP8)⟩, ⟨[1], (.cons (.ptr 0 yP7) .nil)⟩)] Try.f171 (.cons (.agg yP7) .nil) .bool x = s_PacketOk k x := by kernel_rfl
theorem e_s_PacketOk [Names] (k : Nat) : EntryOk Try.prog (E_s_PacketOk k) := entry_ok tok (es_cons (e_s_l01In k) es_nil) (by kernel_rfl) (by kernel_rfl) (by kernel_rfl) fun x r h => (t_s_PacketOk k x).trans h
def s_l13In (k : Nat) (x : List (Int) × Int × Unit) : Option (Bool × Unit × Unit × Unit) :=
(whileK (fun (rec0 : (List (Int) × Int × Int × Unit) → Option _) (y0 : List (Int) × Int × Int × Unit) =>
(if (decide (y0.2.2.1 < (List.length y0.1 : Int))) = true then
(if 0 ≤ y0.2.2.1 ∧ y0.2.2.1 < (List.length y0.1 : Int) then
(if (decide ((Ty.rd (t := (.int .i64)) y0.1 y0.2.2.1) = y0.2.1)) = true then
some (true, ((), ((), ())))
else
(rec0 (y0.1, (y0.2.1, ((wi64 (y0.2.2.1 + (1 : Int))), ())))))
else none)
else
((fun (z1 : Unit) =>
some (false, ((), ((), ())))) ()))) k (x.1, (x.2.1, ((0 : Int), ()))))
abbrev E_s_l13In (k : Nat) : Entry := ⟨172, 0, (.cons (.il true (.int .i64)) yP8), .bool, s_l13In k⟩
theorem t_s_l13In (k : Nat) (x) : evF TTab k [] [(0, ⟨[0, 1, 5], (.cons (.il true (.int .i64)) (.cons (.int .i64) yP8))⟩, ⟨[], .nil⟩)] Try.f172 (.cons (.il true (.int .i64)) yP8) .bool x = s_l13In k x := by kernel_rfl
theorem e_s_l13In [Names] (k : Nat) : EntryOk Try.prog (E_s_l13In k) := entry_ok tok es_nil (by kernel_rfl) (by kernel_rfl) (by kernel_rfl) fun x r h => (t_s_l13In k x).trans h
def s_l13Put (k : Nat) (x : (Int × Int × Int × List (ByteArray) × (List (Int × ByteArray × Int × Int)) × Int × (List (Int × ByteArray)) × List (Int) × List (ByteArray) × Unit) × Int × ByteArray × Unit) : Option (Unit × (Int × Int × Int × List (ByteArray) × (List (Int × ByteArray × Int × Int)) × Int × (List (Int × ByteArray)) × List (Int) × List (ByteArray) × Unit) × Unit × Unit × Unit) :=
(whileK (fun (rec0 : ((Int × Int × Int × List (ByteArray) × (List (Int × ByteArray × Int × Int)) × Int × (List (Int × ByteArray)) × List (Int) × List (ByteArray) × Unit) × Int × ByteArray × (List (Int × ByteArray)) × Int × Unit) → Option _) (y0 : (Int × Int × Int × List (ByteArray) × (List (Int × ByteArray × Int × Int)) × Int × (List (Int × ByteArray)) × List (Int) × List (ByteArray) × Unit) × Int × ByteArray × (List (Int × ByteArray)) × Int × Unit) =>
(if (decide (y0.2.2.2.2.1 < (List.length y0.1.2.2.2.2.2.2.1 : Int))) = true then
(if 0 ≤ y0.2.2.2.2.1 ∧ y0.2.2.2.2.1 < (List.length y0.1.2.2.2.2.2.2.1 : Int) then
(if (decide ((Ty.rd (t := yT11) y0.1.2.2.2.2.2.2.1 y0.2.2.2.2.1).1 = y0.2.1)) = true then
some ((), ((y0.1.1, (y0.1.2.1, (y0.1.2.2.1, (y0.1.2.2.2.1, (y0.1.2.2.2.2.1, (y0.1.2.2.2.2.2.1, (y0.1.2.2.2.2.2.2.1, (y0.1.2.2.2.2.2.2.2.1, (y0.1.2.2.2.2.2.2.2.2.1, ()))))))))), ((), ((), ()))))
else
(if 0 ≤ y0.2.2.2.2.1 ∧ y0.2.2.2.2.1 < (List.length y0.1.2.2.2.2.2.2.1 : Int) then
(if (decide ((Ty.rd (t := yT11) y0.1.2.2.2.2.2.2.1 y0.2.2.2.2.1).1 < y0.2.1)) = true then
(if 0 ≤ y0.2.2.2.2.1 ∧ y0.2.2.2.2.1 < (List.length y0.1.2.2.2.2.2.2.1 : Int) then
(if List.length y0.2.2.2.1 + List.length ([((Ty.rd (t := yT11) y0.1.2.2.2.2.2.2.1 y0.2.2.2.2.1).1, (Ty.rd (t := yT11) y0.1.2.2.2.2.2.2.1 y0.2.2.2.2.1).2)] : List (Int × ByteArray)) ≤ capMax then
(rec0 ((y0.1.1, (y0.1.2.1, (y0.1.2.2.1, (y0.1.2.2.2.1, (y0.1.2.2.2.2.1, (y0.1.2.2.2.2.2.1, (y0.1.2.2.2.2.2.2.1, (y0.1.2.2.2.2.2.2.2.1, (y0.1.2.2.2.2.2.2.2.2.1, ()))))))))), (y0.2.1, (y0.2.2.1, ((y0.2.2.2.1 ++ ([((Ty.rd (t := yT11) y0.1.2.2.2.2.2.2.1 y0.2.2.2.2.1).1, (Ty.rd (t := yT11) y0.1.2.2.2.2.2.2.1 y0.2.2.2.2.1).2)] : List (Int × ByteArray))), ((wi64 (y0.2.2.2.2.1 + (1 : Int))), ()))))))
else none)
else none)
else
(rec0 ((y0.1.1, (y0.1.2.1, (y0.1.2.2.1, (y0.1.2.2.2.1, (y0.1.2.2.2.2.1, (y0.1.2.2.2.2.2.1, (y0.1.2.2.2.2.2.2.1, (y0.1.2.2.2.2.2.2.2.1, (y0.1.2.2.2.2.2.2.2.2.1, ()))))))))), (y0.2.1, (y0.2.2.1, (y0.2.2.2.1, ((wi64 (y0.2.2.2.2.1 + (1 : Int))), ())))))))
else none))
else none)
else
((fun (z1 : (Int × Int × Int × List (ByteArray) × (List (Int × ByteArray × Int × Int)) × Int × (List (Int × ByteArray)) × List (Int) × List (ByteArray) × Unit) × Int × ByteArray × (List (Int × ByteArray)) × Unit) =>
(if List.length z1.2.2.2.1 + List.length ([(z1.2.1, z1.2.2.1)] : List (Int × ByteArray)) ≤ capMax then
(whileK (fun (rec2 : ((Int × Int × Int × List (ByteArray) × (List (Int × ByteArray × Int × Int)) × Int × (List (Int × ByteArray)) × List (Int) × List (ByteArray) × Unit) × Int × (List (Int × ByteArray)) × Int × Unit) → Option _) (y2 : (Int × Int × Int × List (ByteArray) × (List (Int × ByteArray × Int × Int)) × Int × (List (Int × ByteArray)) × List (Int) × List (ByteArray) × Unit) × Int × (List (Int × ByteArray)) × Int × Unit) =>
(if (decide (y2.2.2.2.1 < (List.length y2.1.2.2.2.2.2.2.1 : Int))) = true then
(if 0 ≤ y2.2.2.2.1 ∧ y2.2.2.2.1 < (List.length y2.1.2.2.2.2.2.2.1 : Int) then
(if (decide (y2.2.1 < (Ty.rd (t := yT11) y2.1.2.2.2.2.2.2.1 y2.2.2.2.1).1)) = true then
(if 0 ≤ y2.2.2.2.1 ∧ y2.2.2.2.1 < (List.length y2.1.2.2.2.2.2.2.1 : Int) then
(if List.length y2.2.2.1 + List.length ([((Ty.rd (t := yT11) y2.1.2.2.2.2.2.2.1 y2.2.2.2.1).1, (Ty.rd (t := yT11) y2.1.2.2.2.2.2.2.1 y2.2.2.2.1).2)] : List (Int × ByteArray)) ≤ capMax then
(rec2 ((y2.1.1, (y2.1.2.1, (y2.1.2.2.1, (y2.1.2.2.2.1, (y2.1.2.2.2.2.1, (y2.1.2.2.2.2.2.1, (y2.1.2.2.2.2.2.2.1, (y2.1.2.2.2.2.2.2.2.1, (y2.1.2.2.2.2.2.2.2.2.1, ()))))))))), (y2.2.1, ((y2.2.2.1 ++ ([((Ty.rd (t := yT11) y2.1.2.2.2.2.2.2.1 y2.2.2.2.1).1, (Ty.rd (t := yT11) y2.1.2.2.2.2.2.2.1 y2.2.2.2.1).2)] : List (Int × ByteArray))), ((wi64 (y2.2.2.2.1 + (1 : Int))), ())))))
else none)
else none)
else
(rec2 ((y2.1.1, (y2.1.2.1, (y2.1.2.2.1, (y2.1.2.2.2.1, (y2.1.2.2.2.2.1, (y2.1.2.2.2.2.2.1, (y2.1.2.2.2.2.2.2.1, (y2.1.2.2.2.2.2.2.2.1, (y2.1.2.2.2.2.2.2.2.2.1, ()))))))))), (y2.2.1, (y2.2.2.1, ((wi64 (y2.2.2.2.1 + (1 : Int))), ()))))))
else none)
else
((fun (z2 : (Int × Int × Int × List (ByteArray) × (List (Int × ByteArray × Int × Int)) × Int × (List (Int × ByteArray)) × List (Int) × List (ByteArray) × Unit) × (List (Int × ByteArray)) × Unit) =>
(jn (fun (z3 : (Int × Int × Int × List (ByteArray) × (List (Int × ByteArray × Int × Int)) × Int × (List (Int × ByteArray)) × List (Int) × List (ByteArray) × Unit) × (List (Int × ByteArray)) × Unit) =>
(if List.length ([] : List (Int × ByteArray)) + List.length z3.2.1 ≤ capMax then
some ((), ((z3.1.1, (z3.1.2.1, (z3.1.2.2.1, (z3.1.2.2.2.1, (z3.1.2.2.2.2.1, (z3.1.2.2.2.2.2.1, ((([] : List (Int × ByteArray)) ++ z3.2.1), (z3.1.2.2.2.2.2.2.2.1, (z3.1.2.2.2.2.2.2.2.2.1, ()))))))))), ((), ((), ()))))
else none)) (fun (E3 : ((Int × Int × Int × List (ByteArray) × (List (Int × ByteArray × Int × Int)) × Int × (List (Int × ByteArray)) × List (Int) × List (ByteArray) × Unit) × (List (Int × ByteArray)) × Unit) → Option _) =>
(whileK (fun (rec4 : ((Int × Int × Int × List (ByteArray) × (List (Int × ByteArray × Int × Int)) × Int × (List (Int × ByteArray)) × List (Int) × List (ByteArray) × Unit) × (List (Int × ByteArray)) × Unit) → Option _) (y4 : (Int × Int × Int × List (ByteArray) × (List (Int × ByteArray × Int × Int)) × Int × (List (Int × ByteArray)) × List (Int) × List (ByteArray) × Unit) × (List (Int × ByteArray)) × Unit) =>
(if (decide ((0 : Int) < (List.length y4.2.1 : Int))) = true then
(if 0 ≤ (0 : Int) ∧ (0 : Int) < (List.length y4.2.1 : Int) then
(if (decide ((Ty.rd (t := yT11) y4.2.1 (0 : Int)).1 = (wi64 (y4.1.2.2.2.2.2.1 + (1 : Int))))) = true then
(if 0 ≤ (0 : Int) ∧ (0 : Int) < (List.length y4.2.1 : Int) then
(if List.length y4.1.2.2.2.2.2.2.2.2.1 + List.length ([(Ty.rd (t := yT11) y4.2.1 (0 : Int)).2] : List (ByteArray)) ≤ capMax then
(if 0 ≤ (1 : Int) ∧ (1 : Int) ≤ (List.length y4.2.1 : Int) then
(rec4 ((y4.1.1, (y4.1.2.1, (y4.1.2.2.1, (y4.1.2.2.2.1, (y4.1.2.2.2.2.1, ((wi64 (y4.1.2.2.2.2.2.1 + (1 : Int))), (y4.1.2.2.2.2.2.2.1, (y4.1.2.2.2.2.2.2.2.1, ((y4.1.2.2.2.2.2.2.2.2.1 ++ ([(Ty.rd (t := yT11) y4.2.1 (0 : Int)).2] : List (ByteArray))), ()))))))))), ((List.drop (Int.toNat (1 : Int)) (List.take (Int.toNat (List.length y4.2.1 : Int)) y4.2.1)), ())))
else none)
else none)
else none)
else
(E3 ((y4.1.1, (y4.1.2.1, (y4.1.2.2.1, (y4.1.2.2.2.1, (y4.1.2.2.2.2.1, (y4.1.2.2.2.2.2.1, (y4.1.2.2.2.2.2.2.1, (y4.1.2.2.2.2.2.2.2.1, (y4.1.2.2.2.2.2.2.2.2.1, ()))))))))), (y4.2.1, ()))))
else none)
else
(E3 ((y4.1.1, (y4.1.2.1, (y4.1.2.2.1, (y4.1.2.2.2.1, (y4.1.2.2.2.2.1, (y4.1.2.2.2.2.2.1, (y4.1.2.2.2.2.2.2.1, (y4.1.2.2.2.2.2.2.2.1, (y4.1.2.2.2.2.2.2.2.2.1, ()))))))))), (y4.2.1, ()))))) k ((z2.1.1, (z2.1.2.1, (z2.1.2.2.1, (z2.1.2.2.2.1, (z2.1.2.2.2.2.1, (z2.1.2.2.2.2.2.1, (z2.1.2.2.2.2.2.2.1, (z2.1.2.2.2.2.2.2.2.1, (z2.1.2.2.2.2.2.2.2.2.1, ()))))))))), (z2.2.1, ())))))) ((y2.1.1, (y2.1.2.1, (y2.1.2.2.1, (y2.1.2.2.2.1, (y2.1.2.2.2.2.1, (y2.1.2.2.2.2.2.1, (y2.1.2.2.2.2.2.2.1, (y2.1.2.2.2.2.2.2.2.1, (y2.1.2.2.2.2.2.2.2.2.1, ()))))))))), (y2.2.2.1, ()))))) k ((z1.1.1, (z1.1.2.1, (z1.1.2.2.1, (z1.1.2.2.2.1, (z1.1.2.2.2.2.1, (z1.1.2.2.2.2.2.1, (z1.1.2.2.2.2.2.2.1, (z1.1.2.2.2.2.2.2.2.1, (z1.1.2.2.2.2.2.2.2.2.1, ()))))))))), (z1.2.1, ((z1.2.2.2.1 ++ ([(z1.2.1, z1.2.2.1)] : List (Int × ByteArray))), ((0 : Int), ())))))
else none)) ((y0.1.1, (y0.1.2.1, (y0.1.2.2.1, (y0.1.2.2.2.1, (y0.1.2.2.2.2.1, (y0.1.2.2.2.2.2.1, (y0.1.2.2.2.2.2.2.1, (y0.1.2.2.2.2.2.2.2.1, (y0.1.2.2.2.2.2.2.2.2.1, ()))))))))), (y0.2.1, (y0.2.2.1, (y0.2.2.2.1, ()))))))) k ((x.1.1, (x.1.2.1, (x.1.2.2.1, (x.1.2.2.2.1, (x.1.2.2.2.2.1, (x.1.2.2.2.2.2.1, (x.1.2.2.2.2.2.2.1, (x.1.2.2.2.2.2.2.2.1, (x.1.2.2.2.2.2.2.2.2.1, ()))))))))), (x.2.1, (x.2.2.1, (([] : List (Int × ByteArray)), ((0 : Int), ()))))))
abbrev E_s_l13Put (k : Nat) : Entry := ⟨173, 0, (.cons (.ptr 0 yP4) yP18), (.tup .nil), s_l13Put k⟩
theorem t_s_l13Put (k : Nat) (x) : evF TTab k [] [(0, ⟨[0, 1, 2, 6, 7], (.cons (.ptr 0 yP4) (.cons (.int .i64) (.cons .str (.cons (.own false 131 yT11) yP8))))⟩, ⟨[0, 1, 2, 6], (.cons (.ptr 0 yP4) (.cons (.int .i64) (.cons .str (.cons (.own false 131 yT11) .nil))))⟩), (2, ⟨[0, 1, 6, 8], (.cons (.ptr 0 yP4) (.cons (.int .i64) (.cons (.own false 131 yT11) yP8)))⟩, ⟨[0, 6], (.cons (.ptr 0 yP4) (.cons (.own false 131 yT11) .nil))⟩), (4, ⟨[0, 6], (.cons (.ptr 0 yP4) (.cons (.own false 131 yT11) .nil))⟩, ⟨[0, 6], (.cons (.ptr 0 yP4) (.cons (.own false 131 yT11) .nil))⟩)] Try.f173 (.cons (.ptr 0 yP4) yP18) (.tup .nil) x = s_l13Put k x := by kernel_rfl
theorem e_s_l13Put [Names] (k : Nat) : EntryOk Try.prog (E_s_l13Put k) := entry_ok tok es_nil (by kernel_rfl) (by kernel_rfl) (by kernel_rfl) fun x r h => (t_s_l13Put k x).trans h
def s_Take (k : Nat) (x : (Int × Int × Int × List (ByteArray) × (List (Int × ByteArray × Int × Int)) × Int × (List (Int × ByteArray)) × List (Int) × List (ByteArray) × Unit) × (Int × Int × Int × Int × Int × List (Int) × ByteArray × Unit) × Unit) : Option (((Int × Int × Int × List (ByteArray) × (List (Int × ByteArray × Int × Int)) × Int × (List (Int × ByteArray)) × List (Int) × List (ByteArray) × Unit) × Bool × Unit) × Unit × Unit × Unit) :=
((s_l13Copy k ((x.1.1, (x.1.2.1, (x.1.2.2.1, (x.1.2.2.2.1, (x.1.2.2.2.2.1, (x.1.2.2.2.2.2.1, (x.1.2.2.2.2.2.2.1, (x.1.2.2.2.2.2.2.2.1, (x.1.2.2.2.2.2.2.2.2.1, ()))))))))), ())).bind fun p1 =>
((s_ChanOk k ((x.1.1, (x.1.2.1, (x.1.2.2.1, (x.1.2.2.2.1, (x.1.2.2.2.2.1, (x.1.2.2.2.2.2.1, (x.1.2.2.2.2.2.2.1, (x.1.2.2.2.2.2.2.2.1, (x.1.2.2.2.2.2.2.2.2.1, ()))))))))), ())).bind fun p2 =>
(if (!p2.1) = false then
((s_PacketOk k ((x.2.1.1, (x.2.1.2.1, (x.2.1.2.2.1, (x.2.1.2.2.2.1, (x.2.1.2.2.2.2.1, (x.2.1.2.2.2.2.2.1, (x.2.1.2.2.2.2.2.2.1, ()))))))), ())).bind fun p3 =>
(if (!p3.1) = false then
(if (decide (x.2.1.1 = (3 : Int))) = false then
(if (!decide (x.2.1.2.2.1 = x.1.2.1)) = false then
(if (!decide (x.2.1.2.2.2.1 = x.1.1)) = true then
some (((p1.1.1, (p1.1.2.1, (p1.1.2.2.1, (p1.1.2.2.2.1, (p1.1.2.2.2.2.1, (p1.1.2.2.2.2.2.1, (p1.1.2.2.2.2.2.2.1, (p1.1.2.2.2.2.2.2.2.1, (p1.1.2.2.2.2.2.2.2.2.1, ()))))))))), (false, ())), ((), ((), ())))
else
(jn (
(whileK (fun (rec0 : ((Int × Int × Int × List (ByteArray) × (List (Int × ByteArray × Int × Int)) × Int × (List (Int × ByteArray)) × List (Int) × List (ByteArray) × Unit) × (Int × Int × Int × Int × Int × List (Int) × ByteArray × Unit) × (Int × Int × Int × List (ByteArray) × (List (Int × ByteArray × Int × Int)) × Int × (List (Int × ByteArray)) × List (Int) × List (ByteArray) × Unit) × (Int × Int × Int × List (ByteArray) × (List (Int × ByteArray × Int × Int)) × Int × (List (Int × ByteArray)) × List (Int) × List (ByteArray) × Unit) × (List (Int × ByteArray × Int × Int)) × Int × Unit) → Option _) (y0 : (Int × Int × Int × List (ByteArray) × (List (Int × ByteArray × Int × Int)) × Int × (List (Int × ByteArray)) × List (Int) × List (ByteArray) × Unit) × (Int × Int × Int × Int × Int × List (Int) × ByteArray × Unit) × (Int × Int × Int × List (ByteArray) × (List (Int × ByteArray × Int × Int)) × Int × (List (Int × ByteArray)) × List (Int) × List (ByteArray) × Unit) × (Int × Int × Int × List (ByteArray) × (List (Int × ByteArray × Int × Int)) × Int × (List (Int × ByteArray)) × List (Int) × List (ByteArray) × Unit) × (List (Int × ByteArray × Int × Int)) × Int × Unit) =>
(if (decide (y0.2.2.2.2.2.1 < (List.length y0.2.2.2.1.2.2.2.2.1 : Int))) = true then
(if 0 ≤ y0.2.2.2.2.2.1 ∧ y0.2.2.2.2.2.1 < (List.length y0.2.2.2.1.2.2.2.2.1 : Int) then
((s_l13In k (y0.2.1.2.2.2.2.2.1, ((Ty.rd (t := yT3) y0.2.2.2.1.2.2.2.2.1 y0.2.2.2.2.2.1).1, ()))).bind fun p10 =>
(if (!p10.1) = true then
(if 0 ≤ y0.2.2.2.2.2.1 ∧ y0.2.2.2.2.2.1 < (List.length y0.2.2.2.1.2.2.2.2.1 : Int) then
(if List.length y0.2.2.2.2.1 + List.length ([((Ty.rd (t := yT3) y0.2.2.2.1.2.2.2.2.1 y0.2.2.2.2.2.1).1, ((Ty.rd (t := yT3) y0.2.2.2.1.2.2.2.2.1 y0.2.2.2.2.2.1).2.1, ((Ty.rd (t := yT3) y0.2.2.2.1.2.2.2.2.1 y0.2.2.2.2.2.1).2.2.1, (Ty.rd (t := yT3) y0.2.2.2.1.2.2.2.2.1 y0.2.2.2.2.2.1).2.2.2)))] : List (Int × ByteArray × Int × Int)) ≤ capMax then
(rec0 ((y0.1.1, (y0.1.2.1, (y0.1.2.2.1, (y0.1.2.2.2.1, (y0.1.2.2.2.2.1, (y0.1.2.2.2.2.2.1, (y0.1.2.2.2.2.2.2.1, (y0.1.2.2.2.2.2.2.2.1, (y0.1.2.2.2.2.2.2.2.2.1, ()))))))))), ((y0.2.1.1, (y0.2.1.2.1, (y0.2.1.2.2.1, (y0.2.1.2.2.2.1, (y0.2.1.2.2.2.2.1, (y0.2.1.2.2.2.2.2.1, (y0.2.1.2.2.2.2.2.2.1, ()))))))), ((y0.2.2.1.1, (y0.2.2.1.2.1, (y0.2.2.1.2.2.1, (y0.2.2.1.2.2.2.1, (y0.2.2.1.2.2.2.2.1, (y0.2.2.1.2.2.2.2.2.1, (y0.2.2.1.2.2.2.2.2.2.1, (y0.2.2.1.2.2.2.2.2.2.2.1, (y0.2.2.1.2.2.2.2.2.2.2.2.1, ()))))))))), ((y0.2.2.2.1.1, (y0.2.2.2.1.2.1, (y0.2.2.2.1.2.2.1, (y0.2.2.2.1.2.2.2.1, (y0.2.2.2.1.2.2.2.2.1, (y0.2.2.2.1.2.2.2.2.2.1, (y0.2.2.2.1.2.2.2.2.2.2.1, (y0.2.2.2.1.2.2.2.2.2.2.2.1, (y0.2.2.2.1.2.2.2.2.2.2.2.2.1, ()))))))))), ((y0.2.2.2.2.1 ++ ([((Ty.rd (t := yT3) y0.2.2.2.1.2.2.2.2.1 y0.2.2.2.2.2.1).1, ((Ty.rd (t := yT3) y0.2.2.2.1.2.2.2.2.1 y0.2.2.2.2.2.1).2.1, ((Ty.rd (t := yT3) y0.2.2.2.1.2.2.2.2.1 y0.2.2.2.2.2.1).2.2.1, (Ty.rd (t := yT3) y0.2.2.2.1.2.2.2.2.1 y0.2.2.2.2.2.1).2.2.2)))] : List (Int × ByteArray × Int × Int))), ((wi64 (y0.2.2.2.2.2.1 + (1 : Int))), ())))))))
else none)
else none)
else
(rec0 ((y0.1.1, (y0.1.2.1, (y0.1.2.2.1, (y0.1.2.2.2.1, (y0.1.2.2.2.2.1, (y0.1.2.2.2.2.2.1, (y0.1.2.2.2.2.2.2.1, (y0.1.2.2.2.2.2.2.2.1, (y0.1.2.2.2.2.2.2.2.2.1, ()))))))))), ((y0.2.1.1, (y0.2.1.2.1, (y0.2.1.2.2.1, (y0.2.1.2.2.2.1, (y0.2.1.2.2.2.2.1, (y0.2.1.2.2.2.2.2.1, (y0.2.1.2.2.2.2.2.2.1, ()))))))), ((y0.2.2.1.1, (y0.2.2.1.2.1, (y0.2.2.1.2.2.1, (y0.2.2.1.2.2.2.1, (y0.2.2.1.2.2.2.2.1, (y0.2.2.1.2.2.2.2.2.1, (y0.2.2.1.2.2.2.2.2.2.1, (y0.2.2.1.2.2.2.2.2.2.2.1, (y0.2.2.1.2.2.2.2.2.2.2.2.1, ()))))))))), ((y0.2.2.2.1.1, (y0.2.2.2.1.2.1, (y0.2.2.2.1.2.2.1, (y0.2.2.2.1.2.2.2.1, (y0.2.2.2.1.2.2.2.2.1, (y0.2.2.2.1.2.2.2.2.2.1, (y0.2.2.2.1.2.2.2.2.2.2.1, (y0.2.2.2.1.2.2.2.2.2.2.2.1, (y0.2.2.2.1.2.2.2.2.2.2.2.2.1, ()))))))))), (y0.2.2.2.2.1, ((wi64 (y0.2.2.2.2.2.1 + (1 : Int))), ())))))))))
else none)
else
((fun (z2 : (Int × Int × Int × List (ByteArray) × (List (Int × ByteArray × Int × Int)) × Int × (List (Int × ByteArray)) × List (Int) × List (ByteArray) × Unit) × (Int × Int × Int × Int × Int × List (Int) × ByteArray × Unit) × (Int × Int × Int × List (ByteArray) × (List (Int × ByteArray × Int × Int)) × Int × (List (Int × ByteArray)) × List (Int) × List (ByteArray) × Unit) × (Int × Int × Int × List (ByteArray) × (List (Int × ByteArray × Int × Int)) × Int × (List (Int × ByteArray)) × List (Int) × List (ByteArray) × Unit) × (List (Int × ByteArray × Int × Int)) × Unit) =>
(if (decide (z2.2.1.1 = (2 : Int))) = true then
some (((z2.2.2.2.1.1, (z2.2.2.2.1.2.1, (z2.2.2.2.1.2.2.1, (z2.2.2.2.1.2.2.2.1, (z2.2.2.2.2.1, (z2.2.2.2.1.2.2.2.2.2.1, (z2.2.2.2.1.2.2.2.2.2.2.1, (z2.2.2.2.1.2.2.2.2.2.2.2.1, (z2.2.2.2.1.2.2.2.2.2.2.2.2.1, ()))))))))), (true, ())), ((), ((), ())))
else
(jn (
(if (decide (z2.1.2.2.2.2.2.1 < z2.2.1.2.2.2.2.1)) = true then
((s_l13Put k ((z2.2.2.2.1.1, (z2.2.2.2.1.2.1, (z2.2.2.2.1.2.2.1, (z2.2.2.2.1.2.2.2.1, (z2.2.2.2.2.1, (z2.2.2.2.1.2.2.2.2.2.1, (z2.2.2.2.1.2.2.2.2.2.2.1, (z2.2.2.2.1.2.2.2.2.2.2.2.1, (z2.2.2.2.1.2.2.2.2.2.2.2.2.1, ()))))))))), (z2.2.1.2.2.2.2.1, (z2.2.1.2.2.2.2.2.2.1, ())))).bind fun p14 =>
some (((p14.2.1.1, (p14.2.1.2.1, (p14.2.1.2.2.1, (p14.2.1.2.2.2.1, (p14.2.1.2.2.2.2.1, (p14.2.1.2.2.2.2.2.1, (p14.2.1.2.2.2.2.2.2.1, (p14.2.1.2.2.2.2.2.2.2.1, (p14.2.1.2.2.2.2.2.2.2.2.1, ()))))))))), (true, ())), ((), ((), ()))))
else
some (((z2.2.2.2.1.1, (z2.2.2.2.1.2.1, (z2.2.2.2.1.2.2.1, (z2.2.2.2.1.2.2.2.1, (z2.2.2.2.2.1, (z2.2.2.2.1.2.2.2.2.2.1, (z2.2.2.2.1.2.2.2.2.2.2.1, (z2.2.2.2.1.2.2.2.2.2.2.2.1, (z2.2.2.2.1.2.2.2.2.2.2.2.2.1, ()))))))))), (true, ())), ((), ((), ()))))) (fun (j3 : Option _) =>
(if (decide ((List.length z2.2.2.2.1.2.2.2.2.2.2.2.1 : Int) < (4 : Int))) = true then
((s_l13In k (z2.2.2.2.1.2.2.2.2.2.2.2.1, (z2.2.1.2.2.2.2.1, ()))).bind fun p11 =>
(if (!p11.1) = true then
(if List.length z2.2.2.2.1.2.2.2.2.2.2.2.1 + List.length ([z2.2.1.2.2.2.2.1] : List (Int)) ≤ capMax then
(if (decide (z2.1.2.2.2.2.2.1 < z2.2.1.2.2.2.2.1)) = true then
((s_l13Put k ((z2.2.2.2.1.1, (z2.2.2.2.1.2.1, (z2.2.2.2.1.2.2.1, (z2.2.2.2.1.2.2.2.1, (z2.2.2.2.2.1, (z2.2.2.2.1.2.2.2.2.2.1, (z2.2.2.2.1.2.2.2.2.2.2.1, ((z2.2.2.2.1.2.2.2.2.2.2.2.1 ++ ([z2.2.1.2.2.2.2.1] : List (Int))), (z2.2.2.2.1.2.2.2.2.2.2.2.2.1, ()))))))))), (z2.2.1.2.2.2.2.1, (z2.2.1.2.2.2.2.2.2.1, ())))).bind fun p12 =>
some (((p12.2.1.1, (p12.2.1.2.1, (p12.2.1.2.2.1, (p12.2.1.2.2.2.1, (p12.2.1.2.2.2.2.1, (p12.2.1.2.2.2.2.2.1, (p12.2.1.2.2.2.2.2.2.1, (p12.2.1.2.2.2.2.2.2.2.1, (p12.2.1.2.2.2.2.2.2.2.2.1, ()))))))))), (true, ())), ((), ((), ()))))
else
some (((z2.2.2.2.1.1, (z2.2.2.2.1.2.1, (z2.2.2.2.1.2.2.1, (z2.2.2.2.1.2.2.2.1, (z2.2.2.2.2.1, (z2.2.2.2.1.2.2.2.2.2.1, (z2.2.2.2.1.2.2.2.2.2.2.1, ((z2.2.2.2.1.2.2.2.2.2.2.2.1 ++ ([z2.2.1.2.2.2.2.1] : List (Int))), (z2.2.2.2.1.2.2.2.2.2.2.2.2.1, ()))))))))), (true, ())), ((), ((), ()))))
else none)
else
j3))
else
j3))))) ((y0.1.1, (y0.1.2.1, (y0.1.2.2.1, (y0.1.2.2.2.1, (y0.1.2.2.2.2.1, (y0.1.2.2.2.2.2.1, (y0.1.2.2.2.2.2.2.1, (y0.1.2.2.2.2.2.2.2.1, (y0.1.2.2.2.2.2.2.2.2.1, ()))))))))), ((y0.2.1.1, (y0.2.1.2.1, (y0.2.1.2.2.1, (y0.2.1.2.2.2.1, (y0.2.1.2.2.2.2.1, (y0.2.1.2.2.2.2.2.1, (y0.2.1.2.2.2.2.2.2.1, ()))))))), ((y0.2.2.1.1, (y0.2.2.1.2.1, (y0.2.2.1.2.2.1, (y0.2.2.1.2.2.2.1, (y0.2.2.1.2.2.2.2.1, (y0.2.2.1.2.2.2.2.2.1, (y0.2.2.1.2.2.2.2.2.2.1, (y0.2.2.1.2.2.2.2.2.2.2.1, (y0.2.2.1.2.2.2.2.2.2.2.2.1, ()))))))))), ((y0.2.2.2.1.1, (y0.2.2.2.1.2.1, (y0.2.2.2.1.2.2.1, (y0.2.2.2.1.2.2.2.1, (y0.2.2.2.1.2.2.2.2.1, (y0.2.2.2.1.2.2.2.2.2.1, (y0.2.2.2.1.2.2.2.2.2.2.1, (y0.2.2.2.1.2.2.2.2.2.2.2.1, (y0.2.2.2.1.2.2.2.2.2.2.2.2.1, ()))))))))), (y0.2.2.2.2.1, ())))))))) k ((x.1.1, (x.1.2.1, (x.1.2.2.1, (x.1.2.2.2.1, (x.1.2.2.2.2.1, (x.1.2.2.2.2.2.1, (x.1.2.2.2.2.2.2.1, (x.1.2.2.2.2.2.2.2.1, (x.1.2.2.2.2.2.2.2.2.1, ()))))))))), ((x.2.1.1, (x.2.1.2.1, (x.2.1.2.2.1, (x.2.1.2.2.2.1, (x.2.1.2.2.2.2.1, (x.2.1.2.2.2.2.2.1, (x.2.1.2.2.2.2.2.2.1, ()))))))), (((0 : Int), ((0 : Int), ((0 : Int), ([], ([], ((0 : Int), ([], ([], ([], ()))))))))), ((p1.1.1, (p1.1.2.1, (p1.1.2.2.1, (p1.1.2.2.2.1, (p1.1.2.2.2.2.1, (p1.1.2.2.2.2.2.1, (p1.1.2.2.2.2.2.2.1, (p1.1.2.2.2.2.2.2.2.1, (p1.1.2.2.2.2.2.2.2.2.1, ()))))))))), (([] : List (Int × ByteArray × Int × Int)), ((0 : Int), ())))))))) (fun (j2 : Option _) =>
(if (decide (x.2.1.1 = (1 : Int))) = true then
((s_l01In k (x.2.1.2.2.2.2.1, ((1 : Int), ((wi64 (x.1.2.2.2.2.2.1 + (4 : Int))), ())))).bind fun p4 =>
(if (!p4.1) = false then
(if (decide ((990 : Int) < x.1.2.2.2.2.2.1)) = true then
some (((p1.1.1, (p1.1.2.1, (p1.1.2.2.1, (p1.1.2.2.2.1, (p1.1.2.2.2.2.1, (p1.1.2.2.2.2.2.1, (p1.1.2.2.2.2.2.2.1, (p1.1.2.2.2.2.2.2.2.1, (p1.1.2.2.2.2.2.2.2.2.1, ()))))))))), (false, ())), ((), ((), ())))
else
j2)
else
some (((p1.1.1, (p1.1.2.1, (p1.1.2.2.1, (p1.1.2.2.2.1, (p1.1.2.2.2.2.1, (p1.1.2.2.2.2.2.1, (p1.1.2.2.2.2.2.2.1, (p1.1.2.2.2.2.2.2.2.1, (p1.1.2.2.2.2.2.2.2.2.1, ()))))))))), (false, ())), ((), ((), ())))))
else
(if (decide ((990 : Int) < x.1.2.2.2.2.2.1)) = true then
some (((p1.1.1, (p1.1.2.1, (p1.1.2.2.1, (p1.1.2.2.2.1, (p1.1.2.2.2.2.1, (p1.1.2.2.2.2.2.1, (p1.1.2.2.2.2.2.2.1, (p1.1.2.2.2.2.2.2.2.1, (p1.1.2.2.2.2.2.2.2.2.1, ()))))))))), (false, ())), ((), ((), ())))
else
j2)))))
else
some (((p1.1.1, (p1.1.2.1, (p1.1.2.2.1, (p1.1.2.2.2.1, (p1.1.2.2.2.2.1, (p1.1.2.2.2.2.2.1, (p1.1.2.2.2.2.2.2.1, (p1.1.2.2.2.2.2.2.2.1, (p1.1.2.2.2.2.2.2.2.2.1, ()))))))))), (false, ())), ((), ((), ()))))
else
some (((p1.1.1, (p1.1.2.1, (p1.1.2.2.1, (p1.1.2.2.2.1, (p1.1.2.2.2.2.1, (p1.1.2.2.2.2.2.1, (p1.1.2.2.2.2.2.2.1, (p1.1.2.2.2.2.2.2.2.1, (p1.1.2.2.2.2.2.2.2.2.1, ()))))))))), (false, ())), ((), ((), ()))))
else
some (((p1.1.1, (p1.1.2.1, (p1.1.2.2.1, (p1.1.2.2.2.1, (p1.1.2.2.2.2.1, (p1.1.2.2.2.2.2.1, (p1.1.2.2.2.2.2.2.1, (p1.1.2.2.2.2.2.2.2.1, (p1.1.2.2.2.2.2.2.2.2.1, ()))))))))), (false, ())), ((), ((), ())))))
else
some (((p1.1.1, (p1.1.2.1, (p1.1.2.2.1, (p1.1.2.2.2.1, (p1.1.2.2.2.2.1, (p1.1.2.2.2.2.2.1, (p1.1.2.2.2.2.2.2.1, (p1.1.2.2.2.2.2.2.2.1, (p1.1.2.2.2.2.2.2.2.2.1, ()))))))))), (false, ())), ((), ((), ()))))))
abbrev E_s_Take (k : Nat) : Entry := ⟨147, 0, (.cons (.agg yP6) (.cons (.agg yP7) .nil)), (.tup (.cons (.agg yP4) (.cons .bool .nil))), s_Take k⟩
theorem t_s_Take (k : Nat) (x) : evF TTab k [E_s_l01In k, E_s_l13Copy k, E_s_ChanOk k, E_s_PacketOk k, E_s_l13In k, E_s_l13Put k] [(0, ⟨[2, 3, 4, 6, 7, 8], (.cons (.ptr 0 yP6) (.cons (.ptr 0 yP7) (.cons (.ptr 0 yP4) (.cons (.ptr 0 yP4) (.cons (.own false 129 yT3) yP8)))))⟩, ⟨[2, 3, 4, 6, 7], (.cons (.ptr 0 yP6) (.cons (.ptr 0 yP7) (.cons (.ptr 0 yP4) (.cons (.ptr 0 yP4) (.cons (.own false 129 yT3) .nil)))))⟩)] Try.f147 (.cons (.agg yP6) (.cons (.agg yP7) .nil)) (.tup (.cons (.agg yP4) (.cons .bool .nil))) x = s_Take k x := by kernel_rfl
theorem e_s_Take [Names] (k : Nat) : EntryOk Try.prog (E_s_Take k) := entry_ok tok (es_cons (e_s_l01In k) (es_cons (e_s_l13Copy k) (es_cons (e_s_ChanOk k) (es_cons (e_s_PacketOk k) (es_cons (e_s_l13In k) (es_cons (e_s_l13Put k) es_nil)))))) (by kernel_rfl) (by kernel_rfl) (by kernel_rfl) fun x r h => (t_s_Take k x).trans h
def s_l14Deliver (k : Nat) (x : ((List (Int × Int × Int × List (ByteArray) × List (Int × ByteArray × Int × Int) × Int × List (Int × ByteArray) × List (Int) × List (ByteArray))) × Int × (List (Int × Int × Int × Int × Int × List (Int) × ByteArray)) × Unit) × (Int × Int × Int × Int × Int × List (Int) × ByteArray × Unit) × Unit) : Option (Unit × ((List (Int × Int × Int × List (ByteArray) × List (Int × ByteArray × Int × Int) × Int × List (Int × ByteArray) × List (Int) × List (ByteArray))) × Int × (List (Int × Int × Int × Int × Int × List (Int) × ByteArray)) × Unit) × Unit × Unit) :=
(if List.length ([] : List (Int × Int × Int × List (ByteArray) × List (Int × ByteArray × Int × Int) × Int × List (Int × ByteArray) × List (Int) × List (ByteArray))) + List.length x.1.1 ≤ capMax then
(whileK (fun (rec0 : (((List (Int × Int × Int × List (ByteArray) × List (Int × ByteArray × Int × Int) × Int × List (Int × ByteArray) × List (Int) × List (ByteArray))) × Int × (List (Int × Int × Int × Int × Int × List (Int) × ByteArray)) × Unit) × (Int × Int × Int × Int × Int × List (Int) × ByteArray × Unit) × (List (Int × Int × Int × List (ByteArray) × List (Int × ByteArray × Int × Int) × Int × List (Int × ByteArray) × List (Int) × List (ByteArray))) × Int × Unit) → Option _) (y0 : ((List (Int × Int × Int × List (ByteArray) × List (Int × ByteArray × Int × Int) × Int × List (Int × ByteArray) × List (Int) × List (ByteArray))) × Int × (List (Int × Int × Int × Int × Int × List (Int) × ByteArray)) × Unit) × (Int × Int × Int × Int × Int × List (Int) × ByteArray × Unit) × (List (Int × Int × Int × List (ByteArray) × List (Int × ByteArray × Int × Int) × Int × List (Int × ByteArray) × List (Int) × List (ByteArray))) × Int × Unit) =>
(if (decide (y0.2.2.2.1 < (List.length y0.2.2.1 : Int))) = true then
(if 0 ≤ y0.2.2.2.1 ∧ y0.2.2.2.1 < (List.length y0.2.2.1 : Int) then
(if (decide ((Ty.rd (t := yT0) y0.2.2.1 y0.2.2.2.1).1 = y0.2.1.2.2.2.1)) = true then
(if 0 ≤ y0.2.2.2.1 ∧ y0.2.2.2.1 < (List.length y0.2.2.1 : Int) then
((s_Take k (((Ty.rd (t := yT0) y0.2.2.1 y0.2.2.2.1).1, ((Ty.rd (t := yT0) y0.2.2.1 y0.2.2.2.1).2.1, ((Ty.rd (t := yT0) y0.2.2.1 y0.2.2.2.1).2.2.1, ((Ty.rd (t := yT0) y0.2.2.1 y0.2.2.2.1).2.2.2.1, ((Ty.rd (t := yT0) y0.2.2.1 y0.2.2.2.1).2.2.2.2.1, ((Ty.rd (t := yT0) y0.2.2.1 y0.2.2.2.1).2.2.2.2.2.1, ((Ty.rd (t := yT0) y0.2.2.1 y0.2.2.2.1).2.2.2.2.2.2.1, ((Ty.rd (t := yT0) y0.2.2.1 y0.2.2.2.1).2.2.2.2.2.2.2.1, ((Ty.rd (t := yT0) y0.2.2.1 y0.2.2.2.1).2.2.2.2.2.2.2.2, ()))))))))), ((y0.2.1.1, (y0.2.1.2.1, (y0.2.1.2.2.1, (y0.2.1.2.2.2.1, (y0.2.1.2.2.2.2.1, (y0.2.1.2.2.2.2.2.1, (y0.2.1.2.2.2.2.2.2.1, ()))))))), ()))).bind fun p1 =>
(if 0 ≤ y0.2.2.2.1 ∧ y0.2.2.2.1 < (List.length y0.2.2.1 : Int) then
(rec0 ((y0.1.1, (y0.1.2.1, (y0.1.2.2.1, ()))), ((y0.2.1.1, (y0.2.1.2.1, (y0.2.1.2.2.1, (y0.2.1.2.2.2.1, (y0.2.1.2.2.2.2.1, (y0.2.1.2.2.2.2.2.1, (y0.2.1.2.2.2.2.2.2.1, ()))))))), ((List.set y0.2.2.1 (Int.toNat y0.2.2.2.1) (p1.1.1.1, (p1.1.1.2.1, (p1.1.1.2.2.1, (p1.1.1.2.2.2.1, (p1.1.1.2.2.2.2.1, (p1.1.1.2.2.2.2.2.1, (p1.1.1.2.2.2.2.2.2.1, (p1.1.1.2.2.2.2.2.2.2.1, p1.1.1.2.2.2.2.2.2.2.2.1))))))))), ((wi64 (y0.2.2.2.1 + (1 : Int))), ())))))
else none))
else none)
else
(rec0 ((y0.1.1, (y0.1.2.1, (y0.1.2.2.1, ()))), ((y0.2.1.1, (y0.2.1.2.1, (y0.2.1.2.2.1, (y0.2.1.2.2.2.1, (y0.2.1.2.2.2.2.1, (y0.2.1.2.2.2.2.2.1, (y0.2.1.2.2.2.2.2.2.1, ()))))))), (y0.2.2.1, ((wi64 (y0.2.2.2.1 + (1 : Int))), ()))))))
else none)
else
((fun (z1 : ((List (Int × Int × Int × List (ByteArray) × List (Int × ByteArray × Int × Int) × Int × List (Int × ByteArray) × List (Int) × List (ByteArray))) × Int × (List (Int × Int × Int × Int × Int × List (Int) × ByteArray)) × Unit) × (List (Int × Int × Int × List (ByteArray) × List (Int × ByteArray × Int × Int) × Int × List (Int × ByteArray) × List (Int) × List (ByteArray))) × Unit) =>
some ((), ((z1.2.1, (z1.1.2.1, (z1.1.2.2.1, ()))), ((), ())))) ((y0.1.1, (y0.1.2.1, (y0.1.2.2.1, ()))), (y0.2.2.1, ()))))) k ((x.1.1, (x.1.2.1, (x.1.2.2.1, ()))), ((x.2.1.1, (x.2.1.2.1, (x.2.1.2.2.1, (x.2.1.2.2.2.1, (x.2.1.2.2.2.2.1, (x.2.1.2.2.2.2.2.1, (x.2.1.2.2.2.2.2.2.1, ()))))))), ((([] : List (Int × Int × Int × List (ByteArray) × List (Int × ByteArray × Int × Int) × Int × List (Int × ByteArray) × List (Int) × List (ByteArray))) ++ x.1.1), ((0 : Int), ())))))
else none)
abbrev E_s_l14Deliver (k : Nat) : Entry := ⟨108, 0, (.cons (.ptr 0 yP12) (.cons (.agg yP7) .nil)), (.tup .nil), s_l14Deliver k⟩
theorem t_s_l14Deliver (k : Nat) (x) : evF TTab k [E_s_Take k] [(0, ⟨[0, 3, 4, 5], (.cons (.ptr 0 yP12) (.cons (.ptr 0 yP7) (.cons (.own false 68 yT0) yP8)))⟩, ⟨[0, 4], (.cons (.ptr 0 yP12) (.cons (.own false 68 yT0) .nil))⟩)] Try.f108 (.cons (.ptr 0 yP12) (.cons (.agg yP7) .nil)) (.tup .nil) x = s_l14Deliver k x := by kernel_rfl
theorem e_s_l14Deliver [Names] (k : Nat) : EntryOk Try.prog (E_s_l14Deliver k) := entry_ok tok (es_cons (e_s_Take k) es_nil) (by kernel_rfl) (by kernel_rfl) (by kernel_rfl) fun x r h => (t_s_l14Deliver k x).trans h
def s_l12CopyPackets (k : Nat) (x : (List (Int × Int × Int × Int × Int × List (Int) × ByteArray)) × Unit) : Option ((List (Int × Int × Int × Int × Int × List (Int) × ByteArray)) × Unit × Unit) :=
(whileK (fun (rec0 : ((List (Int × Int × Int × Int × Int × List (Int) × ByteArray)) × (List (Int × Int × Int × Int × Int × List (Int) × ByteArray)) × Int × Unit) → Option _) (y0 : (List (Int × Int × Int × Int × Int × List (Int) × ByteArray)) × (List (Int × Int × Int × Int × Int × List (Int) × ByteArray)) × Int × Unit) =>
(if (decide (y0.2.2.1 < (List.length y0.1 : Int))) = true then
(if 0 ≤ y0.2.2.1 ∧ y0.2.2.1 < (List.length y0.1 : Int) then
(if List.length ([] : List (Int)) + List.length (Ty.rd (t := yT2) y0.1 y0.2.2.1).2.2.2.2.2.1 ≤ capMax then
(if List.length y0.2.1 + List.length ([((Ty.rd (t := yT2) y0.1 y0.2.2.1).1, ((Ty.rd (t := yT2) y0.1 y0.2.2.1).2.1, ((Ty.rd (t := yT2) y0.1 y0.2.2.1).2.2.1, ((Ty.rd (t := yT2) y0.1 y0.2.2.1).2.2.2.1, ((Ty.rd (t := yT2) y0.1 y0.2.2.1).2.2.2.2.1, ((([] : List (Int)) ++ (Ty.rd (t := yT2) y0.1 y0.2.2.1).2.2.2.2.2.1), (Ty.rd (t := yT2) y0.1 y0.2.2.1).2.2.2.2.2.2))))))] : List (Int × Int × Int × Int × Int × List (Int) × ByteArray)) ≤ capMax then
(rec0 (y0.1, ((y0.2.1 ++ ([((Ty.rd (t := yT2) y0.1 y0.2.2.1).1, ((Ty.rd (t := yT2) y0.1 y0.2.2.1).2.1, ((Ty.rd (t := yT2) y0.1 y0.2.2.1).2.2.1, ((Ty.rd (t := yT2) y0.1 y0.2.2.1).2.2.2.1, ((Ty.rd (t := yT2) y0.1 y0.2.2.1).2.2.2.2.1, ((([] : List (Int)) ++ (Ty.rd (t := yT2) y0.1 y0.2.2.1).2.2.2.2.2.1), (Ty.rd (t := yT2) y0.1 y0.2.2.1).2.2.2.2.2.2))))))] : List (Int × Int × Int × Int × Int × List (Int) × ByteArray))), ((wi64 (y0.2.2.1 + (1 : Int))), ()))))
else none)
else none)
else none)
else
((fun (z1 : (List (Int × Int × Int × Int × Int × List (Int) × ByteArray)) × Unit) =>
some (z1.1, ((), ()))) (y0.2.1, ())))) k (x.1, (([] : List (Int × Int × Int × Int × Int × List (Int) × ByteArray)), ((0 : Int), ()))))
abbrev E_s_l12CopyPackets (k : Nat) : Entry := ⟨134, 0, (.cons (.il true yT2) .nil), (.own false 122 yT2), s_l12CopyPackets k⟩
theorem t_s_l12CopyPackets (k : Nat) (x) : evF TTab k [] [(0, ⟨[0, 3, 4], (.cons (.il true yT2) (.cons (.own false 122 yT2) yP8))⟩, ⟨[3], (.cons (.own false 122 yT2) .nil)⟩)] Try.f134 (.cons (.il true yT2) .nil) (.own false 122 yT2) x = s_l12CopyPackets k x := by kernel_rfl
theorem e_s_l12CopyPackets [Names] (k : Nat) : EntryOk Try.prog (E_s_l12CopyPackets k) := entry_ok tok es_nil (by kernel_rfl) (by kernel_rfl) (by kernel_rfl) fun x r h => (t_s_l12CopyPackets k x).trans h
def s_l14Copy (k : Nat) (x : ((List (Int × Int × Int × List (ByteArray) × List (Int × ByteArray × Int × Int) × Int × List (Int × ByteArray) × List (Int) × List (ByteArray))) × Int × (List (Int × Int × Int × Int × Int × List (Int) × ByteArray)) × Unit) × Unit) : Option (((List (Int × Int × Int × List (ByteArray) × List (Int × ByteArray × Int × Int) × Int × List (Int × ByteArray) × List (Int) × List (ByteArray))) × Int × (List (Int × Int × Int × Int × Int × List (Int) × ByteArray)) × Unit) × Unit × Unit) :=
((s_l12CopyPackets k (x.1.2.2.1, ())).bind fun p1 =>
(whileK (fun (rec0 : (((List (Int × Int × Int × List (ByteArray) × List (Int × ByteArray × Int × Int) × Int × List (Int × ByteArray) × List (Int) × List (ByteArray))) × Int × (List (Int × Int × Int × Int × Int × List (Int) × ByteArray)) × Unit) × ((List (Int × Int × Int × List (ByteArray) × List (Int × ByteArray × Int × Int) × Int × List (Int × ByteArray) × List (Int) × List (ByteArray))) × Int × (List (Int × Int × Int × Int × Int × List (Int) × ByteArray)) × Unit) × ((List (Int × Int × Int × List (ByteArray) × List (Int × ByteArray × Int × Int) × Int × List (Int × ByteArray) × List (Int) × List (ByteArray))) × Int × (List (Int × Int × Int × Int × Int × List (Int) × ByteArray)) × Unit) × Int × Unit) → Option _) (y0 : ((List (Int × Int × Int × List (ByteArray) × List (Int × ByteArray × Int × Int) × Int × List (Int × ByteArray) × List (Int) × List (ByteArray))) × Int × (List (Int × Int × Int × Int × Int × List (Int) × ByteArray)) × Unit) × ((List (Int × Int × Int × List (ByteArray) × List (Int × ByteArray × Int × Int) × Int × List (Int × ByteArray) × List (Int) × List (ByteArray))) × Int × (List (Int × Int × Int × Int × Int × List (Int) × ByteArray)) × Unit) × ((List (Int × Int × Int × List (ByteArray) × List (Int × ByteArray × Int × Int) × Int × List (Int × ByteArray) × List (Int) × List (ByteArray))) × Int × (List (Int × Int × Int × Int × Int × List (Int) × ByteArray)) × Unit) × Int × Unit) =>
(if (decide (y0.2.2.2.1 < (List.length y0.1.1 : Int))) = true then
(if 0 ≤ y0.2.2.2.1 ∧ y0.2.2.2.1 < (List.length y0.1.1 : Int) then
((s_l13Copy k (((Ty.rd (t := yT0) y0.1.1 y0.2.2.2.1).1, ((Ty.rd (t := yT0) y0.1.1 y0.2.2.2.1).2.1, ((Ty.rd (t := yT0) y0.1.1 y0.2.2.2.1).2.2.1, ((Ty.rd (t := yT0) y0.1.1 y0.2.2.2.1).2.2.2.1, ((Ty.rd (t := yT0) y0.1.1 y0.2.2.2.1).2.2.2.2.1, ((Ty.rd (t := yT0) y0.1.1 y0.2.2.2.1).2.2.2.2.2.1, ((Ty.rd (t := yT0) y0.1.1 y0.2.2.2.1).2.2.2.2.2.2.1, ((Ty.rd (t := yT0) y0.1.1 y0.2.2.2.1).2.2.2.2.2.2.2.1, ((Ty.rd (t := yT0) y0.1.1 y0.2.2.2.1).2.2.2.2.2.2.2.2, ()))))))))), ())).bind fun p2 =>
(if List.length y0.2.2.1.1 + List.length ([(p2.1.1, (p2.1.2.1, (p2.1.2.2.1, (p2.1.2.2.2.1, (p2.1.2.2.2.2.1, (p2.1.2.2.2.2.2.1, (p2.1.2.2.2.2.2.2.1, (p2.1.2.2.2.2.2.2.2.1, p2.1.2.2.2.2.2.2.2.2.1))))))))] : List (Int × Int × Int × List (ByteArray) × List (Int × ByteArray × Int × Int) × Int × List (Int × ByteArray) × List (Int) × List (ByteArray))) ≤ capMax then
(rec0 ((y0.1.1, (y0.1.2.1, (y0.1.2.2.1, ()))), ((y0.2.1.1, (y0.2.1.2.1, (y0.2.1.2.2.1, ()))), (((y0.2.2.1.1 ++ ([(p2.1.1, (p2.1.2.1, (p2.1.2.2.1, (p2.1.2.2.2.1, (p2.1.2.2.2.2.1, (p2.1.2.2.2.2.2.1, (p2.1.2.2.2.2.2.2.1, (p2.1.2.2.2.2.2.2.2.1, p2.1.2.2.2.2.2.2.2.2.1))))))))] : List (Int × Int × Int × List (ByteArray) × List (Int × ByteArray × Int × Int) × Int × List (Int × ByteArray) × List (Int) × List (ByteArray)))), (y0.2.2.1.2.1, (y0.2.2.1.2.2.1, ()))), ((wi64 (y0.2.2.2.1 + (1 : Int))), ())))))
else none))
else none)
else
((fun (z1 : ((List (Int × Int × Int × List (ByteArray) × List (Int × ByteArray × Int × Int) × Int × List (Int × ByteArray) × List (Int) × List (ByteArray))) × Int × (List (Int × Int × Int × Int × Int × List (Int) × ByteArray)) × Unit) × ((List (Int × Int × Int × List (ByteArray) × List (Int × ByteArray × Int × Int) × Int × List (Int × ByteArray) × List (Int) × List (ByteArray))) × Int × (List (Int × Int × Int × Int × Int × List (Int) × ByteArray)) × Unit) × Unit) =>
some ((z1.2.1.1, (z1.2.1.2.1, (z1.2.1.2.2.1, ()))), ((), ()))) ((y0.2.1.1, (y0.2.1.2.1, (y0.2.1.2.2.1, ()))), ((y0.2.2.1.1, (y0.2.2.1.2.1, (y0.2.2.1.2.2.1, ()))), ()))))) k ((x.1.1, (x.1.2.1, (x.1.2.2.1, ()))), (([], ((0 : Int), ([], ()))), (([], (x.1.2.1, (p1.1, ()))), ((0 : Int), ()))))))
abbrev E_s_l14Copy (k : Nat) : Entry := ⟨92, 0, (.cons (.agg yP14) .nil), (.agg yP12), s_l14Copy k⟩
theorem t_s_l14Copy (k : Nat) (x) : evF TTab k [E_s_l13Copy k, E_s_l12CopyPackets k] [(0, ⟨[1, 2, 3, 4], (.cons (.ptr 0 yP14) (.cons (.ptr 0 yP12) (.cons (.ptr 0 yP12) yP8)))⟩, ⟨[2, 3], (.cons (.ptr 0 yP12) (.cons (.ptr 0 yP12) .nil))⟩)] Try.f92 (.cons (.agg yP14) .nil) (.agg yP12) x = s_l14Copy k x := by kernel_rfl
theorem e_s_l14Copy [Names] (k : Nat) : EntryOk Try.prog (E_s_l14Copy k) := entry_ok tok (es_cons (e_s_l13Copy k) (es_cons (e_s_l12CopyPackets k) es_nil)) (by kernel_rfl) (by kernel_rfl) (by kernel_rfl) fun x r h => (t_s_l14Copy k x).trans h
def w_eqPending (k : Nat) (x : (Int × ByteArray × Int × Int × Unit) × (Int × ByteArray × Int × Int × Unit) × Unit) : Option (Bool × Unit × Unit × Unit) :=
(if (!decide (x.1.1 = x.2.1.1)) = true then
some (false, ((), ((), ())))
else
(if (!decide (x.1.2.1 = x.2.1.2.1)) = true then
some (false, ((), ((), ())))
else
(if (!decide (x.1.2.2.1 = x.2.1.2.2.1)) = true then
some (false, ((), ((), ())))
else
(if (!decide (x.1.2.2.2.1 = x.2.1.2.2.2.1)) = true then
some (false, ((), ((), ())))
else
some (true, ((), ((), ())))))))
abbrev E_w_eqPending (k : Nat) : Entry := ⟨182, 0, (.cons yP17 (.cons yP17 .nil)), .bool, w_eqPending k⟩
theorem t_w_eqPending (k : Nat) (x) : evF TTab k [] [] Try.f182 (.cons yP17 (.cons yP17 .nil)) .bool x = w_eqPending k x := by kernel_rfl
theorem e_w_eqPending [Names] (k : Nat) : EntryOk Try.prog (E_w_eqPending k) := entry_ok tok es_nil (by kernel_rfl) (by kernel_rfl) (by kernel_rfl) fun x r h => (t_w_eqPending k x).trans h
def w_eqPendingS (k : Nat) (x : (List (Int × ByteArray × Int × Int)) × (List (Int × ByteArray × Int × Int)) × Unit) : Option (Bool × Unit × Unit × Unit) :=
(if (!decide ((List.length x.1 : Int) = (List.length x.2.1 : Int))) = true then
some (false, ((), ((), ())))
else
(whileK (fun (rec0 : ((List (Int × ByteArray × Int × Int)) × (List (Int × ByteArray × Int × Int)) × Int × Unit) → Option _) (y0 : (List (Int × ByteArray × Int × Int)) × (List (Int × ByteArray × Int × Int)) × Int × Unit) =>
(if (decide (y0.2.2.1 < (List.length y0.1 : Int))) = true then
(if 0 ≤ y0.2.2.1 ∧ y0.2.2.1 < (List.length y0.1 : Int) then
(if 0 ≤ y0.2.2.1 ∧ y0.2.2.1 < (List.length y0.2.1 : Int) then
((w_eqPending k (((Ty.rd (t := yT3) y0.1 y0.2.2.1).1, ((Ty.rd (t := yT3) y0.1 y0.2.2.1).2.1, ((Ty.rd (t := yT3) y0.1 y0.2.2.1).2.2.1, ((Ty.rd (t := yT3) y0.1 y0.2.2.1).2.2.2, ())))), (((Ty.rd (t := yT3) y0.2.1 y0.2.2.1).1, ((Ty.rd (t := yT3) y0.2.1 y0.2.2.1).2.1, ((Ty.rd (t := yT3) y0.2.1 y0.2.2.1).2.2.1, ((Ty.rd (t := yT3) y0.2.1 y0.2.2.1).2.2.2, ())))), ()))).bind fun p1 =>
(if (!p1.1) = true then
some (false, ((), ((), ())))
else
(rec0 (y0.1, (y0.2.1, ((wi64 (y0.2.2.1 + (1 : Int))), ()))))))
else none)
else none)
else
((fun (z1 : Unit) =>
some (true, ((), ((), ())))) ()))) k (x.1, (x.2.1, ((0 : Int), ())))))
abbrev E_w_eqPendingS (k : Nat) : Entry := ⟨164, 0, (.cons (.il true yT3) (.cons (.il true yT3) .nil)), .bool, w_eqPendingS k⟩
theorem t_w_eqPendingS (k : Nat) (x) : evF TTab k [E_w_eqPending k] [(0, ⟨[0, 1, 5], (.cons (.il true yT3) (.cons (.il true yT3) yP8))⟩, ⟨[], .nil⟩)] Try.f164 (.cons (.il true yT3) (.cons (.il true yT3) .nil)) .bool x = w_eqPendingS k x := by kernel_rfl
theorem e_w_eqPendingS [Names] (k : Nat) : EntryOk Try.prog (E_w_eqPendingS k) := entry_ok tok (es_cons (e_w_eqPending k) es_nil) (by kernel_rfl) (by kernel_rfl) (by kernel_rfl) fun x r h => (t_w_eqPendingS k x).trans h
def w_eqEarly (k : Nat) (x : (Int × ByteArray × Unit) × (Int × ByteArray × Unit) × Unit) : Option (Bool × Unit × Unit × Unit) :=
(if (!decide (x.1.1 = x.2.1.1)) = true then
some (false, ((), ((), ())))
else
(if (!decide (x.1.2.1 = x.2.1.2.1)) = true then
some (false, ((), ((), ())))
else
some (true, ((), ((), ())))))
abbrev E_w_eqEarly (k : Nat) : Entry := ⟨183, 0, (.cons (.agg yP18) (.cons (.agg yP18) .nil)), .bool, w_eqEarly k⟩
theorem t_w_eqEarly (k : Nat) (x) : evF TTab k [] [] Try.f183 (.cons (.agg yP18) (.cons (.agg yP18) .nil)) .bool x = w_eqEarly k x := by kernel_rfl
theorem e_w_eqEarly [Names] (k : Nat) : EntryOk Try.prog (E_w_eqEarly k) := entry_ok tok es_nil (by kernel_rfl) (by kernel_rfl) (by kernel_rfl) fun x r h => (t_w_eqEarly k x).trans h
def w_eqEarlyS (k : Nat) (x : (List (Int × ByteArray)) × (List (Int × ByteArray)) × Unit) : Option (Bool × Unit × Unit × Unit) :=
(if (!decide ((List.length x.1 : Int) = (List.length x.2.1 : Int))) = true then
some (false, ((), ((), ())))
else
(whileK (fun (rec0 : ((List (Int × ByteArray)) × (List (Int × ByteArray)) × Int × Unit) → Option _) (y0 : (List (Int × ByteArray)) × (List (Int × ByteArray)) × Int × Unit) =>
(if (decide (y0.2.2.1 < (List.length y0.1 : Int))) = true then
(if 0 ≤ y0.2.2.1 ∧ y0.2.2.1 < (List.length y0.1 : Int) then
(if 0 ≤ y0.2.2.1 ∧ y0.2.2.1 < (List.length y0.2.1 : Int) then
((w_eqEarly k (((Ty.rd (t := yT11) y0.1 y0.2.2.1).1, ((Ty.rd (t := yT11) y0.1 y0.2.2.1).2, ())), (((Ty.rd (t := yT11) y0.2.1 y0.2.2.1).1, ((Ty.rd (t := yT11) y0.2.1 y0.2.2.1).2, ())), ()))).bind fun p1 =>
(if (!p1.1) = true then
some (false, ((), ((), ())))
else
(rec0 (y0.1, (y0.2.1, ((wi64 (y0.2.2.1 + (1 : Int))), ()))))))
else none)
else none)
else
((fun (z1 : Unit) =>
some (true, ((), ((), ())))) ()))) k (x.1, (x.2.1, ((0 : Int), ())))))
abbrev E_w_eqEarlyS (k : Nat) : Entry := ⟨165, 0, (.cons (.il true yT11) (.cons (.il true yT11) .nil)), .bool, w_eqEarlyS k⟩
theorem t_w_eqEarlyS (k : Nat) (x) : evF TTab k [E_w_eqEarly k] [(0, ⟨[0, 1, 5], (.cons (.il true yT11) (.cons (.il true yT11) yP8))⟩, ⟨[], .nil⟩)] Try.f165 (.cons (.il true yT11) (.cons (.il true yT11) .nil)) .bool x = w_eqEarlyS k x := by kernel_rfl
theorem e_w_eqEarlyS [Names] (k : Nat) : EntryOk Try.prog (E_w_eqEarlyS k) := entry_ok tok (es_cons (e_w_eqEarly k) es_nil) (by kernel_rfl) (by kernel_rfl) (by kernel_rfl) fun x r h => (t_w_eqEarlyS k x).trans h
def w_eqIntS (k : Nat) (x : List (Int) × List (Int) × Unit) : Option (Bool × Unit × Unit × Unit) :=
(if (!decide ((List.length x.1 : Int) = (List.length x.2.1 : Int))) = true then
some (false, ((), ((), ())))
else
(whileK (fun (rec0 : (List (Int) × List (Int) × Int × Unit) → Option _) (y0 : List (Int) × List (Int) × Int × Unit) =>
(if (decide (y0.2.2.1 < (List.length y0.1 : Int))) = true then
(if 0 ≤ y0.2.2.1 ∧ y0.2.2.1 < (List.length y0.1 : Int) then
(if 0 ≤ y0.2.2.1 ∧ y0.2.2.1 < (List.length y0.2.1 : Int) then
(if (!decide ((Ty.rd (t := (.int .i64)) y0.1 y0.2.2.1) = (Ty.rd (t := (.int .i64)) y0.2.1 y0.2.2.1))) = true then
some (false, ((), ((), ())))
else
(rec0 (y0.1, (y0.2.1, ((wi64 (y0.2.2.1 + (1 : Int))), ())))))
else none)
else none)
else
((fun (z1 : Unit) =>
some (true, ((), ((), ())))) ()))) k (x.1, (x.2.1, ((0 : Int), ())))))
abbrev E_w_eqIntS (k : Nat) : Entry := ⟨166, 0, (.cons (.il true (.int .i64)) (.cons (.il true (.int .i64)) .nil)), .bool, w_eqIntS k⟩
theorem t_w_eqIntS (k : Nat) (x) : evF TTab k [] [(0, ⟨[0, 1, 5], (.cons (.il true (.int .i64)) (.cons (.il true (.int .i64)) yP8))⟩, ⟨[], .nil⟩)] Try.f166 (.cons (.il true (.int .i64)) (.cons (.il true (.int .i64)) .nil)) .bool x = w_eqIntS k x := by kernel_rfl
theorem e_w_eqIntS [Names] (k : Nat) : EntryOk Try.prog (E_w_eqIntS k) := entry_ok tok es_nil (by kernel_rfl) (by kernel_rfl) (by kernel_rfl) fun x r h => (t_w_eqIntS k x).trans h
def w_eqChan (k : Nat) (x : (Int × Int × Int × List (ByteArray) × (List (Int × ByteArray × Int × Int)) × Int × (List (Int × ByteArray)) × List (Int) × List (ByteArray) × Unit) × (Int × Int × Int × List (ByteArray) × (List (Int × ByteArray × Int × Int)) × Int × (List (Int × ByteArray)) × List (Int) × List (ByteArray) × Unit) × Unit) : Option (Bool × Unit × Unit × Unit) :=
(if (!decide (x.1.1 = x.2.1.1)) = true then
some (false, ((), ((), ())))
else
(if (!decide (x.1.2.1 = x.2.1.2.1)) = true then
some (false, ((), ((), ())))
else
(if (!decide (x.1.2.2.1 = x.2.1.2.2.1)) = true then
some (false, ((), ((), ())))
else
((w_eqStringS k (x.1.2.2.2.1, (x.2.1.2.2.2.1, ()))).bind fun p1 =>
(if (!p1.1) = true then
some (false, ((), ((), ())))
else
((w_eqPendingS k (x.1.2.2.2.2.1, (x.2.1.2.2.2.2.1, ()))).bind fun p2 =>
(if (!p2.1) = true then
some (false, ((), ((), ())))
else
(if (!decide (x.1.2.2.2.2.2.1 = x.2.1.2.2.2.2.2.1)) = true then
some (false, ((), ((), ())))
else
((w_eqEarlyS k (x.1.2.2.2.2.2.2.1, (x.2.1.2.2.2.2.2.2.1, ()))).bind fun p3 =>
(if (!p3.1) = true then
some (false, ((), ((), ())))
else
((w_eqIntS k (x.1.2.2.2.2.2.2.2.1, (x.2.1.2.2.2.2.2.2.2.1, ()))).bind fun p4 =>
(if (!p4.1) = true then
some (false, ((), ((), ())))
else
((w_eqStringS k (x.1.2.2.2.2.2.2.2.2.1, (x.2.1.2.2.2.2.2.2.2.2.1, ()))).bind fun p5 =>
(if (!p5.1) = true then
some (false, ((), ((), ())))
else
some (true, ((), ((), ())))))))))))))))))
abbrev E_w_eqChan (k : Nat) : Entry := ⟨136, 0, (.cons (.agg yP6) (.cons (.agg yP6) .nil)), .bool, w_eqChan k⟩
theorem t_w_eqChan (k : Nat) (x) : evF TTab k [E_w_eqStringS k, E_w_eqPendingS k, E_w_eqEarlyS k, E_w_eqIntS k] [] Try.f136 (.cons (.agg yP6) (.cons (.agg yP6) .nil)) .bool x = w_eqChan k x := by kernel_rfl
theorem e_w_eqChan [Names] (k : Nat) : EntryOk Try.prog (E_w_eqChan k) := entry_ok tok (es_cons (e_w_eqStringS k) (es_cons (e_w_eqPendingS k) (es_cons (e_w_eqEarlyS k) (es_cons (e_w_eqIntS k) es_nil)))) (by kernel_rfl) (by kernel_rfl) (by kernel_rfl) fun x r h => (t_w_eqChan k x).trans h
def w_eqChanS (k : Nat) (x : (List (Int × Int × Int × List (ByteArray) × List (Int × ByteArray × Int × Int) × Int × List (Int × ByteArray) × List (Int) × List (ByteArray))) × (List (Int × Int × Int × List (ByteArray) × List (Int × ByteArray × Int × Int) × Int × List (Int × ByteArray) × List (Int) × List (ByteArray))) × Unit) : Option (Bool × Unit × Unit × Unit) :=
(if (!decide ((List.length x.1 : Int) = (List.length x.2.1 : Int))) = true then
some (false, ((), ((), ())))
else
(whileK (fun (rec0 : ((List (Int × Int × Int × List (ByteArray) × List (Int × ByteArray × Int × Int) × Int × List (Int × ByteArray) × List (Int) × List (ByteArray))) × (List (Int × Int × Int × List (ByteArray) × List (Int × ByteArray × Int × Int) × Int × List (Int × ByteArray) × List (Int) × List (ByteArray))) × Int × Unit) → Option _) (y0 : (List (Int × Int × Int × List (ByteArray) × List (Int × ByteArray × Int × Int) × Int × List (Int × ByteArray) × List (Int) × List (ByteArray))) × (List (Int × Int × Int × List (ByteArray) × List (Int × ByteArray × Int × Int) × Int × List (Int × ByteArray) × List (Int) × List (ByteArray))) × Int × Unit) =>
(if (decide (y0.2.2.1 < (List.length y0.1 : Int))) = true then
(if 0 ≤ y0.2.2.1 ∧ y0.2.2.1 < (List.length y0.1 : Int) then
(if 0 ≤ y0.2.2.1 ∧ y0.2.2.1 < (List.length y0.2.1 : Int) then
((w_eqChan k (((Ty.rd (t := yT0) y0.1 y0.2.2.1).1, ((Ty.rd (t := yT0) y0.1 y0.2.2.1).2.1, ((Ty.rd (t := yT0) y0.1 y0.2.2.1).2.2.1, ((Ty.rd (t := yT0) y0.1 y0.2.2.1).2.2.2.1, ((Ty.rd (t := yT0) y0.1 y0.2.2.1).2.2.2.2.1, ((Ty.rd (t := yT0) y0.1 y0.2.2.1).2.2.2.2.2.1, ((Ty.rd (t := yT0) y0.1 y0.2.2.1).2.2.2.2.2.2.1, ((Ty.rd (t := yT0) y0.1 y0.2.2.1).2.2.2.2.2.2.2.1, ((Ty.rd (t := yT0) y0.1 y0.2.2.1).2.2.2.2.2.2.2.2, ()))))))))), (((Ty.rd (t := yT0) y0.2.1 y0.2.2.1).1, ((Ty.rd (t := yT0) y0.2.1 y0.2.2.1).2.1, ((Ty.rd (t := yT0) y0.2.1 y0.2.2.1).2.2.1, ((Ty.rd (t := yT0) y0.2.1 y0.2.2.1).2.2.2.1, ((Ty.rd (t := yT0) y0.2.1 y0.2.2.1).2.2.2.2.1, ((Ty.rd (t := yT0) y0.2.1 y0.2.2.1).2.2.2.2.2.1, ((Ty.rd (t := yT0) y0.2.1 y0.2.2.1).2.2.2.2.2.2.1, ((Ty.rd (t := yT0) y0.2.1 y0.2.2.1).2.2.2.2.2.2.2.1, ((Ty.rd (t := yT0) y0.2.1 y0.2.2.1).2.2.2.2.2.2.2.2, ()))))))))), ()))).bind fun p1 =>
(if (!p1.1) = true then
some (false, ((), ((), ())))
else
(rec0 (y0.1, (y0.2.1, ((wi64 (y0.2.2.1 + (1 : Int))), ()))))))
else none)
else none)
else
((fun (z1 : Unit) =>
some (true, ((), ((), ())))) ()))) k (x.1, (x.2.1, ((0 : Int), ())))))
abbrev E_w_eqChanS (k : Nat) : Entry := ⟨97, 0, (.cons (.il true yT0) (.cons (.il true yT0) .nil)), .bool, w_eqChanS k⟩
theorem t_w_eqChanS (k : Nat) (x) : evF TTabO k [E_w_eqChan k] [(0, ⟨[0, 1, 5], (.cons (.il true yT0) (.cons (.il true yT0) yP8))⟩, ⟨[], .nil⟩)] Try.f97 (.cons (.il true yT0) (.cons (.il true yT0) .nil)) .bool x = w_eqChanS k x := by kernel_rfl
theorem e_w_eqChanS [Names] (k : Nat) : EntryOk Try.prog (E_w_eqChanS k) := entry_ok tokO (es_cons (e_w_eqChan k) es_nil) (by kernel_rfl) (by kernel_rfl) (by kernel_rfl) fun x r h => (t_w_eqChanS k x).trans h
def w_eqPacket (k : Nat) (x : (Int × Int × Int × Int × Int × List (Int) × ByteArray × Unit) × (Int × Int × Int × Int × Int × List (Int) × ByteArray × Unit) × Unit) : Option (Bool × Unit × Unit × Unit) :=
(if (!decide (x.1.1 = x.2.1.1)) = true then
some (false, ((), ((), ())))
else
(if (!decide (x.1.2.1 = x.2.1.2.1)) = true then
some (false, ((), ((), ())))
else
(if (!decide (x.1.2.2.1 = x.2.1.2.2.1)) = true then
some (false, ((), ((), ())))
else
(if (!decide (x.1.2.2.2.1 = x.2.1.2.2.2.1)) = true then
some (false, ((), ((), ())))
else
(if (!decide (x.1.2.2.2.2.1 = x.2.1.2.2.2.2.1)) = true then
some (false, ((), ((), ())))
else
((w_eqIntS k (x.1.2.2.2.2.2.1, (x.2.1.2.2.2.2.2.1, ()))).bind fun p1 =>
(if (!p1.1) = true then
some (false, ((), ((), ())))
else
(if (!decide (x.1.2.2.2.2.2.2.1 = x.2.1.2.2.2.2.2.2.1)) = true then
some (false, ((), ((), ())))
else
some (true, ((), ((), ())))))))))))
abbrev E_w_eqPacket (k : Nat) : Entry := ⟨137, 0, (.cons (.agg yP7) (.cons (.agg yP7) .nil)), .bool, w_eqPacket k⟩
theorem t_w_eqPacket (k : Nat) (x) : evF TTab k [E_w_eqIntS k] [] Try.f137 (.cons (.agg yP7) (.cons (.agg yP7) .nil)) .bool x = w_eqPacket k x := by kernel_rfl
theorem e_w_eqPacket [Names] (k : Nat) : EntryOk Try.prog (E_w_eqPacket k) := entry_ok tok (es_cons (e_w_eqIntS k) es_nil) (by kernel_rfl) (by kernel_rfl) (by kernel_rfl) fun x r h => (t_w_eqPacket k x).trans h
def w_eqPacketS (k : Nat) (x : (List (Int × Int × Int × Int × Int × List (Int) × ByteArray)) × (List (Int × Int × Int × Int × Int × List (Int) × ByteArray)) × Unit) : Option (Bool × Unit × Unit × Unit) :=
(if (!decide ((List.length x.1 : Int) = (List.length x.2.1 : Int))) = true then
some (false, ((), ((), ())))
else
(whileK (fun (rec0 : ((List (Int × Int × Int × Int × Int × List (Int) × ByteArray)) × (List (Int × Int × Int × Int × Int × List (Int) × ByteArray)) × Int × Unit) → Option _) (y0 : (List (Int × Int × Int × Int × Int × List (Int) × ByteArray)) × (List (Int × Int × Int × Int × Int × List (Int) × ByteArray)) × Int × Unit) =>
(if (decide (y0.2.2.1 < (List.length y0.1 : Int))) = true then
(if 0 ≤ y0.2.2.1 ∧ y0.2.2.1 < (List.length y0.1 : Int) then
(if 0 ≤ y0.2.2.1 ∧ y0.2.2.1 < (List.length y0.2.1 : Int) then
((w_eqPacket k (((Ty.rd (t := yT2) y0.1 y0.2.2.1).1, ((Ty.rd (t := yT2) y0.1 y0.2.2.1).2.1, ((Ty.rd (t := yT2) y0.1 y0.2.2.1).2.2.1, ((Ty.rd (t := yT2) y0.1 y0.2.2.1).2.2.2.1, ((Ty.rd (t := yT2) y0.1 y0.2.2.1).2.2.2.2.1, ((Ty.rd (t := yT2) y0.1 y0.2.2.1).2.2.2.2.2.1, ((Ty.rd (t := yT2) y0.1 y0.2.2.1).2.2.2.2.2.2, ()))))))), (((Ty.rd (t := yT2) y0.2.1 y0.2.2.1).1, ((Ty.rd (t := yT2) y0.2.1 y0.2.2.1).2.1, ((Ty.rd (t := yT2) y0.2.1 y0.2.2.1).2.2.1, ((Ty.rd (t := yT2) y0.2.1 y0.2.2.1).2.2.2.1, ((Ty.rd (t := yT2) y0.2.1 y0.2.2.1).2.2.2.2.1, ((Ty.rd (t := yT2) y0.2.1 y0.2.2.1).2.2.2.2.2.1, ((Ty.rd (t := yT2) y0.2.1 y0.2.2.1).2.2.2.2.2.2, ()))))))), ()))).bind fun p1 =>
(if (!p1.1) = true then
some (false, ((), ((), ())))
else
(rec0 (y0.1, (y0.2.1, ((wi64 (y0.2.2.1 + (1 : Int))), ()))))))
else none)
else none)
else
((fun (z1 : Unit) =>
some (true, ((), ((), ())))) ()))) k (x.1, (x.2.1, ((0 : Int), ())))))
abbrev E_w_eqPacketS (k : Nat) : Entry := ⟨98, 0, (.cons (.il true yT2) (.cons (.il true yT2) .nil)), .bool, w_eqPacketS k⟩
theorem t_w_eqPacketS (k : Nat) (x) : evF TTabO k [E_w_eqPacket k] [(0, ⟨[0, 1, 5], (.cons (.il true yT2) (.cons (.il true yT2) yP8))⟩, ⟨[], .nil⟩)] Try.f98 (.cons (.il true yT2) (.cons (.il true yT2) .nil)) .bool x = w_eqPacketS k x := by kernel_rfl
theorem e_w_eqPacketS [Names] (k : Nat) : EntryOk Try.prog (E_w_eqPacketS k) := entry_ok tokO (es_cons (e_w_eqPacket k) es_nil) (by kernel_rfl) (by kernel_rfl) (by kernel_rfl) fun x r h => (t_w_eqPacketS k x).trans h
def w_eqTalk (k : Nat) (x : ((List (Int × Int × Int × List (ByteArray) × List (Int × ByteArray × Int × Int) × Int × List (Int × ByteArray) × List (Int) × List (ByteArray))) × Int × (List (Int × Int × Int × Int × Int × List (Int) × ByteArray)) × Unit) × ((List (Int × Int × Int × List (ByteArray) × List (Int × ByteArray × Int × Int) × Int × List (Int × ByteArray) × List (Int) × List (ByteArray))) × Int × (List (Int × Int × Int × Int × Int × List (Int) × ByteArray)) × Unit) × Unit) : Option (Bool × Unit × Unit × Unit) :=
((w_eqChanS k (x.1.1, (x.2.1.1, ()))).bind fun p1 =>
(if (!p1.1) = true then
some (false, ((), ((), ())))
else
(if (!decide (x.1.2.1 = x.2.1.2.1)) = true then
some (false, ((), ((), ())))
else
((w_eqPacketS k (x.1.2.2.1, (x.2.1.2.2.1, ()))).bind fun p2 =>
(if (!p2.1) = true then
some (false, ((), ((), ())))
else
some (true, ((), ((), ()))))))))
abbrev E_w_eqTalk (k : Nat) : Entry := ⟨41, 0, (.cons (.agg yP14) (.cons (.agg yP14) .nil)), .bool, w_eqTalk k⟩
theorem t_w_eqTalk (k : Nat) (x) : evF TTabO k [E_w_eqChanS k, E_w_eqPacketS k] [] Try.f41 (.cons (.agg yP14) (.cons (.agg yP14) .nil)) .bool x = w_eqTalk k x := by kernel_rfl
theorem e_w_eqTalk [Names] (k : Nat) : EntryOk Try.prog (E_w_eqTalk k) := entry_ok tokO (es_cons (e_w_eqChanS k) (es_cons (e_w_eqPacketS k) es_nil)) (by kernel_rfl) (by kernel_rfl) (by kernel_rfl) fun x r h => (t_w_eqTalk k x).trans h
def w_markPendingS (k : Nat) (x : (List (Int × ByteArray × Int × Int)) × Int × Unit) : Option (Int × (List (Int × ByteArray × Int × Int)) × Unit × Unit) :=
(whileK (fun (rec0 : ((List (Int × ByteArray × Int × Int)) × Int × Int × Unit) → Option _) (y0 : (List (Int × ByteArray × Int × Int)) × Int × Int × Unit) =>
(if (decide (y0.2.2.1 < (List.length y0.1 : Int))) = true then
(if 0 ≤ y0.2.2.1 ∧ y0.2.2.1 < (List.length y0.1 : Int) then
((w_markText k ((wi64 (y0.2.1 + (1 : Int))), ())).bind fun p1 =>
(if 0 ≤ y0.2.2.1 ∧ y0.2.2.1 < (List.length (List.set y0.1 (Int.toNat y0.2.2.1) (y0.2.1, (Ty.rd (t := yT3) y0.1 y0.2.2.1).2)) : Int) then
(jn (List.set (List.set y0.1 (Int.toNat y0.2.2.1) (y0.2.1, (Ty.rd (t := yT3) y0.1 y0.2.2.1).2)) (Int.toNat y0.2.2.1) ((Ty.rd (t := yT3) (List.set y0.1 (Int.toNat y0.2.2.1) (y0.2.1, (Ty.rd (t := yT3) y0.1 y0.2.2.1).2)) y0.2.2.1).1, (p1.1, (Ty.rd (t := yT3) (List.set y0.1 (Int.toNat y0.2.2.1) (y0.2.1, (Ty.rd (t := yT3) y0.1 y0.2.2.1).2)) y0.2.2.1).2.2))) (fun (q34 : List (Int × ByteArray × Int × Int)) =>
(if 0 ≤ y0.2.2.1 ∧ y0.2.2.1 < (List.length q34 : Int) then
(if 0 ≤ y0.2.2.1 ∧ y0.2.2.1 < (List.length (List.set q34 (Int.toNat y0.2.2.1) ((Ty.rd (t := yT3) q34 y0.2.2.1).1, ((Ty.rd (t := yT3) q34 y0.2.2.1).2.1, ((wi64 ((wi64 (y0.2.1 + (1 : Int))) + (1 : Int))), (Ty.rd (t := yT3) q34 y0.2.2.1).2.2.2)))) : Int) then
(jn (List.set (List.set q34 (Int.toNat y0.2.2.1) ((Ty.rd (t := yT3) q34 y0.2.2.1).1, ((Ty.rd (t := yT3) q34 y0.2.2.1).2.1, ((wi64 ((wi64 (y0.2.1 + (1 : Int))) + (1 : Int))), (Ty.rd (t := yT3) q34 y0.2.2.1).2.2.2)))) (Int.toNat y0.2.2.1) ((Ty.rd (t := yT3) (List.set q34 (Int.toNat y0.2.2.1) ((Ty.rd (t := yT3) q34 y0.2.2.1).1, ((Ty.rd (t := yT3) q34 y0.2.2.1).2.1, ((wi64 ((wi64 (y0.2.1 + (1 : Int))) + (1 : Int))), (Ty.rd (t := yT3) q34 y0.2.2.1).2.2.2)))) y0.2.2.1).1, ((Ty.rd (t := yT3) (List.set q34 (Int.toNat y0.2.2.1) ((Ty.rd (t := yT3) q34 y0.2.2.1).1, ((Ty.rd (t := yT3) q34 y0.2.2.1).2.1, ((wi64 ((wi64 (y0.2.1 + (1 : Int))) + (1 : Int))), (Ty.rd (t := yT3) q34 y0.2.2.1).2.2.2)))) y0.2.2.1).2.1, ((Ty.rd (t := yT3) (List.set q34 (Int.toNat y0.2.2.1) ((Ty.rd (t := yT3) q34 y0.2.2.1).1, ((Ty.rd (t := yT3) q34 y0.2.2.1).2.1, ((wi64 ((wi64 (y0.2.1 + (1 : Int))) + (1 : Int))), (Ty.rd (t := yT3) q34 y0.2.2.1).2.2.2)))) y0.2.2.1).2.2.1, (wi64 ((wi64 ((wi64 (y0.2.1 + (1 : Int))) + (1 : Int))) + (1 : Int))))))) (fun (q35 : List (Int × ByteArray × Int × Int)) =>
(rec0 (q35, ((wi64 ((wi64 ((wi64 ((wi64 (y0.2.1 + (1 : Int))) + (1 : Int))) + (1 : Int))) + (1 : Int))), ((wi64 (y0.2.2.1 + (1 : Int))), ()))))))
else none)
else none)))
else none))
else none)
else
((fun (z1 : (List (Int × ByteArray × Int × Int)) × Int × Unit) =>
some (z1.2.1, (z1.1, ((), ())))) (y0.1, (y0.2.1, ()))))) k (x.1, (x.2.1, ((0 : Int), ()))))
abbrev E_w_markPendingS (k : Nat) : Entry := ⟨138, 0, (.cons (.mut false 129 yT3) yP8), (.int .i64), w_markPendingS k⟩
theorem t_w_markPendingS (k : Nat) (x) : evF TTab k [E_w_markText k] [(0, ⟨[0, 1, 5], (.cons (.own false 129 yT3) (.cons (.int .i64) yP8))⟩, ⟨[0, 1], (.cons (.own false 129 yT3) yP8)⟩)] Try.f138 (.cons (.mut false 129 yT3) yP8) (.int .i64) x = w_markPendingS k x := by kernel_rfl
theorem e_w_markPendingS [Names] (k : Nat) : EntryOk Try.prog (E_w_markPendingS k) := entry_ok tok (es_cons (e_w_markText k) es_nil) (by kernel_rfl) (by kernel_rfl) (by kernel_rfl) fun x r h => (t_w_markPendingS k x).trans h
def w_markEarlyS (k : Nat) (x : (List (Int × ByteArray)) × Int × Unit) : Option (Int × (List (Int × ByteArray)) × Unit × Unit) :=
(whileK (fun (rec0 : ((List (Int × ByteArray)) × Int × Int × Unit) → Option _) (y0 : (List (Int × ByteArray)) × Int × Int × Unit) =>
(if (decide (y0.2.2.1 < (List.length y0.1 : Int))) = true then
(if 0 ≤ y0.2.2.1 ∧ y0.2.2.1 < (List.length y0.1 : Int) then
((w_markText k ((wi64 (y0.2.1 + (1 : Int))), ())).bind fun p1 =>
(if 0 ≤ y0.2.2.1 ∧ y0.2.2.1 < (List.length (List.set y0.1 (Int.toNat y0.2.2.1) (y0.2.1, (Ty.rd (t := yT11) y0.1 y0.2.2.1).2)) : Int) then
(rec0 ((List.set (List.set y0.1 (Int.toNat y0.2.2.1) (y0.2.1, (Ty.rd (t := yT11) y0.1 y0.2.2.1).2)) (Int.toNat y0.2.2.1) ((Ty.rd (t := yT11) (List.set y0.1 (Int.toNat y0.2.2.1) (y0.2.1, (Ty.rd (t := yT11) y0.1 y0.2.2.1).2)) y0.2.2.1).1, p1.1)), ((wi64 ((wi64 (y0.2.1 + (1 : Int))) + (1 : Int))), ((wi64 (y0.2.2.1 + (1 : Int))), ()))))
else none))
else none)
else
((fun (z1 : (List (Int × ByteArray)) × Int × Unit) =>
some (z1.2.1, (z1.1, ((), ())))) (y0.1, (y0.2.1, ()))))) k (x.1, (x.2.1, ((0 : Int), ()))))
abbrev E_w_markEarlyS (k : Nat) : Entry := ⟨139, 0, (.cons (.mut false 131 yT11) yP8), (.int .i64), w_markEarlyS k⟩
theorem t_w_markEarlyS (k : Nat) (x) : evF TTab k [E_w_markText k] [(0, ⟨[0, 1, 5], (.cons (.own false 131 yT11) (.cons (.int .i64) yP8))⟩, ⟨[0, 1], (.cons (.own false 131 yT11) yP8)⟩)] Try.f139 (.cons (.mut false 131 yT11) yP8) (.int .i64) x = w_markEarlyS k x := by kernel_rfl
theorem e_w_markEarlyS [Names] (k : Nat) : EntryOk Try.prog (E_w_markEarlyS k) := entry_ok tok (es_cons (e_w_markText k) es_nil) (by kernel_rfl) (by kernel_rfl) (by kernel_rfl) fun x r h => (t_w_markEarlyS k x).trans h
def w_markIntS (k : Nat) (x : List (Int) × Int × Unit) : Option (Int × List (Int) × Unit × Unit) :=
(whileK (fun (rec0 : (List (Int) × Int × Int × Unit) → Option _) (y0 : List (Int) × Int × Int × Unit) =>
(if (decide (y0.2.2.1 < (List.length y0.1 : Int))) = true then
(if 0 ≤ y0.2.2.1 ∧ y0.2.2.1 < (List.length y0.1 : Int) then
(rec0 ((List.set y0.1 (Int.toNat y0.2.2.1) y0.2.1), ((wi64 (y0.2.1 + (1 : Int))), ((wi64 (y0.2.2.1 + (1 : Int))), ()))))
else none)
else
((fun (z1 : List (Int) × Int × Unit) =>
some (z1.2.1, (z1.1, ((), ())))) (y0.1, (y0.2.1, ()))))) k (x.1, (x.2.1, ((0 : Int), ()))))
abbrev E_w_markIntS (k : Nat) : Entry := ⟨140, 0, (.cons (.mut false 3 (.int .i64)) yP8), (.int .i64), w_markIntS k⟩
theorem t_w_markIntS (k : Nat) (x) : evF TTab k [] [(0, ⟨[0, 1, 5], (.cons (.own false 3 (.int .i64)) (.cons (.int .i64) yP8))⟩, ⟨[0, 1], (.cons (.own false 3 (.int .i64)) yP8)⟩)] Try.f140 (.cons (.mut false 3 (.int .i64)) yP8) (.int .i64) x = w_markIntS k x := by kernel_rfl
theorem e_w_markIntS [Names] (k : Nat) : EntryOk Try.prog (E_w_markIntS k) := entry_ok tok es_nil (by kernel_rfl) (by kernel_rfl) (by kernel_rfl) fun x r h => (t_w_markIntS k x).trans h
def w_markChanS (k : Nat) (x : (List (Int × Int × Int × List (ByteArray) × List (Int × ByteArray × Int × Int) × Int × List (Int × ByteArray) × List (Int) × List (ByteArray))) × Int × Unit) : Option (Int × (List (Int × Int × Int × List (ByteArray) × List (Int × ByteArray × Int × Int) × Int × List (Int × ByteArray) × List (Int) × List (ByteArray))) × Unit × Unit) :=
(whileK (fun (rec0 : ((List (Int × Int × Int × List (ByteArray) × List (Int × ByteArray × Int × Int) × Int × List (Int × ByteArray) × List (Int) × List (ByteArray))) × Int × Int × Unit) → Option _) (y0 : (List (Int × Int × Int × List (ByteArray) × List (Int × ByteArray × Int × Int) × Int × List (Int × ByteArray) × List (Int) × List (ByteArray))) × Int × Int × Unit) =>
(if (decide (y0.2.2.1 < (List.length y0.1 : Int))) = true then
(if 0 ≤ y0.2.2.1 ∧ y0.2.2.1 < (List.length y0.1 : Int) then
(if 0 ≤ y0.2.2.1 ∧ y0.2.2.1 < (List.length (List.set y0.1 (Int.toNat y0.2.2.1) (y0.2.1, (Ty.rd (t := yT1) y0.1 y0.2.2.1).2)) : Int) then
(jn (List.set (List.set y0.1 (Int.toNat y0.2.2.1) (y0.2.1, (Ty.rd (t := yT1) y0.1 y0.2.2.1).2)) (Int.toNat y0.2.2.1) ((Ty.rd (t := yT1) (List.set y0.1 (Int.toNat y0.2.2.1) (y0.2.1, (Ty.rd (t := yT1) y0.1 y0.2.2.1).2)) y0.2.2.1).1, ((wi64 (y0.2.1 + (1 : Int))), (Ty.rd (t := yT1) (List.set y0.1 (Int.toNat y0.2.2.1) (y0.2.1, (Ty.rd (t := yT1) y0.1 y0.2.2.1).2)) y0.2.2.1).2.2))) (fun (q36 : List (Int × Int × Int × List (ByteArray) × List (Int × ByteArray × Int × Int) × Int × List (Int × ByteArray) × List (Int) × List (ByteArray))) =>
(if 0 ≤ y0.2.2.1 ∧ y0.2.2.1 < (List.length q36 : Int) then
(jn (List.set q36 (Int.toNat y0.2.2.1) ((Ty.rd (t := yT1) q36 y0.2.2.1).1, ((Ty.rd (t := yT1) q36 y0.2.2.1).2.1, ((wi64 ((wi64 (y0.2.1 + (1 : Int))) + (1 : Int))), (Ty.rd (t := yT1) q36 y0.2.2.1).2.2.2)))) (fun (q37 : List (Int × Int × Int × List (ByteArray) × List (Int × ByteArray × Int × Int) × Int × List (Int × ByteArray) × List (Int) × List (ByteArray))) =>
(if 0 ≤ y0.2.2.1 ∧ y0.2.2.1 < (List.length q37 : Int) then
((w_markStringS k ((Ty.rd (t := yT1) q37 y0.2.2.1).2.2.2.1, ((wi64 ((wi64 ((wi64 (y0.2.1 + (1 : Int))) + (1 : Int))) + (1 : Int))), ()))).bind fun p1 =>
(jn (List.set q37 (Int.toNat y0.2.2.1) ((Ty.rd (t := yT1) q37 y0.2.2.1).1, ((Ty.rd (t := yT1) q37 y0.2.2.1).2.1, ((Ty.rd (t := yT1) q37 y0.2.2.1).2.2.1, (p1.2.1, (Ty.rd (t := yT1) q37 y0.2.2.1).2.2.2.2))))) (fun (q38 : List (Int × Int × Int × List (ByteArray) × List (Int × ByteArray × Int × Int) × Int × List (Int × ByteArray) × List (Int) × List (ByteArray))) =>
(if 0 ≤ y0.2.2.1 ∧ y0.2.2.1 < (List.length q38 : Int) then
((w_markPendingS k ((Ty.rd (t := yT1) q38 y0.2.2.1).2.2.2.2.1, (p1.1, ()))).bind fun p2 =>
(jn (List.set q38 (Int.toNat y0.2.2.1) ((Ty.rd (t := yT1) q38 y0.2.2.1).1, ((Ty.rd (t := yT1) q38 y0.2.2.1).2.1, ((Ty.rd (t := yT1) q38 y0.2.2.1).2.2.1, ((Ty.rd (t := yT1) q38 y0.2.2.1).2.2.2.1, (p2.2.1, (Ty.rd (t := yT1) q38 y0.2.2.1).2.2.2.2.2)))))) (fun (q39 : List (Int × Int × Int × List (ByteArray) × List (Int × ByteArray × Int × Int) × Int × List (Int × ByteArray) × List (Int) × List (ByteArray))) =>
(if 0 ≤ y0.2.2.1 ∧ y0.2.2.1 < (List.length q39 : Int) then
(jn (List.set q39 (Int.toNat y0.2.2.1) ((Ty.rd (t := yT1) q39 y0.2.2.1).1, ((Ty.rd (t := yT1) q39 y0.2.2.1).2.1, ((Ty.rd (t := yT1) q39 y0.2.2.1).2.2.1, ((Ty.rd (t := yT1) q39 y0.2.2.1).2.2.2.1, ((Ty.rd (t := yT1) q39 y0.2.2.1).2.2.2.2.1, (p2.1, (Ty.rd (t := yT1) q39 y0.2.2.1).2.2.2.2.2.2))))))) (fun (q40 : List (Int × Int × Int × List (ByteArray) × List (Int × ByteArray × Int × Int) × Int × List (Int × ByteArray) × List (Int) × List (ByteArray))) =>
(if 0 ≤ y0.2.2.1 ∧ y0.2.2.1 < (List.length q40 : Int) then
((w_markEarlyS k ((Ty.rd (t := yT1) q40 y0.2.2.1).2.2.2.2.2.2.1, ((wi64 (p2.1 + (1 : Int))), ()))).bind fun p3 =>
(jn (List.set q40 (Int.toNat y0.2.2.1) ((Ty.rd (t := yT1) q40 y0.2.2.1).1, ((Ty.rd (t := yT1) q40 y0.2.2.1).2.1, ((Ty.rd (t := yT1) q40 y0.2.2.1).2.2.1, ((Ty.rd (t := yT1) q40 y0.2.2.1).2.2.2.1, ((Ty.rd (t := yT1) q40 y0.2.2.1).2.2.2.2.1, ((Ty.rd (t := yT1) q40 y0.2.2.1).2.2.2.2.2.1, (p3.2.1, (Ty.rd (t := yT1) q40 y0.2.2.1).2.2.2.2.2.2.2)))))))) (fun (q41 : List (Int × Int × Int × List (ByteArray) × List (Int × ByteArray × Int × Int) × Int × List (Int × ByteArray) × List (Int) × List (ByteArray))) =>
(if 0 ≤ y0.2.2.1 ∧ y0.2.2.1 < (List.length q41 : Int) then
((w_markIntS k ((Ty.rd (t := yT1) q41 y0.2.2.1).2.2.2.2.2.2.2.1, (p3.1, ()))).bind fun p4 =>
(jn (List.set q41 (Int.toNat y0.2.2.1) ((Ty.rd (t := yT1) q41 y0.2.2.1).1, ((Ty.rd (t := yT1) q41 y0.2.2.1).2.1, ((Ty.rd (t := yT1) q41 y0.2.2.1).2.2.1, ((Ty.rd (t := yT1) q41 y0.2.2.1).2.2.2.1, ((Ty.rd (t := yT1) q41 y0.2.2.1).2.2.2.2.1, ((Ty.rd (t := yT1) q41 y0.2.2.1).2.2.2.2.2.1, ((Ty.rd (t := yT1) q41 y0.2.2.1).2.2.2.2.2.2.1, (p4.2.1, (Ty.rd (t := yT1) q41 y0.2.2.1).2.2.2.2.2.2.2.2))))))))) (fun (q42 : List (Int × Int × Int × List (ByteArray) × List (Int × ByteArray × Int × Int) × Int × List (Int × ByteArray) × List (Int) × List (ByteArray))) =>
(if 0 ≤ y0.2.2.1 ∧ y0.2.2.1 < (List.length q42 : Int) then
((w_markStringS k ((Ty.rd (t := yT1) q42 y0.2.2.1).2.2.2.2.2.2.2.2, (p4.1, ()))).bind fun p5 =>
(jn (List.set q42 (Int.toNat y0.2.2.1) ((Ty.rd (t := yT1) q42 y0.2.2.1).1, ((Ty.rd (t := yT1) q42 y0.2.2.1).2.1, ((Ty.rd (t := yT1) q42 y0.2.2.1).2.2.1, ((Ty.rd (t := yT1) q42 y0.2.2.1).2.2.2.1, ((Ty.rd (t := yT1) q42 y0.2.2.1).2.2.2.2.1, ((Ty.rd (t := yT1) q42 y0.2.2.1).2.2.2.2.2.1, ((Ty.rd (t := yT1) q42 y0.2.2.1).2.2.2.2.2.2.1, ((Ty.rd (t := yT1) q42 y0.2.2.1).2.2.2.2.2.2.2.1, p5.2.1))))))))) (fun (q43 : List (Int × Int × Int × List (ByteArray) × List (Int × ByteArray × Int × Int) × Int × List (Int × ByteArray) × List (Int) × List (ByteArray))) =>
(rec0 (q43, (p5.1, ((wi64 (y0.2.2.1 + (1 : Int))), ())))))))
else none))))
else none))))
else none)))
else none))))
else none))))
else none)))
else none)))
else none)
else none)
else
((fun (z1 : (List (Int × Int × Int × List (ByteArray) × List (Int × ByteArray × Int × Int) × Int × List (Int × ByteArray) × List (Int) × List (ByteArray))) × Int × Unit) =>
some (z1.2.1, (z1.1, ((), ())))) (y0.1, (y0.2.1, ()))))) k (x.1, (x.2.1, ((0 : Int), ()))))
abbrev E_w_markChanS (k : Nat) : Entry := ⟨101, 0, (.cons (.mut false 68 yT1) yP8), (.int .i64), w_markChanS k⟩
theorem t_w_markChanS (k : Nat) (x) : evF TTabO k [E_w_markStringS k, E_w_markPendingS k, E_w_markEarlyS k, E_w_markIntS k] [(0, ⟨[0, 1, 5], (.cons (.own false 68 yT1) (.cons (.int .i64) yP8))⟩, ⟨[0, 1], (.cons (.own false 68 yT1) yP8)⟩)] Try.f101 (.cons (.mut false 68 yT1) yP8) (.int .i64) x = w_markChanS k x := by kernel_rfl
theorem e_w_markChanS [Names] (k : Nat) : EntryOk Try.prog (E_w_markChanS k) := entry_ok tokO (es_cons (e_w_markStringS k) (es_cons (e_w_markPendingS k) (es_cons (e_w_markEarlyS k) (es_cons (e_w_markIntS k) es_nil)))) (by kernel_rfl) (by kernel_rfl) (by kernel_rfl) fun x r h => (t_w_markChanS k x).trans h
def w_markPacketS (k : Nat) (x : (List (Int × Int × Int × Int × Int × List (Int) × ByteArray)) × Int × Unit) : Option (Int × (List (Int × Int × Int × Int × Int × List (Int) × ByteArray)) × Unit × Unit) :=
(whileK (fun (rec0 : ((List (Int × Int × Int × Int × Int × List (Int) × ByteArray)) × Int × Int × Unit) → Option _) (y0 : (List (Int × Int × Int × Int × Int × List (Int) × ByteArray)) × Int × Int × Unit) =>
(if (decide (y0.2.2.1 < (List.length y0.1 : Int))) = true then
(if 0 ≤ y0.2.2.1 ∧ y0.2.2.1 < (List.length y0.1 : Int) then
(if 0 ≤ y0.2.2.1 ∧ y0.2.2.1 < (List.length (List.set y0.1 (Int.toNat y0.2.2.1) (y0.2.1, (Ty.rd (t := yT5) y0.1 y0.2.2.1).2)) : Int) then
(jn (List.set (List.set y0.1 (Int.toNat y0.2.2.1) (y0.2.1, (Ty.rd (t := yT5) y0.1 y0.2.2.1).2)) (Int.toNat y0.2.2.1) ((Ty.rd (t := yT5) (List.set y0.1 (Int.toNat y0.2.2.1) (y0.2.1, (Ty.rd (t := yT5) y0.1 y0.2.2.1).2)) y0.2.2.1).1, ((wi64 (y0.2.1 + (1 : Int))), (Ty.rd (t := yT5) (List.set y0.1 (Int.toNat y0.2.2.1) (y0.2.1, (Ty.rd (t := yT5) y0.1 y0.2.2.1).2)) y0.2.2.1).2.2))) (fun (q44 : List (Int × Int × Int × Int × Int × List (Int) × ByteArray)) =>
(if 0 ≤ y0.2.2.1 ∧ y0.2.2.1 < (List.length q44 : Int) then
(jn (List.set q44 (Int.toNat y0.2.2.1) ((Ty.rd (t := yT5) q44 y0.2.2.1).1, ((Ty.rd (t := yT5) q44 y0.2.2.1).2.1, ((wi64 ((wi64 (y0.2.1 + (1 : Int))) + (1 : Int))), (Ty.rd (t := yT5) q44 y0.2.2.1).2.2.2)))) (fun (q45 : List (Int × Int × Int × Int × Int × List (Int) × ByteArray)) =>
(if 0 ≤ y0.2.2.1 ∧ y0.2.2.1 < (List.length q45 : Int) then
(jn (List.set q45 (Int.toNat y0.2.2.1) ((Ty.rd (t := yT5) q45 y0.2.2.1).1, ((Ty.rd (t := yT5) q45 y0.2.2.1).2.1, ((Ty.rd (t := yT5) q45 y0.2.2.1).2.2.1, ((wi64 ((wi64 ((wi64 (y0.2.1 + (1 : Int))) + (1 : Int))) + (1 : Int))), (Ty.rd (t := yT5) q45 y0.2.2.1).2.2.2.2))))) (fun (q46 : List (Int × Int × Int × Int × Int × List (Int) × ByteArray)) =>
(if 0 ≤ y0.2.2.1 ∧ y0.2.2.1 < (List.length q46 : Int) then
(jn (List.set q46 (Int.toNat y0.2.2.1) ((Ty.rd (t := yT5) q46 y0.2.2.1).1, ((Ty.rd (t := yT5) q46 y0.2.2.1).2.1, ((Ty.rd (t := yT5) q46 y0.2.2.1).2.2.1, ((Ty.rd (t := yT5) q46 y0.2.2.1).2.2.2.1, ((wi64 ((wi64 ((wi64 ((wi64 (y0.2.1 + (1 : Int))) + (1 : Int))) + (1 : Int))) + (1 : Int))), (Ty.rd (t := yT5) q46 y0.2.2.1).2.2.2.2.2)))))) (fun (q47 : List (Int × Int × Int × Int × Int × List (Int) × ByteArray)) =>
(if 0 ≤ y0.2.2.1 ∧ y0.2.2.1 < (List.length q47 : Int) then
((w_markIntS k ((Ty.rd (t := yT5) q47 y0.2.2.1).2.2.2.2.2.1, ((wi64 ((wi64 ((wi64 ((wi64 ((wi64 (y0.2.1 + (1 : Int))) + (1 : Int))) + (1 : Int))) + (1 : Int))) + (1 : Int))), ()))).bind fun p1 =>
(jn (List.set q47 (Int.toNat y0.2.2.1) ((Ty.rd (t := yT5) q47 y0.2.2.1).1, ((Ty.rd (t := yT5) q47 y0.2.2.1).2.1, ((Ty.rd (t := yT5) q47 y0.2.2.1).2.2.1, ((Ty.rd (t := yT5) q47 y0.2.2.1).2.2.2.1, ((Ty.rd (t := yT5) q47 y0.2.2.1).2.2.2.2.1, (p1.2.1, (Ty.rd (t := yT5) q47 y0.2.2.1).2.2.2.2.2.2))))))) (fun (q48 : List (Int × Int × Int × Int × Int × List (Int) × ByteArray)) =>
((w_markText k (p1.1, ())).bind fun p2 =>
(if 0 ≤ y0.2.2.1 ∧ y0.2.2.1 < (List.length q48 : Int) then
(jn (List.set q48 (Int.toNat y0.2.2.1) ((Ty.rd (t := yT5) q48 y0.2.2.1).1, ((Ty.rd (t := yT5) q48 y0.2.2.1).2.1, ((Ty.rd (t := yT5) q48 y0.2.2.1).2.2.1, ((Ty.rd (t := yT5) q48 y0.2.2.1).2.2.2.1, ((Ty.rd (t := yT5) q48 y0.2.2.1).2.2.2.2.1, ((Ty.rd (t := yT5) q48 y0.2.2.1).2.2.2.2.2.1, p2.1))))))) (fun (q49 : List (Int × Int × Int × Int × Int × List (Int) × ByteArray)) =>
(rec0 (q49, ((wi64 (p1.1 + (1 : Int))), ((wi64 (y0.2.2.1 + (1 : Int))), ()))))))
else none)))))
else none)))
else none)))
else none)))
else none)))
else none)
else none)
else
((fun (z1 : (List (Int × Int × Int × Int × Int × List (Int) × ByteArray)) × Int × Unit) =>
some (z1.2.1, (z1.1, ((), ())))) (y0.1, (y0.2.1, ()))))) k (x.1, (x.2.1, ((0 : Int), ()))))
abbrev E_w_markPacketS (k : Nat) : Entry := ⟨102, 0, (.cons (.mut false 122 yT5) yP8), (.int .i64), w_markPacketS k⟩
theorem t_w_markPacketS (k : Nat) (x) : evF TTabO k [E_w_markText k, E_w_markIntS k] [(0, ⟨[0, 1, 5], (.cons (.own false 122 yT5) (.cons (.int .i64) yP8))⟩, ⟨[0, 1], (.cons (.own false 122 yT5) yP8)⟩)] Try.f102 (.cons (.mut false 122 yT5) yP8) (.int .i64) x = w_markPacketS k x := by kernel_rfl
theorem e_w_markPacketS [Names] (k : Nat) : EntryOk Try.prog (E_w_markPacketS k) := entry_ok tokO (es_cons (e_w_markText k) (es_cons (e_w_markIntS k) es_nil)) (by kernel_rfl) (by kernel_rfl) (by kernel_rfl) fun x r h => (t_w_markPacketS k x).trans h
def w_markTalk (k : Nat) (x : ((List (Int × Int × Int × List (ByteArray) × List (Int × ByteArray × Int × Int) × Int × List (Int × ByteArray) × List (Int) × List (ByteArray))) × Int × (List (Int × Int × Int × Int × Int × List (Int) × ByteArray)) × Unit) × Int × Unit) : Option (Int × ((List (Int × Int × Int × List (ByteArray) × List (Int × ByteArray × Int × Int) × Int × List (Int × ByteArray) × List (Int) × List (ByteArray))) × Unit × (List (Int × Int × Int × Int × Int × List (Int) × ByteArray)) × Unit) × Unit × Unit) :=
((w_markChanS k (x.1.1, (x.2.1, ()))).bind fun p1 =>
((w_markPacketS k (x.1.2.2.1, (p1.1, ()))).bind fun p2 =>
some (p2.1, ((p1.2.1, ((), (p2.2.1, ()))), ((), ())))))
abbrev E_w_markTalk (k : Nat) : Entry := ⟨46, 0, (.cons (.mag (.cons (.mut false 68 yT1) (.cons (.int .i64) (.cons (.mut false 122 yT5) .nil)))) yP8), (.int .i64), w_markTalk k⟩
theorem t_w_markTalk (k : Nat) (x) : evF TTabO k [E_w_markChanS k, E_w_markPacketS k] [] Try.f46 (.cons (.mag (.cons (.mut false 68 yT1) (.cons (.int .i64) (.cons (.mut false 122 yT5) .nil)))) yP8) (.int .i64) x = w_markTalk k x := by kernel_rfl
theorem e_w_markTalk [Names] (k : Nat) : EntryOk Try.prog (E_w_markTalk k) := entry_ok tokO (es_cons (e_w_markChanS k) (es_cons (e_w_markPacketS k) es_nil)) (by kernel_rfl) (by kernel_rfl) (by kernel_rfl) fun x r h => (t_w_markTalk k x).trans h
def w_heldPendingS (k : Nat) (x : (List (Int × ByteArray × Int × Int)) × Int × Unit) : Option (Int × Unit × Unit × Unit) :=
(whileK (fun (rec0 : ((List (Int × ByteArray × Int × Int)) × Int × Int × Unit) → Option _) (y0 : (List (Int × ByteArray × Int × Int)) × Int × Int × Unit) =>
(if (decide (y0.2.2.1 < (List.length y0.1 : Int))) = true then
(if 0 ≤ y0.2.2.1 ∧ y0.2.2.1 < (List.length y0.1 : Int) then
(if (!decide ((Ty.rd (t := yT3) y0.1 y0.2.2.1).1 = y0.2.1)) = true then
some ((-1 : Int), ((), ((), ())))
else
(if 0 ≤ y0.2.2.1 ∧ y0.2.2.1 < (List.length y0.1 : Int) then
((w_markText k ((wi64 (y0.2.1 + (1 : Int))), ())).bind fun p1 =>
(if (!decide ((Ty.rd (t := yT3) y0.1 y0.2.2.1).2.1 = p1.1)) = true then
some ((-1 : Int), ((), ((), ())))
else
(if 0 ≤ y0.2.2.1 ∧ y0.2.2.1 < (List.length y0.1 : Int) then
(if (!decide ((Ty.rd (t := yT3) y0.1 y0.2.2.1).2.2.1 = (wi64 ((wi64 (y0.2.1 + (1 : Int))) + (1 : Int))))) = true then
some ((-1 : Int), ((), ((), ())))
else
(if 0 ≤ y0.2.2.1 ∧ y0.2.2.1 < (List.length y0.1 : Int) then
(if (!decide ((Ty.rd (t := yT3) y0.1 y0.2.2.1).2.2.2 = (wi64 ((wi64 ((wi64 (y0.2.1 + (1 : Int))) + (1 : Int))) + (1 : Int))))) = true then
some ((-1 : Int), ((), ((), ())))
else
(rec0 (y0.1, ((wi64 ((wi64 ((wi64 ((wi64 (y0.2.1 + (1 : Int))) + (1 : Int))) + (1 : Int))) + (1 : Int))), ((wi64 (y0.2.2.1 + (1 : Int))), ())))))
else none))
else none)))
else none))
else none)
else
((fun (z1 : Int × Unit) =>
some (z1.1, ((), ((), ())))) (y0.2.1, ())))) k (x.1, (x.2.1, ((0 : Int), ()))))
abbrev E_w_heldPendingS (k : Nat) : Entry := ⟨141, 0, (.cons (.il true yT3) yP8), (.int .i64), w_heldPendingS k⟩
theorem t_w_heldPendingS (k : Nat) (x) : evF TTab k [E_w_markText k] [(0, ⟨[0, 1, 5], (.cons (.il true yT3) (.cons (.int .i64) yP8))⟩, ⟨[1], yP8⟩)] Try.f141 (.cons (.il true yT3) yP8) (.int .i64) x = w_heldPendingS k x := by kernel_rfl
theorem e_w_heldPendingS [Names] (k : Nat) : EntryOk Try.prog (E_w_heldPendingS k) := entry_ok tok (es_cons (e_w_markText k) es_nil) (by kernel_rfl) (by kernel_rfl) (by kernel_rfl) fun x r h => (t_w_heldPendingS k x).trans h
def w_heldEarlyS (k : Nat) (x : (List (Int × ByteArray)) × Int × Unit) : Option (Int × Unit × Unit × Unit) :=
(whileK (fun (rec0 : ((List (Int × ByteArray)) × Int × Int × Unit) → Option _) (y0 : (List (Int × ByteArray)) × Int × Int × Unit) =>
(if (decide (y0.2.2.1 < (List.length y0.1 : Int))) = true then
(if 0 ≤ y0.2.2.1 ∧ y0.2.2.1 < (List.length y0.1 : Int) then
(if (!decide ((Ty.rd (t := yT11) y0.1 y0.2.2.1).1 = y0.2.1)) = true then
some ((-1 : Int), ((), ((), ())))
else
(if 0 ≤ y0.2.2.1 ∧ y0.2.2.1 < (List.length y0.1 : Int) then
((w_markText k ((wi64 (y0.2.1 + (1 : Int))), ())).bind fun p1 =>
(if (!decide ((Ty.rd (t := yT11) y0.1 y0.2.2.1).2 = p1.1)) = true then
some ((-1 : Int), ((), ((), ())))
else
(rec0 (y0.1, ((wi64 ((wi64 (y0.2.1 + (1 : Int))) + (1 : Int))), ((wi64 (y0.2.2.1 + (1 : Int))), ()))))))
else none))
else none)
else
((fun (z1 : Int × Unit) =>
some (z1.1, ((), ((), ())))) (y0.2.1, ())))) k (x.1, (x.2.1, ((0 : Int), ()))))
abbrev E_w_heldEarlyS (k : Nat) : Entry := ⟨142, 0, (.cons (.il true yT11) yP8), (.int .i64), w_heldEarlyS k⟩
theorem t_w_heldEarlyS (k : Nat) (x) : evF TTab k [E_w_markText k] [(0, ⟨[0, 1, 5], (.cons (.il true yT11) (.cons (.int .i64) yP8))⟩, ⟨[1], yP8⟩)] Try.f142 (.cons (.il true yT11) yP8) (.int .i64) x = w_heldEarlyS k x := by kernel_rfl
theorem e_w_heldEarlyS [Names] (k : Nat) : EntryOk Try.prog (E_w_heldEarlyS k) := entry_ok tok (es_cons (e_w_markText k) es_nil) (by kernel_rfl) (by kernel_rfl) (by kernel_rfl) fun x r h => (t_w_heldEarlyS k x).trans h
def w_heldIntS (k : Nat) (x : List (Int) × Int × Unit) : Option (Int × Unit × Unit × Unit) :=
(whileK (fun (rec0 : (List (Int) × Int × Int × Unit) → Option _) (y0 : List (Int) × Int × Int × Unit) =>
(if (decide (y0.2.2.1 < (List.length y0.1 : Int))) = true then
(if 0 ≤ y0.2.2.1 ∧ y0.2.2.1 < (List.length y0.1 : Int) then
(if (!decide ((Ty.rd (t := (.int .i64)) y0.1 y0.2.2.1) = y0.2.1)) = true then
some ((-1 : Int), ((), ((), ())))
else
(rec0 (y0.1, ((wi64 (y0.2.1 + (1 : Int))), ((wi64 (y0.2.2.1 + (1 : Int))), ())))))
else none)
else
((fun (z1 : Int × Unit) =>
some (z1.1, ((), ((), ())))) (y0.2.1, ())))) k (x.1, (x.2.1, ((0 : Int), ()))))
abbrev E_w_heldIntS (k : Nat) : Entry := ⟨143, 0, (.cons (.il true (.int .i64)) yP8), (.int .i64), w_heldIntS k⟩
theorem t_w_heldIntS (k : Nat) (x) : evF TTab k [] [(0, ⟨[0, 1, 5], (.cons (.il true (.int .i64)) (.cons (.int .i64) yP8))⟩, ⟨[1], yP8⟩)] Try.f143 (.cons (.il true (.int .i64)) yP8) (.int .i64) x = w_heldIntS k x := by kernel_rfl
theorem e_w_heldIntS [Names] (k : Nat) : EntryOk Try.prog (E_w_heldIntS k) := entry_ok tok es_nil (by kernel_rfl) (by kernel_rfl) (by kernel_rfl) fun x r h => (t_w_heldIntS k x).trans h
def w_heldChanS (k : Nat) (x : (List (Int × Int × Int × List (ByteArray) × List (Int × ByteArray × Int × Int) × Int × List (Int × ByteArray) × List (Int) × List (ByteArray))) × Int × Unit) : Option (Int × Unit × Unit × Unit) :=
(whileK (fun (rec0 : ((List (Int × Int × Int × List (ByteArray) × List (Int × ByteArray × Int × Int) × Int × List (Int × ByteArray) × List (Int) × List (ByteArray))) × Int × Int × Unit) → Option _) (y0 : (List (Int × Int × Int × List (ByteArray) × List (Int × ByteArray × Int × Int) × Int × List (Int × ByteArray) × List (Int) × List (ByteArray))) × Int × Int × Unit) =>
(if (decide (y0.2.2.1 < (List.length y0.1 : Int))) = true then
(if 0 ≤ y0.2.2.1 ∧ y0.2.2.1 < (List.length y0.1 : Int) then
(if (!decide ((Ty.rd (t := yT0) y0.1 y0.2.2.1).1 = y0.2.1)) = true then
some ((-1 : Int), ((), ((), ())))
else
(if 0 ≤ y0.2.2.1 ∧ y0.2.2.1 < (List.length y0.1 : Int) then
(if (!decide ((Ty.rd (t := yT0) y0.1 y0.2.2.1).2.1 = (wi64 (y0.2.1 + (1 : Int))))) = true then
some ((-1 : Int), ((), ((), ())))
else
(if 0 ≤ y0.2.2.1 ∧ y0.2.2.1 < (List.length y0.1 : Int) then
(if (!decide ((Ty.rd (t := yT0) y0.1 y0.2.2.1).2.2.1 = (wi64 ((wi64 (y0.2.1 + (1 : Int))) + (1 : Int))))) = true then
some ((-1 : Int), ((), ((), ())))
else
(if 0 ≤ y0.2.2.1 ∧ y0.2.2.1 < (List.length y0.1 : Int) then
((w_heldStringS k ((Ty.rd (t := yT0) y0.1 y0.2.2.1).2.2.2.1, ((wi64 ((wi64 ((wi64 (y0.2.1 + (1 : Int))) + (1 : Int))) + (1 : Int))), ()))).bind fun p1 =>
(if (decide (p1.1 < (0 : Int))) = true then
some ((-1 : Int), ((), ((), ())))
else
(if 0 ≤ y0.2.2.1 ∧ y0.2.2.1 < (List.length y0.1 : Int) then
((w_heldPendingS k ((Ty.rd (t := yT0) y0.1 y0.2.2.1).2.2.2.2.1, (p1.1, ()))).bind fun p2 =>
(if (decide (p2.1 < (0 : Int))) = true then
some ((-1 : Int), ((), ((), ())))
else
(if 0 ≤ y0.2.2.1 ∧ y0.2.2.1 < (List.length y0.1 : Int) then
(if (!decide ((Ty.rd (t := yT0) y0.1 y0.2.2.1).2.2.2.2.2.1 = p2.1)) = true then
some ((-1 : Int), ((), ((), ())))
else
(if 0 ≤ y0.2.2.1 ∧ y0.2.2.1 < (List.length y0.1 : Int) then
((w_heldEarlyS k ((Ty.rd (t := yT0) y0.1 y0.2.2.1).2.2.2.2.2.2.1, ((wi64 (p2.1 + (1 : Int))), ()))).bind fun p3 =>
(if (decide (p3.1 < (0 : Int))) = true then
some ((-1 : Int), ((), ((), ())))
else
(if 0 ≤ y0.2.2.1 ∧ y0.2.2.1 < (List.length y0.1 : Int) then
((w_heldIntS k ((Ty.rd (t := yT0) y0.1 y0.2.2.1).2.2.2.2.2.2.2.1, (p3.1, ()))).bind fun p4 =>
(if (decide (p4.1 < (0 : Int))) = true then
some ((-1 : Int), ((), ((), ())))
else
(if 0 ≤ y0.2.2.1 ∧ y0.2.2.1 < (List.length y0.1 : Int) then
((w_heldStringS k ((Ty.rd (t := yT0) y0.1 y0.2.2.1).2.2.2.2.2.2.2.2, (p4.1, ()))).bind fun p5 =>
(if (decide (p5.1 < (0 : Int))) = true then
some ((-1 : Int), ((), ((), ())))
else
(rec0 (y0.1, (p5.1, ((wi64 (y0.2.2.1 + (1 : Int))), ()))))))
else none)))
else none)))
else none))
else none)))
else none)))
else none))
else none))
else none))
else none)
else
((fun (z1 : Int × Unit) =>
some (z1.1, ((), ((), ())))) (y0.2.1, ())))) k (x.1, (x.2.1, ((0 : Int), ()))))
abbrev E_w_heldChanS (k : Nat) : Entry := ⟨103, 0, (.cons (.il true yT0) yP8), (.int .i64), w_heldChanS k⟩
theorem t_w_heldChanS (k : Nat) (x) : evF TTabO k [E_w_heldStringS k, E_w_heldPendingS k, E_w_heldEarlyS k, E_w_heldIntS k] [(0, ⟨[0, 1, 5], (.cons (.il true yT0) (.cons (.int .i64) yP8))⟩, ⟨[1], yP8⟩)] Try.f103 (.cons (.il true yT0) yP8) (.int .i64) x = w_heldChanS k x := by kernel_rfl
theorem e_w_heldChanS [Names] (k : Nat) : EntryOk Try.prog (E_w_heldChanS k) := entry_ok tokO (es_cons (e_w_heldStringS k) (es_cons (e_w_heldPendingS k) (es_cons (e_w_heldEarlyS k) (es_cons (e_w_heldIntS k) es_nil)))) (by kernel_rfl) (by kernel_rfl) (by kernel_rfl) fun x r h => (t_w_heldChanS k x).trans h
def w_heldPacketS (k : Nat) (x : (List (Int × Int × Int × Int × Int × List (Int) × ByteArray)) × Int × Unit) : Option (Int × Unit × Unit × Unit) :=
(whileK (fun (rec0 : ((List (Int × Int × Int × Int × Int × List (Int) × ByteArray)) × Int × Int × Unit) → Option _) (y0 : (List (Int × Int × Int × Int × Int × List (Int) × ByteArray)) × Int × Int × Unit) =>
(if (decide (y0.2.2.1 < (List.length y0.1 : Int))) = true then
(if 0 ≤ y0.2.2.1 ∧ y0.2.2.1 < (List.length y0.1 : Int) then
(if (!decide ((Ty.rd (t := yT2) y0.1 y0.2.2.1).1 = y0.2.1)) = true then
some ((-1 : Int), ((), ((), ())))
else
(if 0 ≤ y0.2.2.1 ∧ y0.2.2.1 < (List.length y0.1 : Int) then
(if (!decide ((Ty.rd (t := yT2) y0.1 y0.2.2.1).2.1 = (wi64 (y0.2.1 + (1 : Int))))) = true then
some ((-1 : Int), ((), ((), ())))
else
(if 0 ≤ y0.2.2.1 ∧ y0.2.2.1 < (List.length y0.1 : Int) then
(if (!decide ((Ty.rd (t := yT2) y0.1 y0.2.2.1).2.2.1 = (wi64 ((wi64 (y0.2.1 + (1 : Int))) + (1 : Int))))) = true then
some ((-1 : Int), ((), ((), ())))
else
(if 0 ≤ y0.2.2.1 ∧ y0.2.2.1 < (List.length y0.1 : Int) then
(if (!decide ((Ty.rd (t := yT2) y0.1 y0.2.2.1).2.2.2.1 = (wi64 ((wi64 ((wi64 (y0.2.1 + (1 : Int))) + (1 : Int))) + (1 : Int))))) = true then
some ((-1 : Int), ((), ((), ())))
else
(if 0 ≤ y0.2.2.1 ∧ y0.2.2.1 < (List.length y0.1 : Int) then
(if (!decide ((Ty.rd (t := yT2) y0.1 y0.2.2.1).2.2.2.2.1 = (wi64 ((wi64 ((wi64 ((wi64 (y0.2.1 + (1 : Int))) + (1 : Int))) + (1 : Int))) + (1 : Int))))) = true then
some ((-1 : Int), ((), ((), ())))
else
(if 0 ≤ y0.2.2.1 ∧ y0.2.2.1 < (List.length y0.1 : Int) then
((w_heldIntS k ((Ty.rd (t := yT2) y0.1 y0.2.2.1).2.2.2.2.2.1, ((wi64 ((wi64 ((wi64 ((wi64 ((wi64 (y0.2.1 + (1 : Int))) + (1 : Int))) + (1 : Int))) + (1 : Int))) + (1 : Int))), ()))).bind fun p1 =>
(if (decide (p1.1 < (0 : Int))) = true then
some ((-1 : Int), ((), ((), ())))
else
(if 0 ≤ y0.2.2.1 ∧ y0.2.2.1 < (List.length y0.1 : Int) then
((w_markText k (p1.1, ())).bind fun p2 =>
(if (!decide ((Ty.rd (t := yT2) y0.1 y0.2.2.1).2.2.2.2.2.2 = p2.1)) = true then
some ((-1 : Int), ((), ((), ())))
else
(rec0 (y0.1, ((wi64 (p1.1 + (1 : Int))), ((wi64 (y0.2.2.1 + (1 : Int))), ()))))))
else none)))
else none))
else none))
else none))
else none))
else none))
else none)
else
((fun (z1 : Int × Unit) =>
some (z1.1, ((), ((), ())))) (y0.2.1, ())))) k (x.1, (x.2.1, ((0 : Int), ()))))
abbrev E_w_heldPacketS (k : Nat) : Entry := ⟨104, 0, (.cons (.il true yT2) yP8), (.int .i64), w_heldPacketS k⟩
theorem t_w_heldPacketS (k : Nat) (x) : evF TTabO k [E_w_markText k, E_w_heldIntS k] [(0, ⟨[0, 1, 5], (.cons (.il true yT2) (.cons (.int .i64) yP8))⟩, ⟨[1], yP8⟩)] Try.f104 (.cons (.il true yT2) yP8) (.int .i64) x = w_heldPacketS k x := by kernel_rfl
theorem e_w_heldPacketS [Names] (k : Nat) : EntryOk Try.prog (E_w_heldPacketS k) := entry_ok tokO (es_cons (e_w_markText k) (es_cons (e_w_heldIntS k) es_nil)) (by kernel_rfl) (by kernel_rfl) (by kernel_rfl) fun x r h => (t_w_heldPacketS k x).trans h
def w_heldTalk (k : Nat) (x : ((List (Int × Int × Int × List (ByteArray) × List (Int × ByteArray × Int × Int) × Int × List (Int × ByteArray) × List (Int) × List (ByteArray))) × Int × (List (Int × Int × Int × Int × Int × List (Int) × ByteArray)) × Unit) × Int × Unit) : Option (Int × Unit × Unit × Unit) :=
((w_heldChanS k (x.1.1, (x.2.1, ()))).bind fun p1 =>
(if (decide (p1.1 < (0 : Int))) = true then
some ((-1 : Int), ((), ((), ())))
else
((w_heldPacketS k (x.1.2.2.1, (p1.1, ()))).bind fun p2 =>
(if (decide (p2.1 < (0 : Int))) = true then
some ((-1 : Int), ((), ((), ())))
else
some (p2.1, ((), ((), ())))))))
abbrev E_w_heldTalk (k : Nat) : Entry := ⟨47, 0, (.cons (.agg yP14) yP8), (.int .i64), w_heldTalk k⟩
theorem t_w_heldTalk (k : Nat) (x) : evF TTabO k [E_w_heldChanS k, E_w_heldPacketS k] [] Try.f47 (.cons (.agg yP14) yP8) (.int .i64) x = w_heldTalk k x := by kernel_rfl
theorem e_w_heldTalk [Names] (k : Nat) : EntryOk Try.prog (E_w_heldTalk k) := entry_ok tokO (es_cons (e_w_heldChanS k) (es_cons (e_w_heldPacketS k) es_nil)) (by kernel_rfl) (by kernel_rfl) (by kernel_rfl) fun x r h => (t_w_heldTalk k x).trans h
def w_szPending (k : Nat) (x : (Int × ByteArray × Int × Int × Unit) × Int × Unit) : Option (Int × Unit × Unit × Unit) :=
(if (decide ((wi64 (x.2.1 - (ByteArray.size x.1.2.1 : Int))) < (0 : Int))) = true then
some ((-1 : Int), ((), ((), ())))
else
some ((wi64 (x.2.1 - (ByteArray.size x.1.2.1 : Int))), ((), ((), ()))))
abbrev E_w_szPending (k : Nat) : Entry := ⟨184, 0, (.cons yP17 yP8), (.int .i64), w_szPending k⟩
theorem t_w_szPending (k : Nat) (x) : evF TTab k [] [] Try.f184 (.cons yP17 yP8) (.int .i64) x = w_szPending k x := by kernel_rfl
theorem e_w_szPending [Names] (k : Nat) : EntryOk Try.prog (E_w_szPending k) := entry_ok tok es_nil (by kernel_rfl) (by kernel_rfl) (by kernel_rfl) fun x r h => (t_w_szPending k x).trans h
def w_szPendingS (k : Nat) (x : (List (Int × ByteArray × Int × Int)) × Int × Unit) : Option (Int × Unit × Unit × Unit) :=
(if (decide ((wi64 (x.2.1 - (List.length x.1 : Int))) < (0 : Int))) = true then
some ((-1 : Int), ((), ((), ())))
else
(whileK (fun (rec0 : ((List (Int × ByteArray × Int × Int)) × Int × Int × Unit) → Option _) (y0 : (List (Int × ByteArray × Int × Int)) × Int × Int × Unit) =>
(if (decide (y0.2.2.1 < (List.length y0.1 : Int))) = true then
(if 0 ≤ y0.2.2.1 ∧ y0.2.2.1 < (List.length y0.1 : Int) then
((w_szPending k (((Ty.rd (t := yT3) y0.1 y0.2.2.1).1, ((Ty.rd (t := yT3) y0.1 y0.2.2.1).2.1, ((Ty.rd (t := yT3) y0.1 y0.2.2.1).2.2.1, ((Ty.rd (t := yT3) y0.1 y0.2.2.1).2.2.2, ())))), (y0.2.1, ()))).bind fun p1 =>
(if (decide (p1.1 < (0 : Int))) = true then
some ((-1 : Int), ((), ((), ())))
else
(rec0 (y0.1, (p1.1, ((wi64 (y0.2.2.1 + (1 : Int))), ()))))))
else none)
else
((fun (z1 : Int × Unit) =>
some (z1.1, ((), ((), ())))) (y0.2.1, ())))) k (x.1, ((wi64 (x.2.1 - (List.length x.1 : Int))), ((0 : Int), ())))))
abbrev E_w_szPendingS (k : Nat) : Entry := ⟨167, 0, (.cons (.il true yT3) yP8), (.int .i64), w_szPendingS k⟩
theorem t_w_szPendingS (k : Nat) (x) : evF TTab k [E_w_szPending k] [(0, ⟨[0, 1, 5], (.cons (.il true yT3) (.cons (.int .i64) yP8))⟩, ⟨[1], yP8⟩)] Try.f167 (.cons (.il true yT3) yP8) (.int .i64) x = w_szPendingS k x := by kernel_rfl
theorem e_w_szPendingS [Names] (k : Nat) : EntryOk Try.prog (E_w_szPendingS k) := entry_ok tok (es_cons (e_w_szPending k) es_nil) (by kernel_rfl) (by kernel_rfl) (by kernel_rfl) fun x r h => (t_w_szPendingS k x).trans h
def w_szEarly (k : Nat) (x : (Int × ByteArray × Unit) × Int × Unit) : Option (Int × Unit × Unit × Unit) :=
(if (decide ((wi64 (x.2.1 - (ByteArray.size x.1.2.1 : Int))) < (0 : Int))) = true then
some ((-1 : Int), ((), ((), ())))
else
some ((wi64 (x.2.1 - (ByteArray.size x.1.2.1 : Int))), ((), ((), ()))))
abbrev E_w_szEarly (k : Nat) : Entry := ⟨185, 0, (.cons (.agg yP18) yP8), (.int .i64), w_szEarly k⟩
theorem t_w_szEarly (k : Nat) (x) : evF TTab k [] [] Try.f185 (.cons (.agg yP18) yP8) (.int .i64) x = w_szEarly k x := by kernel_rfl
theorem e_w_szEarly [Names] (k : Nat) : EntryOk Try.prog (E_w_szEarly k) := entry_ok tok es_nil (by kernel_rfl) (by kernel_rfl) (by kernel_rfl) fun x r h => (t_w_szEarly k x).trans h
def w_szEarlyS (k : Nat) (x : (List (Int × ByteArray)) × Int × Unit) : Option (Int × Unit × Unit × Unit) :=
(if (decide ((wi64 (x.2.1 - (List.length x.1 : Int))) < (0 : Int))) = true then
some ((-1 : Int), ((), ((), ())))
else
(whileK (fun (rec0 : ((List (Int × ByteArray)) × Int × Int × Unit) → Option _) (y0 : (List (Int × ByteArray)) × Int × Int × Unit) =>
(if (decide (y0.2.2.1 < (List.length y0.1 : Int))) = true then
(if 0 ≤ y0.2.2.1 ∧ y0.2.2.1 < (List.length y0.1 : Int) then
((w_szEarly k (((Ty.rd (t := yT11) y0.1 y0.2.2.1).1, ((Ty.rd (t := yT11) y0.1 y0.2.2.1).2, ())), (y0.2.1, ()))).bind fun p1 =>
(if (decide (p1.1 < (0 : Int))) = true then
some ((-1 : Int), ((), ((), ())))
else
(rec0 (y0.1, (p1.1, ((wi64 (y0.2.2.1 + (1 : Int))), ()))))))
else none)
else
((fun (z1 : Int × Unit) =>
some (z1.1, ((), ((), ())))) (y0.2.1, ())))) k (x.1, ((wi64 (x.2.1 - (List.length x.1 : Int))), ((0 : Int), ())))))
abbrev E_w_szEarlyS (k : Nat) : Entry := ⟨168, 0, (.cons (.il true yT11) yP8), (.int .i64), w_szEarlyS k⟩
theorem t_w_szEarlyS (k : Nat) (x) : evF TTab k [E_w_szEarly k] [(0, ⟨[0, 1, 5], (.cons (.il true yT11) (.cons (.int .i64) yP8))⟩, ⟨[1], yP8⟩)] Try.f168 (.cons (.il true yT11) yP8) (.int .i64) x = w_szEarlyS k x := by kernel_rfl
theorem e_w_szEarlyS [Names] (k : Nat) : EntryOk Try.prog (E_w_szEarlyS k) := entry_ok tok (es_cons (e_w_szEarly k) es_nil) (by kernel_rfl) (by kernel_rfl) (by kernel_rfl) fun x r h => (t_w_szEarlyS k x).trans h
def w_szIntS (k : Nat) (x : List (Int) × Int × Unit) : Option (Int × Unit × Unit × Unit) :=
(if (decide ((wi64 (x.2.1 - (List.length x.1 : Int))) < (0 : Int))) = true then
some ((-1 : Int), ((), ((), ())))
else
some ((wi64 (x.2.1 - (List.length x.1 : Int))), ((), ((), ()))))
abbrev E_w_szIntS (k : Nat) : Entry := ⟨169, 0, (.cons (.il true (.int .i64)) yP8), (.int .i64), w_szIntS k⟩
theorem t_w_szIntS (k : Nat) (x) : evF TTab k [] [] Try.f169 (.cons (.il true (.int .i64)) yP8) (.int .i64) x = w_szIntS k x := by kernel_rfl
theorem e_w_szIntS [Names] (k : Nat) : EntryOk Try.prog (E_w_szIntS k) := entry_ok tok es_nil (by kernel_rfl) (by kernel_rfl) (by kernel_rfl) fun x r h => (t_w_szIntS k x).trans h
def w_szChan (k : Nat) (x : (Int × Int × Int × List (ByteArray) × (List (Int × ByteArray × Int × Int)) × Int × (List (Int × ByteArray)) × List (Int) × List (ByteArray) × Unit) × Int × Unit) : Option (Int × Unit × Unit × Unit) :=
((w_szStringS k (x.1.2.2.2.1, (x.2.1, ()))).bind fun p1 =>
(if (decide (p1.1 < (0 : Int))) = true then
some ((-1 : Int), ((), ((), ())))
else
((w_szPendingS k (x.1.2.2.2.2.1, (p1.1, ()))).bind fun p2 =>
(if (decide (p2.1 < (0 : Int))) = true then
some ((-1 : Int), ((), ((), ())))
else
((w_szEarlyS k (x.1.2.2.2.2.2.2.1, (p2.1, ()))).bind fun p3 =>
(if (decide (p3.1 < (0 : Int))) = true then
some ((-1 : Int), ((), ((), ())))
else
((w_szIntS k (x.1.2.2.2.2.2.2.2.1, (p3.1, ()))).bind fun p4 =>
(if (decide (p4.1 < (0 : Int))) = true then
some ((-1 : Int), ((), ((), ())))
else
((w_szStringS k (x.1.2.2.2.2.2.2.2.2.1, (p4.1, ()))).bind fun p5 =>
(if (decide (p5.1 < (0 : Int))) = true then
some ((-1 : Int), ((), ((), ())))
else
some (p5.1, ((), ((), ())))))))))))))
abbrev E_w_szChan (k : Nat) : Entry := ⟨144, 0, (.cons (.agg yP6) yP8), (.int .i64), w_szChan k⟩
theorem t_w_szChan (k : Nat) (x) : evF TTab k [E_w_szStringS k, E_w_szPendingS k, E_w_szEarlyS k, E_w_szIntS k] [] Try.f144 (.cons (.agg yP6) yP8) (.int .i64) x = w_szChan k x := by kernel_rfl
theorem e_w_szChan [Names] (k : Nat) : EntryOk Try.prog (E_w_szChan k) := entry_ok tok (es_cons (e_w_szStringS k) (es_cons (e_w_szPendingS k) (es_cons (e_w_szEarlyS k) (es_cons (e_w_szIntS k) es_nil)))) (by kernel_rfl) (by kernel_rfl) (by kernel_rfl) fun x r h => (t_w_szChan k x).trans h
def w_szChanS (k : Nat) (x : (List (Int × Int × Int × List (ByteArray) × List (Int × ByteArray × Int × Int) × Int × List (Int × ByteArray) × List (Int) × List (ByteArray))) × Int × Unit) : Option (Int × Unit × Unit × Unit) :=
(if (decide ((wi64 (x.2.1 - (List.length x.1 : Int))) < (0 : Int))) = true then
some ((-1 : Int), ((), ((), ())))
else
(whileK (fun (rec0 : ((List (Int × Int × Int × List (ByteArray) × List (Int × ByteArray × Int × Int) × Int × List (Int × ByteArray) × List (Int) × List (ByteArray))) × Int × Int × Unit) → Option _) (y0 : (List (Int × Int × Int × List (ByteArray) × List (Int × ByteArray × Int × Int) × Int × List (Int × ByteArray) × List (Int) × List (ByteArray))) × Int × Int × Unit) =>
(if (decide (y0.2.2.1 < (List.length y0.1 : Int))) = true then
(if 0 ≤ y0.2.2.1 ∧ y0.2.2.1 < (List.length y0.1 : Int) then
((w_szChan k (((Ty.rd (t := yT0) y0.1 y0.2.2.1).1, ((Ty.rd (t := yT0) y0.1 y0.2.2.1).2.1, ((Ty.rd (t := yT0) y0.1 y0.2.2.1).2.2.1, ((Ty.rd (t := yT0) y0.1 y0.2.2.1).2.2.2.1, ((Ty.rd (t := yT0) y0.1 y0.2.2.1).2.2.2.2.1, ((Ty.rd (t := yT0) y0.1 y0.2.2.1).2.2.2.2.2.1, ((Ty.rd (t := yT0) y0.1 y0.2.2.1).2.2.2.2.2.2.1, ((Ty.rd (t := yT0) y0.1 y0.2.2.1).2.2.2.2.2.2.2.1, ((Ty.rd (t := yT0) y0.1 y0.2.2.1).2.2.2.2.2.2.2.2, ()))))))))), (y0.2.1, ()))).bind fun p1 =>
(if (decide (p1.1 < (0 : Int))) = true then
some ((-1 : Int), ((), ((), ())))
else
(rec0 (y0.1, (p1.1, ((wi64 (y0.2.2.1 + (1 : Int))), ()))))))
else none)
else
((fun (z1 : Int × Unit) =>
some (z1.1, ((), ((), ())))) (y0.2.1, ())))) k (x.1, ((wi64 (x.2.1 - (List.length x.1 : Int))), ((0 : Int), ())))))
abbrev E_w_szChanS (k : Nat) : Entry := ⟨105, 0, (.cons (.il true yT0) yP8), (.int .i64), w_szChanS k⟩
theorem t_w_szChanS (k : Nat) (x) : evF TTabO k [E_w_szChan k] [(0, ⟨[0, 1, 5], (.cons (.il true yT0) (.cons (.int .i64) yP8))⟩, ⟨[1], yP8⟩)] Try.f105 (.cons (.il true yT0) yP8) (.int .i64) x = w_szChanS k x := by kernel_rfl
theorem e_w_szChanS [Names] (k : Nat) : EntryOk Try.prog (E_w_szChanS k) := entry_ok tokO (es_cons (e_w_szChan k) es_nil) (by kernel_rfl) (by kernel_rfl) (by kernel_rfl) fun x r h => (t_w_szChanS k x).trans h
def w_szPacket (k : Nat) (x : (Int × Int × Int × Int × Int × List (Int) × ByteArray × Unit) × Int × Unit) : Option (Int × Unit × Unit × Unit) :=
((w_szIntS k (x.1.2.2.2.2.2.1, (x.2.1, ()))).bind fun p1 =>
(if (decide (p1.1 < (0 : Int))) = true then
some ((-1 : Int), ((), ((), ())))
else
(if (decide ((wi64 (p1.1 - (ByteArray.size x.1.2.2.2.2.2.2.1 : Int))) < (0 : Int))) = true then
some ((-1 : Int), ((), ((), ())))
else
some ((wi64 (p1.1 - (ByteArray.size x.1.2.2.2.2.2.2.1 : Int))), ((), ((), ()))))))
abbrev E_w_szPacket (k : Nat) : Entry := ⟨145, 0, (.cons (.agg yP7) yP8), (.int .i64), w_szPacket k⟩
theorem t_w_szPacket (k : Nat) (x) : evF TTab k [E_w_szIntS k] [] Try.f145 (.cons (.agg yP7) yP8) (.int .i64) x = w_szPacket k x := by kernel_rfl
theorem e_w_szPacket [Names] (k : Nat) : EntryOk Try.prog (E_w_szPacket k) := entry_ok tok (es_cons (e_w_szIntS k) es_nil) (by kernel_rfl) (by kernel_rfl) (by kernel_rfl) fun x r h => (t_w_szPacket k x).trans h
def w_szPacketS (k : Nat) (x : (List (Int × Int × Int × Int × Int × List (Int) × ByteArray)) × Int × Unit) : Option (Int × Unit × Unit × Unit) :=
(if (decide ((wi64 (x.2.1 - (List.length x.1 : Int))) < (0 : Int))) = true then
some ((-1 : Int), ((), ((), ())))
else
(whileK (fun (rec0 : ((List (Int × Int × Int × Int × Int × List (Int) × ByteArray)) × Int × Int × Unit) → Option _) (y0 : (List (Int × Int × Int × Int × Int × List (Int) × ByteArray)) × Int × Int × Unit) =>
(if (decide (y0.2.2.1 < (List.length y0.1 : Int))) = true then
(if 0 ≤ y0.2.2.1 ∧ y0.2.2.1 < (List.length y0.1 : Int) then
((w_szPacket k (((Ty.rd (t := yT2) y0.1 y0.2.2.1).1, ((Ty.rd (t := yT2) y0.1 y0.2.2.1).2.1, ((Ty.rd (t := yT2) y0.1 y0.2.2.1).2.2.1, ((Ty.rd (t := yT2) y0.1 y0.2.2.1).2.2.2.1, ((Ty.rd (t := yT2) y0.1 y0.2.2.1).2.2.2.2.1, ((Ty.rd (t := yT2) y0.1 y0.2.2.1).2.2.2.2.2.1, ((Ty.rd (t := yT2) y0.1 y0.2.2.1).2.2.2.2.2.2, ()))))))), (y0.2.1, ()))).bind fun p1 =>
(if (decide (p1.1 < (0 : Int))) = true then
some ((-1 : Int), ((), ((), ())))
else
(rec0 (y0.1, (p1.1, ((wi64 (y0.2.2.1 + (1 : Int))), ()))))))
else none)
else
((fun (z1 : Int × Unit) =>
some (z1.1, ((), ((), ())))) (y0.2.1, ())))) k (x.1, ((wi64 (x.2.1 - (List.length x.1 : Int))), ((0 : Int), ())))))
abbrev E_w_szPacketS (k : Nat) : Entry := ⟨106, 0, (.cons (.il true yT2) yP8), (.int .i64), w_szPacketS k⟩
theorem t_w_szPacketS (k : Nat) (x) : evF TTabO k [E_w_szPacket k] [(0, ⟨[0, 1, 5], (.cons (.il true yT2) (.cons (.int .i64) yP8))⟩, ⟨[1], yP8⟩)] Try.f106 (.cons (.il true yT2) yP8) (.int .i64) x = w_szPacketS k x := by kernel_rfl
theorem e_w_szPacketS [Names] (k : Nat) : EntryOk Try.prog (E_w_szPacketS k) := entry_ok tokO (es_cons (e_w_szPacket k) es_nil) (by kernel_rfl) (by kernel_rfl) (by kernel_rfl) fun x r h => (t_w_szPacketS k x).trans h
def w_szTalk (k : Nat) (x : ((List (Int × Int × Int × List (ByteArray) × List (Int × ByteArray × Int × Int) × Int × List (Int × ByteArray) × List (Int) × List (ByteArray))) × Int × (List (Int × Int × Int × Int × Int × List (Int) × ByteArray)) × Unit) × Int × Unit) : Option (Int × Unit × Unit × Unit) :=
((w_szChanS k (x.1.1, (x.2.1, ()))).bind fun p1 =>
(if (decide (p1.1 < (0 : Int))) = true then
some ((-1 : Int), ((), ((), ())))
else
((w_szPacketS k (x.1.2.2.1, (p1.1, ()))).bind fun p2 =>
(if (decide (p2.1 < (0 : Int))) = true then
some ((-1 : Int), ((), ((), ())))
else
some (p2.1, ((), ((), ())))))))
abbrev E_w_szTalk (k : Nat) : Entry := ⟨48, 0, (.cons (.agg yP14) yP8), (.int .i64), w_szTalk k⟩
theorem t_w_szTalk (k : Nat) (x) : evF TTabO k [E_w_szChanS k, E_w_szPacketS k] [] Try.f48 (.cons (.agg yP14) yP8) (.int .i64) x = w_szTalk k x := by kernel_rfl
theorem e_w_szTalk [Names] (k : Nat) : EntryOk Try.prog (E_w_szTalk k) := entry_ok tokO (es_cons (e_w_szChanS k) (es_cons (e_w_szPacketS k) es_nil)) (by kernel_rfl) (by kernel_rfl) (by kernel_rfl) fun x r h => (t_w_szTalk k x).trans h
def s_Settle (k : Nat) (x : ((List (Int × Int × Int × List (ByteArray) × List (Int × ByteArray × Int × Int) × Int × List (Int × ByteArray) × List (Int) × List (ByteArray))) × Int × (List (Int × Int × Int × Int × Int × List (Int) × ByteArray)) × Unit) × Int × Unit) : Option (((List (Int × Int × Int × List (ByteArray) × List (Int × ByteArray × Int × Int) × Int × List (Int × ByteArray) × List (Int) × List (ByteArray))) × Int × (List (Int × Int × Int × Int × Int × List (Int) × ByteArray)) × Unit) × Unit × Unit × Unit) :=
((s_l14Copy k ((x.1.1, (x.1.2.1, (x.1.2.2.1, ()))), ())).bind fun p1 =>
(if (!decide ((List.length x.1.1 : Int) = (2 : Int))) = true then
some ((p1.1.1, (p1.1.2.1, (p1.1.2.2.1, ()))), ((), ((), ())))
else
(jn (fun (z2 : ((List (Int × Int × Int × List (ByteArray) × List (Int × ByteArray × Int × Int) × Int × List (Int × ByteArray) × List (Int) × List (ByteArray))) × Int × (List (Int × Int × Int × Int × Int × List (Int) × ByteArray)) × Unit) × ((List (Int × Int × Int × List (ByteArray) × List (Int × ByteArray × Int × Int) × Int × List (Int × ByteArray) × List (Int) × List (ByteArray))) × Int × (List (Int × Int × Int × Int × Int × List (Int) × ByteArray)) × Unit) × Unit) =>
((s_l14Copy k ((z2.2.1.1, (z2.2.1.2.1, (z2.2.1.2.2.1, ()))), ())).bind fun p5 =>
some ((p5.1.1, (p5.1.2.1, (p5.1.2.2.1, ()))), ((), ((), ()))))) (fun (E2 : (((List (Int × Int × Int × List (ByteArray) × List (Int × ByteArray × Int × Int) × Int × List (Int × ByteArray) × List (Int) × List (ByteArray))) × Int × (List (Int × Int × Int × Int × Int × List (Int) × ByteArray)) × Unit) × ((List (Int × Int × Int × List (ByteArray) × List (Int × ByteArray × Int × Int) × Int × List (Int × ByteArray) × List (Int) × List (ByteArray))) × Int × (List (Int × Int × Int × Int × Int × List (Int) × ByteArray)) × Unit) × Unit) → Option _) =>
(whileK (fun (rec0 : (Int × ((List (Int × Int × Int × List (ByteArray) × List (Int × ByteArray × Int × Int) × Int × List (Int × ByteArray) × List (Int) × List (ByteArray))) × Int × (List (Int × Int × Int × Int × Int × List (Int) × ByteArray)) × Unit) × ((List (Int × Int × Int × List (ByteArray) × List (Int × ByteArray × Int × Int) × Int × List (Int × ByteArray) × List (Int) × List (ByteArray))) × Int × (List (Int × Int × Int × Int × Int × List (Int) × ByteArray)) × Unit) × Int × Unit) → Option _) (y0 : Int × ((List (Int × Int × Int × List (ByteArray) × List (Int × ByteArray × Int × Int) × Int × List (Int × ByteArray) × List (Int) × List (ByteArray))) × Int × (List (Int × Int × Int × Int × Int × List (Int) × ByteArray)) × Unit) × ((List (Int × Int × Int × List (ByteArray) × List (Int × ByteArray × Int × Int) × Int × List (Int × ByteArray) × List (Int) × List (ByteArray))) × Int × (List (Int × Int × Int × Int × Int × List (Int) × ByteArray)) × Unit) × Int × Unit) =>
(if (decide (y0.2.2.2.1 < y0.1)) = true then
(if (decide (y0.2.2.2.1 < (200 : Int))) = true then
((s_l14Send k ((y0.2.2.1.1, (y0.2.2.1.2.1, (y0.2.2.1.2.2.1, ()))), ((0 : Int), ()))).bind fun p2 =>
((s_l14Send k ((p2.2.1.1, (p2.2.1.2.1, (p2.2.1.2.2.1, ()))), ((1 : Int), ()))).bind fun p3 =>
(whileK (fun (rec2 : (Int × ((List (Int × Int × Int × List (ByteArray) × List (Int × ByteArray × Int × Int) × Int × List (Int × ByteArray) × List (Int) × List (ByteArray))) × Int × (List (Int × Int × Int × Int × Int × List (Int) × ByteArray)) × Unit) × ((List (Int × Int × Int × List (ByteArray) × List (Int × ByteArray × Int × Int) × Int × List (Int × ByteArray) × List (Int) × List (ByteArray))) × Int × (List (Int × Int × Int × Int × Int × List (Int) × ByteArray)) × Unit) × Int × (List (Int × Int × Int × Int × Int × List (Int) × ByteArray)) × Int × Unit) → Option _) (y2 : Int × ((List (Int × Int × Int × List (ByteArray) × List (Int × ByteArray × Int × Int) × Int × List (Int × ByteArray) × List (Int) × List (ByteArray))) × Int × (List (Int × Int × Int × Int × Int × List (Int) × ByteArray)) × Unit) × ((List (Int × Int × Int × List (ByteArray) × List (Int × ByteArray × Int × Int) × Int × List (Int × ByteArray) × List (Int) × List (ByteArray))) × Int × (List (Int × Int × Int × Int × Int × List (Int) × ByteArray)) × Unit) × Int × (List (Int × Int × Int × Int × Int × List (Int) × ByteArray)) × Int × Unit) =>
(if (decide (y2.2.2.2.2.2.1 < (List.length y2.2.2.2.2.1 : Int))) = true then
(if 0 ≤ y2.2.2.2.2.2.1 ∧ y2.2.2.2.2.2.1 < (List.length y2.2.2.2.2.1 : Int) then
((s_l14Deliver k ((y2.2.2.1.1, (y2.2.2.1.2.1, (y2.2.2.1.2.2.1, ()))), (((Ty.rd (t := yT2) y2.2.2.2.2.1 y2.2.2.2.2.2.1).1, ((Ty.rd (t := yT2) y2.2.2.2.2.1 y2.2.2.2.2.2.1).2.1, ((Ty.rd (t := yT2) y2.2.2.2.2.1 y2.2.2.2.2.2.1).2.2.1, ((Ty.rd (t := yT2) y2.2.2.2.2.1 y2.2.2.2.2.2.1).2.2.2.1, ((Ty.rd (t := yT2) y2.2.2.2.2.1 y2.2.2.2.2.2.1).2.2.2.2.1, ((Ty.rd (t := yT2) y2.2.2.2.2.1 y2.2.2.2.2.2.1).2.2.2.2.2.1, ((Ty.rd (t := yT2) y2.2.2.2.2.1 y2.2.2.2.2.2.1).2.2.2.2.2.2, ()))))))), ()))).bind fun p4 =>
(rec2 (y2.1, ((y2.2.1.1, (y2.2.1.2.1, (y2.2.1.2.2.1, ()))), ((p4.2.1.1, (p4.2.1.2.1, (p4.2.1.2.2.1, ()))), (y2.2.2.2.1, (y2.2.2.2.2.1, ((wi64 (y2.2.2.2.2.2.1 + (1 : Int))), ()))))))))
else none)
else
((fun (z1 : Int × ((List (Int × Int × Int × List (ByteArray) × List (Int × ByteArray × Int × Int) × Int × List (Int × ByteArray) × List (Int) × List (ByteArray))) × Int × (List (Int × Int × Int × Int × Int × List (Int) × ByteArray)) × Unit) × ((List (Int × Int × Int × List (ByteArray) × List (Int × ByteArray × Int × Int) × Int × List (Int × ByteArray) × List (Int) × List (ByteArray))) × Int × (List (Int × Int × Int × Int × Int × List (Int) × ByteArray)) × Unit) × Int × Unit) =>
(rec0 (z1.1, ((z1.2.1.1, (z1.2.1.2.1, (z1.2.1.2.2.1, ()))), ((z1.2.2.1.1, ((wi64 (z1.2.2.1.2.1 + (300 : Int))), (z1.2.2.1.2.2.1, ()))), ((wi64 (z1.2.2.2.1 + (1 : Int))), ())))))) (y2.1, ((y2.2.1.1, (y2.2.1.2.1, (y2.2.1.2.2.1, ()))), ((y2.2.2.1.1, (y2.2.2.1.2.1, (y2.2.2.1.2.2.1, ()))), (y2.2.2.2.1, ()))))))) k (y0.1, ((y0.2.1.1, (y0.2.1.2.1, (y0.2.1.2.2.1, ()))), ((p3.2.1.1, (p3.2.1.2.1, (([] : List (Int × Int × Int × Int × Int × List (Int) × ByteArray)), ()))), (y0.2.2.2.1, (p3.2.1.2.2.1, ((0 : Int), ())))))))))
else
(E2 ((y0.2.1.1, (y0.2.1.2.1, (y0.2.1.2.2.1, ()))), ((y0.2.2.1.1, (y0.2.2.1.2.1, (y0.2.2.1.2.2.1, ()))), ()))))
else
(E2 ((y0.2.1.1, (y0.2.1.2.1, (y0.2.1.2.2.1, ()))), ((y0.2.2.1.1, (y0.2.2.1.2.1, (y0.2.2.1.2.2.1, ()))), ()))))) k (x.2.1, (([], ((0 : Int), ([], ()))), ((p1.1.1, (p1.1.2.1, (p1.1.2.2.1, ()))), ((0 : Int), ())))))))))
abbrev E_s_Settle (k : Nat) : Entry := ⟨49, 0, (.cons (.agg yP14) yP8), (.agg yP12), s_Settle k⟩
theorem t_s_Settle (k : Nat) (x) : evF TTab k [E_s_l14Copy k, E_s_l14Send k, E_s_l14Deliver k] [(0, ⟨[1, 4, 5, 6], (.cons (.int .i64) (.cons (.ptr 0 yP12) (.cons (.ptr 0 yP12) yP8)))⟩, ⟨[4, 5], (.cons (.ptr 0 yP12) (.cons (.ptr 0 yP12) .nil))⟩), (2, ⟨[1, 4, 5, 6, 7, 8], (.cons (.int .i64) (.cons (.ptr 0 yP12) (.cons (.ptr 0 yP12) (.cons (.int .i64) (.cons (.own false 122 yT2) yP8)))))⟩, ⟨[1, 4, 5, 6], (.cons (.int .i64) (.cons (.ptr 0 yP12) (.cons (.ptr 0 yP12) yP8)))⟩)] Try.f49 (.cons (.agg yP14) yP8) (.agg yP12) x = s_Settle k x := by kernel_rfl
theorem e_s_Settle [Names] (k : Nat) : EntryOk Try.prog (E_s_Settle k) := entry_ok tok (es_cons (e_s_l14Copy k) (es_cons (e_s_l14Send k) (es_cons (e_s_l14Deliver k) es_nil))) (by kernel_rfl) (by kernel_rfl) (by kernel_rfl) fun x r h => (t_s_Settle k x).trans h
def w_toPending (k : Nat) (x : (Int × ByteArray × Int × Int × Unit) × Unit) : Option ((Int × ByteArray × Int × Int × Unit) × Unit × Unit) :=
some ((x.1.1, (x.1.2.1, (x.1.2.2.1, (x.1.2.2.2.1, ())))), ((), ()))
abbrev E_w_toPending (k : Nat) : Entry := ⟨186, 0, (.cons yP17 .nil), yP17, w_toPending k⟩
theorem t_w_toPending (k : Nat) (x) : evF TTab k [] [] Try.f186 (.cons yP17 .nil) yP17 x = w_toPending k x := by kernel_rfl
theorem e_w_toPending [Names] (k : Nat) : EntryOk Try.prog (E_w_toPending k) := entry_ok tok es_nil (by kernel_rfl) (by kernel_rfl) (by kernel_rfl) fun x r h => (t_w_toPending k x).trans h
def w_toPendingS (k : Nat) (x : (List (Int × ByteArray × Int × Int)) × Unit) : Option ((List (Int × ByteArray × Int × Int)) × Unit × Unit) :=
(if (List.length x.1 : Int) = (List.length x.1 : Int) then
(if 0 ≤ (List.length x.1 : Int) ∧ (List.length x.1 : Int) ≤ (capMax : Int) then
(whileK (fun (rec0 : ((List (Int × ByteArray × Int × Int)) × (List (Int × ByteArray × Int × Int)) × Int × Unit) → Option _) (y0 : (List (Int × ByteArray × Int × Int)) × (List (Int × ByteArray × Int × Int)) × Int × Unit) =>
(if (decide (y0.2.2.1 < (List.length y0.1 : Int))) = true then
(if 0 ≤ y0.2.2.1 ∧ y0.2.2.1 < (List.length y0.1 : Int) then
((w_toPending k (((Ty.rd (t := yT3) y0.1 y0.2.2.1).1, ((Ty.rd (t := yT3) y0.1 y0.2.2.1).2.1, ((Ty.rd (t := yT3) y0.1 y0.2.2.1).2.2.1, ((Ty.rd (t := yT3) y0.1 y0.2.2.1).2.2.2, ())))), ())).bind fun p1 =>
(if 0 ≤ y0.2.2.1 ∧ y0.2.2.1 < (List.length y0.2.1 : Int) then
(rec0 (y0.1, ((List.set y0.2.1 (Int.toNat y0.2.2.1) (p1.1.1, (p1.1.2.1, (p1.1.2.2.1, p1.1.2.2.2.1)))), ((wi64 (y0.2.2.1 + (1 : Int))), ()))))
else none))
else none)
else
((fun (z1 : (List (Int × ByteArray × Int × Int)) × Unit) =>
some (z1.1, ((), ()))) (y0.2.1, ())))) k (x.1, ((List.replicate (Int.toNat (List.length x.1 : Int)) ((0 : Int), ((⟨#[]⟩ : ByteArray), ((0 : Int), (0 : Int))))), ((0 : Int), ()))))
else none)
else none)
abbrev E_w_toPendingS (k : Nat) : Entry := ⟨174, 0, (.cons (.il true yT3) .nil), (.own false 129 yT3), w_toPendingS k⟩
theorem t_w_toPendingS (k : Nat) (x) : evF TTab k [E_w_toPending k] [(0, ⟨[0, 3, 4], (.cons (.il true yT3) (.cons (.own false 129 yT3) yP8))⟩, ⟨[3], (.cons (.own false 129 yT3) .nil)⟩)] Try.f174 (.cons (.il true yT3) .nil) (.own false 129 yT3) x = w_toPendingS k x := by kernel_rfl
theorem e_w_toPendingS [Names] (k : Nat) : EntryOk Try.prog (E_w_toPendingS k) := entry_ok tok (es_cons (e_w_toPending k) es_nil) (by kernel_rfl) (by kernel_rfl) (by kernel_rfl) fun x r h => (t_w_toPendingS k x).trans h
def w_toEarly (k : Nat) (x : (Int × ByteArray × Unit) × Unit) : Option ((Int × ByteArray × Unit) × Unit × Unit) :=
some ((x.1.1, (x.1.2.1, ())), ((), ()))
abbrev E_w_toEarly (k : Nat) : Entry := ⟨187, 0, (.cons (.agg yP18) .nil), (.agg yP18), w_toEarly k⟩
theorem t_w_toEarly (k : Nat) (x) : evF TTab k [] [] Try.f187 (.cons (.agg yP18) .nil) (.agg yP18) x = w_toEarly k x := by kernel_rfl
theorem e_w_toEarly [Names] (k : Nat) : EntryOk Try.prog (E_w_toEarly k) := entry_ok tok es_nil (by kernel_rfl) (by kernel_rfl) (by kernel_rfl) fun x r h => (t_w_toEarly k x).trans h
def w_toEarlyS (k : Nat) (x : (List (Int × ByteArray)) × Unit) : Option ((List (Int × ByteArray)) × Unit × Unit) :=
(if (List.length x.1 : Int) = (List.length x.1 : Int) then
(if 0 ≤ (List.length x.1 : Int) ∧ (List.length x.1 : Int) ≤ (capMax : Int) then
(whileK (fun (rec0 : ((List (Int × ByteArray)) × (List (Int × ByteArray)) × Int × Unit) → Option _) (y0 : (List (Int × ByteArray)) × (List (Int × ByteArray)) × Int × Unit) =>
(if (decide (y0.2.2.1 < (List.length y0.1 : Int))) = true then
(if 0 ≤ y0.2.2.1 ∧ y0.2.2.1 < (List.length y0.1 : Int) then
((w_toEarly k (((Ty.rd (t := yT11) y0.1 y0.2.2.1).1, ((Ty.rd (t := yT11) y0.1 y0.2.2.1).2, ())), ())).bind fun p1 =>
(if 0 ≤ y0.2.2.1 ∧ y0.2.2.1 < (List.length y0.2.1 : Int) then
(rec0 (y0.1, ((List.set y0.2.1 (Int.toNat y0.2.2.1) (p1.1.1, p1.1.2.1)), ((wi64 (y0.2.2.1 + (1 : Int))), ()))))
else none))
else none)
else
((fun (z1 : (List (Int × ByteArray)) × Unit) =>
some (z1.1, ((), ()))) (y0.2.1, ())))) k (x.1, ((List.replicate (Int.toNat (List.length x.1 : Int)) ((0 : Int), (⟨#[]⟩ : ByteArray))), ((0 : Int), ()))))
else none)
else none)
abbrev E_w_toEarlyS (k : Nat) : Entry := ⟨175, 0, (.cons (.il true yT11) .nil), (.own false 131 yT11), w_toEarlyS k⟩
theorem t_w_toEarlyS (k : Nat) (x) : evF TTab k [E_w_toEarly k] [(0, ⟨[0, 3, 4], (.cons (.il true yT11) (.cons (.own false 131 yT11) yP8))⟩, ⟨[3], (.cons (.own false 131 yT11) .nil)⟩)] Try.f175 (.cons (.il true yT11) .nil) (.own false 131 yT11) x = w_toEarlyS k x := by kernel_rfl
theorem e_w_toEarlyS [Names] (k : Nat) : EntryOk Try.prog (E_w_toEarlyS k) := entry_ok tok (es_cons (e_w_toEarly k) es_nil) (by kernel_rfl) (by kernel_rfl) (by kernel_rfl) fun x r h => (t_w_toEarlyS k x).trans h
def w_toIntS (k : Nat) (x : List (Int) × Unit) : Option (List (Int) × Unit × Unit) :=
(if (List.length x.1 : Int) = (List.length x.1 : Int) then
(if 0 ≤ (List.length x.1 : Int) ∧ (List.length x.1 : Int) ≤ (capMax : Int) then
(whileK (fun (rec0 : (List (Int) × List (Int) × Int × Unit) → Option _) (y0 : List (Int) × List (Int) × Int × Unit) =>
(if (decide (y0.2.2.1 < (List.length y0.1 : Int))) = true then
(if 0 ≤ y0.2.2.1 ∧ y0.2.2.1 < (List.length y0.1 : Int) then
(if 0 ≤ y0.2.2.1 ∧ y0.2.2.1 < (List.length y0.2.1 : Int) then
(rec0 (y0.1, ((List.set y0.2.1 (Int.toNat y0.2.2.1) (Ty.rd (t := (.int .i64)) y0.1 y0.2.2.1)), ((wi64 (y0.2.2.1 + (1 : Int))), ()))))
else none)
else none)
else
((fun (z1 : List (Int) × Unit) =>
some (z1.1, ((), ()))) (y0.2.1, ())))) k (x.1, ((List.replicate (Int.toNat (List.length x.1 : Int)) (0 : Int)), ((0 : Int), ()))))
else none)
else none)
abbrev E_w_toIntS (k : Nat) : Entry := ⟨176, 0, (.cons (.il true (.int .i64)) .nil), (.own false 3 (.int .i64)), w_toIntS k⟩
theorem t_w_toIntS (k : Nat) (x) : evF TTab k [] [(0, ⟨[0, 3, 4], (.cons (.il true (.int .i64)) (.cons (.own false 3 (.int .i64)) yP8))⟩, ⟨[3], (.cons (.own false 3 (.int .i64)) .nil)⟩)] Try.f176 (.cons (.il true (.int .i64)) .nil) (.own false 3 (.int .i64)) x = w_toIntS k x := by kernel_rfl
theorem e_w_toIntS [Names] (k : Nat) : EntryOk Try.prog (E_w_toIntS k) := entry_ok tok es_nil (by kernel_rfl) (by kernel_rfl) (by kernel_rfl) fun x r h => (t_w_toIntS k x).trans h
def w_toChan (k : Nat) (x : (Int × Int × Int × List (ByteArray) × (List (Int × ByteArray × Int × Int)) × Int × (List (Int × ByteArray)) × List (Int) × List (ByteArray) × Unit) × Unit) : Option ((Int × Int × Int × List (ByteArray) × (List (Int × ByteArray × Int × Int)) × Int × (List (Int × ByteArray)) × List (Int) × List (ByteArray) × Unit) × Unit × Unit) :=
((w_toStringS k (x.1.2.2.2.1, ())).bind fun p1 =>
((w_toPendingS k (x.1.2.2.2.2.1, ())).bind fun p2 =>
((w_toEarlyS k (x.1.2.2.2.2.2.2.1, ())).bind fun p3 =>
((w_toIntS k (x.1.2.2.2.2.2.2.2.1, ())).bind fun p4 =>
((w_toStringS k (x.1.2.2.2.2.2.2.2.2.1, ())).bind fun p5 =>
some ((x.1.1, (x.1.2.1, (x.1.2.2.1, (p1.1, (p2.1, (x.1.2.2.2.2.2.1, (p3.1, (p4.1, (p5.1, ()))))))))), ((), ())))))))
abbrev E_w_toChan (k : Nat) : Entry := ⟨148, 0, (.cons (.agg yP6) .nil), (.agg yP4), w_toChan k⟩
theorem t_w_toChan (k : Nat) (x) : evF TTab k [E_w_toStringS k, E_w_toPendingS k, E_w_toEarlyS k, E_w_toIntS k] [] Try.f148 (.cons (.agg yP6) .nil) (.agg yP4) x = w_toChan k x := by kernel_rfl
theorem e_w_toChan [Names] (k : Nat) : EntryOk Try.prog (E_w_toChan k) := entry_ok tok (es_cons (e_w_toStringS k) (es_cons (e_w_toPendingS k) (es_cons (e_w_toEarlyS k) (es_cons (e_w_toIntS k) es_nil)))) (by kernel_rfl) (by kernel_rfl) (by kernel_rfl) fun x r h => (t_w_toChan k x).trans h
def w_toChanS (k : Nat) (x : (List (Int × Int × Int × List (ByteArray) × List (Int × ByteArray × Int × Int) × Int × List (Int × ByteArray) × List (Int) × List (ByteArray))) × Unit) : Option ((List (Int × Int × Int × List (ByteArray) × List (Int × ByteArray × Int × Int) × Int × List (Int × ByteArray) × List (Int) × List (ByteArray))) × Unit × Unit) :=
(if (List.length x.1 : Int) = (List.length x.1 : Int) then
(if 0 ≤ (List.length x.1 : Int) ∧ (List.length x.1 : Int) ≤ (capMax : Int) then
(whileK (fun (rec0 : ((List (Int × Int × Int × List (ByteArray) × List (Int × ByteArray × Int × Int) × Int × List (Int × ByteArray) × List (Int) × List (ByteArray))) × (List (Int × Int × Int × List (ByteArray) × List (Int × ByteArray × Int × Int) × Int × List (Int × ByteArray) × List (Int) × List (ByteArray))) × Int × Unit) → Option _) (y0 : (List (Int × Int × Int × List (ByteArray) × List (Int × ByteArray × Int × Int) × Int × List (Int × ByteArray) × List (Int) × List (ByteArray))) × (List (Int × Int × Int × List (ByteArray) × List (Int × ByteArray × Int × Int) × Int × List (Int × ByteArray) × List (Int) × List (ByteArray))) × Int × Unit) =>
(if (decide (y0.2.2.1 < (List.length y0.1 : Int))) = true then
(if 0 ≤ y0.2.2.1 ∧ y0.2.2.1 < (List.length y0.1 : Int) then
((w_toChan k (((Ty.rd (t := yT0) y0.1 y0.2.2.1).1, ((Ty.rd (t := yT0) y0.1 y0.2.2.1).2.1, ((Ty.rd (t := yT0) y0.1 y0.2.2.1).2.2.1, ((Ty.rd (t := yT0) y0.1 y0.2.2.1).2.2.2.1, ((Ty.rd (t := yT0) y0.1 y0.2.2.1).2.2.2.2.1, ((Ty.rd (t := yT0) y0.1 y0.2.2.1).2.2.2.2.2.1, ((Ty.rd (t := yT0) y0.1 y0.2.2.1).2.2.2.2.2.2.1, ((Ty.rd (t := yT0) y0.1 y0.2.2.1).2.2.2.2.2.2.2.1, ((Ty.rd (t := yT0) y0.1 y0.2.2.1).2.2.2.2.2.2.2.2, ()))))))))), ())).bind fun p1 =>
(if 0 ≤ y0.2.2.1 ∧ y0.2.2.1 < (List.length y0.2.1 : Int) then
(rec0 (y0.1, ((List.set y0.2.1 (Int.toNat y0.2.2.1) (p1.1.1, (p1.1.2.1, (p1.1.2.2.1, (p1.1.2.2.2.1, (p1.1.2.2.2.2.1, (p1.1.2.2.2.2.2.1, (p1.1.2.2.2.2.2.2.1, (p1.1.2.2.2.2.2.2.2.1, p1.1.2.2.2.2.2.2.2.2.1))))))))), ((wi64 (y0.2.2.1 + (1 : Int))), ()))))
else none))
else none)
else
((fun (z1 : (List (Int × Int × Int × List (ByteArray) × List (Int × ByteArray × Int × Int) × Int × List (Int × ByteArray) × List (Int) × List (ByteArray))) × Unit) =>
some (z1.1, ((), ()))) (y0.2.1, ())))) k (x.1, ((List.replicate (Int.toNat (List.length x.1 : Int)) ((0 : Int), ((0 : Int), ((0 : Int), ([], ([], ((0 : Int), ([], ([], []))))))))), ((0 : Int), ()))))
else none)
else none)
abbrev E_w_toChanS (k : Nat) : Entry := ⟨109, 0, (.cons (.il true yT0) .nil), (.own false 68 yT1), w_toChanS k⟩
theorem t_w_toChanS (k : Nat) (x) : evF TTabO k [E_w_toChan k] [(0, ⟨[0, 3, 4], (.cons (.il true yT0) (.cons (.own false 68 yT1) yP8))⟩, ⟨[3], (.cons (.own false 68 yT1) .nil)⟩)] Try.f109 (.cons (.il true yT0) .nil) (.own false 68 yT1) x = w_toChanS k x := by kernel_rfl
theorem e_w_toChanS [Names] (k : Nat) : EntryOk Try.prog (E_w_toChanS k) := entry_ok tokO (es_cons (e_w_toChan k) es_nil) (by kernel_rfl) (by kernel_rfl) (by kernel_rfl) fun x r h => (t_w_toChanS k x).trans h
def w_toPacket (k : Nat) (x : (Int × Int × Int × Int × Int × List (Int) × ByteArray × Unit) × Unit) : Option ((Int × Int × Int × Int × Int × List (Int) × ByteArray × Unit) × Unit × Unit) :=
((w_toIntS k (x.1.2.2.2.2.2.1, ())).bind fun p1 =>
some ((x.1.1, (x.1.2.1, (x.1.2.2.1, (x.1.2.2.2.1, (x.1.2.2.2.2.1, (p1.1, (x.1.2.2.2.2.2.2.1, ()))))))), ((), ())))
abbrev E_w_toPacket (k : Nat) : Entry := ⟨149, 0, (.cons (.agg yP7) .nil), yP15, w_toPacket k⟩
theorem t_w_toPacket (k : Nat) (x) : evF TTab k [E_w_toIntS k] [] Try.f149 (.cons (.agg yP7) .nil) yP15 x = w_toPacket k x := by kernel_rfl
theorem e_w_toPacket [Names] (k : Nat) : EntryOk Try.prog (E_w_toPacket k) := entry_ok tok (es_cons (e_w_toIntS k) es_nil) (by kernel_rfl) (by kernel_rfl) (by kernel_rfl) fun x r h => (t_w_toPacket k x).trans h
def w_toPacketS (k : Nat) (x : (List (Int × Int × Int × Int × Int × List (Int) × ByteArray)) × Unit) : Option ((List (Int × Int × Int × Int × Int × List (Int) × ByteArray)) × Unit × Unit) :=
(if (List.length x.1 : Int) = (List.length x.1 : Int) then
(if 0 ≤ (List.length x.1 : Int) ∧ (List.length x.1 : Int) ≤ (capMax : Int) then
(whileK (fun (rec0 : ((List (Int × Int × Int × Int × Int × List (Int) × ByteArray)) × (List (Int × Int × Int × Int × Int × List (Int) × ByteArray)) × Int × Unit) → Option _) (y0 : (List (Int × Int × Int × Int × Int × List (Int) × ByteArray)) × (List (Int × Int × Int × Int × Int × List (Int) × ByteArray)) × Int × Unit) =>
(if (decide (y0.2.2.1 < (List.length y0.1 : Int))) = true then
(if 0 ≤ y0.2.2.1 ∧ y0.2.2.1 < (List.length y0.1 : Int) then
((w_toPacket k (((Ty.rd (t := yT2) y0.1 y0.2.2.1).1, ((Ty.rd (t := yT2) y0.1 y0.2.2.1).2.1, ((Ty.rd (t := yT2) y0.1 y0.2.2.1).2.2.1, ((Ty.rd (t := yT2) y0.1 y0.2.2.1).2.2.2.1, ((Ty.rd (t := yT2) y0.1 y0.2.2.1).2.2.2.2.1, ((Ty.rd (t := yT2) y0.1 y0.2.2.1).2.2.2.2.2.1, ((Ty.rd (t := yT2) y0.1 y0.2.2.1).2.2.2.2.2.2, ()))))))), ())).bind fun p1 =>
(if 0 ≤ y0.2.2.1 ∧ y0.2.2.1 < (List.length y0.2.1 : Int) then
(rec0 (y0.1, ((List.set y0.2.1 (Int.toNat y0.2.2.1) (p1.1.1, (p1.1.2.1, (p1.1.2.2.1, (p1.1.2.2.2.1, (p1.1.2.2.2.2.1, (p1.1.2.2.2.2.2.1, p1.1.2.2.2.2.2.2.1))))))), ((wi64 (y0.2.2.1 + (1 : Int))), ()))))
else none))
else none)
else
((fun (z1 : (List (Int × Int × Int × Int × Int × List (Int) × ByteArray)) × Unit) =>
some (z1.1, ((), ()))) (y0.2.1, ())))) k (x.1, ((List.replicate (Int.toNat (List.length x.1 : Int)) ((0 : Int), ((0 : Int), ((0 : Int), ((0 : Int), ((0 : Int), ([], (⟨#[]⟩ : ByteArray)))))))), ((0 : Int), ()))))
else none)
else none)
abbrev E_w_toPacketS (k : Nat) : Entry := ⟨110, 0, (.cons (.il true yT2) .nil), (.own false 122 yT5), w_toPacketS k⟩
theorem t_w_toPacketS (k : Nat) (x) : evF TTabO k [E_w_toPacket k] [(0, ⟨[0, 3, 4], (.cons (.il true yT2) (.cons (.own false 122 yT5) yP8))⟩, ⟨[3], (.cons (.own false 122 yT5) .nil)⟩)] Try.f110 (.cons (.il true yT2) .nil) (.own false 122 yT5) x = w_toPacketS k x := by kernel_rfl
theorem e_w_toPacketS [Names] (k : Nat) : EntryOk Try.prog (E_w_toPacketS k) := entry_ok tokO (es_cons (e_w_toPacket k) es_nil) (by kernel_rfl) (by kernel_rfl) (by kernel_rfl) fun x r h => (t_w_toPacketS k x).trans h
def w_toTalk (k : Nat) (x : ((List (Int × Int × Int × List (ByteArray) × List (Int × ByteArray × Int × Int) × Int × List (Int × ByteArray) × List (Int) × List (ByteArray))) × Int × (List (Int × Int × Int × Int × Int × List (Int) × ByteArray)) × Unit) × Unit) : Option (((List (Int × Int × Int × List (ByteArray) × List (Int × ByteArray × Int × Int) × Int × List (Int × ByteArray) × List (Int) × List (ByteArray))) × Int × (List (Int × Int × Int × Int × Int × List (Int) × ByteArray)) × Unit) × Unit × Unit) :=
((w_toChanS k (x.1.1, ())).bind fun p1 =>
((w_toPacketS k (x.1.2.2.1, ())).bind fun p2 =>
some ((p1.1, (x.1.2.1, (p2.1, ()))), ((), ()))))
abbrev E_w_toTalk (k : Nat) : Entry := ⟨50, 0, (.cons (.agg yP14) .nil), (.agg yP9), w_toTalk k⟩
theorem t_w_toTalk (k : Nat) (x) : evF TTabO k [E_w_toChanS k, E_w_toPacketS k] [] Try.f50 (.cons (.agg yP14) .nil) (.agg yP9) x = w_toTalk k x := by kernel_rfl
theorem e_w_toTalk [Names] (k : Nat) : EntryOk Try.prog (E_w_toTalk k) := entry_ok tokO (es_cons (e_w_toChanS k) (es_cons (e_w_toPacketS k) es_nil)) (by kernel_rfl) (by kernel_rfl) (by kernel_rfl) fun x r h => (t_w_toTalk k x).trans h
def w_FnExactSettle (k : Nat) (x : ((List (Int × Int × Int × List (ByteArray) × List (Int × ByteArray × Int × Int) × Int × List (Int × ByteArray) × List (Int) × List (ByteArray))) × Int × (List (Int × Int × Int × Int × Int × List (Int) × ByteArray)) × Unit) × Int × Unit) : Option (Bool × Unit × Unit × Unit) :=
((w_szTalk k ((x.1.1, (x.1.2.1, (x.1.2.2.1, ()))), ((1048576 : Int), ()))).bind fun p1 =>
(if (decide (p1.1 < (0 : Int))) = true then
some (true, ((), ((), ())))
else
((w_toTalk k ((x.1.1, (x.1.2.1, (x.1.2.2.1, ()))), ())).bind fun p2 =>
((s_Settle k ((p2.1.1, (p2.1.2.1, (p2.1.2.2.1, ()))), (x.2.1, ()))).bind fun p3 =>
((w_toTalk k ((x.1.1, (x.1.2.1, (x.1.2.2.1, ()))), ())).bind fun p4 =>
((i_Settle k ((p4.1.1, (p4.1.2.1, (p4.1.2.2.1, ()))), (x.2.1, ()))).bind fun p5 =>
((w_eqTalk k ((p5.1.1, (p5.1.2.1, (p5.1.2.2.1, ()))), ((p3.1.1, (p3.1.2.1, (p3.1.2.2.1, ()))), ()))).bind fun p6 =>
(if (!p6.1) = true then
some (false, ((), ((), ())))
else
((w_toTalk k ((x.1.1, (x.1.2.1, (x.1.2.2.1, ()))), ())).bind fun p7 =>
((w_eqTalk k ((p4.1.1, (p4.1.2.1, (p4.1.2.2.1, ()))), ((p7.1.1, (p7.1.2.1, (p7.1.2.2.1, ()))), ()))).bind fun p8 =>
(if (!p8.1) = true then
some (false, ((), ((), ())))
else
((w_markTalk k ((p4.1.1, (p4.1.2.1, (p4.1.2.2.1, ()))), ((1 : Int), ()))).bind fun p9 =>
(if (decide (p9.1 < (0 : Int))) = false then
((w_eqTalk k ((p5.1.1, (p5.1.2.1, (p5.1.2.2.1, ()))), ((p3.1.1, (p3.1.2.1, (p3.1.2.2.1, ()))), ()))).bind fun p10 =>
(if (!p10.1) = true then
some (false, ((), ((), ())))
else
((w_markTalk k ((p5.1.1, (p5.1.2.1, (p5.1.2.2.1, ()))), ((1 : Int), ()))).bind fun p11 =>
((w_heldTalk k ((p11.2.1.1, (p5.1.2.1, (p11.2.1.2.2.1, ()))), ((1 : Int), ()))).bind fun p12 =>
(if (decide (p12.1 < (0 : Int))) = true then
some (false, ((), ((), ())))
else
(if (!decide (p12.1 = p11.1)) = true then
some (false, ((), ((), ())))
else
((w_toTalk k ((x.1.1, (x.1.2.1, (x.1.2.2.1, ()))), ())).bind fun p13 =>
((i_Settle k ((p13.1.1, (p13.1.2.1, (p13.1.2.2.1, ()))), (x.2.1, ()))).bind fun p14 =>
((w_eqTalk k ((p14.1.1, (p14.1.2.1, (p14.1.2.2.1, ()))), ((p3.1.1, (p3.1.2.1, (p3.1.2.2.1, ()))), ()))).bind fun p15 =>
(if (!p15.1) = true then
some (false, ((), ((), ())))
else
((w_heldTalk k ((p11.2.1.1, (p5.1.2.1, (p11.2.1.2.2.1, ()))), ((1 : Int), ()))).bind fun p16 =>
(if (decide (p16.1 < (0 : Int))) = true then
some (false, ((), ((), ())))
else
(if (!decide (p16.1 = p11.1)) = true then
some (false, ((), ((), ())))
else
some (true, ((), ((), ()))))))))))))))))
else
some (false, ((), ((), ()))))))))))))))))
abbrev E_w_FnExactSettle (k : Nat) : Entry := ⟨10, 0, (.cons (.agg yP14) yP8), .bool, w_FnExactSettle k⟩
theorem t_w_FnExactSettle (k : Nat) (x) : evF TTabO k [E_i_Settle k, E_w_eqTalk k, E_w_markTalk k, E_w_heldTalk k, E_w_szTalk k, E_s_Settle k, E_w_toTalk k] [] Try.f10 (.cons (.agg yP14) yP8) .bool x = w_FnExactSettle k x := by kernel_rfl
theorem e_w_FnExactSettle [Names] (k : Nat) : EntryOk Try.prog (E_w_FnExactSettle k) := entry_ok tokO (es_cons (e_i_Settle k) (es_cons (e_w_eqTalk k) (es_cons (e_w_markTalk k) (es_cons (e_w_heldTalk k) (es_cons (e_w_szTalk k) (es_cons (e_s_Settle k) (es_cons (e_w_toTalk k) es_nil))))))) (by kernel_rfl) (by kernel_rfl) (by kernel_rfl) fun x r h => (t_w_FnExactSettle k x).trans h
end Go.Proofs.Ytaamcelinnnncaa
