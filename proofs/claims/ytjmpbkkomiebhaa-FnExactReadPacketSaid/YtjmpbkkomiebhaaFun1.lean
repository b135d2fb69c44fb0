import Derived.Test.YtjmpbkkomiebhaaFun0
/- What functions of the program compute, as plain functions, and that their calls do so (part 1). Conditions: the plain function answers. -/
set_option linter.unusedVariables false
namespace Go.Proofs.Ytjmpbkkomiebhaa
open Go Go.Eng Go.Proofs
def i_within (k : Nat) (x : Int × Int × Int × Unit) : Option (Bool × Unit × Unit × Unit × Unit) :=
(if (decide (x.2.1 ≤ x.1)) = true then
some ((decide (x.1 ≤ x.2.2.1)), ((), ((), ((), ()))))
else
some (false, ((), ((), ((), ())))))
theorem t_i_within (k : Nat) (x) : evF TTab k [] [] Try.f77 (.cons (.int .i64) (.cons (.int .i64) (.cons (.int .i64) .nil))) .bool x = i_within k x := by kernel_rfl
theorem e_i_within (k : Nat) : EntryOk Try.prog ⟨77, 0, (.cons (.int .i64) (.cons (.int .i64) (.cons (.int .i64) .nil))), .bool, i_within k⟩ := entry_ok tok (by simp) (by kernel_rfl) (fn := Try.f77) (k := k) (es := []) (loops := []) (by kernel_rfl) (by kernel_rfl) (fun x r h => (t_i_within k x).trans h)
def s_l01In (k : Nat) (x : Int × Int × Int × Unit) : Option (Bool × Unit × Unit × Unit × Unit) :=
(if (decide (x.2.1 ≤ x.1)) = true then
some ((decide (x.1 ≤ x.2.2.1)), ((), ((), ((), ()))))
else
some (false, ((), ((), ((), ())))))
theorem t_s_l01In (k : Nat) (x) : evF TTab k [] [] Try.f79 (.cons (.int .i64) (.cons (.int .i64) (.cons (.int .i64) .nil))) .bool x = s_l01In k x := by kernel_rfl
theorem e_s_l01In (k : Nat) : EntryOk Try.prog ⟨79, 0, (.cons (.int .i64) (.cons (.int .i64) (.cons (.int .i64) .nil))), .bool, s_l01In k⟩ := entry_ok tok (by simp) (by kernel_rfl) (fn := Try.f79) (k := k) (es := []) (loops := []) (by kernel_rfl) (by kernel_rfl) (fun x r h => (t_s_l01In k x).trans h)
def s_l05Byte (k : Nat) (x : Int × Unit) : Option (ByteArray × Unit × Unit) :=
(if (decide ((Int.tmod x.1 (256 : Int)) < (0 : Int))) = true then
some ((strOf ([(wu8 ((wi64 ((Int.tmod x.1 (256 : Int)) + (256 : Int)))))] : List (Int))), ((), ()))
else
some ((strOf ([(wu8 ((Int.tmod x.1 (256 : Int))))] : List (Int))), ((), ())))
theorem t_s_l05Byte (k : Nat) (x) : evF TTab k [] [] Try.f80 (.cons (.int .i64) .nil) .str x = s_l05Byte k x := by kernel_rfl
theorem e_s_l05Byte (k : Nat) : EntryOk Try.prog ⟨80, 0, (.cons (.int .i64) .nil), .str, s_l05Byte k⟩ := entry_ok tok (by simp) (by kernel_rfl) (fn := Try.f80) (k := k) (es := []) (loops := []) (by kernel_rfl) (by kernel_rfl) (fun x r h => (t_s_l05Byte k x).trans h)
def i_isId (k : Nat) (x : Int × Unit) : Option (Bool × Unit × Unit) :=
((i_within k (x.1, ((1 : Int), ((99 : Int), ())))).bind fun p1 =>
some (p1.1, ((), ())))
theorem t_i_isId (k : Nat) (x) : evF TTab k [⟨77, 0, (.cons (.int .i64) (.cons (.int .i64) (.cons (.int .i64) .nil))), .bool, i_within k⟩] [] Try.f83 (.cons (.int .i64) .nil) .bool x = i_isId k x := by kernel_rfl
theorem e_i_isId (k : Nat) : EntryOk Try.prog ⟨83, 0, (.cons (.int .i64) .nil), .bool, i_isId k⟩ := entry_ok tok (by intro e he; simp only [List.mem_cons, List.not_mem_nil, or_false] at he; rcases he with rfl <;> first | exact e_i_within k) (by kernel_rfl) (fn := Try.f83) (k := k) (es := [⟨77, 0, (.cons (.int .i64) (.cons (.int .i64) (.cons (.int .i64) .nil))), .bool, i_within k⟩]) (loops := []) (by kernel_rfl) (by kernel_rfl) (fun x r h => (t_i_isId k x).trans h)
def s_l02Four (k : Nat) (x : Int × Unit) : Option (ByteArray × Unit × Unit) :=
some ((strOf ([(wu8 ((Int.fdiv x.1 (2 ^ (min (Int.toNat (24 : Int)) (IntKind.bits .u32)))))), (wu8 ((Int.fdiv x.1 (2 ^ (min (Int.toNat (16 : Int)) (IntKind.bits .u32)))))), (wu8 ((Int.fdiv x.1 (2 ^ (min (Int.toNat (8 : Int)) (IntKind.bits .u32)))))), (wu8 (x.1))] : List (Int))), ((), ()))
theorem t_s_l02Four (k : Nat) (x) : evF TTab k [] [] Try.f181 (.cons (.int .u32) .nil) .str x = s_l02Four k x := by kernel_rfl
theorem e_s_l02Four (k : Nat) : EntryOk Try.prog ⟨181, 0, (.cons (.int .u32) .nil), .str, s_l02Four k⟩ := entry_ok tok (by simp) (by kernel_rfl) (fn := Try.f181) (k := k) (es := []) (loops := []) (by kernel_rfl) (by kernel_rfl) (fun x r h => (t_s_l02Four k x).trans h)
def s_SumMore (k : Nat) (x : Int × ByteArray × Unit) : Option (Int × Unit × Unit × Unit) :=
(whileK (fun (rec0 : (Int × ByteArray × Int × Unit) → Option _) (y0 : Int × ByteArray × Int × Unit) =>
(if (decide (y0.2.2.1 < (ByteArray.size y0.2.1 : Int))) = true then
(if 0 ≤ y0.2.2.1 ∧ y0.2.2.1 < (ByteArray.size y0.2.1 : Int) then
(whileK (fun (rec2 : (Int × ByteArray × Int × Int × Unit) → Option _) (y2 : Int × ByteArray × Int × Int × Unit) =>
(if (decide (y2.2.2.2.1 < (8 : Int))) = true then
(if (decide ((Int.tmod y2.1 (2 : Int)) = (1 : Int))) = true then
(rec2 ((bitsI .xor .u32 (wu32 (Int.tdiv y2.1 (2 : Int))) (3558460437 : Int)), (y2.2.1, (y2.2.2.1, ((wi64 (y2.2.2.2.1 + (1 : Int))), ())))))
else
(rec2 ((wu32 (Int.tdiv y2.1 (2 : Int))), (y2.2.1, (y2.2.2.1, ((wi64 (y2.2.2.2.1 + (1 : Int))), ()))))))
else
((fun (z1 : Int × ByteArray × Int × Unit) =>
(rec0 (z1.1, (z1.2.1, ((wi64 (z1.2.2.1 + (1 : Int))), ()))))) (y2.1, (y2.2.1, (y2.2.2.1, ())))))) k ((bitsI .xor .u32 y0.1 (wu32 ((bt y0.2.1 y0.2.2.1)))), (y0.2.1, (y0.2.2.1, ((0 : Int), ())))))
else none)
else
((fun (z2 : Int × Unit) =>
some (z2.1, ((), ((), ())))) (y0.1, ())))) k (x.1, (x.2.1, ((0 : Int), ()))))
theorem t_s_SumMore (k : Nat) (x) : evF TTab k [] [(0, ⟨[0, 1, 5], (.cons (.int .u32) (.cons .str (.cons (.int .i64) .nil)))⟩, ⟨[0], (.cons (.int .u32) .nil)⟩), (2, ⟨[0, 1, 5, 6], (.cons (.int .u32) (.cons .str (.cons (.int .i64) (.cons (.int .i64) .nil))))⟩, ⟨[0, 1, 5], (.cons (.int .u32) (.cons .str (.cons (.int .i64) .nil)))⟩)] Try.f224 (.cons (.int .u32) (.cons .str .nil)) (.int .u32) x = s_SumMore k x := by kernel_rfl
theorem e_s_SumMore (k : Nat) : EntryOk Try.prog ⟨224, 0, (.cons (.int .u32) (.cons .str .nil)), (.int .u32), s_SumMore k⟩ := entry_ok tok (by simp) (by kernel_rfl) (fn := Try.f224) (k := k) (es := []) (loops := [(0, ⟨[0, 1, 5], (.cons (.int .u32) (.cons .str (.cons (.int .i64) .nil)))⟩, ⟨[0], (.cons (.int .u32) .nil)⟩), (2, ⟨[0, 1, 5, 6], (.cons (.int .u32) (.cons .str (.cons (.int .i64) (.cons (.int .i64) .nil))))⟩, ⟨[0, 1, 5], (.cons (.int .u32) (.cons .str (.cons (.int .i64) .nil)))⟩)]) (by kernel_rfl) (by kernel_rfl) (fun x r h => (t_s_SumMore k x).trans h)
def s_SumOf (k : Nat) (x : ByteArray × Unit) : Option (Int × Unit × Unit) :=
((s_SumMore k ((4294967295 : Int), (x.1, ()))).bind fun p1 =>
some (p1.1, ((), ())))
theorem t_s_SumOf (k : Nat) (x) : evF TTab k [⟨224, 0, (.cons (.int .u32) (.cons .str .nil)), (.int .u32), s_SumMore k⟩] [] Try.f182 (.cons .str .nil) (.int .u32) x = s_SumOf k x := by kernel_rfl
theorem e_s_SumOf (k : Nat) : EntryOk Try.prog ⟨182, 0, (.cons .str .nil), (.int .u32), s_SumOf k⟩ := entry_ok tok (by intro e he; simp only [List.mem_cons, List.not_mem_nil, or_false] at he; rcases he with rfl <;> first | exact e_s_SumMore k) (by kernel_rfl) (fn := Try.f182) (k := k) (es := [⟨224, 0, (.cons (.int .u32) (.cons .str .nil)), (.int .u32), s_SumMore k⟩]) (loops := []) (by kernel_rfl) (by kernel_rfl) (fun x r h => (t_s_SumOf k x).trans h)
def s_Unsealed (k : Nat) (x : ByteArray × Unit) : Option ((ByteArray × Bool × Unit) × Unit × Unit) :=
(if (decide ((wi64 ((ByteArray.size x.1 : Int) - (4 : Int))) < (0 : Int))) = false then
(if (decide ((20000 : Int) < (wi64 ((ByteArray.size x.1 : Int) - (4 : Int))))) = false then
(if 0 ≤ (wi64 ((ByteArray.size x.1 : Int) - (4 : Int))) ∧ (wi64 ((ByteArray.size x.1 : Int) - (4 : Int))) ≤ (ByteArray.size x.1 : Int) then
(if 0 ≤ (wi64 ((ByteArray.size x.1 : Int) - (4 : Int))) ∧ (wi64 ((ByteArray.size x.1 : Int) - (4 : Int))) ≤ (ByteArray.size x.1 : Int) then
((s_SumOf k ((ByteArray.extract x.1 (Int.toNat (0 : Int)) (Int.toNat (wi64 ((ByteArray.size x.1 : Int) - (4 : Int))))), ())).bind fun p1 =>
((s_l02Four k (p1.1, ())).bind fun p2 =>
(if (!decide ((ByteArray.extract x.1 (Int.toNat (wi64 ((ByteArray.size x.1 : Int) - (4 : Int)))) (Int.toNat (ByteArray.size x.1 : Int))) = p2.1)) = true then
some (((⟨#[]⟩ : ByteArray), (false, ())), ((), ()))
else
(if 0 ≤ (wi64 ((ByteArray.size x.1 : Int) - (4 : Int))) ∧ (wi64 ((ByteArray.size x.1 : Int) - (4 : Int))) ≤ (ByteArray.size x.1 : Int) then
some (((ByteArray.extract x.1 (Int.toNat (0 : Int)) (Int.toNat (wi64 ((ByteArray.size x.1 : Int) - (4 : Int))))), (true, ())), ((), ()))
else none))))
else none)
else none)
else
some (((⟨#[]⟩ : ByteArray), (false, ())), ((), ())))
else
some (((⟨#[]⟩ : ByteArray), (false, ())), ((), ())))
theorem t_s_Unsealed (k : Nat) (x) : evF TTab k [⟨181, 0, (.cons (.int .u32) .nil), .str, s_l02Four k⟩, ⟨182, 0, (.cons .str .nil), (.int .u32), s_SumOf k⟩] [] Try.f110 (.cons .str .nil) (.tup (.cons .str (.cons .bool .nil))) x = s_Unsealed k x := by kernel_rfl
theorem e_s_Unsealed (k : Nat) : EntryOk Try.prog ⟨110, 0, (.cons .str .nil), (.tup (.cons .str (.cons .bool .nil))), s_Unsealed k⟩ := entry_ok tok (by intro e he; simp only [List.mem_cons, List.not_mem_nil, or_false] at he; rcases he with rfl | rfl <;> first | exact e_s_l02Four k | exact e_s_SumOf k) (by kernel_rfl) (fn := Try.f110) (k := k) (es := [⟨181, 0, (.cons (.int .u32) .nil), .str, s_l02Four k⟩, ⟨182, 0, (.cons .str .nil), (.int .u32), s_SumOf k⟩]) (loops := []) (by kernel_rfl) (by kernel_rfl) (fun x r h => (t_s_Unsealed k x).trans h)
def s_l12One (k : Nat) (x : (ByteArray × Int × Bool × Unit) × Unit) : Option (Int × (ByteArray × Int × Bool × Unit) × Unit) :=
(if x.1.2.2.1 = false then
(if (decide ((ByteArray.size x.1.1 : Int) ≤ x.1.2.1)) = true then
some ((0 : Int), ((x.1.1, (x.1.2.1, (true, ()))), ()))
else
(if 0 ≤ (wi64 ((wi64 (x.1.2.1 + (1 : Int))) - (1 : Int))) ∧ (wi64 ((wi64 (x.1.2.1 + (1 : Int))) - (1 : Int))) < (ByteArray.size x.1.1 : Int) then
some ((wi64 ((bt x.1.1 (wi64 ((wi64 (x.1.2.1 + (1 : Int))) - (1 : Int)))))), ((x.1.1, ((wi64 (x.1.2.1 + (1 : Int))), (x.1.2.2.1, ()))), ()))
else none))
else
some ((0 : Int), ((x.1.1, (x.1.2.1, (true, ()))), ())))
theorem t_s_l12One (k : Nat) (x) : evF TTab k [] [] Try.f111 (.cons (.ptr (.cons .str (.cons (.int .i64) (.cons .bool .nil)))) .nil) (.int .i64) x = s_l12One k x := by kernel_rfl
theorem e_s_l12One (k : Nat) : EntryOk Try.prog ⟨111, 0, (.cons (.ptr (.cons .str (.cons (.int .i64) (.cons .bool .nil)))) .nil), (.int .i64), s_l12One k⟩ := entry_ok tok (by simp) (by kernel_rfl) (fn := Try.f111) (k := k) (es := []) (loops := []) (by kernel_rfl) (by kernel_rfl) (fun x r h => (t_s_l12One k x).trans h)
def s_l01Var (k : Nat) (x : Int × Unit) : Option (ByteArray × Unit × Unit) :=
(whileK (fun (rec0 : (Int × List (Int) × Unit) → Option _) (y0 : Int × List (Int) × Unit) =>
(if (decide ((127 : Int) < y0.1)) = true then
(if List.length y0.2.1 + List.length ([(wu8 ((wi64 ((Int.tmod y0.1 (128 : Int)) + (128 : Int)))))] : List (Int)) ≤ capMax then
(rec0 ((wi64 (Int.tdiv y0.1 (128 : Int))), ((y0.2.1 ++ ([(wu8 ((wi64 ((Int.tmod y0.1 (128 : Int)) + (128 : Int)))))] : List (Int))), ())))
else none)
else
((fun (z1 : Int × List (Int) × Unit) =>
(if List.length z1.2.1 + List.length ([(wu8 (z1.1))] : List (Int)) ≤ capMax then
some ((strOf (z1.2.1 ++ ([(wu8 (z1.1))] : List (Int)))), ((), ()))
else none)) (y0.1, (y0.2.1, ()))))) k (x.1, (([] : List (Int)), ())))
theorem t_s_l01Var (k : Nat) (x) : evF TTab k [] [(0, ⟨[0, 3], (.cons (.int .i64) (.cons (.own false 5 (.int .u8)) .nil))⟩, ⟨[0, 3], (.cons (.int .i64) (.cons (.own false 5 (.int .u8)) .nil))⟩)] Try.f184 (.cons (.int .i64) .nil) .str x = s_l01Var k x := by kernel_rfl
theorem e_s_l01Var (k : Nat) : EntryOk Try.prog ⟨184, 0, (.cons (.int .i64) .nil), .str, s_l01Var k⟩ := entry_ok tok (by simp) (by kernel_rfl) (fn := Try.f184) (k := k) (es := []) (loops := [(0, ⟨[0, 3], (.cons (.int .i64) (.cons (.own false 5 (.int .u8)) .nil))⟩, ⟨[0, 3], (.cons (.int .i64) (.cons (.own false 5 (.int .u8)) .nil))⟩)]) (by kernel_rfl) (by kernel_rfl) (fun x r h => (t_s_l01Var k x).trans h)
def s_ReadVar (k : Nat) (x : ByteArray × Int × Unit) : Option ((Int × Int × Bool × Unit) × Unit × Unit × Unit) :=
((s_l01In k (x.2.1, ((0 : Int), ((ByteArray.size x.1 : Int), ())))).bind fun p1 =>
(if (!p1.1) = true then
some (((0 : Int), ((0 : Int), (false, ()))), ((), ((), ())))
else
(whileK (fun (rec0 : (ByteArray × Int × Int × Int × Int × Unit) → Option _) (y0 : ByteArray × Int × Int × Int × Int × Unit) =>
(if (decide (y0.2.2.2.2.1 < (ByteArray.size y0.1 : Int))) = true then
(if (decide (y0.2.2.2.2.1 < (wi64 (y0.2.1 + (5 : Int))))) = true then
(if 0 ≤ y0.2.2.2.2.1 ∧ y0.2.2.2.2.1 < (ByteArray.size y0.1 : Int) then
(if 0 ≤ y0.2.2.2.2.1 ∧ y0.2.2.2.2.1 < (ByteArray.size y0.1 : Int) then
(if (decide ((bt y0.1 y0.2.2.2.2.1) < (128 : Int))) = true then
(if (decide ((1000000000 : Int) < (wi64 (y0.2.2.1 + (wi64 ((Int.tmod (wi64 ((bt y0.1 y0.2.2.2.2.1))) (128 : Int)) * y0.2.2.2.1)))))) = false then
((s_l01Var k ((wi64 (y0.2.2.1 + (wi64 ((Int.tmod (wi64 ((bt y0.1 y0.2.2.2.2.1))) (128 : Int)) * y0.2.2.2.1)))), ())).bind fun p2 =>
(if 0 ≤ (wi64 (y0.2.2.2.2.1 + (1 : Int))) ∧ (wi64 (y0.2.2.2.2.1 + (1 : Int))) ≤ (ByteArray.size y0.1 : Int) then
(if 0 ≤ y0.2.1 ∧ y0.2.1 ≤ (wi64 (y0.2.2.2.2.1 + (1 : Int))) then
(if (!decide (p2.1 = (ByteArray.extract y0.1 (Int.toNat y0.2.1) (Int.toNat (wi64 (y0.2.2.2.2.1 + (1 : Int))))))) = true then
some (((0 : Int), ((0 : Int), (false, ()))), ((), ((), ())))
else
some (((wi64 (y0.2.2.1 + (wi64 ((Int.tmod (wi64 ((bt y0.1 y0.2.2.2.2.1))) (128 : Int)) * y0.2.2.2.1)))), ((wi64 (y0.2.2.2.2.1 + (1 : Int))), (true, ()))), ((), ((), ()))))
else none)
else none))
else
some (((0 : Int), ((0 : Int), (false, ()))), ((), ((), ()))))
else
(rec0 (y0.1, (y0.2.1, ((wi64 (y0.2.2.1 + (wi64 ((Int.tmod (wi64 ((bt y0.1 y0.2.2.2.2.1))) (128 : Int)) * y0.2.2.2.1)))), ((wi64 (y0.2.2.2.1 * (128 : Int))), ((wi64 (y0.2.2.2.2.1 + (1 : Int))), ())))))))
else none)
else none)
else
((fun (z1 : Unit) =>
some (((0 : Int), ((0 : Int), (false, ()))), ((), ((), ())))) ()))
else
((fun (z1 : Unit) =>
some (((0 : Int), ((0 : Int), (false, ()))), ((), ((), ())))) ()))) k (x.1, (x.2.1, ((0 : Int), ((1 : Int), (x.2.1, ()))))))))
theorem t_s_ReadVar (k : Nat) (x) : evF TTab k [⟨79, 0, (.cons (.int .i64) (.cons (.int .i64) (.cons (.int .i64) .nil))), .bool, s_l01In k⟩, ⟨184, 0, (.cons (.int .i64) .nil), .str, s_l01Var k⟩] [(0, ⟨[0, 1, 7, 8, 9], (.cons .str (.cons (.int .i64) (.cons (.int .i64) (.cons (.int .i64) (.cons (.int .i64) .nil)))))⟩, ⟨[], .nil⟩)] Try.f183 (.cons .str (.cons (.int .i64) .nil)) (.tup (.cons (.int .i64) (.cons (.int .i64) (.cons .bool .nil)))) x = s_ReadVar k x := by kernel_rfl
theorem e_s_ReadVar (k : Nat) : EntryOk Try.prog ⟨183, 0, (.cons .str (.cons (.int .i64) .nil)), (.tup (.cons (.int .i64) (.cons (.int .i64) (.cons .bool .nil)))), s_ReadVar k⟩ := entry_ok tok (by intro e he; simp only [List.mem_cons, List.not_mem_nil, or_false] at he; rcases he with rfl | rfl <;> first | exact e_s_l01In k | exact e_s_l01Var k) (by kernel_rfl) (fn := Try.f183) (k := k) (es := [⟨79, 0, (.cons (.int .i64) (.cons (.int .i64) (.cons (.int .i64) .nil))), .bool, s_l01In k⟩, ⟨184, 0, (.cons (.int .i64) .nil), .str, s_l01Var k⟩]) (loops := [(0, ⟨[0, 1, 7, 8, 9], (.cons .str (.cons (.int .i64) (.cons (.int .i64) (.cons (.int .i64) (.cons (.int .i64) .nil)))))⟩, ⟨[], .nil⟩)]) (by kernel_rfl) (by kernel_rfl) (fun x r h => (t_s_ReadVar k x).trans h)
def s_l12Var (k : Nat) (x : (ByteArray × Int × Bool × Unit) × Unit) : Option (Int × (ByteArray × Int × Bool × Unit) × Unit) :=
((s_ReadVar k (x.1.1, (x.1.2.1, ()))).bind fun p1 =>
(if x.1.2.2.1 = false then
(if (!p1.1.2.2.1) = true then
some ((0 : Int), ((x.1.1, (x.1.2.1, (true, ()))), ()))
else
some (p1.1.1, ((x.1.1, (p1.1.2.1, (x.1.2.2.1, ()))), ())))
else
some ((0 : Int), ((x.1.1, (x.1.2.1, (true, ()))), ()))))
theorem t_s_l12Var (k : Nat) (x) : evF TTab k [⟨183, 0, (.cons .str (.cons (.int .i64) .nil)), (.tup (.cons (.int .i64) (.cons (.int .i64) (.cons .bool .nil)))), s_ReadVar k⟩] [] Try.f112 (.cons (.ptr (.cons .str (.cons (.int .i64) (.cons .bool .nil)))) .nil) (.int .i64) x = s_l12Var k x := by kernel_rfl
theorem e_s_l12Var (k : Nat) : EntryOk Try.prog ⟨112, 0, (.cons (.ptr (.cons .str (.cons (.int .i64) (.cons .bool .nil)))) .nil), (.int .i64), s_l12Var k⟩ := entry_ok tok (by intro e he; simp only [List.mem_cons, List.not_mem_nil, or_false] at he; rcases he with rfl <;> first | exact e_s_ReadVar k) (by kernel_rfl) (fn := Try.f112) (k := k) (es := [⟨183, 0, (.cons .str (.cons (.int .i64) .nil)), (.tup (.cons (.int .i64) (.cons (.int .i64) (.cons .bool .nil)))), s_ReadVar k⟩]) (loops := []) (by kernel_rfl) (by kernel_rfl) (fun x r h => (t_s_l12Var k x).trans h)
def s_PacketOk (k : Nat) (x : (Int × Int × Int × Int × Int × List (Int) × ByteArray × Unit) × Unit) : Option (Bool × Unit × Unit) :=
((s_l01In k (x.1.1, ((1 : Int), ((3 : Int), ())))).bind fun p1 =>
(if (!p1.1) = false then
((s_l01In k (x.1.2.1, ((0 : Int), ((7 : Int), ())))).bind fun p2 =>
(if (!p2.1) = false then
((s_l01In k (x.1.2.2.1, ((1 : Int), ((99 : Int), ())))).bind fun p3 =>
(if (!p3.1) = false then
((s_l01In k (x.1.2.2.2.1, ((1 : Int), ((99 : Int), ())))).bind fun p4 =>
(if (!p4.1) = false then
((s_l01In k (x.1.2.2.2.2.1, ((0 : Int), ((1000000000 : Int), ())))).bind fun p5 =>
(if (!p5.1) = false then
(if (decide ((4 : Int) < (List.length x.1.2.2.2.2.2.1 : Int))) = false then
(if (decide ((120 : Int) < (ByteArray.size x.1.2.2.2.2.2.2.1 : Int))) = true then
some (false, ((), ()))
else
(whileK (fun (rec0 : ((Int × Int × Int × Int × Int × List (Int) × ByteArray × Unit) × Int × Unit) → Option _) (y0 : (Int × Int × Int × Int × Int × List (Int) × ByteArray × Unit) × Int × Unit) =>
(if (decide (y0.2.1 < (List.length y0.1.2.2.2.2.2.1 : Int))) = true then
(if 0 ≤ y0.2.1 ∧ y0.2.1 < (List.length y0.1.2.2.2.2.2.1 : Int) then
((s_l01In k ((Ty.rd (t := (.int .i64)) y0.1.2.2.2.2.2.1 y0.2.1), ((1 : Int), ((1000000000 : Int), ())))).bind fun p6 =>
(if (!p6.1) = false then
(if (decide (y0.1.1 = (3 : Int))) = true then
some (false, ((), ()))
else
(rec0 ((y0.1.1, (y0.1.2.1, (y0.1.2.2.1, (y0.1.2.2.2.1, (y0.1.2.2.2.2.1, (y0.1.2.2.2.2.2.1, (y0.1.2.2.2.2.2.2.1, ()))))))), ((wi64 (y0.2.1 + (1 : Int))), ()))))
else
some (false, ((), ()))))
else none)
else
((fun (z1 : (Int × Int × Int × Int × Int × List (Int) × ByteArray × Unit) × Unit) =>
(if (!decide (z1.1.1 = (2 : Int))) = false then
(if (decide (z1.1.2.2.2.2.2.2.1 = (⟨#[]⟩ : ByteArray))) = true then
some ((decide (z1.1.2.2.2.2.1 = (0 : Int))), ((), ()))
else
some (false, ((), ())))
else
some (true, ((), ())))) ((y0.1.1, (y0.1.2.1, (y0.1.2.2.1, (y0.1.2.2.2.1, (y0.1.2.2.2.2.1, (y0.1.2.2.2.2.2.1, (y0.1.2.2.2.2.2.2.1, ()))))))), ())))) k ((x.1.1, (x.1.2.1, (x.1.2.2.1, (x.1.2.2.2.1, (x.1.2.2.2.2.1, (x.1.2.2.2.2.2.1, (x.1.2.2.2.2.2.2.1, ()))))))), ((0 : Int), ()))))
else
some (false, ((), ())))
else
some (false, ((), ()))))
else
some (false, ((), ()))))
else
some (false, ((), ()))))
else
some (false, ((), ()))))
else
some (false, ((), ()))))
theorem t_s_PacketOk (k : Nat) (x) : evF TTab k [⟨79, 0, (.cons (.int .i64) (.cons (.int .i64) (.cons (.int .i64) .nil))), .bool, s_l01In k⟩] [(0, ⟨[1, 3], (.cons (.ptr (.cons (.int .i64) (.cons (.int .i64) (.cons (.int .i64) (.cons (.int .i64) (.cons (.int .i64) (.cons (.il true (.int .i64)) (.cons .str .nil)))))))) (.cons (.int .i64) .nil))⟩, ⟨[1], (.cons (.ptr (.cons (.int .i64) (.cons (.int .i64) (.cons (.int .i64) (.cons (.int .i64) (.cons (.int .i64) (.cons (.il true (.int .i64)) (.cons .str .nil)))))))) .nil)⟩)] Try.f47 (.cons (.agg (.cons (.int .i64) (.cons (.int .i64) (.cons (.int .i64) (.cons (.int .i64) (.cons (.int .i64) (.cons (.il true (.int .i64)) (.cons .str .nil)))))))) .nil) .bool x = s_PacketOk k x := by kernel_rfl
theorem e_s_PacketOk (k : Nat) : EntryOk Try.prog ⟨47, 0, (.cons (.agg (.cons (.int .i64) (.cons (.int .i64) (.cons (.int .i64) (.cons (.int .i64) (.cons (.int .i64) (.cons (.il true (.int .i64)) (.cons .str .nil)))))))) .nil), .bool, s_PacketOk k⟩ := entry_ok tok (by intro e he; simp only [List.mem_cons, List.not_mem_nil, or_false] at he; rcases he with rfl <;> first | exact e_s_l01In k) (by kernel_rfl) (fn := Try.f47) (k := k) (es := [⟨79, 0, (.cons (.int .i64) (.cons (.int .i64) (.cons (.int .i64) .nil))), .bool, s_l01In k⟩]) (loops := [(0, ⟨[1, 3], (.cons (.ptr (.cons (.int .i64) (.cons (.int .i64) (.cons (.int .i64) (.cons (.int .i64) (.cons (.int .i64) (.cons (.il true (.int .i64)) (.cons .str .nil)))))))) (.cons (.int .i64) .nil))⟩, ⟨[1], (.cons (.ptr (.cons (.int .i64) (.cons (.int .i64) (.cons (.int .i64) (.cons (.int .i64) (.cons (.int .i64) (.cons (.il true (.int .i64)) (.cons .str .nil)))))))) .nil)⟩)]) (by kernel_rfl) (by kernel_rfl) (fun x r h => (t_s_PacketOk k x).trans h)
def s_Sealed (k : Nat) (x : ByteArray × Unit) : Option ((ByteArray × Bool × Unit) × Unit × Unit) :=
(if (decide ((20000 : Int) < (ByteArray.size x.1 : Int))) = true then
some (((⟨#[]⟩ : ByteArray), (false, ())), ((), ()))
else
((s_SumOf k (x.1, ())).bind fun p1 =>
((s_l02Four k (p1.1, ())).bind fun p2 =>
(if ByteArray.size x.1 + ByteArray.size p2.1 ≤ maxStr then
some (((x.1 ++ p2.1), (true, ())), ((), ()))
else none))))
theorem t_s_Sealed (k : Nat) (x) : evF TTab k [⟨181, 0, (.cons (.int .u32) .nil), .str, s_l02Four k⟩, ⟨182, 0, (.cons .str .nil), (.int .u32), s_SumOf k⟩] [] Try.f124 (.cons .str .nil) (.tup (.cons .str (.cons .bool .nil))) x = s_Sealed k x := by kernel_rfl
theorem e_s_Sealed (k : Nat) : EntryOk Try.prog ⟨124, 0, (.cons .str .nil), (.tup (.cons .str (.cons .bool .nil))), s_Sealed k⟩ := entry_ok tok (by intro e he; simp only [List.mem_cons, List.not_mem_nil, or_false] at he; rcases he with rfl | rfl <;> first | exact e_s_l02Four k | exact e_s_SumOf k) (by kernel_rfl) (fn := Try.f124) (k := k) (es := [⟨181, 0, (.cons (.int .u32) .nil), .str, s_l02Four k⟩, ⟨182, 0, (.cons .str .nil), (.int .u32), s_SumOf k⟩]) (loops := []) (by kernel_rfl) (by kernel_rfl) (fun x r h => (t_s_Sealed k x).trans h)
def s_PacketText (k : Nat) (x : (Int × Int × Int × Int × Int × List (Int) × ByteArray × Unit) × Unit) : Option ((ByteArray × Bool × Unit) × Unit × Unit) :=
((s_PacketOk k ((x.1.1, (x.1.2.1, (x.1.2.2.1, (x.1.2.2.2.1, (x.1.2.2.2.2.1, (x.1.2.2.2.2.2.1, (x.1.2.2.2.2.2.2.1, ()))))))), ())).bind fun p1 =>
(if (!p1.1) = true then
some (((⟨#[]⟩ : ByteArray), (false, ())), ((), ()))
else
((s_l05Byte k ((wi64 ((wi64 ((8 : Int) * x.1.1)) + x.1.2.1)), ())).bind fun p2 =>
((s_l05Byte k (x.1.2.2.1, ())).bind fun p3 =>
(if ByteArray.size p2.1 + ByteArray.size p3.1 ≤ maxStr then
((s_l05Byte k (x.1.2.2.2.1, ())).bind fun p4 =>
(if ByteArray.size (p2.1 ++ p3.1) + ByteArray.size p4.1 ≤ maxStr then
((s_l01Var k (x.1.2.2.2.2.1, ())).bind fun p5 =>
(if ByteArray.size ((p2.1 ++ p3.1) ++ p4.1) + ByteArray.size p5.1 ≤ maxStr then
((s_l01Var k ((List.length x.1.2.2.2.2.2.1 : Int), ())).bind fun p6 =>
(if ByteArray.size (((p2.1 ++ p3.1) ++ p4.1) ++ p5.1) + ByteArray.size p6.1 ≤ maxStr then
(whileK (fun (rec0 : ((Int × Int × Int × Int × Int × List (Int) × ByteArray × Unit) × ByteArray × Int × Unit) → Option _) (y0 : (Int × Int × Int × Int × Int × List (Int) × ByteArray × Unit) × ByteArray × Int × Unit) =>
(if (decide (y0.2.2.1 < (List.length y0.1.2.2.2.2.2.1 : Int))) = true then
(if 0 ≤ y0.2.2.1 ∧ y0.2.2.1 < (List.length y0.1.2.2.2.2.2.1 : Int) then
((s_l01Var k ((Ty.rd (t := (.int .i64)) y0.1.2.2.2.2.2.1 y0.2.2.1), ())).bind fun p7 =>
(if ByteArray.size y0.2.1 + ByteArray.size p7.1 ≤ maxStr then
(rec0 ((y0.1.1, (y0.1.2.1, (y0.1.2.2.1, (y0.1.2.2.2.1, (y0.1.2.2.2.2.1, (y0.1.2.2.2.2.2.1, (y0.1.2.2.2.2.2.2.1, ()))))))), ((y0.2.1 ++ p7.1), ((wi64 (y0.2.2.1 + (1 : Int))), ()))))
else none))
else none)
else
((fun (z1 : (Int × Int × Int × Int × Int × List (Int) × ByteArray × Unit) × ByteArray × Unit) =>
(if ByteArray.size z1.2.1 + ByteArray.size z1.1.2.2.2.2.2.2.1 ≤ maxStr then
((s_Sealed k ((z1.2.1 ++ z1.1.2.2.2.2.2.2.1), ())).bind fun p8 =>
some ((p8.1.1, (p8.1.2.1, ())), ((), ())))
else none)) ((y0.1.1, (y0.1.2.1, (y0.1.2.2.1, (y0.1.2.2.2.1, (y0.1.2.2.2.2.1, (y0.1.2.2.2.2.2.1, (y0.1.2.2.2.2.2.2.1, ()))))))), (y0.2.1, ()))))) k ((x.1.1, (x.1.2.1, (x.1.2.2.1, (x.1.2.2.2.1, (x.1.2.2.2.2.1, (x.1.2.2.2.2.2.1, (x.1.2.2.2.2.2.2.1, ()))))))), (((((p2.1 ++ p3.1) ++ p4.1) ++ p5.1) ++ p6.1), ((0 : Int), ()))))
else none))
else none))
else none))
else none)))))
theorem t_s_PacketText (k : Nat) (x) : evF TTab k [⟨47, 0, (.cons (.agg (.cons (.int .i64) (.cons (.int .i64) (.cons (.int .i64) (.cons (.int .i64) (.cons (.int .i64) (.cons (.il true (.int .i64)) (.cons .str .nil)))))))) .nil), .bool, s_PacketOk k⟩, ⟨80, 0, (.cons (.int .i64) .nil), .str, s_l05Byte k⟩, ⟨124, 0, (.cons .str .nil), (.tup (.cons .str (.cons .bool .nil))), s_Sealed k⟩, ⟨184, 0, (.cons (.int .i64) .nil), .str, s_l01Var k⟩] [(0, ⟨[1, 4, 5], (.cons (.ptr (.cons (.int .i64) (.cons (.int .i64) (.cons (.int .i64) (.cons (.int .i64) (.cons (.int .i64) (.cons (.il true (.int .i64)) (.cons .str .nil)))))))) (.cons .str (.cons (.int .i64) .nil)))⟩, ⟨[1, 4], (.cons (.ptr (.cons (.int .i64) (.cons (.int .i64) (.cons (.int .i64) (.cons (.int .i64) (.cons (.int .i64) (.cons (.il true (.int .i64)) (.cons .str .nil)))))))) (.cons .str .nil))⟩)] Try.f113 (.cons (.agg (.cons (.int .i64) (.cons (.int .i64) (.cons (.int .i64) (.cons (.int .i64) (.cons (.int .i64) (.cons (.il true (.int .i64)) (.cons .str .nil)))))))) .nil) (.tup (.cons .str (.cons .bool .nil))) x = s_PacketText k x := by kernel_rfl
theorem e_s_PacketText (k : Nat) : EntryOk Try.prog ⟨113, 0, (.cons (.agg (.cons (.int .i64) (.cons (.int .i64) (.cons (.int .i64) (.cons (.int .i64) (.cons (.int .i64) (.cons (.il true (.int .i64)) (.cons .str .nil)))))))) .nil), (.tup (.cons .str (.cons .bool .nil))), s_PacketText k⟩ := entry_ok tok (by intro e he; simp only [List.mem_cons, List.not_mem_nil, or_false] at he; rcases he with rfl | rfl | rfl | rfl <;> first | exact e_s_PacketOk k | exact e_s_l05Byte k | exact e_s_Sealed k | exact e_s_l01Var k) (by kernel_rfl) (fn := Try.f113) (k := k) (es := [⟨47, 0, (.cons (.agg (.cons (.int .i64) (.cons (.int .i64) (.cons (.int .i64) (.cons (.int .i64) (.cons (.int .i64) (.cons (.il true (.int .i64)) (.cons .str .nil)))))))) .nil), .bool, s_PacketOk k⟩, ⟨80, 0, (.cons (.int .i64) .nil), .str, s_l05Byte k⟩, ⟨124, 0, (.cons .str .nil), (.tup (.cons .str (.cons .bool .nil))), s_Sealed k⟩, ⟨184, 0, (.cons (.int .i64) .nil), .str, s_l01Var k⟩]) (loops := [(0, ⟨[1, 4, 5], (.cons (.ptr (.cons (.int .i64) (.cons (.int .i64) (.cons (.int .i64) (.cons (.int .i64) (.cons (.int .i64) (.cons (.il true (.int .i64)) (.cons .str .nil)))))))) (.cons .str (.cons (.int .i64) .nil)))⟩, ⟨[1, 4], (.cons (.ptr (.cons (.int .i64) (.cons (.int .i64) (.cons (.int .i64) (.cons (.int .i64) (.cons (.int .i64) (.cons (.il true (.int .i64)) (.cons .str .nil)))))))) (.cons .str .nil))⟩)]) (by kernel_rfl) (by kernel_rfl) (fun x r h => (t_s_PacketText k x).trans h)
def s_ReadPacket (k : Nat) (x : ByteArray × Unit) : Option (((Int × Int × Int × Int × Int × List (Int) × ByteArray × Unit) × Bool × Unit) × Unit × Unit) :=
((s_Unsealed k (x.1, ())).bind fun p1 =>
((s_l12One k ((p1.1.1, ((0 : Int), ((!p1.1.2.1), ()))), ())).bind fun p2 =>
((s_l12One k ((p2.2.1.1, (p2.2.1.2.1, (p2.2.1.2.2.1, ()))), ())).bind fun p3 =>
((s_l12One k ((p3.2.1.1, (p3.2.1.2.1, (p3.2.1.2.2.1, ()))), ())).bind fun p4 =>
((s_l12Var k ((p4.2.1.1, (p4.2.1.2.1, (p4.2.1.2.2.1, ()))), ())).bind fun p5 =>
((s_l12Var k ((p5.2.1.1, (p5.2.1.2.1, (p5.2.1.2.2.1, ()))), ())).bind fun p6 =>
(jn (fun (z1 : ByteArray × (Int × Int × Int × Int × Int × List (Int) × ByteArray × Unit) × ByteArray × (ByteArray × Int × Bool × Unit) × (Int × Int × Int × Int × Int × List (Int) × ByteArray × Unit) × Unit) =>
(if z1.2.2.2.1.2.2.1 = true then
some ((((0 : Int), ((0 : Int), ((0 : Int), ((0 : Int), ((0 : Int), ([], ((⟨#[]⟩ : ByteArray), ()))))))), (false, ())), ((), ()))
else
(if 0 ≤ z1.2.2.2.1.2.1 ∧ z1.2.2.2.1.2.1 ≤ (ByteArray.size z1.2.2.1 : Int) then
((s_PacketText k ((z1.2.2.2.2.1.1, (z1.2.2.2.2.1.2.1, (z1.2.2.2.2.1.2.2.1, (z1.2.2.2.2.1.2.2.2.1, (z1.2.2.2.2.1.2.2.2.2.1, (z1.2.2.2.2.1.2.2.2.2.2.1, ((ByteArray.extract z1.2.2.1 (Int.toNat z1.2.2.2.1.2.1) (Int.toNat (ByteArray.size z1.2.2.1 : Int))), ()))))))), ())).bind fun p8 =>
(if (!p8.1.2.1) = false then
(if (!decide (p8.1.1 = z1.1)) = true then
some ((((0 : Int), ((0 : Int), ((0 : Int), ((0 : Int), ((0 : Int), ([], ((⟨#[]⟩ : ByteArray), ()))))))), (false, ())), ((), ()))
else
some (((z1.2.2.2.2.1.1, (z1.2.2.2.2.1.2.1, (z1.2.2.2.2.1.2.2.1, (z1.2.2.2.2.1.2.2.2.1, (z1.2.2.2.2.1.2.2.2.2.1, (z1.2.2.2.2.1.2.2.2.2.2.1, ((ByteArray.extract z1.2.2.1 (Int.toNat z1.2.2.2.1.2.1) (Int.toNat (ByteArray.size z1.2.2.1 : Int))), ()))))))), (true, ())), ((), ())))
else
some ((((0 : Int), ((0 : Int), ((0 : Int), ((0 : Int), ((0 : Int), ([], ((⟨#[]⟩ : ByteArray), ()))))))), (false, ())), ((), ()))))
else none))) (fun (E1 : (ByteArray × (Int × Int × Int × Int × Int × List (Int) × ByteArray × Unit) × ByteArray × (ByteArray × Int × Bool × Unit) × (Int × Int × Int × Int × Int × List (Int) × ByteArray × Unit) × Unit) → Option _) =>
(whileK (fun (rec0 : (ByteArray × (Int × Int × Int × Int × Int × List (Int) × ByteArray × Unit) × ByteArray × (ByteArray × Int × Bool × Unit) × (Int × Int × Int × Int × Int × List (Int) × ByteArray × Unit) × Int × Int × Unit) → Option _) (y0 : ByteArray × (Int × Int × Int × Int × Int × List (Int) × ByteArray × Unit) × ByteArray × (ByteArray × Int × Bool × Unit) × (Int × Int × Int × Int × Int × List (Int) × ByteArray × Unit) × Int × Int × Unit) =>
(if (decide (y0.2.2.2.2.2.2.1 < y0.2.2.2.2.2.1)) = true then
(if (decide (y0.2.2.2.2.2.2.1 < (20 : Int))) = true then
(if (!y0.2.2.2.1.2.2.1) = true then
((s_l12Var k ((y0.2.2.2.1.1, (y0.2.2.2.1.2.1, (y0.2.2.2.1.2.2.1, ()))), ())).bind fun p7 =>
(if List.length y0.2.2.2.2.1.2.2.2.2.2.1 + List.length ([p7.1] : List (Int)) ≤ capMax then
(rec0 (y0.1, ((y0.2.1.1, (y0.2.1.2.1, (y0.2.1.2.2.1, (y0.2.1.2.2.2.1, (y0.2.1.2.2.2.2.1, (y0.2.1.2.2.2.2.2.1, (y0.2.1.2.2.2.2.2.2.1, ()))))))), (y0.2.2.1, ((p7.2.1.1, (p7.2.1.2.1, (p7.2.1.2.2.1, ()))), ((y0.2.2.2.2.1.1, (y0.2.2.2.2.1.2.1, (y0.2.2.2.2.1.2.2.1, (y0.2.2.2.2.1.2.2.2.1, (y0.2.2.2.2.1.2.2.2.2.1, ((y0.2.2.2.2.1.2.2.2.2.2.1 ++ ([p7.1] : List (Int))), (y0.2.2.2.2.1.2.2.2.2.2.2.1, ()))))))), (y0.2.2.2.2.2.1, ((wi64 (y0.2.2.2.2.2.2.1 + (1 : Int))), ()))))))))
else none))
else
(E1 (y0.1, ((y0.2.1.1, (y0.2.1.2.1, (y0.2.1.2.2.1, (y0.2.1.2.2.2.1, (y0.2.1.2.2.2.2.1, (y0.2.1.2.2.2.2.2.1, (y0.2.1.2.2.2.2.2.2.1, ()))))))), (y0.2.2.1, ((y0.2.2.2.1.1, (y0.2.2.2.1.2.1, (y0.2.2.2.1.2.2.1, ()))), ((y0.2.2.2.2.1.1, (y0.2.2.2.2.1.2.1, (y0.2.2.2.2.1.2.2.1, (y0.2.2.2.2.1.2.2.2.1, (y0.2.2.2.2.1.2.2.2.2.1, (y0.2.2.2.2.1.2.2.2.2.2.1, (y0.2.2.2.2.1.2.2.2.2.2.2.1, ()))))))), ())))))))
else
(E1 (y0.1, ((y0.2.1.1, (y0.2.1.2.1, (y0.2.1.2.2.1, (y0.2.1.2.2.2.1, (y0.2.1.2.2.2.2.1, (y0.2.1.2.2.2.2.2.1, (y0.2.1.2.2.2.2.2.2.1, ()))))))), (y0.2.2.1, ((y0.2.2.2.1.1, (y0.2.2.2.1.2.1, (y0.2.2.2.1.2.2.1, ()))), ((y0.2.2.2.2.1.1, (y0.2.2.2.2.1.2.1, (y0.2.2.2.2.1.2.2.1, (y0.2.2.2.2.1.2.2.2.1, (y0.2.2.2.2.1.2.2.2.2.1, (y0.2.2.2.2.1.2.2.2.2.2.1, (y0.2.2.2.2.1.2.2.2.2.2.2.1, ()))))))), ())))))))
else
(E1 (y0.1, ((y0.2.1.1, (y0.2.1.2.1, (y0.2.1.2.2.1, (y0.2.1.2.2.2.1, (y0.2.1.2.2.2.2.1, (y0.2.1.2.2.2.2.2.1, (y0.2.1.2.2.2.2.2.2.1, ()))))))), (y0.2.2.1, ((y0.2.2.2.1.1, (y0.2.2.2.1.2.1, (y0.2.2.2.1.2.2.1, ()))), ((y0.2.2.2.2.1.1, (y0.2.2.2.2.1.2.1, (y0.2.2.2.2.1.2.2.1, (y0.2.2.2.2.1.2.2.2.1, (y0.2.2.2.2.1.2.2.2.2.1, (y0.2.2.2.2.1.2.2.2.2.2.1, (y0.2.2.2.2.1.2.2.2.2.2.2.1, ()))))))), ())))))))) k (x.1, (((0 : Int), ((0 : Int), ((0 : Int), ((0 : Int), ((0 : Int), ([], ((⟨#[]⟩ : ByteArray), ()))))))), (p1.1.1, ((p6.2.1.1, (p6.2.1.2.1, (p6.2.1.2.2.1, ()))), (((wi64 (Int.tdiv p2.1 (8 : Int))), ((Int.tmod p2.1 (8 : Int)), (p3.1, (p4.1, (p5.1, ([], ((⟨#[]⟩ : ByteArray), ()))))))), (p6.1, ((0 : Int), ()))))))))))))))))
theorem t_s_ReadPacket (k : Nat) (x) : evF TTab k [⟨110, 0, (.cons .str .nil), (.tup (.cons .str (.cons .bool .nil))), s_Unsealed k⟩, ⟨111, 0, (.cons (.ptr (.cons .str (.cons (.int .i64) (.cons .bool .nil)))) .nil), (.int .i64), s_l12One k⟩, ⟨112, 0, (.cons (.ptr (.cons .str (.cons (.int .i64) (.cons .bool .nil)))) .nil), (.int .i64), s_l12Var k⟩, ⟨113, 0, (.cons (.agg (.cons (.int .i64) (.cons (.int .i64) (.cons (.int .i64) (.cons (.int .i64) (.cons (.int .i64) (.cons (.il true (.int .i64)) (.cons .str .nil)))))))) .nil), (.tup (.cons .str (.cons .bool .nil))), s_PacketText k⟩] [(0, ⟨[0, 2, 4, 6, 8, 9, 10], (.cons .str (.cons (.ptr (.cons (.int .i64) (.cons (.int .i64) (.cons (.int .i64) (.cons (.int .i64) (.cons (.int .i64) (.cons (.own false 3 (.int .i64)) (.cons .str .nil)))))))) (.cons .str (.cons (.ptr (.cons .str (.cons (.int .i64) (.cons .bool .nil)))) (.cons (.ptr (.cons (.int .i64) (.cons (.int .i64) (.cons (.int .i64) (.cons (.int .i64) (.cons (.int .i64) (.cons (.own false 3 (.int .i64)) (.cons .str .nil)))))))) (.cons (.int .i64) (.cons (.int .i64) .nil)))))))⟩, ⟨[0, 2, 4, 6, 8], (.cons .str (.cons (.ptr (.cons (.int .i64) (.cons (.int .i64) (.cons (.int .i64) (.cons (.int .i64) (.cons (.int .i64) (.cons (.own false 3 (.int .i64)) (.cons .str .nil)))))))) (.cons .str (.cons (.ptr (.cons .str (.cons (.int .i64) (.cons .bool .nil)))) (.cons (.ptr (.cons (.int .i64) (.cons (.int .i64) (.cons (.int .i64) (.cons (.int .i64) (.cons (.int .i64) (.cons (.own false 3 (.int .i64)) (.cons .str .nil)))))))) .nil)))))⟩)] Try.f40 (.cons .str .nil) (.tup (.cons (.agg (.cons (.int .i64) (.cons (.int .i64) (.cons (.int .i64) (.cons (.int .i64) (.cons (.int .i64) (.cons (.own false 3 (.int .i64)) (.cons .str .nil)))))))) (.cons .bool .nil))) x = s_ReadPacket k x := by kernel_rfl
theorem e_s_ReadPacket (k : Nat) : EntryOk Try.prog ⟨40, 0, (.cons .str .nil), (.tup (.cons (.agg (.cons (.int .i64) (.cons (.int .i64) (.cons (.int .i64) (.cons (.int .i64) (.cons (.int .i64) (.cons (.own false 3 (.int .i64)) (.cons .str .nil)))))))) (.cons .bool .nil))), s_ReadPacket k⟩ := entry_ok tok (by intro e he; simp only [List.mem_cons, List.not_mem_nil, or_false] at he; rcases he with rfl | rfl | rfl | rfl <;> first | exact e_s_Unsealed k | exact e_s_l12One k | exact e_s_l12Var k | exact e_s_PacketText k) (by kernel_rfl) (fn := Try.f40) (k := k) (es := [⟨110, 0, (.cons .str .nil), (.tup (.cons .str (.cons .bool .nil))), s_Unsealed k⟩, ⟨111, 0, (.cons (.ptr (.cons .str (.cons (.int .i64) (.cons .bool .nil)))) .nil), (.int .i64), s_l12One k⟩, ⟨112, 0, (.cons (.ptr (.cons .str (.cons (.int .i64) (.cons .bool .nil)))) .nil), (.int .i64), s_l12Var k⟩, ⟨113, 0, (.cons (.agg (.cons (.int .i64) (.cons (.int .i64) (.cons (.int .i64) (.cons (.int .i64) (.cons (.int .i64) (.cons (.il true (.int .i64)) (.cons .str .nil)))))))) .nil), (.tup (.cons .str (.cons .bool .nil))), s_PacketText k⟩]) (loops := [(0, ⟨[0, 2, 4, 6, 8, 9, 10], (.cons .str (.cons (.ptr (.cons (.int .i64) (.cons (.int .i64) (.cons (.int .i64) (.cons (.int .i64) (.cons (.int .i64) (.cons (.own false 3 (.int .i64)) (.cons .str .nil)))))))) (.cons .str (.cons (.ptr (.cons .str (.cons (.int .i64) (.cons .bool .nil)))) (.cons (.ptr (.cons (.int .i64) (.cons (.int .i64) (.cons (.int .i64) (.cons (.int .i64) (.cons (.int .i64) (.cons (.own false 3 (.int .i64)) (.cons .str .nil)))))))) (.cons (.int .i64) (.cons (.int .i64) .nil)))))))⟩, ⟨[0, 2, 4, 6, 8], (.cons .str (.cons (.ptr (.cons (.int .i64) (.cons (.int .i64) (.cons (.int .i64) (.cons (.int .i64) (.cons (.int .i64) (.cons (.own false 3 (.int .i64)) (.cons .str .nil)))))))) (.cons .str (.cons (.ptr (.cons .str (.cons (.int .i64) (.cons .bool .nil)))) (.cons (.ptr (.cons (.int .i64) (.cons (.int .i64) (.cons (.int .i64) (.cons (.int .i64) (.cons (.int .i64) (.cons (.own false 3 (.int .i64)) (.cons .str .nil)))))))) .nil)))))⟩)]) (by kernel_rfl) (by kernel_rfl) (fun x r h => (t_s_ReadPacket k x).trans h)
def i_PacketOk (k : Nat) (x : (Int × Int × Int × Int × Int × List (Int) × ByteArray × Unit) × Unit) : Option (Bool × Unit × Unit) :=
(whileK (fun (rec0 : ((Int × Int × Int × Int × Int × List (Int) × ByteArray × Unit) × List (Int) × Int × Int × Unit) → Option _) (y0 : (Int × Int × Int × Int × Int × List (Int) × ByteArray × Unit) × List (Int) × Int × Int × Unit) =>
(if (decide (y0.2.2.2.1 < y0.2.2.1)) = true then
(if 0 ≤ y0.2.2.2.1 ∧ y0.2.2.2.1 < (List.length y0.2.1 : Int) then
((i_within k ((Ty.rd (t := (.int .i64)) y0.2.1 y0.2.2.2.1), ((1 : Int), ((1000000000 : Int), ())))).bind fun p1 =>
(if (!p1.1) = true then
some (false, ((), ()))
else
(rec0 ((y0.1.1, (y0.1.2.1, (y0.1.2.2.1, (y0.1.2.2.2.1, (y0.1.2.2.2.2.1, (y0.1.2.2.2.2.2.1, (y0.1.2.2.2.2.2.2.1, ()))))))), (y0.2.1, (y0.2.2.1, ((wi64 (y0.2.2.2.1 + (1 : Int))), ())))))))
else none)
else
((fun (z1 : (Int × Int × Int × Int × Int × List (Int) × ByteArray × Unit) × Unit) =>
((i_within k (z1.1.1, ((1 : Int), ((3 : Int), ())))).bind fun p2 =>
(if (!p2.1) = false then
((i_within k (z1.1.2.1, ((0 : Int), ((7 : Int), ())))).bind fun p3 =>
(if (!p3.1) = false then
((i_isId k (z1.1.2.2.1, ())).bind fun p4 =>
(if (!p4.1) = false then
((i_isId k (z1.1.2.2.2.1, ())).bind fun p5 =>
(if (!p5.1) = false then
((i_within k (z1.1.2.2.2.2.1, ((0 : Int), ((1000000000 : Int), ())))).bind fun p6 =>
(if (!p6.1) = true then
some (false, ((), ()))
else
(if (decide ((List.length z1.1.2.2.2.2.2.1 : Int) = (0 : Int))) = false then
(if (!decide (z1.1.1 = (3 : Int))) = true then
(if (decide ((List.length z1.1.2.2.2.2.2.1 : Int) ≤ (4 : Int))) = true then
(if (decide ((ByteArray.size z1.1.2.2.2.2.2.2.1 : Int) ≤ (120 : Int))) = true then
(if (!decide (z1.1.1 = (2 : Int))) = false then
(if (decide (z1.1.2.2.2.2.2.2.1 = (⟨#[]⟩ : ByteArray))) = true then
some ((decide (z1.1.2.2.2.2.1 = (0 : Int))), ((), ()))
else
some (false, ((), ())))
else
some (true, ((), ())))
else
some (false, ((), ())))
else
some (false, ((), ())))
else
some (false, ((), ())))
else
(if (decide ((ByteArray.size z1.1.2.2.2.2.2.2.1 : Int) ≤ (120 : Int))) = true then
(if (!decide (z1.1.1 = (2 : Int))) = false then
(if (decide (z1.1.2.2.2.2.2.2.1 = (⟨#[]⟩ : ByteArray))) = true then
some ((decide (z1.1.2.2.2.2.1 = (0 : Int))), ((), ()))
else
some (false, ((), ())))
else
some (true, ((), ())))
else
some (false, ((), ()))))))
else
some (false, ((), ()))))
else
some (false, ((), ()))))
else
some (false, ((), ()))))
else
some (false, ((), ()))))) ((y0.1.1, (y0.1.2.1, (y0.1.2.2.1, (y0.1.2.2.2.1, (y0.1.2.2.2.2.1, (y0.1.2.2.2.2.2.1, (y0.1.2.2.2.2.2.2.1, ()))))))), ())))) k ((x.1.1, (x.1.2.1, (x.1.2.2.1, (x.1.2.2.2.1, (x.1.2.2.2.2.1, (x.1.2.2.2.2.2.1, (x.1.2.2.2.2.2.2.1, ()))))))), (x.1.2.2.2.2.2.1, ((List.length x.1.2.2.2.2.2.1 : Int), ((0 : Int), ())))))
theorem t_i_PacketOk (k : Nat) (x) : evF TTab k [⟨77, 0, (.cons (.int .i64) (.cons (.int .i64) (.cons (.int .i64) .nil))), .bool, i_within k⟩, ⟨83, 0, (.cons (.int .i64) .nil), .bool, i_isId k⟩] [(0, ⟨[1, 7, 8, 9], (.cons (.ptr (.cons (.int .i64) (.cons (.int .i64) (.cons (.int .i64) (.cons (.int .i64) (.cons (.int .i64) (.cons (.il true (.int .i64)) (.cons .str .nil)))))))) (.cons (.il true (.int .i64)) (.cons (.int .i64) (.cons (.int .i64) .nil))))⟩, ⟨[1], (.cons (.ptr (.cons (.int .i64) (.cons (.int .i64) (.cons (.int .i64) (.cons (.int .i64) (.cons (.int .i64) (.cons (.il true (.int .i64)) (.cons .str .nil)))))))) .nil)⟩)] Try.f48 (.cons (.agg (.cons (.int .i64) (.cons (.int .i64) (.cons (.int .i64) (.cons (.int .i64) (.cons (.int .i64) (.cons (.il true (.int .i64)) (.cons .str .nil)))))))) .nil) .bool x = i_PacketOk k x := by kernel_rfl
theorem e_i_PacketOk (k : Nat) : EntryOk Try.prog ⟨48, 0, (.cons (.agg (.cons (.int .i64) (.cons (.int .i64) (.cons (.int .i64) (.cons (.int .i64) (.cons (.int .i64) (.cons (.il true (.int .i64)) (.cons .str .nil)))))))) .nil), .bool, i_PacketOk k⟩ := entry_ok tok (by intro e he; simp only [List.mem_cons, List.not_mem_nil, or_false] at he; rcases he with rfl | rfl <;> first | exact e_i_within k | exact e_i_isId k) (by kernel_rfl) (fn := Try.f48) (k := k) (es := [⟨77, 0, (.cons (.int .i64) (.cons (.int .i64) (.cons (.int .i64) .nil))), .bool, i_within k⟩, ⟨83, 0, (.cons (.int .i64) .nil), .bool, i_isId k⟩]) (loops := [(0, ⟨[1, 7, 8, 9], (.cons (.ptr (.cons (.int .i64) (.cons (.int .i64) (.cons (.int .i64) (.cons (.int .i64) (.cons (.int .i64) (.cons (.il true (.int .i64)) (.cons .str .nil)))))))) (.cons (.il true (.int .i64)) (.cons (.int .i64) (.cons (.int .i64) .nil))))⟩, ⟨[1], (.cons (.ptr (.cons (.int .i64) (.cons (.int .i64) (.cons (.int .i64) (.cons (.int .i64) (.cons (.int .i64) (.cons (.il true (.int .i64)) (.cons .str .nil)))))))) .nil)⟩)]) (by kernel_rfl) (by kernel_rfl) (fun x r h => (t_i_PacketOk k x).trans h)
def i_highFirst (k : Nat) (x : Int × Int × Unit) : Option (ByteArray × Unit × Unit × Unit) :=
(if x.2.1 = x.2.1 then
(if 0 ≤ x.2.1 ∧ x.2.1 ≤ (capMax : Int) then
(whileK (fun (rec0 : (Int × List (Int) × Int × Unit) → Option _) (y0 : Int × List (Int) × Int × Unit) =>
(if (decide ((0 : Int) ≤ y0.2.2.1)) = true then
(if 0 ≤ y0.2.2.1 ∧ y0.2.2.1 < (List.length y0.2.1 : Int) then
(rec0 ((Int.fdiv y0.1 (2 ^ (min (Int.toNat (8 : Int)) (IntKind.bits .i64)))), ((List.set y0.2.1 (Int.toNat y0.2.2.1) (wu8 ((bitsI .and .i64 y0.1 (255 : Int))))), ((wi64 (y0.2.2.1 - (1 : Int))), ()))))
else none)
else
((fun (z1 : List (Int) × Unit) =>
some ((strOf z1.1), ((), ((), ())))) (y0.2.1, ())))) k (x.1, ((List.replicate (Int.toNat x.2.1) (0 : Int)), ((wi64 (x.2.1 - (1 : Int))), ()))))
else none)
else none)
theorem t_i_highFirst (k : Nat) (x) : evF TTab k [] [(0, ⟨[0, 5, 6], (.cons (.int .i64) (.cons (.own false 5 (.int .u8)) (.cons (.int .i64) .nil)))⟩, ⟨[5], (.cons (.own false 5 (.int .u8)) .nil)⟩)] Try.f187 (.cons (.int .i64) (.cons (.int .i64) .nil)) .str x = i_highFirst k x := by kernel_rfl
theorem e_i_highFirst (k : Nat) : EntryOk Try.prog ⟨187, 0, (.cons (.int .i64) (.cons (.int .i64) .nil)), .str, i_highFirst k⟩ := entry_ok tok (by simp) (by kernel_rfl) (fn := Try.f187) (k := k) (es := []) (loops := [(0, ⟨[0, 5, 6], (.cons (.int .i64) (.cons (.own false 5 (.int .u8)) (.cons (.int .i64) .nil)))⟩, ⟨[5], (.cons (.own false 5 (.int .u8)) .nil)⟩)]) (by kernel_rfl) (by kernel_rfl) (fun x r h => (t_i_highFirst k x).trans h)
def i_SumMore (k : Nat) (x : Int × ByteArray × Unit) : Option (Int × Unit × Unit × Unit) :=
(whileK (fun (rec0 : (Int × ByteArray × Int × Unit) → Option _) (y0 : Int × ByteArray × Int × Unit) =>
(if (decide (y0.2.2.1 < (ByteArray.size y0.2.1 : Int))) = true then
(if 0 ≤ y0.2.2.1 ∧ y0.2.2.1 < (ByteArray.size y0.2.1 : Int) then
(whileK (fun (rec2 : (Int × ByteArray × Int × Int × Unit) → Option _) (y2 : Int × ByteArray × Int × Int × Unit) =>
(if (decide (y2.2.2.2.1 < (8 : Int))) = true then
(if (decide ((Int.tmod y2.1 (2 : Int)) = (1 : Int))) = true then
(rec2 ((bitsI .xor .u32 (wu32 (Int.tdiv y2.1 (2 : Int))) (3558460437 : Int)), (y2.2.1, (y2.2.2.1, ((wi64 (y2.2.2.2.1 + (1 : Int))), ())))))
else
(rec2 ((wu32 (Int.tdiv y2.1 (2 : Int))), (y2.2.1, (y2.2.2.1, ((wi64 (y2.2.2.2.1 + (1 : Int))), ()))))))
else
((fun (z1 : Int × ByteArray × Int × Unit) =>
(rec0 (z1.1, (z1.2.1, ((wi64 (z1.2.2.1 + (1 : Int))), ()))))) (y2.1, (y2.2.1, (y2.2.2.1, ())))))) k ((bitsI .xor .u32 y0.1 (wu32 ((bt y0.2.1 y0.2.2.1)))), (y0.2.1, (y0.2.2.1, ((0 : Int), ())))))
else none)
else
((fun (z2 : Int × Unit) =>
some (z2.1, ((), ((), ())))) (y0.1, ())))) k (x.1, (x.2.1, ((0 : Int), ()))))
theorem t_i_SumMore (k : Nat) (x) : evF TTab k [] [(0, ⟨[0, 1, 5], (.cons (.int .u32) (.cons .str (.cons (.int .i64) .nil)))⟩, ⟨[0], (.cons (.int .u32) .nil)⟩), (2, ⟨[0, 1, 5, 19], (.cons (.int .u32) (.cons .str (.cons (.int .i64) (.cons (.int .i64) .nil))))⟩, ⟨[0, 1, 5], (.cons (.int .u32) (.cons .str (.cons (.int .i64) .nil)))⟩)] Try.f225 (.cons (.int .u32) (.cons .str .nil)) (.int .u32) x = i_SumMore k x := by kernel_rfl
theorem e_i_SumMore (k : Nat) : EntryOk Try.prog ⟨225, 0, (.cons (.int .u32) (.cons .str .nil)), (.int .u32), i_SumMore k⟩ := entry_ok tok (by simp) (by kernel_rfl) (fn := Try.f225) (k := k) (es := []) (loops := [(0, ⟨[0, 1, 5], (.cons (.int .u32) (.cons .str (.cons (.int .i64) .nil)))⟩, ⟨[0], (.cons (.int .u32) .nil)⟩), (2, ⟨[0, 1, 5, 19], (.cons (.int .u32) (.cons .str (.cons (.int .i64) (.cons (.int .i64) .nil))))⟩, ⟨[0, 1, 5], (.cons (.int .u32) (.cons .str (.cons (.int .i64) .nil)))⟩)]) (by kernel_rfl) (by kernel_rfl) (fun x r h => (t_i_SumMore k x).trans h)
def i_SumOf (k : Nat) (x : ByteArray × Unit) : Option (Int × Unit × Unit) :=
((i_SumMore k ((4294967295 : Int), (x.1, ()))).bind fun p1 =>
some (p1.1, ((), ())))
theorem t_i_SumOf (k : Nat) (x) : evF TTab k [⟨225, 0, (.cons (.int .u32) (.cons .str .nil)), (.int .u32), i_SumMore k⟩] [] Try.f188 (.cons .str .nil) (.int .u32) x = i_SumOf k x := by kernel_rfl
theorem e_i_SumOf (k : Nat) : EntryOk Try.prog ⟨188, 0, (.cons .str .nil), (.int .u32), i_SumOf k⟩ := entry_ok tok (by intro e he; simp only [List.mem_cons, List.not_mem_nil, or_false] at he; rcases he with rfl <;> first | exact e_i_SumMore k) (by kernel_rfl) (fn := Try.f188) (k := k) (es := [⟨225, 0, (.cons (.int .u32) (.cons .str .nil)), (.int .u32), i_SumMore k⟩]) (loops := []) (by kernel_rfl) (by kernel_rfl) (fun x r h => (t_i_SumOf k x).trans h)
def i_Sealed (k : Nat) (x : ByteArray × Unit) : Option ((ByteArray × Bool × Unit) × Unit × Unit) :=
(if (decide ((20000 : Int) < (ByteArray.size x.1 : Int))) = true then
some (((⟨#[]⟩ : ByteArray), (false, ())), ((), ()))
else
((i_SumOf k (x.1, ())).bind fun p1 =>
((i_highFirst k ((wi64 (p1.1)), ((4 : Int), ()))).bind fun p2 =>
(if ByteArray.size x.1 + ByteArray.size p2.1 ≤ maxStr then
some (((x.1 ++ p2.1), (true, ())), ((), ()))
else none))))
theorem t_i_Sealed (k : Nat) (x) : evF TTab k [⟨187, 0, (.cons (.int .i64) (.cons (.int .i64) .nil)), .str, i_highFirst k⟩, ⟨188, 0, (.cons .str .nil), (.int .u32), i_SumOf k⟩] [] Try.f121 (.cons .str .nil) (.tup (.cons .str (.cons .bool .nil))) x = i_Sealed k x := by kernel_rfl
theorem e_i_Sealed (k : Nat) : EntryOk Try.prog ⟨121, 0, (.cons .str .nil), (.tup (.cons .str (.cons .bool .nil))), i_Sealed k⟩ := entry_ok tok (by intro e he; simp only [List.mem_cons, List.not_mem_nil, or_false] at he; rcases he with rfl | rfl <;> first | exact e_i_highFirst k | exact e_i_SumOf k) (by kernel_rfl) (fn := Try.f121) (k := k) (es := [⟨187, 0, (.cons (.int .i64) (.cons (.int .i64) .nil)), .str, i_highFirst k⟩, ⟨188, 0, (.cons .str .nil), (.int .u32), i_SumOf k⟩]) (loops := []) (by kernel_rfl) (by kernel_rfl) (fun x r h => (t_i_Sealed k x).trans h)
def i_Unsealed (k : Nat) (x : ByteArray × Unit) : Option ((ByteArray × Bool × Unit) × Unit × Unit) :=
(if (decide ((wi64 ((ByteArray.size x.1 : Int) - (4 : Int))) < (0 : Int))) = true then
some (((⟨#[]⟩ : ByteArray), (false, ())), ((), ()))
else
(if 0 ≤ (wi64 ((ByteArray.size x.1 : Int) - (4 : Int))) ∧ (wi64 ((ByteArray.size x.1 : Int) - (4 : Int))) ≤ (ByteArray.size x.1 : Int) then
((i_Sealed k ((ByteArray.extract x.1 (Int.toNat (0 : Int)) (Int.toNat (wi64 ((ByteArray.size x.1 : Int) - (4 : Int))))), ())).bind fun p1 =>
(if (!p1.1.2.1) = false then
(if (!decide (p1.1.1 = x.1)) = true then
some (((⟨#[]⟩ : ByteArray), (false, ())), ((), ()))
else
(if 0 ≤ (wi64 ((ByteArray.size x.1 : Int) - (4 : Int))) ∧ (wi64 ((ByteArray.size x.1 : Int) - (4 : Int))) ≤ (ByteArray.size x.1 : Int) then
some (((ByteArray.extract x.1 (Int.toNat (0 : Int)) (Int.toNat (wi64 ((ByteArray.size x.1 : Int) - (4 : Int))))), (true, ())), ((), ()))
else none))
else
some (((⟨#[]⟩ : ByteArray), (false, ())), ((), ()))))
else none))
theorem t_i_Unsealed (k : Nat) (x) : evF TTab k [⟨121, 0, (.cons .str .nil), (.tup (.cons .str (.cons .bool .nil))), i_Sealed k⟩] [] Try.f114 (.cons .str .nil) (.tup (.cons .str (.cons .bool .nil))) x = i_Unsealed k x := by kernel_rfl
theorem e_i_Unsealed (k : Nat) : EntryOk Try.prog ⟨114, 0, (.cons .str .nil), (.tup (.cons .str (.cons .bool .nil))), i_Unsealed k⟩ := entry_ok tok (by intro e he; simp only [List.mem_cons, List.not_mem_nil, or_false] at he; rcases he with rfl <;> first | exact e_i_Sealed k) (by kernel_rfl) (fn := Try.f114) (k := k) (es := [⟨121, 0, (.cons .str .nil), (.tup (.cons .str (.cons .bool .nil))), i_Sealed k⟩]) (loops := []) (by kernel_rfl) (by kernel_rfl) (fun x r h => (t_i_Unsealed k x).trans h)
def i_scan_one (k : Nat) (x : (ByteArray × Int × Bool × Unit) × Unit) : Option (Int × (ByteArray × Int × Bool × Unit) × Unit) :=
(if x.1.2.2.1 = false then
(if (decide ((ByteArray.size x.1.1 : Int) ≤ x.1.2.1)) = true then
some ((0 : Int), ((x.1.1, (x.1.2.1, (true, ()))), ()))
else
(if 0 ≤ (wi64 ((wi64 (x.1.2.1 + (1 : Int))) - (1 : Int))) ∧ (wi64 ((wi64 (x.1.2.1 + (1 : Int))) - (1 : Int))) < (ByteArray.size x.1.1 : Int) then
some ((wi64 ((bt x.1.1 (wi64 ((wi64 (x.1.2.1 + (1 : Int))) - (1 : Int)))))), ((x.1.1, ((wi64 (x.1.2.1 + (1 : Int))), (x.1.2.2.1, ()))), ()))
else none))
else
some ((0 : Int), ((x.1.1, (x.1.2.1, (true, ()))), ())))
theorem t_i_scan_one (k : Nat) (x) : evF TTab k [] [] Try.f115 (.cons (.ptr (.cons .str (.cons (.int .i64) (.cons .bool .nil)))) .nil) (.int .i64) x = i_scan_one k x := by kernel_rfl
theorem e_i_scan_one (k : Nat) : EntryOk Try.prog ⟨115, 0, (.cons (.ptr (.cons .str (.cons (.int .i64) (.cons .bool .nil)))) .nil), (.int .i64), i_scan_one k⟩ := entry_ok tok (by simp) (by kernel_rfl) (fn := Try.f115) (k := k) (es := []) (loops := []) (by kernel_rfl) (by kernel_rfl) (fun x r h => (t_i_scan_one k x).trans h)
def i_ReadVar (k : Nat) (x : ByteArray × Int × Unit) : Option ((Int × Int × Bool × Unit) × Unit × Unit × Unit) :=
((i_within k (x.2.1, ((0 : Int), ((ByteArray.size x.1 : Int), ())))).bind fun p1 =>
(if (!p1.1) = true then
some (((0 : Int), ((0 : Int), (false, ()))), ((), ((), ())))
else
(whileK (fun (rec0 : (ByteArray × Int × Int × Int × Unit) → Option _) (y0 : ByteArray × Int × Int × Int × Unit) =>
(if (decide (y0.2.2.2.1 < (5 : Int))) = true then
(if (decide ((wi64 (y0.2.1 + y0.2.2.2.1)) < (ByteArray.size y0.1 : Int))) = true then
(if 0 ≤ (wi64 (y0.2.1 + y0.2.2.2.1)) ∧ (wi64 (y0.2.1 + y0.2.2.2.1)) < (ByteArray.size y0.1 : Int) then
(if (wi64 ((7 : Int) * y0.2.2.2.1)) < 0 then
none
else
(if (decide ((127 : Int) < (wi64 ((bt y0.1 (wi64 (y0.2.1 + y0.2.2.2.1))))))) = true then
(rec0 (y0.1, (y0.2.1, ((wi64 (y0.2.2.1 + (wi64 ((Int.tmod (wi64 ((bt y0.1 (wi64 (y0.2.1 + y0.2.2.2.1))))) (128 : Int)) * 2 ^ (min (Int.toNat (wi64 ((7 : Int) * y0.2.2.2.1))) (IntKind.bits .i64)))))), ((wi64 (y0.2.2.2.1 + (1 : Int))), ())))))
else
(if (decide ((0 : Int) < y0.2.2.2.1)) = true then
(if (decide ((wi64 ((bt y0.1 (wi64 (y0.2.1 + y0.2.2.2.1))))) = (0 : Int))) = false then
(if (decide ((1000000000 : Int) < (wi64 (y0.2.2.1 + (wi64 ((Int.tmod (wi64 ((bt y0.1 (wi64 (y0.2.1 + y0.2.2.2.1))))) (128 : Int)) * 2 ^ (min (Int.toNat (wi64 ((7 : Int) * y0.2.2.2.1))) (IntKind.bits .i64)))))))) = true then
some (((0 : Int), ((0 : Int), (false, ()))), ((), ((), ())))
else
some (((wi64 (y0.2.2.1 + (wi64 ((Int.tmod (wi64 ((bt y0.1 (wi64 (y0.2.1 + y0.2.2.2.1))))) (128 : Int)) * 2 ^ (min (Int.toNat (wi64 ((7 : Int) * y0.2.2.2.1))) (IntKind.bits .i64)))))), ((wi64 ((wi64 (y0.2.1 + y0.2.2.2.1)) + (1 : Int))), (true, ()))), ((), ((), ()))))
else
some (((0 : Int), ((0 : Int), (false, ()))), ((), ((), ()))))
else
(if (decide ((1000000000 : Int) < (wi64 (y0.2.2.1 + (wi64 ((Int.tmod (wi64 ((bt y0.1 (wi64 (y0.2.1 + y0.2.2.2.1))))) (128 : Int)) * 2 ^ (min (Int.toNat (wi64 ((7 : Int) * y0.2.2.2.1))) (IntKind.bits .i64)))))))) = true then
some (((0 : Int), ((0 : Int), (false, ()))), ((), ((), ())))
else
some (((wi64 (y0.2.2.1 + (wi64 ((Int.tmod (wi64 ((bt y0.1 (wi64 (y0.2.1 + y0.2.2.2.1))))) (128 : Int)) * 2 ^ (min (Int.toNat (wi64 ((7 : Int) * y0.2.2.2.1))) (IntKind.bits .i64)))))), ((wi64 ((wi64 (y0.2.1 + y0.2.2.2.1)) + (1 : Int))), (true, ()))), ((), ((), ())))))))
else none)
else
((fun (z1 : Unit) =>
some (((0 : Int), ((0 : Int), (false, ()))), ((), ((), ())))) ()))
else
((fun (z1 : Unit) =>
some (((0 : Int), ((0 : Int), (false, ()))), ((), ((), ())))) ()))) k (x.1, (x.2.1, ((0 : Int), ((0 : Int), ())))))))
theorem t_i_ReadVar (k : Nat) (x) : evF TTab k [⟨77, 0, (.cons (.int .i64) (.cons (.int .i64) (.cons (.int .i64) .nil))), .bool, i_within k⟩] [(0, ⟨[0, 1, 7, 8], (.cons .str (.cons (.int .i64) (.cons (.int .i64) (.cons (.int .i64) .nil))))⟩, ⟨[], .nil⟩)] Try.f185 (.cons .str (.cons (.int .i64) .nil)) (.tup (.cons (.int .i64) (.cons (.int .i64) (.cons .bool .nil)))) x = i_ReadVar k x := by kernel_rfl
theorem e_i_ReadVar (k : Nat) : EntryOk Try.prog ⟨185, 0, (.cons .str (.cons (.int .i64) .nil)), (.tup (.cons (.int .i64) (.cons (.int .i64) (.cons .bool .nil)))), i_ReadVar k⟩ := entry_ok tok (by intro e he; simp only [List.mem_cons, List.not_mem_nil, or_false] at he; rcases he with rfl <;> first | exact e_i_within k) (by kernel_rfl) (fn := Try.f185) (k := k) (es := [⟨77, 0, (.cons (.int .i64) (.cons (.int .i64) (.cons (.int .i64) .nil))), .bool, i_within k⟩]) (loops := [(0, ⟨[0, 1, 7, 8], (.cons .str (.cons (.int .i64) (.cons (.int .i64) (.cons (.int .i64) .nil))))⟩, ⟨[], .nil⟩)]) (by kernel_rfl) (by kernel_rfl) (fun x r h => (t_i_ReadVar k x).trans h)
def i_scan_number (k : Nat) (x : (ByteArray × Int × Bool × Unit) × Unit) : Option (Int × (ByteArray × Int × Bool × Unit) × Unit) :=
((i_ReadVar k (x.1.1, (x.1.2.1, ()))).bind fun p1 =>
(if x.1.2.2.1 = false then
(if (!p1.1.2.2.1) = true then
some ((0 : Int), ((x.1.1, (x.1.2.1, (true, ()))), ()))
else
some (p1.1.1, ((x.1.1, (p1.1.2.1, (x.1.2.2.1, ()))), ())))
else
some ((0 : Int), ((x.1.1, (x.1.2.1, (true, ()))), ()))))
theorem t_i_scan_number (k : Nat) (x) : evF TTab k [⟨185, 0, (.cons .str (.cons (.int .i64) .nil)), (.tup (.cons (.int .i64) (.cons (.int .i64) (.cons .bool .nil)))), i_ReadVar k⟩] [] Try.f116 (.cons (.ptr (.cons .str (.cons (.int .i64) (.cons .bool .nil)))) .nil) (.int .i64) x = i_scan_number k x := by kernel_rfl
theorem e_i_scan_number (k : Nat) : EntryOk Try.prog ⟨116, 0, (.cons (.ptr (.cons .str (.cons (.int .i64) (.cons .bool .nil)))) .nil), (.int .i64), i_scan_number k⟩ := entry_ok tok (by intro e he; simp only [List.mem_cons, List.not_mem_nil, or_false] at he; rcases he with rfl <;> first | exact e_i_ReadVar k) (by kernel_rfl) (fn := Try.f116) (k := k) (es := [⟨185, 0, (.cons .str (.cons (.int .i64) .nil)), (.tup (.cons (.int .i64) (.cons (.int .i64) (.cons .bool .nil)))), i_ReadVar k⟩]) (loops := []) (by kernel_rfl) (by kernel_rfl) (fun x r h => (t_i_scan_number k x).trans h)
def i_ReadPacket (k : Nat) (x : ByteArray × Unit) : Option (((Int × Int × Int × Int × Int × List (Int) × ByteArray × Unit) × Bool × Unit) × Unit × Unit) :=
((i_Unsealed k (x.1, ())).bind fun p1 =>
((i_scan_one k ((p1.1.1, ((0 : Int), ((!p1.1.2.1), ()))), ())).bind fun p2 =>
((i_scan_one k ((p2.2.1.1, (p2.2.1.2.1, (p2.2.1.2.2.1, ()))), ())).bind fun p3 =>
((i_scan_one k ((p3.2.1.1, (p3.2.1.2.1, (p3.2.1.2.2.1, ()))), ())).bind fun p4 =>
((i_scan_number k ((p4.2.1.1, (p4.2.1.2.1, (p4.2.1.2.2.1, ()))), ())).bind fun p5 =>
((i_scan_number k ((p5.2.1.1, (p5.2.1.2.1, (p5.2.1.2.2.1, ()))), ())).bind fun p6 =>
(jn (fun (z1 : (Int × Int × Int × Int × Int × List (Int) × ByteArray × Unit) × ByteArray × (ByteArray × Int × Bool × Unit) × (Int × Int × Int × Int × Int × List (Int) × ByteArray × Unit) × Unit) =>
(if z1.2.2.1.2.2.1 = true then
some ((((0 : Int), ((0 : Int), ((0 : Int), ((0 : Int), ((0 : Int), ([], ((⟨#[]⟩ : ByteArray), ()))))))), (false, ())), ((), ()))
else
(if 0 ≤ z1.2.2.1.2.1 ∧ z1.2.2.1.2.1 ≤ (ByteArray.size z1.2.1 : Int) then
((i_PacketOk k ((z1.2.2.2.1.1, (z1.2.2.2.1.2.1, (z1.2.2.2.1.2.2.1, (z1.2.2.2.1.2.2.2.1, (z1.2.2.2.1.2.2.2.2.1, (z1.2.2.2.1.2.2.2.2.2.1, ((ByteArray.extract z1.2.1 (Int.toNat z1.2.2.1.2.1) (Int.toNat (ByteArray.size z1.2.1 : Int))), ()))))))), ())).bind fun p8 =>
(if (!p8.1) = true then
some ((((0 : Int), ((0 : Int), ((0 : Int), ((0 : Int), ((0 : Int), ([], ((⟨#[]⟩ : ByteArray), ()))))))), (false, ())), ((), ()))
else
some (((z1.2.2.2.1.1, (z1.2.2.2.1.2.1, (z1.2.2.2.1.2.2.1, (z1.2.2.2.1.2.2.2.1, (z1.2.2.2.1.2.2.2.2.1, (z1.2.2.2.1.2.2.2.2.2.1, ((ByteArray.extract z1.2.1 (Int.toNat z1.2.2.1.2.1) (Int.toNat (ByteArray.size z1.2.1 : Int))), ()))))))), (true, ())), ((), ()))))
else none))) (fun (E1 : ((Int × Int × Int × Int × Int × List (Int) × ByteArray × Unit) × ByteArray × (ByteArray × Int × Bool × Unit) × (Int × Int × Int × Int × Int × List (Int) × ByteArray × Unit) × Unit) → Option _) =>
(whileK (fun (rec0 : ((Int × Int × Int × Int × Int × List (Int) × ByteArray × Unit) × ByteArray × (ByteArray × Int × Bool × Unit) × (Int × Int × Int × Int × Int × List (Int) × ByteArray × Unit) × Int × Int × Unit) → Option _) (y0 : (Int × Int × Int × Int × Int × List (Int) × ByteArray × Unit) × ByteArray × (ByteArray × Int × Bool × Unit) × (Int × Int × Int × Int × Int × List (Int) × ByteArray × Unit) × Int × Int × Unit) =>
(if (decide (y0.2.2.2.2.2.1 < y0.2.2.2.2.1)) = true then
(if (decide (y0.2.2.2.2.2.1 ≤ (4 : Int))) = true then
((i_scan_number k ((y0.2.2.1.1, (y0.2.2.1.2.1, (y0.2.2.1.2.2.1, ()))), ())).bind fun p7 =>
(if List.length y0.2.2.2.1.2.2.2.2.2.1 + List.length ([p7.1] : List (Int)) ≤ capMax then
(rec0 ((y0.1.1, (y0.1.2.1, (y0.1.2.2.1, (y0.1.2.2.2.1, (y0.1.2.2.2.2.1, (y0.1.2.2.2.2.2.1, (y0.1.2.2.2.2.2.2.1, ()))))))), (y0.2.1, ((p7.2.1.1, (p7.2.1.2.1, (p7.2.1.2.2.1, ()))), ((y0.2.2.2.1.1, (y0.2.2.2.1.2.1, (y0.2.2.2.1.2.2.1, (y0.2.2.2.1.2.2.2.1, (y0.2.2.2.1.2.2.2.2.1, ((y0.2.2.2.1.2.2.2.2.2.1 ++ ([p7.1] : List (Int))), (y0.2.2.2.1.2.2.2.2.2.2.1, ()))))))), (y0.2.2.2.2.1, ((wi64 (y0.2.2.2.2.2.1 + (1 : Int))), ())))))))
else none))
else
(E1 ((y0.1.1, (y0.1.2.1, (y0.1.2.2.1, (y0.1.2.2.2.1, (y0.1.2.2.2.2.1, (y0.1.2.2.2.2.2.1, (y0.1.2.2.2.2.2.2.1, ()))))))), (y0.2.1, ((y0.2.2.1.1, (y0.2.2.1.2.1, (y0.2.2.1.2.2.1, ()))), ((y0.2.2.2.1.1, (y0.2.2.2.1.2.1, (y0.2.2.2.1.2.2.1, (y0.2.2.2.1.2.2.2.1, (y0.2.2.2.1.2.2.2.2.1, (y0.2.2.2.1.2.2.2.2.2.1, (y0.2.2.2.1.2.2.2.2.2.2.1, ()))))))), ()))))))
else
(E1 ((y0.1.1, (y0.1.2.1, (y0.1.2.2.1, (y0.1.2.2.2.1, (y0.1.2.2.2.2.1, (y0.1.2.2.2.2.2.1, (y0.1.2.2.2.2.2.2.1, ()))))))), (y0.2.1, ((y0.2.2.1.1, (y0.2.2.1.2.1, (y0.2.2.1.2.2.1, ()))), ((y0.2.2.2.1.1, (y0.2.2.2.1.2.1, (y0.2.2.2.1.2.2.1, (y0.2.2.2.1.2.2.2.1, (y0.2.2.2.1.2.2.2.2.1, (y0.2.2.2.1.2.2.2.2.2.1, (y0.2.2.2.1.2.2.2.2.2.2.1, ()))))))), ()))))))) k (((0 : Int), ((0 : Int), ((0 : Int), ((0 : Int), ((0 : Int), ([], ((⟨#[]⟩ : ByteArray), ()))))))), (p1.1.1, ((p6.2.1.1, (p6.2.1.2.1, (p6.2.1.2.2.1, ()))), (((wi64 (Int.tdiv p2.1 (8 : Int))), ((Int.tmod p2.1 (8 : Int)), (p3.1, (p4.1, (p5.1, ([], ((⟨#[]⟩ : ByteArray), ()))))))), (p6.1, ((0 : Int), ())))))))))))))))
theorem t_i_ReadPacket (k : Nat) (x) : evF TTab k [⟨48, 0, (.cons (.agg (.cons (.int .i64) (.cons (.int .i64) (.cons (.int .i64) (.cons (.int .i64) (.cons (.int .i64) (.cons (.il true (.int .i64)) (.cons .str .nil)))))))) .nil), .bool, i_PacketOk k⟩, ⟨114, 0, (.cons .str .nil), (.tup (.cons .str (.cons .bool .nil))), i_Unsealed k⟩, ⟨115, 0, (.cons (.ptr (.cons .str (.cons (.int .i64) (.cons .bool .nil)))) .nil), (.int .i64), i_scan_one k⟩, ⟨116, 0, (.cons (.ptr (.cons .str (.cons (.int .i64) (.cons .bool .nil)))) .nil), (.int .i64), i_scan_number k⟩] [(0, ⟨[2, 4, 6, 7, 9, 10], (.cons (.ptr (.cons (.int .i64) (.cons (.int .i64) (.cons (.int .i64) (.cons (.int .i64) (.cons (.int .i64) (.cons (.own false 3 (.int .i64)) (.cons .str .nil)))))))) (.cons .str (.cons (.ptr (.cons .str (.cons (.int .i64) (.cons .bool .nil)))) (.cons (.ptr (.cons (.int .i64) (.cons (.int .i64) (.cons (.int .i64) (.cons (.int .i64) (.cons (.int .i64) (.cons (.own false 3 (.int .i64)) (.cons .str .nil)))))))) (.cons (.int .i64) (.cons (.int .i64) .nil))))))⟩, ⟨[2, 4, 6, 7], (.cons (.ptr (.cons (.int .i64) (.cons (.int .i64) (.cons (.int .i64) (.cons (.int .i64) (.cons (.int .i64) (.cons (.own false 3 (.int .i64)) (.cons .str .nil)))))))) (.cons .str (.cons (.ptr (.cons .str (.cons (.int .i64) (.cons .bool .nil)))) (.cons (.ptr (.cons (.int .i64) (.cons (.int .i64) (.cons (.int .i64) (.cons (.int .i64) (.cons (.int .i64) (.cons (.own false 3 (.int .i64)) (.cons .str .nil)))))))) .nil))))⟩)] Try.f41 (.cons .str .nil) (.tup (.cons (.agg (.cons (.int .i64) (.cons (.int .i64) (.cons (.int .i64) (.cons (.int .i64) (.cons (.int .i64) (.cons (.own false 3 (.int .i64)) (.cons .str .nil)))))))) (.cons .bool .nil))) x = i_ReadPacket k x := by kernel_rfl
theorem e_i_ReadPacket (k : Nat) : EntryOk Try.prog ⟨41, 0, (.cons .str .nil), (.tup (.cons (.agg (.cons (.int .i64) (.cons (.int .i64) (.cons (.int .i64) (.cons (.int .i64) (.cons (.int .i64) (.cons (.own false 3 (.int .i64)) (.cons .str .nil)))))))) (.cons .bool .nil))), i_ReadPacket k⟩ := entry_ok tok (by intro e he; simp only [List.mem_cons, List.not_mem_nil, or_false] at he; rcases he with rfl | rfl | rfl | rfl <;> first | exact e_i_PacketOk k | exact e_i_Unsealed k | exact e_i_scan_one k | exact e_i_scan_number k) (by kernel_rfl) (fn := Try.f41) (k := k) (es := [⟨48, 0, (.cons (.agg (.cons (.int .i64) (.cons (.int .i64) (.cons (.int .i64) (.cons (.int .i64) (.cons (.int .i64) (.cons (.il true (.int .i64)) (.cons .str .nil)))))))) .nil), .bool, i_PacketOk k⟩, ⟨114, 0, (.cons .str .nil), (.tup (.cons .str (.cons .bool .nil))), i_Unsealed k⟩, ⟨115, 0, (.cons (.ptr (.cons .str (.cons (.int .i64) (.cons .bool .nil)))) .nil), (.int .i64), i_scan_one k⟩, ⟨116, 0, (.cons (.ptr (.cons .str (.cons (.int .i64) (.cons .bool .nil)))) .nil), (.int .i64), i_scan_number k⟩]) (loops := [(0, ⟨[2, 4, 6, 7, 9, 10], (.cons (.ptr (.cons (.int .i64) (.cons (.int .i64) (.cons (.int .i64) (.cons (.int .i64) (.cons (.int .i64) (.cons (.own false 3 (.int .i64)) (.cons .str .nil)))))))) (.cons .str (.cons (.ptr (.cons .str (.cons (.int .i64) (.cons .bool .nil)))) (.cons (.ptr (.cons (.int .i64) (.cons (.int .i64) (.cons (.int .i64) (.cons (.int .i64) (.cons (.int .i64) (.cons (.own false 3 (.int .i64)) (.cons .str .nil)))))))) (.cons (.int .i64) (.cons (.int .i64) .nil))))))⟩, ⟨[2, 4, 6, 7], (.cons (.ptr (.cons (.int .i64) (.cons (.int .i64) (.cons (.int .i64) (.cons (.int .i64) (.cons (.int .i64) (.cons (.own false 3 (.int .i64)) (.cons .str .nil)))))))) (.cons .str (.cons (.ptr (.cons .str (.cons (.int .i64) (.cons .bool .nil)))) (.cons (.ptr (.cons (.int .i64) (.cons (.int .i64) (.cons (.int .i64) (.cons (.int .i64) (.cons (.int .i64) (.cons (.own false 3 (.int .i64)) (.cons .str .nil)))))))) .nil))))⟩)]) (by kernel_rfl) (by kernel_rfl) (fun x r h => (t_i_ReadPacket k x).trans h)
def w_eqIntS (k : Nat) (x : List (Int) × List (Int) × Unit) : Option (Bool × Unit × Unit × Unit) :=
(if (!decide ((List.length x.1 : Int) = (List.length x.2.1 : Int))) = true then
some (false, ((), ((), ())))
else
(whileK (fun (rec0 : (List (Int) × List (Int) × Int × Unit) → Option _) (y0 : List (Int) × List (Int) × Int × Unit) =>
(if (decide (y0.2.2.1 < (List.length y0.1 : Int))) = true then
(if 0 ≤ y0.2.2.1 ∧ y0.2.2.1 < (List.length y0.1 : Int) then
(if 0 ≤ y0.2.2.1 ∧ y0.2.2.1 < (List.length y0.2.1 : Int) then
(if (!decide ((Ty.rd (t := (.int .i64)) y0.1 y0.2.2.1) = (Ty.rd (t := (.int .i64)) y0.2.1 y0.2.2.1))) = true then
some (false, ((), ((), ())))
else
(rec0 (y0.1, (y0.2.1, ((wi64 (y0.2.2.1 + (1 : Int))), ())))))
else none)
else none)
else
((fun (z1 : Unit) =>
some (true, ((), ((), ())))) ()))) k (x.1, (x.2.1, ((0 : Int), ())))))
theorem t_w_eqIntS (k : Nat) (x) : evF TTab k [] [(0, ⟨[0, 1, 5], (.cons (.il true (.int .i64)) (.cons (.il true (.int .i64)) (.cons (.int .i64) .nil)))⟩, ⟨[], .nil⟩)] Try.f117 (.cons (.il true (.int .i64)) (.cons (.il true (.int .i64)) .nil)) .bool x = w_eqIntS k x := by kernel_rfl
theorem e_w_eqIntS (k : Nat) : EntryOk Try.prog ⟨117, 0, (.cons (.il true (.int .i64)) (.cons (.il true (.int .i64)) .nil)), .bool, w_eqIntS k⟩ := entry_ok tok (by simp) (by kernel_rfl) (fn := Try.f117) (k := k) (es := []) (loops := [(0, ⟨[0, 1, 5], (.cons (.il true (.int .i64)) (.cons (.il true (.int .i64)) (.cons (.int .i64) .nil)))⟩, ⟨[], .nil⟩)]) (by kernel_rfl) (by kernel_rfl) (fun x r h => (t_w_eqIntS k x).trans h)
def w_eqPacket (k : Nat) (x : (Int × Int × Int × Int × Int × List (Int) × ByteArray × Unit) × (Int × Int × Int × Int × Int × List (Int) × ByteArray × Unit) × Unit) : Option (Bool × Unit × Unit × Unit) :=
(if (!decide (x.1.1 = x.2.1.1)) = true then
some (false, ((), ((), ())))
else
(if (!decide (x.1.2.1 = x.2.1.2.1)) = true then
some (false, ((), ((), ())))
else
(if (!decide (x.1.2.2.1 = x.2.1.2.2.1)) = true then
some (false, ((), ((), ())))
else
(if (!decide (x.1.2.2.2.1 = x.2.1.2.2.2.1)) = true then
some (false, ((), ((), ())))
else
(if (!decide (x.1.2.2.2.2.1 = x.2.1.2.2.2.2.1)) = true then
some (false, ((), ((), ())))
else
((w_eqIntS k (x.1.2.2.2.2.2.1, (x.2.1.2.2.2.2.2.1, ()))).bind fun p1 =>
(if (!p1.1) = true then
some (false, ((), ((), ())))
else
(if (!decide (x.1.2.2.2.2.2.2.1 = x.2.1.2.2.2.2.2.2.1)) = true then
some (false, ((), ((), ())))
else
some (true, ((), ((), ())))))))))))
theorem t_w_eqPacket (k : Nat) (x) : evF TTab k [⟨117, 0, (.cons (.il true (.int .i64)) (.cons (.il true (.int .i64)) .nil)), .bool, w_eqIntS k⟩] [] Try.f42 (.cons (.agg (.cons (.int .i64) (.cons (.int .i64) (.cons (.int .i64) (.cons (.int .i64) (.cons (.int .i64) (.cons (.il true (.int .i64)) (.cons .str .nil)))))))) (.cons (.agg (.cons (.int .i64) (.cons (.int .i64) (.cons (.int .i64) (.cons (.int .i64) (.cons (.int .i64) (.cons (.il true (.int .i64)) (.cons .str .nil)))))))) .nil)) .bool x = w_eqPacket k x := by kernel_rfl
theorem e_w_eqPacket (k : Nat) : EntryOk Try.prog ⟨42, 0, (.cons (.agg (.cons (.int .i64) (.cons (.int .i64) (.cons (.int .i64) (.cons (.int .i64) (.cons (.int .i64) (.cons (.il true (.int .i64)) (.cons .str .nil)))))))) (.cons (.agg (.cons (.int .i64) (.cons (.int .i64) (.cons (.int .i64) (.cons (.int .i64) (.cons (.int .i64) (.cons (.il true (.int .i64)) (.cons .str .nil)))))))) .nil)), .bool, w_eqPacket k⟩ := entry_ok tok (by intro e he; simp only [List.mem_cons, List.not_mem_nil, or_false] at he; rcases he with rfl <;> first | exact e_w_eqIntS k) (by kernel_rfl) (fn := Try.f42) (k := k) (es := [⟨117, 0, (.cons (.il true (.int .i64)) (.cons (.il true (.int .i64)) .nil)), .bool, w_eqIntS k⟩]) (loops := []) (by kernel_rfl) (by kernel_rfl) (fun x r h => (t_w_eqPacket k x).trans h)
def w_markIntS (k : Nat) (x : List (Int) × Int × Unit) : Option (Int × List (Int) × Unit × Unit) :=
(whileK (fun (rec0 : (List (Int) × Int × Int × Unit) → Option _) (y0 : List (Int) × Int × Int × Unit) =>
(if (decide (y0.2.2.1 < (List.length y0.1 : Int))) = true then
(if 0 ≤ y0.2.2.1 ∧ y0.2.2.1 < (List.length y0.1 : Int) then
(rec0 ((List.set y0.1 (Int.toNat y0.2.2.1) y0.2.1), ((wi64 (y0.2.1 + (1 : Int))), ((wi64 (y0.2.2.1 + (1 : Int))), ()))))
else none)
else
((fun (z1 : List (Int) × Int × Unit) =>
some (z1.2.1, (z1.1, ((), ())))) (y0.1, (y0.2.1, ()))))) k (x.1, (x.2.1, ((0 : Int), ()))))
theorem t_w_markIntS (k : Nat) (x) : evF TTab k [] [(0, ⟨[0, 1, 5], (.cons (.own false 3 (.int .i64)) (.cons (.int .i64) (.cons (.int .i64) .nil)))⟩, ⟨[0, 1], (.cons (.own false 3 (.int .i64)) (.cons (.int .i64) .nil))⟩)] Try.f118 (.cons (.mut false 3 (.int .i64)) (.cons (.int .i64) .nil)) (.int .i64) x = w_markIntS k x := by kernel_rfl
theorem e_w_markIntS (k : Nat) : EntryOk Try.prog ⟨118, 0, (.cons (.mut false 3 (.int .i64)) (.cons (.int .i64) .nil)), (.int .i64), w_markIntS k⟩ := entry_ok tok (by simp) (by kernel_rfl) (fn := Try.f118) (k := k) (es := []) (loops := [(0, ⟨[0, 1, 5], (.cons (.own false 3 (.int .i64)) (.cons (.int .i64) (.cons (.int .i64) .nil)))⟩, ⟨[0, 1], (.cons (.own false 3 (.int .i64)) (.cons (.int .i64) .nil))⟩)]) (by kernel_rfl) (by kernel_rfl) (fun x r h => (t_w_markIntS k x).trans h)
def w_markPacket (k : Nat) (x : (Int × Int × Int × Int × Int × List (Int) × ByteArray × Unit) × Int × Unit) : Option (Int × (Unit × Unit × Unit × Unit × Unit × List (Int) × Unit × Unit) × Unit × Unit) :=
((w_markIntS k (x.1.2.2.2.2.2.1, (x.2.1, ()))).bind fun p1 =>
some (p1.1, (((), ((), ((), ((), ((), (p1.2.1, ((), ()))))))), ((), ()))))
theorem t_w_markPacket (k : Nat) (x) : evF TTab k [⟨118, 0, (.cons (.mut false 3 (.int .i64)) (.cons (.int .i64) .nil)), (.int .i64), w_markIntS k⟩] [] Try.f43 (.cons (.mag (.cons (.int .i64) (.cons (.int .i64) (.cons (.int .i64) (.cons (.int .i64) (.cons (.int .i64) (.cons (.mut false 3 (.int .i64)) (.cons .str .nil)))))))) (.cons (.int .i64) .nil)) (.int .i64) x = w_markPacket k x := by kernel_rfl
theorem e_w_markPacket (k : Nat) : EntryOk Try.prog ⟨43, 0, (.cons (.mag (.cons (.int .i64) (.cons (.int .i64) (.cons (.int .i64) (.cons (.int .i64) (.cons (.int .i64) (.cons (.mut false 3 (.int .i64)) (.cons .str .nil)))))))) (.cons (.int .i64) .nil)), (.int .i64), w_markPacket k⟩ := entry_ok tok (by intro e he; simp only [List.mem_cons, List.not_mem_nil, or_false] at he; rcases he with rfl <;> first | exact e_w_markIntS k) (by kernel_rfl) (fn := Try.f43) (k := k) (es := [⟨118, 0, (.cons (.mut false 3 (.int .i64)) (.cons (.int .i64) .nil)), (.int .i64), w_markIntS k⟩]) (loops := []) (by kernel_rfl) (by kernel_rfl) (fun x r h => (t_w_markPacket k x).trans h)
def w_heldIntS (k : Nat) (x : List (Int) × Int × Unit) : Option (Int × Unit × Unit × Unit) :=
(whileK (fun (rec0 : (List (Int) × Int × Int × Unit) → Option _) (y0 : List (Int) × Int × Int × Unit) =>
(if (decide (y0.2.2.1 < (List.length y0.1 : Int))) = true then
(if 0 ≤ y0.2.2.1 ∧ y0.2.2.1 < (List.length y0.1 : Int) then
(if (!decide ((Ty.rd (t := (.int .i64)) y0.1 y0.2.2.1) = y0.2.1)) = true then
some ((-1 : Int), ((), ((), ())))
else
(rec0 (y0.1, ((wi64 (y0.2.1 + (1 : Int))), ((wi64 (y0.2.2.1 + (1 : Int))), ())))))
else none)
else
((fun (z1 : Int × Unit) =>
some (z1.1, ((), ((), ())))) (y0.2.1, ())))) k (x.1, (x.2.1, ((0 : Int), ()))))
theorem t_w_heldIntS (k : Nat) (x) : evF TTab k [] [(0, ⟨[0, 1, 5], (.cons (.il true (.int .i64)) (.cons (.int .i64) (.cons (.int .i64) .nil)))⟩, ⟨[1], (.cons (.int .i64) .nil)⟩)] Try.f119 (.cons (.il true (.int .i64)) (.cons (.int .i64) .nil)) (.int .i64) x = w_heldIntS k x := by kernel_rfl
theorem e_w_heldIntS (k : Nat) : EntryOk Try.prog ⟨119, 0, (.cons (.il true (.int .i64)) (.cons (.int .i64) .nil)), (.int .i64), w_heldIntS k⟩ := entry_ok tok (by simp) (by kernel_rfl) (fn := Try.f119) (k := k) (es := []) (loops := [(0, ⟨[0, 1, 5], (.cons (.il true (.int .i64)) (.cons (.int .i64) (.cons (.int .i64) .nil)))⟩, ⟨[1], (.cons (.int .i64) .nil)⟩)]) (by kernel_rfl) (by kernel_rfl) (fun x r h => (t_w_heldIntS k x).trans h)
def w_heldPacket (k : Nat) (x : (Int × Int × Int × Int × Int × List (Int) × ByteArray × Unit) × Int × Unit) : Option (Int × Unit × Unit × Unit) :=
((w_heldIntS k (x.1.2.2.2.2.2.1, (x.2.1, ()))).bind fun p1 =>
(if (decide (p1.1 < (0 : Int))) = true then
some ((-1 : Int), ((), ((), ())))
else
some (p1.1, ((), ((), ())))))
theorem t_w_heldPacket (k : Nat) (x) : evF TTab k [⟨119, 0, (.cons (.il true (.int .i64)) (.cons (.int .i64) .nil)), (.int .i64), w_heldIntS k⟩] [] Try.f44 (.cons (.agg (.cons (.int .i64) (.cons (.int .i64) (.cons (.int .i64) (.cons (.int .i64) (.cons (.int .i64) (.cons (.il true (.int .i64)) (.cons .str .nil)))))))) (.cons (.int .i64) .nil)) (.int .i64) x = w_heldPacket k x := by kernel_rfl
theorem e_w_heldPacket (k : Nat) : EntryOk Try.prog ⟨44, 0, (.cons (.agg (.cons (.int .i64) (.cons (.int .i64) (.cons (.int .i64) (.cons (.int .i64) (.cons (.int .i64) (.cons (.il true (.int .i64)) (.cons .str .nil)))))))) (.cons (.int .i64) .nil)), (.int .i64), w_heldPacket k⟩ := entry_ok tok (by intro e he; simp only [List.mem_cons, List.not_mem_nil, or_false] at he; rcases he with rfl <;> first | exact e_w_heldIntS k) (by kernel_rfl) (fn := Try.f44) (k := k) (es := [⟨119, 0, (.cons (.il true (.int .i64)) (.cons (.int .i64) .nil)), (.int .i64), w_heldIntS k⟩]) (loops := []) (by kernel_rfl) (by kernel_rfl) (fun x r h => (t_w_heldPacket k x).trans h)
def w_FnExactReadPacket (k : Nat) (x : ByteArray × Unit) : Option (Bool × Unit × Unit) :=
(if (decide ((1048576 : Int) < (ByteArray.size x.1 : Int))) = true then
some (true, ((), ()))
else
((s_ReadPacket k (x.1, ())).bind fun p1 =>
((i_ReadPacket k (x.1, ())).bind fun p2 =>
((w_eqPacket k ((p2.1.1.1, (p2.1.1.2.1, (p2.1.1.2.2.1, (p2.1.1.2.2.2.1, (p2.1.1.2.2.2.2.1, (p2.1.1.2.2.2.2.2.1, (p2.1.1.2.2.2.2.2.2.1, ()))))))), ((p1.1.1.1, (p1.1.1.2.1, (p1.1.1.2.2.1, (p1.1.1.2.2.2.1, (p1.1.1.2.2.2.2.1, (p1.1.1.2.2.2.2.2.1, (p1.1.1.2.2.2.2.2.2.1, ()))))))), ()))).bind fun p3 =>
(if (!p3.1) = false then
(if (!decide (p2.1.2.1 = p1.1.2.1)) = true then
some (false, ((), ()))
else
((w_markPacket k ((p2.1.1.1, (p2.1.1.2.1, (p2.1.1.2.2.1, (p2.1.1.2.2.2.1, (p2.1.1.2.2.2.2.1, (p2.1.1.2.2.2.2.2.1, (p2.1.1.2.2.2.2.2.2.1, ()))))))), ((1 : Int), ()))).bind fun p4 =>
((w_heldPacket k ((p2.1.1.1, (p2.1.1.2.1, (p2.1.1.2.2.1, (p2.1.1.2.2.2.1, (p2.1.1.2.2.2.2.1, (p4.2.1.2.2.2.2.2.1, (p2.1.1.2.2.2.2.2.2.1, ()))))))), ((1 : Int), ()))).bind fun p5 =>
(if (decide (p5.1 < (0 : Int))) = true then
some (false, ((), ()))
else
(if (!decide (p5.1 = p4.1)) = true then
some (false, ((), ()))
else
((i_ReadPacket k (x.1, ())).bind fun p6 =>
((w_eqPacket k ((p6.1.1.1, (p6.1.1.2.1, (p6.1.1.2.2.1, (p6.1.1.2.2.2.1, (p6.1.1.2.2.2.2.1, (p6.1.1.2.2.2.2.2.1, (p6.1.1.2.2.2.2.2.2.1, ()))))))), ((p1.1.1.1, (p1.1.1.2.1, (p1.1.1.2.2.1, (p1.1.1.2.2.2.1, (p1.1.1.2.2.2.2.1, (p1.1.1.2.2.2.2.2.1, (p1.1.1.2.2.2.2.2.2.1, ()))))))), ()))).bind fun p7 =>
(if (!p7.1) = false then
(if (!decide (p6.1.2.1 = p1.1.2.1)) = true then
some (false, ((), ()))
else
((w_heldPacket k ((p2.1.1.1, (p2.1.1.2.1, (p2.1.1.2.2.1, (p2.1.1.2.2.2.1, (p2.1.1.2.2.2.2.1, (p4.2.1.2.2.2.2.2.1, (p2.1.1.2.2.2.2.2.2.1, ()))))))), ((1 : Int), ()))).bind fun p8 =>
(if (decide (p8.1 < (0 : Int))) = true then
some (false, ((), ()))
else
(if (!decide (p8.1 = p4.1)) = true then
some (false, ((), ()))
else
some (true, ((), ()))))))
else
some (false, ((), ()))))))))))
else
some (false, ((), ())))))))
theorem t_w_FnExactReadPacket (k : Nat) (x) : evF TTab k [⟨40, 0, (.cons .str .nil), (.tup (.cons (.agg (.cons (.int .i64) (.cons (.int .i64) (.cons (.int .i64) (.cons (.int .i64) (.cons (.int .i64) (.cons (.own false 3 (.int .i64)) (.cons .str .nil)))))))) (.cons .bool .nil))), s_ReadPacket k⟩, ⟨41, 0, (.cons .str .nil), (.tup (.cons (.agg (.cons (.int .i64) (.cons (.int .i64) (.cons (.int .i64) (.cons (.int .i64) (.cons (.int .i64) (.cons (.own false 3 (.int .i64)) (.cons .str .nil)))))))) (.cons .bool .nil))), i_ReadPacket k⟩, ⟨42, 0, (.cons (.agg (.cons (.int .i64) (.cons (.int .i64) (.cons (.int .i64) (.cons (.int .i64) (.cons (.int .i64) (.cons (.il true (.int .i64)) (.cons .str .nil)))))))) (.cons (.agg (.cons (.int .i64) (.cons (.int .i64) (.cons (.int .i64) (.cons (.int .i64) (.cons (.int .i64) (.cons (.il true (.int .i64)) (.cons .str .nil)))))))) .nil)), .bool, w_eqPacket k⟩, ⟨43, 0, (.cons (.mag (.cons (.int .i64) (.cons (.int .i64) (.cons (.int .i64) (.cons (.int .i64) (.cons (.int .i64) (.cons (.mut false 3 (.int .i64)) (.cons .str .nil)))))))) (.cons (.int .i64) .nil)), (.int .i64), w_markPacket k⟩, ⟨44, 0, (.cons (.agg (.cons (.int .i64) (.cons (.int .i64) (.cons (.int .i64) (.cons (.int .i64) (.cons (.int .i64) (.cons (.il true (.int .i64)) (.cons .str .nil)))))))) (.cons (.int .i64) .nil)), (.int .i64), w_heldPacket k⟩] [] Try.f8 (.cons .str .nil) .bool x = w_FnExactReadPacket k x := by kernel_rfl
theorem e_w_FnExactReadPacket (k : Nat) : EntryOk Try.prog ⟨8, 0, (.cons .str .nil), .bool, w_FnExactReadPacket k⟩ := entry_ok tok (by intro e he; simp only [List.mem_cons, List.not_mem_nil, or_false] at he; rcases he with rfl | rfl | rfl | rfl | rfl <;> first | exact e_s_ReadPacket k | exact e_i_ReadPacket k | exact e_w_eqPacket k | exact e_w_markPacket k | exact e_w_heldPacket k) (by kernel_rfl) (fn := Try.f8) (k := k) (es := [⟨40, 0, (.cons .str .nil), (.tup (.cons (.agg (.cons (.int .i64) (.cons (.int .i64) (.cons (.int .i64) (.cons (.int .i64) (.cons (.int .i64) (.cons (.own false 3 (.int .i64)) (.cons .str .nil)))))))) (.cons .bool .nil))), s_ReadPacket k⟩, ⟨41, 0, (.cons .str .nil), (.tup (.cons (.agg (.cons (.int .i64) (.cons (.int .i64) (.cons (.int .i64) (.cons (.int .i64) (.cons (.int .i64) (.cons (.own false 3 (.int .i64)) (.cons .str .nil)))))))) (.cons .bool .nil))), i_ReadPacket k⟩, ⟨42, 0, (.cons (.agg (.cons (.int .i64) (.cons (.int .i64) (.cons (.int .i64) (.cons (.int .i64) (.cons (.int .i64) (.cons (.il true (.int .i64)) (.cons .str .nil)))))))) (.cons (.agg (.cons (.int .i64) (.cons (.int .i64) (.cons (.int .i64) (.cons (.int .i64) (.cons (.int .i64) (.cons (.il true (.int .i64)) (.cons .str .nil)))))))) .nil)), .bool, w_eqPacket k⟩, ⟨43, 0, (.cons (.mag (.cons (.int .i64) (.cons (.int .i64) (.cons (.int .i64) (.cons (.int .i64) (.cons (.int .i64) (.cons (.mut false 3 (.int .i64)) (.cons .str .nil)))))))) (.cons (.int .i64) .nil)), (.int .i64), w_markPacket k⟩, ⟨44, 0, (.cons (.agg (.cons (.int .i64) (.cons (.int .i64) (.cons (.int .i64) (.cons (.int .i64) (.cons (.int .i64) (.cons (.il true (.int .i64)) (.cons .str .nil)))))))) (.cons (.int .i64) .nil)), (.int .i64), w_heldPacket k⟩]) (loops := []) (by kernel_rfl) (by kernel_rfl) (fun x r h => (t_w_FnExactReadPacket k x).trans h)
end Go.Proofs.Ytjmpbkkomiebhaa
