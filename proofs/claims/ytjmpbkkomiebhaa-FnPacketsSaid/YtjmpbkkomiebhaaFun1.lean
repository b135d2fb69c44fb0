import Derived.Test.YtjmpbkkomiebhaaFun0
/- What functions of the program compute, as plain functions, and that their calls do so (part 1). Conditions: the plain function answers. -/
set_option linter.unusedVariables false
namespace Go.Proofs.Ytjmpbkkomiebhaa
open Go Go.Eng Go.Proofs
def w_big (k : Nat) (x : List (Int) × Unit) : Option (Bool × Unit × Unit) :=
some ((decide ((1048576 : Int) < (List.length x.1 : Int))), ((), ()))
theorem t_w_big (k : Nat) (x) : evF TTab k [] [] Try.f14 (.cons (.il true (.int .u8)) .nil) .bool x = w_big k x := by kernel_rfl
theorem e_w_big (k : Nat) : EntryOk Try.prog ⟨14, 0, (.cons (.il true (.int .u8)) .nil), .bool, w_big k⟩ := entry_ok tok (by simp) (by kernel_rfl) (fn := Try.f14) (k := k) (es := []) (loops := []) (by kernel_rfl) (by kernel_rfl) (fun x r h => (t_w_big k x).trans h)
def s_l01New (k : Nat) (x : List (Int) × Unit) : Option ((List (Int) × Int × Int × Unit) × Unit × Unit) :=
(whileK (fun (rec0 : (List (Int) × Int × Int × Unit) → Option _) (y0 : List (Int) × Int × Int × Unit) =>
(if (decide (y0.2.2.1 < (List.length y0.1 : Int))) = true then
(if (decide (y0.2.2.1 < (4000 : Int))) = true then
(if 0 ≤ y0.2.2.1 ∧ y0.2.2.1 < (List.length y0.1 : Int) then
(rec0 (y0.1, ((bitsI .and .i64 (wi64 ((wi64 ((wi64 (y0.2.1 * (131 : Int))) + (wi64 ((Ty.rd (t := (.int .u8)) y0.1 y0.2.2.1))))) + (7 : Int))) (1073741823 : Int)), ((wi64 (y0.2.2.1 + (1 : Int))), ()))))
else none)
else
((fun (z1 : List (Int) × Int × Unit) =>
some ((z1.1, ((0 : Int), (z1.2.1, ()))), ((), ()))) (y0.1, (y0.2.1, ()))))
else
((fun (z1 : List (Int) × Int × Unit) =>
some ((z1.1, ((0 : Int), (z1.2.1, ()))), ((), ()))) (y0.1, (y0.2.1, ()))))) k (x.1, ((wi64 ((36201 : Int) + (List.length x.1 : Int))), ((0 : Int), ()))))
theorem t_s_l01New (k : Nat) (x) : evF TTab k [] [(0, ⟨[0, 3, 4], (.cons (.il true (.int .u8)) (.cons (.int .i64) (.cons (.int .i64) .nil)))⟩, ⟨[0, 3], (.cons (.il true (.int .u8)) (.cons (.int .i64) .nil))⟩)] Try.f74 (.cons (.il true (.int .u8)) .nil) (.ptr 0 (.cons (.il true (.int .u8)) (.cons (.int .i64) (.cons (.int .i64) .nil)))) x = s_l01New k x := by kernel_rfl
theorem e_s_l01New (k : Nat) : EntryOk Try.prog ⟨74, 0, (.cons (.il true (.int .u8)) .nil), (.ptr 0 (.cons (.il true (.int .u8)) (.cons (.int .i64) (.cons (.int .i64) .nil)))), s_l01New k⟩ := entry_ok tok (by simp) (by kernel_rfl) (fn := Try.f74) (k := k) (es := []) (loops := [(0, ⟨[0, 3, 4], (.cons (.il true (.int .u8)) (.cons (.int .i64) (.cons (.int .i64) .nil)))⟩, ⟨[0, 3], (.cons (.il true (.int .u8)) (.cons (.int .i64) .nil))⟩)]) (by kernel_rfl) (by kernel_rfl) (fun x r h => (t_s_l01New k x).trans h)
def s_l01Byte (k : Nat) (x : (List (Int) × Int × Int × Unit) × Unit) : Option (Int × (List (Int) × Int × Int × Unit) × Unit) :=
(if (decide (x.1.2.1 < (List.length x.1.1 : Int))) = true then
(if 0 ≤ x.1.2.1 ∧ x.1.2.1 < (List.length x.1.1 : Int) then
some ((bitsI .and .i64 (wi64 ((bitsI .and .i64 (bitsI .xor .i64 (Int.fdiv (wi64 ((wi64 (x.1.2.2.1 * (6364136223846793005 : Int))) + (1442695040888963407 : Int))) (2 ^ (min (Int.toNat (33 : Int)) (IntKind.bits .i64)))) (Int.fdiv (wi64 ((wi64 (x.1.2.2.1 * (6364136223846793005 : Int))) + (1442695040888963407 : Int))) (2 ^ (min (Int.toNat (45 : Int)) (IntKind.bits .i64))))) (255 : Int)) + (wi64 ((Ty.rd (t := (.int .u8)) x.1.1 x.1.2.1))))) (255 : Int)), ((x.1.1, ((wi64 (x.1.2.1 + (1 : Int))), ((wi64 ((wi64 (x.1.2.2.1 * (6364136223846793005 : Int))) + (1442695040888963407 : Int))), ()))), ()))
else none)
else
some ((bitsI .and .i64 (bitsI .xor .i64 (Int.fdiv (wi64 ((wi64 (x.1.2.2.1 * (6364136223846793005 : Int))) + (1442695040888963407 : Int))) (2 ^ (min (Int.toNat (33 : Int)) (IntKind.bits .i64)))) (Int.fdiv (wi64 ((wi64 (x.1.2.2.1 * (6364136223846793005 : Int))) + (1442695040888963407 : Int))) (2 ^ (min (Int.toNat (45 : Int)) (IntKind.bits .i64))))) (255 : Int)), ((x.1.1, (x.1.2.1, ((wi64 ((wi64 (x.1.2.2.1 * (6364136223846793005 : Int))) + (1442695040888963407 : Int))), ()))), ())))
theorem t_s_l01Byte (k : Nat) (x) : evF TTab k [] [] Try.f81 (.cons (.ptr 0 (.cons (.il true (.int .u8)) (.cons (.int .i64) (.cons (.int .i64) .nil)))) .nil) (.int .i64) x = s_l01Byte k x := by kernel_rfl
theorem e_s_l01Byte (k : Nat) : EntryOk Try.prog ⟨81, 0, (.cons (.ptr 0 (.cons (.il true (.int .u8)) (.cons (.int .i64) (.cons (.int .i64) .nil)))) .nil), (.int .i64), s_l01Byte k⟩ := entry_ok tok (by simp) (by kernel_rfl) (fn := Try.f81) (k := k) (es := []) (loops := []) (by kernel_rfl) (by kernel_rfl) (fun x r h => (t_s_l01Byte k x).trans h)
def s_l01Below (k : Nat) (x : (List (Int) × Int × Int × Unit) × Int × Unit) : Option (Int × (List (Int) × Int × Int × Unit) × Unit × Unit) :=
(if (decide (x.2.1 ≤ (0 : Int))) = true then
some ((0 : Int), ((x.1.1, (x.1.2.1, (x.1.2.2.1, ()))), ((), ())))
else
(if (decide (x.2.1 ≤ (256 : Int))) = true then
((s_l01Byte k ((x.1.1, (x.1.2.1, (x.1.2.2.1, ()))), ())).bind fun p1 =>
(if x.2.1 = 0 then
none
else
some ((Int.tmod p1.1 x.2.1), ((p1.2.1.1, (p1.2.1.2.1, (p1.2.1.2.2.1, ()))), ((), ())))))
else
((s_l01Byte k ((x.1.1, (x.1.2.1, (x.1.2.2.1, ()))), ())).bind fun p2 =>
((s_l01Byte k ((p2.2.1.1, (p2.2.1.2.1, (p2.2.1.2.2.1, ()))), ())).bind fun p3 =>
((s_l01Byte k ((p3.2.1.1, (p3.2.1.2.1, (p3.2.1.2.2.1, ()))), ())).bind fun p4 =>
((s_l01Byte k ((p4.2.1.1, (p4.2.1.2.1, (p4.2.1.2.2.1, ()))), ())).bind fun p5 =>
(if x.2.1 = 0 then
none
else
some ((Int.tmod (wi64 ((wi64 ((wi64 ((wi64 (p2.1 * (16777216 : Int))) + (wi64 (p3.1 * (65536 : Int))))) + (wi64 (p4.1 * (256 : Int))))) + p5.1)) x.2.1), ((p5.2.1.1, (p5.2.1.2.1, (p5.2.1.2.2.1, ()))), ((), ()))))))))))
theorem t_s_l01Below (k : Nat) (x) : evF TTab k [⟨81, 0, (.cons (.ptr 0 (.cons (.il true (.int .u8)) (.cons (.int .i64) (.cons (.int .i64) .nil)))) .nil), (.int .i64), s_l01Byte k⟩] [] Try.f76 (.cons (.ptr 0 (.cons (.il true (.int .u8)) (.cons (.int .i64) (.cons (.int .i64) .nil)))) (.cons (.int .i64) .nil)) (.int .i64) x = s_l01Below k x := by kernel_rfl
theorem e_s_l01Below (k : Nat) : EntryOk Try.prog ⟨76, 0, (.cons (.ptr 0 (.cons (.il true (.int .u8)) (.cons (.int .i64) (.cons (.int .i64) .nil)))) (.cons (.int .i64) .nil)), (.int .i64), s_l01Below k⟩ := entry_ok tok (by intro e he; simp only [List.mem_cons, List.not_mem_nil, or_false] at he; rcases he with rfl <;> first | exact e_s_l01Byte k) (by kernel_rfl) (fn := Try.f76) (k := k) (es := [⟨81, 0, (.cons (.ptr 0 (.cons (.il true (.int .u8)) (.cons (.int .i64) (.cons (.int .i64) .nil)))) .nil), (.int .i64), s_l01Byte k⟩]) (loops := []) (by kernel_rfl) (by kernel_rfl) (fun x r h => (t_s_l01Below k x).trans h)
def s_l01Text (k : Nat) (x : (List (Int) × Int × Int × Unit) × Int × Unit) : Option (ByteArray × (List (Int) × Int × Int × Unit) × Unit × Unit) :=
(jn (fun (j1v0 : Int) =>
(whileK (fun (rec0 : ((List (Int) × Int × Int × Unit) × Int × List (Int) × Int × Unit) → Option _) (y0 : (List (Int) × Int × Int × Unit) × Int × List (Int) × Int × Unit) =>
(if (decide (y0.2.2.2.1 < y0.2.1)) = true then
((s_l01Byte k ((y0.1.1, (y0.1.2.1, (y0.1.2.2.1, ()))), ())).bind fun p2 =>
(if List.length y0.2.2.1 + List.length ([(wu8 (p2.1))] : List (Int)) ≤ capMax then
(rec0 ((p2.2.1.1, (p2.2.1.2.1, (p2.2.1.2.2.1, ()))), (y0.2.1, ((y0.2.2.1 ++ ([(wu8 (p2.1))] : List (Int))), ((wi64 (y0.2.2.2.1 + (1 : Int))), ())))))
else none))
else
((fun (z2 : (List (Int) × Int × Int × Unit) × List (Int) × Unit) =>
some ((strOf z2.2.1), ((z2.1.1, (z2.1.2.1, (z2.1.2.2.1, ()))), ((), ())))) ((y0.1.1, (y0.1.2.1, (y0.1.2.2.1, ()))), (y0.2.2.1, ()))))) k ((x.1.1, (x.1.2.1, (x.1.2.2.1, ()))), (j1v0, (([] : List (Int)), ((0 : Int), ())))))) (fun (j1 : Int → Option _) =>
(if (decide ((5000 : Int) < x.2.1)) = true then
(j1 (5000 : Int))
else
(j1 x.2.1))))
theorem t_s_l01Text (k : Nat) (x) : evF TTab k [⟨81, 0, (.cons (.ptr 0 (.cons (.il true (.int .u8)) (.cons (.int .i64) (.cons (.int .i64) .nil)))) .nil), (.int .i64), s_l01Byte k⟩] [(0, ⟨[0, 1, 5, 6], (.cons (.ptr 0 (.cons (.il true (.int .u8)) (.cons (.int .i64) (.cons (.int .i64) .nil)))) (.cons (.int .i64) (.cons (.own false 5 (.int .u8)) (.cons (.int .i64) .nil))))⟩, ⟨[0, 5], (.cons (.ptr 0 (.cons (.il true (.int .u8)) (.cons (.int .i64) (.cons (.int .i64) .nil)))) (.cons (.own false 5 (.int .u8)) .nil))⟩)] Try.f158 (.cons (.ptr 0 (.cons (.il true (.int .u8)) (.cons (.int .i64) (.cons (.int .i64) .nil)))) (.cons (.int .i64) .nil)) .str x = s_l01Text k x := by kernel_rfl
theorem e_s_l01Text (k : Nat) : EntryOk Try.prog ⟨158, 0, (.cons (.ptr 0 (.cons (.il true (.int .u8)) (.cons (.int .i64) (.cons (.int .i64) .nil)))) (.cons (.int .i64) .nil)), .str, s_l01Text k⟩ := entry_ok tok (by intro e he; simp only [List.mem_cons, List.not_mem_nil, or_false] at he; rcases he with rfl <;> first | exact e_s_l01Byte k) (by kernel_rfl) (fn := Try.f158) (k := k) (es := [⟨81, 0, (.cons (.ptr 0 (.cons (.il true (.int .u8)) (.cons (.int .i64) (.cons (.int .i64) .nil)))) .nil), (.int .i64), s_l01Byte k⟩]) (loops := [(0, ⟨[0, 1, 5, 6], (.cons (.ptr 0 (.cons (.il true (.int .u8)) (.cons (.int .i64) (.cons (.int .i64) .nil)))) (.cons (.int .i64) (.cons (.own false 5 (.int .u8)) (.cons (.int .i64) .nil))))⟩, ⟨[0, 5], (.cons (.ptr 0 (.cons (.il true (.int .u8)) (.cons (.int .i64) (.cons (.int .i64) .nil)))) (.cons (.own false 5 (.int .u8)) .nil))⟩)]) (by kernel_rfl) (by kernel_rfl) (fun x r h => (t_s_l01Text k x).trans h)
def s_l01Long (k : Nat) (x : Int × Int × Unit) : Option (ByteArray × Unit × Unit × Unit) :=
(if x.1 = x.1 then
(if 0 ≤ x.1 ∧ x.1 ≤ (capMax : Int) then
(whileK (fun (rec0 : (Int × Int × List (Int) × Int × Unit) → Option _) (y0 : Int × Int × List (Int) × Int × Unit) =>
(if (decide (y0.2.2.2.1 < y0.1)) = true then
(if 0 ≤ y0.2.2.2.1 ∧ y0.2.2.2.1 < (List.length y0.2.2.1 : Int) then
(rec0 (y0.1, (y0.2.1, ((List.set y0.2.2.1 (Int.toNat y0.2.2.2.1) y0.2.1), ((wi64 (y0.2.2.2.1 + (1 : Int))), ())))))
else none)
else
((fun (z1 : List (Int) × Unit) =>
some ((strOf z1.1), ((), ((), ())))) (y0.2.2.1, ())))) k (x.1, (x.2.1, ((List.replicate (Int.toNat x.1) (0 : Int)), ((0 : Int), ())))))
else none)
else none)
theorem t_s_l01Long (k : Nat) (x) : evF TTab k [] [(0, ⟨[0, 1, 5, 6], (.cons (.int .i64) (.cons (.int .u8) (.cons (.own false 5 (.int .u8)) (.cons (.int .i64) .nil))))⟩, ⟨[5], (.cons (.own false 5 (.int .u8)) .nil)⟩)] Try.f159 (.cons (.int .i64) (.cons (.int .u8) .nil)) .str x = s_l01Long k x := by kernel_rfl
theorem e_s_l01Long (k : Nat) : EntryOk Try.prog ⟨159, 0, (.cons (.int .i64) (.cons (.int .u8) .nil)), .str, s_l01Long k⟩ := entry_ok tok (by simp) (by kernel_rfl) (fn := Try.f159) (k := k) (es := []) (loops := [(0, ⟨[0, 1, 5, 6], (.cons (.int .i64) (.cons (.int .u8) (.cons (.own false 5 (.int .u8)) (.cons (.int .i64) .nil))))⟩, ⟨[5], (.cons (.own false 5 (.int .u8)) .nil)⟩)]) (by kernel_rfl) (by kernel_rfl) (fun x r h => (t_s_l01Long k x).trans h)
def s_l01PickInt (k : Nat) (x : (List (Int) × Int × Int × Unit) × List (Int) × Unit) : Option (Int × (List (Int) × Int × Int × Unit) × Unit × Unit) :=
((s_l01Below k ((x.1.1, (x.1.2.1, (x.1.2.2.1, ()))), ((List.length x.2.1 : Int), ()))).bind fun p1 =>
(if 0 ≤ p1.1 ∧ p1.1 < (List.length x.2.1 : Int) then
some ((Ty.rd (t := (.int .i64)) x.2.1 p1.1), ((p1.2.1.1, (p1.2.1.2.1, (p1.2.1.2.2.1, ()))), ((), ())))
else none))
theorem t_s_l01PickInt (k : Nat) (x) : evF TTab k [⟨76, 0, (.cons (.ptr 0 (.cons (.il true (.int .u8)) (.cons (.int .i64) (.cons (.int .i64) .nil)))) (.cons (.int .i64) .nil)), (.int .i64), s_l01Below k⟩] [] Try.f160 (.cons (.ptr 0 (.cons (.il true (.int .u8)) (.cons (.int .i64) (.cons (.int .i64) .nil)))) (.cons (.il false (.int .i64)) .nil)) (.int .i64) x = s_l01PickInt k x := by kernel_rfl
theorem e_s_l01PickInt (k : Nat) : EntryOk Try.prog ⟨160, 0, (.cons (.ptr 0 (.cons (.il true (.int .u8)) (.cons (.int .i64) (.cons (.int .i64) .nil)))) (.cons (.il false (.int .i64)) .nil)), (.int .i64), s_l01PickInt k⟩ := entry_ok tok (by intro e he; simp only [List.mem_cons, List.not_mem_nil, or_false] at he; rcases he with rfl <;> first | exact e_s_l01Below k) (by kernel_rfl) (fn := Try.f160) (k := k) (es := [⟨76, 0, (.cons (.ptr 0 (.cons (.il true (.int .u8)) (.cons (.int .i64) (.cons (.int .i64) .nil)))) (.cons (.int .i64) .nil)), (.int .i64), s_l01Below k⟩]) (loops := []) (by kernel_rfl) (by kernel_rfl) (fun x r h => (t_s_l01PickInt k x).trans h)
def i_within (k : Nat) (x : Int × Int × Int × Unit) : Option (Bool × Unit × Unit × Unit × Unit) :=
(if (decide (x.2.1 ≤ x.1)) = true then
some ((decide (x.1 ≤ x.2.2.1)), ((), ((), ((), ()))))
else
some (false, ((), ((), ((), ())))))
theorem t_i_within (k : Nat) (x) : evF TTab k [] [] Try.f77 (.cons (.int .i64) (.cons (.int .i64) (.cons (.int .i64) .nil))) .bool x = i_within k x := by kernel_rfl
theorem e_i_within (k : Nat) : EntryOk Try.prog ⟨77, 0, (.cons (.int .i64) (.cons (.int .i64) (.cons (.int .i64) .nil))), .bool, i_within k⟩ := entry_ok tok (by simp) (by kernel_rfl) (fn := Try.f77) (k := k) (es := []) (loops := []) (by kernel_rfl) (by kernel_rfl) (fun x r h => (t_i_within k x).trans h)
def i_byteText (k : Nat) (x : Int × Unit) : Option (ByteArray × Unit × Unit) :=
some ((strOf ([(wu8 (x.1))] : List (Int))), ((), ()))
theorem t_i_byteText (k : Nat) (x) : evF TTab k [] [] Try.f78 (.cons (.int .i64) .nil) .str x = i_byteText k x := by kernel_rfl
theorem e_i_byteText (k : Nat) : EntryOk Try.prog ⟨78, 0, (.cons (.int .i64) .nil), .str, i_byteText k⟩ := entry_ok tok (by simp) (by kernel_rfl) (fn := Try.f78) (k := k) (es := []) (loops := []) (by kernel_rfl) (by kernel_rfl) (fun x r h => (t_i_byteText k x).trans h)
def s_l01In (k : Nat) (x : Int × Int × Int × Unit) : Option (Bool × Unit × Unit × Unit × Unit) :=
(if (decide (x.2.1 ≤ x.1)) = true then
some ((decide (x.1 ≤ x.2.2.1)), ((), ((), ((), ()))))
else
some (false, ((), ((), ((), ())))))
theorem t_s_l01In (k : Nat) (x) : evF TTab k [] [] Try.f79 (.cons (.int .i64) (.cons (.int .i64) (.cons (.int .i64) .nil))) .bool x = s_l01In k x := by kernel_rfl
theorem e_s_l01In (k : Nat) : EntryOk Try.prog ⟨79, 0, (.cons (.int .i64) (.cons (.int .i64) (.cons (.int .i64) .nil))), .bool, s_l01In k⟩ := entry_ok tok (by simp) (by kernel_rfl) (fn := Try.f79) (k := k) (es := []) (loops := []) (by kernel_rfl) (by kernel_rfl) (fun x r h => (t_s_l01In k x).trans h)
def s_l05Byte (k : Nat) (x : Int × Unit) : Option (ByteArray × Unit × Unit) :=
(if (decide ((Int.tmod x.1 (256 : Int)) < (0 : Int))) = true then
some ((strOf ([(wu8 ((wi64 ((Int.tmod x.1 (256 : Int)) + (256 : Int)))))] : List (Int))), ((), ()))
else
some ((strOf ([(wu8 ((Int.tmod x.1 (256 : Int))))] : List (Int))), ((), ())))
theorem t_s_l05Byte (k : Nat) (x) : evF TTab k [] [] Try.f80 (.cons (.int .i64) .nil) .str x = s_l05Byte k x := by kernel_rfl
theorem e_s_l05Byte (k : Nat) : EntryOk Try.prog ⟨80, 0, (.cons (.int .i64) .nil), .str, s_l05Byte k⟩ := entry_ok tok (by simp) (by kernel_rfl) (fn := Try.f80) (k := k) (es := []) (loops := []) (by kernel_rfl) (by kernel_rfl) (fun x r h => (t_s_l05Byte k x).trans h)
def s_DrawPlaces (k : Nat) (x : List (Int) × Unit) : Option (List (Int) × Unit × Unit) :=
((s_l01New k (x.1, ())).bind fun p1 =>
((s_l01Byte k ((p1.1.1, (p1.1.2.1, (p1.1.2.2.1, ()))), ())).bind fun p2 =>
(whileK (fun (rec0 : ((List (Int) × Int × Int × Unit) × List (Int) × Int × Unit) → Option _) (y0 : (List (Int) × Int × Int × Unit) × List (Int) × Int × Unit) =>
(if (decide (y0.2.2.1 < (12 : Int))) = true then
((s_l01Below k ((y0.1.1, (y0.1.2.1, (y0.1.2.2.1, ()))), ((10000 : Int), ()))).bind fun p3 =>
(if List.length y0.2.1 + List.length ([p3.1] : List (Int)) ≤ capMax then
(rec0 ((p3.2.1.1, (p3.2.1.2.1, (p3.2.1.2.2.1, ()))), ((y0.2.1 ++ ([p3.1] : List (Int))), ((wi64 (y0.2.2.1 + (1 : Int))), ()))))
else none))
else
((fun (z1 : List (Int) × Unit) =>
some (z1.1, ((), ()))) (y0.2.1, ())))) k ((p2.2.1.1, (p2.2.1.2.1, (p2.2.1.2.2.1, ()))), (([] : List (Int)), ((0 : Int), ()))))))
theorem t_s_DrawPlaces (k : Nat) (x) : evF TTab k [⟨74, 0, (.cons (.il true (.int .u8)) .nil), (.ptr 0 (.cons (.il true (.int .u8)) (.cons (.int .i64) (.cons (.int .i64) .nil)))), s_l01New k⟩, ⟨76, 0, (.cons (.ptr 0 (.cons (.il true (.int .u8)) (.cons (.int .i64) (.cons (.int .i64) .nil)))) (.cons (.int .i64) .nil)), (.int .i64), s_l01Below k⟩, ⟨81, 0, (.cons (.ptr 0 (.cons (.il true (.int .u8)) (.cons (.int .i64) (.cons (.int .i64) .nil)))) .nil), (.int .i64), s_l01Byte k⟩] [(0, ⟨[3, 4, 5], (.cons (.ptr 0 (.cons (.il true (.int .u8)) (.cons (.int .i64) (.cons (.int .i64) .nil)))) (.cons (.own false 3 (.int .i64)) (.cons (.int .i64) .nil)))⟩, ⟨[4], (.cons (.own false 3 (.int .i64)) .nil)⟩)] Try.f19 (.cons (.il true (.int .u8)) .nil) (.own false 3 (.int .i64)) x = s_DrawPlaces k x := by kernel_rfl
theorem e_s_DrawPlaces (k : Nat) : EntryOk Try.prog ⟨19, 0, (.cons (.il true (.int .u8)) .nil), (.own false 3 (.int .i64)), s_DrawPlaces k⟩ := entry_ok tok (by intro e he; simp only [List.mem_cons, List.not_mem_nil, or_false] at he; rcases he with rfl | rfl | rfl <;> first | exact e_s_l01New k | exact e_s_l01Below k | exact e_s_l01Byte k) (by kernel_rfl) (fn := Try.f19) (k := k) (es := [⟨74, 0, (.cons (.il true (.int .u8)) .nil), (.ptr 0 (.cons (.il true (.int .u8)) (.cons (.int .i64) (.cons (.int .i64) .nil)))), s_l01New k⟩, ⟨76, 0, (.cons (.ptr 0 (.cons (.il true (.int .u8)) (.cons (.int .i64) (.cons (.int .i64) .nil)))) (.cons (.int .i64) .nil)), (.int .i64), s_l01Below k⟩, ⟨81, 0, (.cons (.ptr 0 (.cons (.il true (.int .u8)) (.cons (.int .i64) (.cons (.int .i64) .nil)))) .nil), (.int .i64), s_l01Byte k⟩]) (loops := [(0, ⟨[3, 4, 5], (.cons (.ptr 0 (.cons (.il true (.int .u8)) (.cons (.int .i64) (.cons (.int .i64) .nil)))) (.cons (.own false 3 (.int .i64)) (.cons (.int .i64) .nil)))⟩, ⟨[4], (.cons (.own false 3 (.int .i64)) .nil)⟩)]) (by kernel_rfl) (by kernel_rfl) (fun x r h => (t_s_DrawPlaces k x).trans h)
def i_isId (k : Nat) (x : Int × Unit) : Option (Bool × Unit × Unit) :=
((i_within k (x.1, ((1 : Int), ((99 : Int), ())))).bind fun p1 =>
some (p1.1, ((), ())))
theorem t_i_isId (k : Nat) (x) : evF TTab k [⟨77, 0, (.cons (.int .i64) (.cons (.int .i64) (.cons (.int .i64) .nil))), .bool, i_within k⟩] [] Try.f83 (.cons (.int .i64) .nil) .bool x = i_isId k x := by kernel_rfl
theorem e_i_isId (k : Nat) : EntryOk Try.prog ⟨83, 0, (.cons (.int .i64) .nil), .bool, i_isId k⟩ := entry_ok tok (by intro e he; simp only [List.mem_cons, List.not_mem_nil, or_false] at he; rcases he with rfl <;> first | exact e_i_within k) (by kernel_rfl) (fn := Try.f83) (k := k) (es := [⟨77, 0, (.cons (.int .i64) (.cons (.int .i64) (.cons (.int .i64) .nil))), .bool, i_within k⟩]) (loops := []) (by kernel_rfl) (by kernel_rfl) (fun x r h => (t_i_isId k x).trans h)
def w_sameInts (k : Nat) (x : List (Int) × List (Int) × Unit) : Option (Bool × Unit × Unit × Unit) :=
(if (!decide ((List.length x.1 : Int) = (List.length x.2.1 : Int))) = true then
some (false, ((), ((), ())))
else
(whileK (fun (rec0 : (List (Int) × List (Int) × Int × Unit) → Option _) (y0 : List (Int) × List (Int) × Int × Unit) =>
(if (decide (y0.2.2.1 < (List.length y0.1 : Int))) = true then
(if 0 ≤ y0.2.2.1 ∧ y0.2.2.1 < (List.length y0.1 : Int) then
(if 0 ≤ y0.2.2.1 ∧ y0.2.2.1 < (List.length y0.2.1 : Int) then
(if (!decide ((Ty.rd (t := (.int .i64)) y0.1 y0.2.2.1) = (Ty.rd (t := (.int .i64)) y0.2.1 y0.2.2.1))) = true then
some (false, ((), ((), ())))
else
(rec0 (y0.1, (y0.2.1, ((wi64 (y0.2.2.1 + (1 : Int))), ())))))
else none)
else none)
else
((fun (z1 : Unit) =>
some (true, ((), ((), ())))) ()))) k (x.1, (x.2.1, ((0 : Int), ())))))
theorem t_w_sameInts (k : Nat) (x) : evF TTab k [] [(0, ⟨[0, 1, 5], (.cons (.il true (.int .i64)) (.cons (.il true (.int .i64)) (.cons (.int .i64) .nil)))⟩, ⟨[], .nil⟩)] Try.f34 (.cons (.il true (.int .i64)) (.cons (.il true (.int .i64)) .nil)) .bool x = w_sameInts k x := by kernel_rfl
theorem e_w_sameInts (k : Nat) : EntryOk Try.prog ⟨34, 0, (.cons (.il true (.int .i64)) (.cons (.il true (.int .i64)) .nil)), .bool, w_sameInts k⟩ := entry_ok tok (by simp) (by kernel_rfl) (fn := Try.f34) (k := k) (es := []) (loops := [(0, ⟨[0, 1, 5], (.cons (.il true (.int .i64)) (.cons (.il true (.int .i64)) (.cons (.int .i64) .nil)))⟩, ⟨[], .nil⟩)]) (by kernel_rfl) (by kernel_rfl) (fun x r h => (t_w_sameInts k x).trans h)
def s_l02Four (k : Nat) (x : Int × Unit) : Option (ByteArray × Unit × Unit) :=
some ((strOf ([(wu8 ((Int.fdiv x.1 (2 ^ (min (Int.toNat (24 : Int)) (IntKind.bits .u32)))))), (wu8 ((Int.fdiv x.1 (2 ^ (min (Int.toNat (16 : Int)) (IntKind.bits .u32)))))), (wu8 ((Int.fdiv x.1 (2 ^ (min (Int.toNat (8 : Int)) (IntKind.bits .u32)))))), (wu8 (x.1))] : List (Int))), ((), ()))
theorem t_s_l02Four (k : Nat) (x) : evF TTab k [] [] Try.f181 (.cons (.int .u32) .nil) .str x = s_l02Four k x := by kernel_rfl
theorem e_s_l02Four (k : Nat) : EntryOk Try.prog ⟨181, 0, (.cons (.int .u32) .nil), .str, s_l02Four k⟩ := entry_ok tok (by simp) (by kernel_rfl) (fn := Try.f181) (k := k) (es := []) (loops := []) (by kernel_rfl) (by kernel_rfl) (fun x r h => (t_s_l02Four k x).trans h)
def s_SumMore (k : Nat) (x : Int × ByteArray × Unit) : Option (Int × Unit × Unit × Unit) :=
(whileK (fun (rec0 : (Int × ByteArray × Int × Unit) → Option _) (y0 : Int × ByteArray × Int × Unit) =>
(if (decide (y0.2.2.1 < (ByteArray.size y0.2.1 : Int))) = true then
(if 0 ≤ y0.2.2.1 ∧ y0.2.2.1 < (ByteArray.size y0.2.1 : Int) then
(whileK (fun (rec2 : (Int × ByteArray × Int × Int × Unit) → Option _) (y2 : Int × ByteArray × Int × Int × Unit) =>
(if (decide (y2.2.2.2.1 < (8 : Int))) = true then
(if (decide ((Int.tmod y2.1 (2 : Int)) = (1 : Int))) = true then
(rec2 ((bitsI .xor .u32 (wu32 (Int.tdiv y2.1 (2 : Int))) (3558460437 : Int)), (y2.2.1, (y2.2.2.1, ((wi64 (y2.2.2.2.1 + (1 : Int))), ())))))
else
(rec2 ((wu32 (Int.tdiv y2.1 (2 : Int))), (y2.2.1, (y2.2.2.1, ((wi64 (y2.2.2.2.1 + (1 : Int))), ()))))))
else
((fun (z1 : Int × ByteArray × Int × Unit) =>
(rec0 (z1.1, (z1.2.1, ((wi64 (z1.2.2.1 + (1 : Int))), ()))))) (y2.1, (y2.2.1, (y2.2.2.1, ())))))) k ((bitsI .xor .u32 y0.1 (wu32 ((bt y0.2.1 y0.2.2.1)))), (y0.2.1, (y0.2.2.1, ((0 : Int), ())))))
else none)
else
((fun (z2 : Int × Unit) =>
some (z2.1, ((), ((), ())))) (y0.1, ())))) k (x.1, (x.2.1, ((0 : Int), ()))))
theorem t_s_SumMore (k : Nat) (x) : evF TTab k [] [(0, ⟨[0, 1, 5], (.cons (.int .u32) (.cons .str (.cons (.int .i64) .nil)))⟩, ⟨[0], (.cons (.int .u32) .nil)⟩), (2, ⟨[0, 1, 5, 6], (.cons (.int .u32) (.cons .str (.cons (.int .i64) (.cons (.int .i64) .nil))))⟩, ⟨[0, 1, 5], (.cons (.int .u32) (.cons .str (.cons (.int .i64) .nil)))⟩)] Try.f224 (.cons (.int .u32) (.cons .str .nil)) (.int .u32) x = s_SumMore k x := by kernel_rfl
theorem e_s_SumMore (k : Nat) : EntryOk Try.prog ⟨224, 0, (.cons (.int .u32) (.cons .str .nil)), (.int .u32), s_SumMore k⟩ := entry_ok tok (by simp) (by kernel_rfl) (fn := Try.f224) (k := k) (es := []) (loops := [(0, ⟨[0, 1, 5], (.cons (.int .u32) (.cons .str (.cons (.int .i64) .nil)))⟩, ⟨[0], (.cons (.int .u32) .nil)⟩), (2, ⟨[0, 1, 5, 6], (.cons (.int .u32) (.cons .str (.cons (.int .i64) (.cons (.int .i64) .nil))))⟩, ⟨[0, 1, 5], (.cons (.int .u32) (.cons .str (.cons (.int .i64) .nil)))⟩)]) (by kernel_rfl) (by kernel_rfl) (fun x r h => (t_s_SumMore k x).trans h)
def s_SumOf (k : Nat) (x : ByteArray × Unit) : Option (Int × Unit × Unit) :=
((s_SumMore k ((4294967295 : Int), (x.1, ()))).bind fun p1 =>
some (p1.1, ((), ())))
theorem t_s_SumOf (k : Nat) (x) : evF TTab k [⟨224, 0, (.cons (.int .u32) (.cons .str .nil)), (.int .u32), s_SumMore k⟩] [] Try.f182 (.cons .str .nil) (.int .u32) x = s_SumOf k x := by kernel_rfl
theorem e_s_SumOf (k : Nat) : EntryOk Try.prog ⟨182, 0, (.cons .str .nil), (.int .u32), s_SumOf k⟩ := entry_ok tok (by intro e he; simp only [List.mem_cons, List.not_mem_nil, or_false] at he; rcases he with rfl <;> first | exact e_s_SumMore k) (by kernel_rfl) (fn := Try.f182) (k := k) (es := [⟨224, 0, (.cons (.int .u32) (.cons .str .nil)), (.int .u32), s_SumMore k⟩]) (loops := []) (by kernel_rfl) (by kernel_rfl) (fun x r h => (t_s_SumOf k x).trans h)
def s_Unsealed (k : Nat) (x : ByteArray × Unit) : Option ((ByteArray × Bool × Unit) × Unit × Unit) :=
(if (decide ((wi64 ((ByteArray.size x.1 : Int) - (4 : Int))) < (0 : Int))) = false then
(if (decide ((20000 : Int) < (wi64 ((ByteArray.size x.1 : Int) - (4 : Int))))) = false then
(if 0 ≤ (wi64 ((ByteArray.size x.1 : Int) - (4 : Int))) ∧ (wi64 ((ByteArray.size x.1 : Int) - (4 : Int))) ≤ (ByteArray.size x.1 : Int) then
(if 0 ≤ (wi64 ((ByteArray.size x.1 : Int) - (4 : Int))) ∧ (wi64 ((ByteArray.size x.1 : Int) - (4 : Int))) ≤ (ByteArray.size x.1 : Int) then
((s_SumOf k ((ByteArray.extract x.1 (Int.toNat (0 : Int)) (Int.toNat (wi64 ((ByteArray.size x.1 : Int) - (4 : Int))))), ())).bind fun p1 =>
((s_l02Four k (p1.1, ())).bind fun p2 =>
(if (!decide ((ByteArray.extract x.1 (Int.toNat (wi64 ((ByteArray.size x.1 : Int) - (4 : Int)))) (Int.toNat (ByteArray.size x.1 : Int))) = p2.1)) = true then
some (((⟨#[]⟩ : ByteArray), (false, ())), ((), ()))
else
(if 0 ≤ (wi64 ((ByteArray.size x.1 : Int) - (4 : Int))) ∧ (wi64 ((ByteArray.size x.1 : Int) - (4 : Int))) ≤ (ByteArray.size x.1 : Int) then
some (((ByteArray.extract x.1 (Int.toNat (0 : Int)) (Int.toNat (wi64 ((ByteArray.size x.1 : Int) - (4 : Int))))), (true, ())), ((), ()))
else none))))
else none)
else none)
else
some (((⟨#[]⟩ : ByteArray), (false, ())), ((), ())))
else
some (((⟨#[]⟩ : ByteArray), (false, ())), ((), ())))
theorem t_s_Unsealed (k : Nat) (x) : evF TTab k [⟨181, 0, (.cons (.int .u32) .nil), .str, s_l02Four k⟩, ⟨182, 0, (.cons .str .nil), (.int .u32), s_SumOf k⟩] [] Try.f110 (.cons .str .nil) (.tup (.cons .str (.cons .bool .nil))) x = s_Unsealed k x := by kernel_rfl
theorem e_s_Unsealed (k : Nat) : EntryOk Try.prog ⟨110, 0, (.cons .str .nil), (.tup (.cons .str (.cons .bool .nil))), s_Unsealed k⟩ := entry_ok tok (by intro e he; simp only [List.mem_cons, List.not_mem_nil, or_false] at he; rcases he with rfl | rfl <;> first | exact e_s_l02Four k | exact e_s_SumOf k) (by kernel_rfl) (fn := Try.f110) (k := k) (es := [⟨181, 0, (.cons (.int .u32) .nil), .str, s_l02Four k⟩, ⟨182, 0, (.cons .str .nil), (.int .u32), s_SumOf k⟩]) (loops := []) (by kernel_rfl) (by kernel_rfl) (fun x r h => (t_s_Unsealed k x).trans h)
def s_l12One (k : Nat) (x : (ByteArray × Int × Bool × Unit) × Unit) : Option (Int × (ByteArray × Int × Bool × Unit) × Unit) :=
(if x.1.2.2.1 = false then
(if (decide ((ByteArray.size x.1.1 : Int) ≤ x.1.2.1)) = true then
some ((0 : Int), ((x.1.1, (x.1.2.1, (true, ()))), ()))
else
(if 0 ≤ (wi64 ((wi64 (x.1.2.1 + (1 : Int))) - (1 : Int))) ∧ (wi64 ((wi64 (x.1.2.1 + (1 : Int))) - (1 : Int))) < (ByteArray.size x.1.1 : Int) then
some ((wi64 ((bt x.1.1 (wi64 ((wi64 (x.1.2.1 + (1 : Int))) - (1 : Int)))))), ((x.1.1, ((wi64 (x.1.2.1 + (1 : Int))), (x.1.2.2.1, ()))), ()))
else none))
else
some ((0 : Int), ((x.1.1, (x.1.2.1, (true, ()))), ())))
theorem t_s_l12One (k : Nat) (x) : evF TTab k [] [] Try.f111 (.cons (.ptr 0 (.cons .str (.cons (.int .i64) (.cons .bool .nil)))) .nil) (.int .i64) x = s_l12One k x := by kernel_rfl
theorem e_s_l12One (k : Nat) : EntryOk Try.prog ⟨111, 0, (.cons (.ptr 0 (.cons .str (.cons (.int .i64) (.cons .bool .nil)))) .nil), (.int .i64), s_l12One k⟩ := entry_ok tok (by simp) (by kernel_rfl) (fn := Try.f111) (k := k) (es := []) (loops := []) (by kernel_rfl) (by kernel_rfl) (fun x r h => (t_s_l12One k x).trans h)
def s_l01Var (k : Nat) (x : Int × Unit) : Option (ByteArray × Unit × Unit) :=
(whileK (fun (rec0 : (Int × List (Int) × Unit) → Option _) (y0 : Int × List (Int) × Unit) =>
(if (decide ((127 : Int) < y0.1)) = true then
(if List.length y0.2.1 + List.length ([(wu8 ((wi64 ((Int.tmod y0.1 (128 : Int)) + (128 : Int)))))] : List (Int)) ≤ capMax then
(rec0 ((wi64 (Int.tdiv y0.1 (128 : Int))), ((y0.2.1 ++ ([(wu8 ((wi64 ((Int.tmod y0.1 (128 : Int)) + (128 : Int)))))] : List (Int))), ())))
else none)
else
((fun (z1 : Int × List (Int) × Unit) =>
(if List.length z1.2.1 + List.length ([(wu8 (z1.1))] : List (Int)) ≤ capMax then
some ((strOf (z1.2.1 ++ ([(wu8 (z1.1))] : List (Int)))), ((), ()))
else none)) (y0.1, (y0.2.1, ()))))) k (x.1, (([] : List (Int)), ())))
theorem t_s_l01Var (k : Nat) (x) : evF TTab k [] [(0, ⟨[0, 3], (.cons (.int .i64) (.cons (.own false 5 (.int .u8)) .nil))⟩, ⟨[0, 3], (.cons (.int .i64) (.cons (.own false 5 (.int .u8)) .nil))⟩)] Try.f184 (.cons (.int .i64) .nil) .str x = s_l01Var k x := by kernel_rfl
theorem e_s_l01Var (k : Nat) : EntryOk Try.prog ⟨184, 0, (.cons (.int .i64) .nil), .str, s_l01Var k⟩ := entry_ok tok (by simp) (by kernel_rfl) (fn := Try.f184) (k := k) (es := []) (loops := [(0, ⟨[0, 3], (.cons (.int .i64) (.cons (.own false 5 (.int .u8)) .nil))⟩, ⟨[0, 3], (.cons (.int .i64) (.cons (.own false 5 (.int .u8)) .nil))⟩)]) (by kernel_rfl) (by kernel_rfl) (fun x r h => (t_s_l01Var k x).trans h)
def s_ReadVar (k : Nat) (x : ByteArray × Int × Unit) : Option ((Int × Int × Bool × Unit) × Unit × Unit × Unit) :=
((s_l01In k (x.2.1, ((0 : Int), ((ByteArray.size x.1 : Int), ())))).bind fun p1 =>
(if (!p1.1) = true then
some (((0 : Int), ((0 : Int), (false, ()))), ((), ((), ())))
else
(whileK (fun (rec0 : (ByteArray × Int × Int × Int × Int × Unit) → Option _) (y0 : ByteArray × Int × Int × Int × Int × Unit) =>
(if (decide (y0.2.2.2.2.1 < (ByteArray.size y0.1 : Int))) = true then
(if (decide (y0.2.2.2.2.1 < (wi64 (y0.2.1 + (5 : Int))))) = true then
(if 0 ≤ y0.2.2.2.2.1 ∧ y0.2.2.2.2.1 < (ByteArray.size y0.1 : Int) then
(if 0 ≤ y0.2.2.2.2.1 ∧ y0.2.2.2.2.1 < (ByteArray.size y0.1 : Int) then
(if (decide ((bt y0.1 y0.2.2.2.2.1) < (128 : Int))) = true then
(if (decide ((1000000000 : Int) < (wi64 (y0.2.2.1 + (wi64 ((Int.tmod (wi64 ((bt y0.1 y0.2.2.2.2.1))) (128 : Int)) * y0.2.2.2.1)))))) = false then
((s_l01Var k ((wi64 (y0.2.2.1 + (wi64 ((Int.tmod (wi64 ((bt y0.1 y0.2.2.2.2.1))) (128 : Int)) * y0.2.2.2.1)))), ())).bind fun p2 =>
(if 0 ≤ (wi64 (y0.2.2.2.2.1 + (1 : Int))) ∧ (wi64 (y0.2.2.2.2.1 + (1 : Int))) ≤ (ByteArray.size y0.1 : Int) then
(if 0 ≤ y0.2.1 ∧ y0.2.1 ≤ (wi64 (y0.2.2.2.2.1 + (1 : Int))) then
(if (!decide (p2.1 = (ByteArray.extract y0.1 (Int.toNat y0.2.1) (Int.toNat (wi64 (y0.2.2.2.2.1 + (1 : Int))))))) = true then
some (((0 : Int), ((0 : Int), (false, ()))), ((), ((), ())))
else
some (((wi64 (y0.2.2.1 + (wi64 ((Int.tmod (wi64 ((bt y0.1 y0.2.2.2.2.1))) (128 : Int)) * y0.2.2.2.1)))), ((wi64 (y0.2.2.2.2.1 + (1 : Int))), (true, ()))), ((), ((), ()))))
else none)
else none))
else
some (((0 : Int), ((0 : Int), (false, ()))), ((), ((), ()))))
else
(rec0 (y0.1, (y0.2.1, ((wi64 (y0.2.2.1 + (wi64 ((Int.tmod (wi64 ((bt y0.1 y0.2.2.2.2.1))) (128 : Int)) * y0.2.2.2.1)))), ((wi64 (y0.2.2.2.1 * (128 : Int))), ((wi64 (y0.2.2.2.2.1 + (1 : Int))), ())))))))
else none)
else none)
else
((fun (z1 : Unit) =>
some (((0 : Int), ((0 : Int), (false, ()))), ((), ((), ())))) ()))
else
((fun (z1 : Unit) =>
some (((0 : Int), ((0 : Int), (false, ()))), ((), ((), ())))) ()))) k (x.1, (x.2.1, ((0 : Int), ((1 : Int), (x.2.1, ()))))))))
theorem t_s_ReadVar (k : Nat) (x) : evF TTab k [⟨79, 0, (.cons (.int .i64) (.cons (.int .i64) (.cons (.int .i64) .nil))), .bool, s_l01In k⟩, ⟨184, 0, (.cons (.int .i64) .nil), .str, s_l01Var k⟩] [(0, ⟨[0, 1, 7, 8, 9], (.cons .str (.cons (.int .i64) (.cons (.int .i64) (.cons (.int .i64) (.cons (.int .i64) .nil)))))⟩, ⟨[], .nil⟩)] Try.f183 (.cons .str (.cons (.int .i64) .nil)) (.tup (.cons (.int .i64) (.cons (.int .i64) (.cons .bool .nil)))) x = s_ReadVar k x := by kernel_rfl
theorem e_s_ReadVar (k : Nat) : EntryOk Try.prog ⟨183, 0, (.cons .str (.cons (.int .i64) .nil)), (.tup (.cons (.int .i64) (.cons (.int .i64) (.cons .bool .nil)))), s_ReadVar k⟩ := entry_ok tok (by intro e he; simp only [List.mem_cons, List.not_mem_nil, or_false] at he; rcases he with rfl | rfl <;> first | exact e_s_l01In k | exact e_s_l01Var k) (by kernel_rfl) (fn := Try.f183) (k := k) (es := [⟨79, 0, (.cons (.int .i64) (.cons (.int .i64) (.cons (.int .i64) .nil))), .bool, s_l01In k⟩, ⟨184, 0, (.cons (.int .i64) .nil), .str, s_l01Var k⟩]) (loops := [(0, ⟨[0, 1, 7, 8, 9], (.cons .str (.cons (.int .i64) (.cons (.int .i64) (.cons (.int .i64) (.cons (.int .i64) .nil)))))⟩, ⟨[], .nil⟩)]) (by kernel_rfl) (by kernel_rfl) (fun x r h => (t_s_ReadVar k x).trans h)
def s_l12Var (k : Nat) (x : (ByteArray × Int × Bool × Unit) × Unit) : Option (Int × (ByteArray × Int × Bool × Unit) × Unit) :=
((s_ReadVar k (x.1.1, (x.1.2.1, ()))).bind fun p1 =>
(if x.1.2.2.1 = false then
(if (!p1.1.2.2.1) = true then
some ((0 : Int), ((x.1.1, (x.1.2.1, (true, ()))), ()))
else
some (p1.1.1, ((x.1.1, (p1.1.2.1, (x.1.2.2.1, ()))), ())))
else
some ((0 : Int), ((x.1.1, (x.1.2.1, (true, ()))), ()))))
theorem t_s_l12Var (k : Nat) (x) : evF TTab k [⟨183, 0, (.cons .str (.cons (.int .i64) .nil)), (.tup (.cons (.int .i64) (.cons (.int .i64) (.cons .bool .nil)))), s_ReadVar k⟩] [] Try.f112 (.cons (.ptr 0 (.cons .str (.cons (.int .i64) (.cons .bool .nil)))) .nil) (.int .i64) x = s_l12Var k x := by kernel_rfl
theorem e_s_l12Var (k : Nat) : EntryOk Try.prog ⟨112, 0, (.cons (.ptr 0 (.cons .str (.cons (.int .i64) (.cons .bool .nil)))) .nil), (.int .i64), s_l12Var k⟩ := entry_ok tok (by intro e he; simp only [List.mem_cons, List.not_mem_nil, or_false] at he; rcases he with rfl <;> first | exact e_s_ReadVar k) (by kernel_rfl) (fn := Try.f112) (k := k) (es := [⟨183, 0, (.cons .str (.cons (.int .i64) .nil)), (.tup (.cons (.int .i64) (.cons (.int .i64) (.cons .bool .nil)))), s_ReadVar k⟩]) (loops := []) (by kernel_rfl) (by kernel_rfl) (fun x r h => (t_s_l12Var k x).trans h)
def s_PacketOk (k : Nat) (x : (Int × Int × Int × Int × Int × List (Int) × ByteArray × Unit) × Unit) : Option (Bool × Unit × Unit) :=
((s_l01In k (x.1.1, ((1 : Int), ((3 : Int), ())))).bind fun p1 =>
(if (!p1.1) = false then
((s_l01In k (x.1.2.1, ((0 : Int), ((7 : Int), ())))).bind fun p2 =>
(if (!p2.1) = false then
((s_l01In k (x.1.2.2.1, ((1 : Int), ((99 : Int), ())))).bind fun p3 =>
(if (!p3.1) = false then
((s_l01In k (x.1.2.2.2.1, ((1 : Int), ((99 : Int), ())))).bind fun p4 =>
(if (!p4.1) = false then
((s_l01In k (x.1.2.2.2.2.1, ((0 : Int), ((1000000000 : Int), ())))).bind fun p5 =>
(if (!p5.1) = false then
(if (decide ((4 : Int) < (List.length x.1.2.2.2.2.2.1 : Int))) = false then
(if (decide ((120 : Int) < (ByteArray.size x.1.2.2.2.2.2.2.1 : Int))) = true then
some (false, ((), ()))
else
(whileK (fun (rec0 : ((Int × Int × Int × Int × Int × List (Int) × ByteArray × Unit) × Int × Unit) → Option _) (y0 : (Int × Int × Int × Int × Int × List (Int) × ByteArray × Unit) × Int × Unit) =>
(if (decide (y0.2.1 < (List.length y0.1.2.2.2.2.2.1 : Int))) = true then
(if 0 ≤ y0.2.1 ∧ y0.2.1 < (List.length y0.1.2.2.2.2.2.1 : Int) then
((s_l01In k ((Ty.rd (t := (.int .i64)) y0.1.2.2.2.2.2.1 y0.2.1), ((1 : Int), ((1000000000 : Int), ())))).bind fun p6 =>
(if (!p6.1) = false then
(if (decide (y0.1.1 = (3 : Int))) = true then
some (false, ((), ()))
else
(rec0 ((y0.1.1, (y0.1.2.1, (y0.1.2.2.1, (y0.1.2.2.2.1, (y0.1.2.2.2.2.1, (y0.1.2.2.2.2.2.1, (y0.1.2.2.2.2.2.2.1, ()))))))), ((wi64 (y0.2.1 + (1 : Int))), ()))))
else
some (false, ((), ()))))
else none)
else
((fun (z1 : (Int × Int × Int × Int × Int × List (Int) × ByteArray × Unit) × Unit) =>
(if (!decide (z1.1.1 = (2 : Int))) = false then
(if (decide (z1.1.2.2.2.2.2.2.1 = (⟨#[]⟩ : ByteArray))) = true then
some ((decide (z1.1.2.2.2.2.1 = (0 : Int))), ((), ()))
else
some (false, ((), ())))
else
some (true, ((), ())))) ((y0.1.1, (y0.1.2.1, (y0.1.2.2.1, (y0.1.2.2.2.1, (y0.1.2.2.2.2.1, (y0.1.2.2.2.2.2.1, (y0.1.2.2.2.2.2.2.1, ()))))))), ())))) k ((x.1.1, (x.1.2.1, (x.1.2.2.1, (x.1.2.2.2.1, (x.1.2.2.2.2.1, (x.1.2.2.2.2.2.1, (x.1.2.2.2.2.2.2.1, ()))))))), ((0 : Int), ()))))
else
some (false, ((), ())))
else
some (false, ((), ()))))
else
some (false, ((), ()))))
else
some (false, ((), ()))))
else
some (false, ((), ()))))
else
some (false, ((), ()))))
theorem t_s_PacketOk (k : Nat) (x) : evF TTab k [⟨79, 0, (.cons (.int .i64) (.cons (.int .i64) (.cons (.int .i64) .nil))), .bool, s_l01In k⟩] [(0, ⟨[1, 3], (.cons (.ptr 0 (.cons (.int .i64) (.cons (.int .i64) (.cons (.int .i64) (.cons (.int .i64) (.cons (.int .i64) (.cons (.il true (.int .i64)) (.cons .str .nil)))))))) (.cons (.int .i64) .nil))⟩, ⟨[1], (.cons (.ptr 0 (.cons (.int .i64) (.cons (.int .i64) (.cons (.int .i64) (.cons (.int .i64) (.cons (.int .i64) (.cons (.il true (.int .i64)) (.cons .str .nil)))))))) .nil)⟩)] Try.f47 (.cons (.agg (.cons (.int .i64) (.cons (.int .i64) (.cons (.int .i64) (.cons (.int .i64) (.cons (.int .i64) (.cons (.il true (.int .i64)) (.cons .str .nil)))))))) .nil) .bool x = s_PacketOk k x := by kernel_rfl
theorem e_s_PacketOk (k : Nat) : EntryOk Try.prog ⟨47, 0, (.cons (.agg (.cons (.int .i64) (.cons (.int .i64) (.cons (.int .i64) (.cons (.int .i64) (.cons (.int .i64) (.cons (.il true (.int .i64)) (.cons .str .nil)))))))) .nil), .bool, s_PacketOk k⟩ := entry_ok tok (by intro e he; simp only [List.mem_cons, List.not_mem_nil, or_false] at he; rcases he with rfl <;> first | exact e_s_l01In k) (by kernel_rfl) (fn := Try.f47) (k := k) (es := [⟨79, 0, (.cons (.int .i64) (.cons (.int .i64) (.cons (.int .i64) .nil))), .bool, s_l01In k⟩]) (loops := [(0, ⟨[1, 3], (.cons (.ptr 0 (.cons (.int .i64) (.cons (.int .i64) (.cons (.int .i64) (.cons (.int .i64) (.cons (.int .i64) (.cons (.il true (.int .i64)) (.cons .str .nil)))))))) (.cons (.int .i64) .nil))⟩, ⟨[1], (.cons (.ptr 0 (.cons (.int .i64) (.cons (.int .i64) (.cons (.int .i64) (.cons (.int .i64) (.cons (.int .i64) (.cons (.il true (.int .i64)) (.cons .str .nil)))))))) .nil)⟩)]) (by kernel_rfl) (by kernel_rfl) (fun x r h => (t_s_PacketOk k x).trans h)
def s_Sealed (k : Nat) (x : ByteArray × Unit) : Option ((ByteArray × Bool × Unit) × Unit × Unit) :=
(if (decide ((20000 : Int) < (ByteArray.size x.1 : Int))) = true then
some (((⟨#[]⟩ : ByteArray), (false, ())), ((), ()))
else
((s_SumOf k (x.1, ())).bind fun p1 =>
((s_l02Four k (p1.1, ())).bind fun p2 =>
(if ByteArray.size x.1 + ByteArray.size p2.1 ≤ maxStr then
some (((x.1 ++ p2.1), (true, ())), ((), ()))
else none))))
theorem t_s_Sealed (k : Nat) (x) : evF TTab k [⟨181, 0, (.cons (.int .u32) .nil), .str, s_l02Four k⟩, ⟨182, 0, (.cons .str .nil), (.int .u32), s_SumOf k⟩] [] Try.f124 (.cons .str .nil) (.tup (.cons .str (.cons .bool .nil))) x = s_Sealed k x := by kernel_rfl
theorem e_s_Sealed (k : Nat) : EntryOk Try.prog ⟨124, 0, (.cons .str .nil), (.tup (.cons .str (.cons .bool .nil))), s_Sealed k⟩ := entry_ok tok (by intro e he; simp only [List.mem_cons, List.not_mem_nil, or_false] at he; rcases he with rfl | rfl <;> first | exact e_s_l02Four k | exact e_s_SumOf k) (by kernel_rfl) (fn := Try.f124) (k := k) (es := [⟨181, 0, (.cons (.int .u32) .nil), .str, s_l02Four k⟩, ⟨182, 0, (.cons .str .nil), (.int .u32), s_SumOf k⟩]) (loops := []) (by kernel_rfl) (by kernel_rfl) (fun x r h => (t_s_Sealed k x).trans h)
def s_PacketText (k : Nat) (x : (Int × Int × Int × Int × Int × List (Int) × ByteArray × Unit) × Unit) : Option ((ByteArray × Bool × Unit) × Unit × Unit) :=
((s_PacketOk k ((x.1.1, (x.1.2.1, (x.1.2.2.1, (x.1.2.2.2.1, (x.1.2.2.2.2.1, (x.1.2.2.2.2.2.1, (x.1.2.2.2.2.2.2.1, ()))))))), ())).bind fun p1 =>
(if (!p1.1) = true then
some (((⟨#[]⟩ : ByteArray), (false, ())), ((), ()))
else
((s_l05Byte k ((wi64 ((wi64 ((8 : Int) * x.1.1)) + x.1.2.1)), ())).bind fun p2 =>
((s_l05Byte k (x.1.2.2.1, ())).bind fun p3 =>
(if ByteArray.size p2.1 + ByteArray.size p3.1 ≤ maxStr then
((s_l05Byte k (x.1.2.2.2.1, ())).bind fun p4 =>
(if ByteArray.size (p2.1 ++ p3.1) + ByteArray.size p4.1 ≤ maxStr then
((s_l01Var k (x.1.2.2.2.2.1, ())).bind fun p5 =>
(if ByteArray.size ((p2.1 ++ p3.1) ++ p4.1) + ByteArray.size p5.1 ≤ maxStr then
((s_l01Var k ((List.length x.1.2.2.2.2.2.1 : Int), ())).bind fun p6 =>
(if ByteArray.size (((p2.1 ++ p3.1) ++ p4.1) ++ p5.1) + ByteArray.size p6.1 ≤ maxStr then
(whileK (fun (rec0 : ((Int × Int × Int × Int × Int × List (Int) × ByteArray × Unit) × ByteArray × Int × Unit) → Option _) (y0 : (Int × Int × Int × Int × Int × List (Int) × ByteArray × Unit) × ByteArray × Int × Unit) =>
(if (decide (y0.2.2.1 < (List.length y0.1.2.2.2.2.2.1 : Int))) = true then
(if 0 ≤ y0.2.2.1 ∧ y0.2.2.1 < (List.length y0.1.2.2.2.2.2.1 : Int) then
((s_l01Var k ((Ty.rd (t := (.int .i64)) y0.1.2.2.2.2.2.1 y0.2.2.1), ())).bind fun p7 =>
(if ByteArray.size y0.2.1 + ByteArray.size p7.1 ≤ maxStr then
(rec0 ((y0.1.1, (y0.1.2.1, (y0.1.2.2.1, (y0.1.2.2.2.1, (y0.1.2.2.2.2.1, (y0.1.2.2.2.2.2.1, (y0.1.2.2.2.2.2.2.1, ()))))))), ((y0.2.1 ++ p7.1), ((wi64 (y0.2.2.1 + (1 : Int))), ()))))
else none))
else none)
else
((fun (z1 : (Int × Int × Int × Int × Int × List (Int) × ByteArray × Unit) × ByteArray × Unit) =>
(if ByteArray.size z1.2.1 + ByteArray.size z1.1.2.2.2.2.2.2.1 ≤ maxStr then
((s_Sealed k ((z1.2.1 ++ z1.1.2.2.2.2.2.2.1), ())).bind fun p8 =>
some ((p8.1.1, (p8.1.2.1, ())), ((), ())))
else none)) ((y0.1.1, (y0.1.2.1, (y0.1.2.2.1, (y0.1.2.2.2.1, (y0.1.2.2.2.2.1, (y0.1.2.2.2.2.2.1, (y0.1.2.2.2.2.2.2.1, ()))))))), (y0.2.1, ()))))) k ((x.1.1, (x.1.2.1, (x.1.2.2.1, (x.1.2.2.2.1, (x.1.2.2.2.2.1, (x.1.2.2.2.2.2.1, (x.1.2.2.2.2.2.2.1, ()))))))), (((((p2.1 ++ p3.1) ++ p4.1) ++ p5.1) ++ p6.1), ((0 : Int), ()))))
else none))
else none))
else none))
else none)))))
theorem t_s_PacketText (k : Nat) (x) : evF TTab k [⟨47, 0, (.cons (.agg (.cons (.int .i64) (.cons (.int .i64) (.cons (.int .i64) (.cons (.int .i64) (.cons (.int .i64) (.cons (.il true (.int .i64)) (.cons .str .nil)))))))) .nil), .bool, s_PacketOk k⟩, ⟨80, 0, (.cons (.int .i64) .nil), .str, s_l05Byte k⟩, ⟨124, 0, (.cons .str .nil), (.tup (.cons .str (.cons .bool .nil))), s_Sealed k⟩, ⟨184, 0, (.cons (.int .i64) .nil), .str, s_l01Var k⟩] [(0, ⟨[1, 4, 5], (.cons (.ptr 0 (.cons (.int .i64) (.cons (.int .i64) (.cons (.int .i64) (.cons (.int .i64) (.cons (.int .i64) (.cons (.il true (.int .i64)) (.cons .str .nil)))))))) (.cons .str (.cons (.int .i64) .nil)))⟩, ⟨[1, 4], (.cons (.ptr 0 (.cons (.int .i64) (.cons (.int .i64) (.cons (.int .i64) (.cons (.int .i64) (.cons (.int .i64) (.cons (.il true (.int .i64)) (.cons .str .nil)))))))) (.cons .str .nil))⟩)] Try.f113 (.cons (.agg (.cons (.int .i64) (.cons (.int .i64) (.cons (.int .i64) (.cons (.int .i64) (.cons (.int .i64) (.cons (.il true (.int .i64)) (.cons .str .nil)))))))) .nil) (.tup (.cons .str (.cons .bool .nil))) x = s_PacketText k x := by kernel_rfl
theorem e_s_PacketText (k : Nat) : EntryOk Try.prog ⟨113, 0, (.cons (.agg (.cons (.int .i64) (.cons (.int .i64) (.cons (.int .i64) (.cons (.int .i64) (.cons (.int .i64) (.cons (.il true (.int .i64)) (.cons .str .nil)))))))) .nil), (.tup (.cons .str (.cons .bool .nil))), s_PacketText k⟩ := entry_ok tok (by intro e he; simp only [List.mem_cons, List.not_mem_nil, or_false] at he; rcases he with rfl | rfl | rfl | rfl <;> first | exact e_s_PacketOk k | exact e_s_l05Byte k | exact e_s_Sealed k | exact e_s_l01Var k) (by kernel_rfl) (fn := Try.f113) (k := k) (es := [⟨47, 0, (.cons (.agg (.cons (.int .i64) (.cons (.int .i64) (.cons (.int .i64) (.cons (.int .i64) (.cons (.int .i64) (.cons (.il true (.int .i64)) (.cons .str .nil)))))))) .nil), .bool, s_PacketOk k⟩, ⟨80, 0, (.cons (.int .i64) .nil), .str, s_l05Byte k⟩, ⟨124, 0, (.cons .str .nil), (.tup (.cons .str (.cons .bool .nil))), s_Sealed k⟩, ⟨184, 0, (.cons (.int .i64) .nil), .str, s_l01Var k⟩]) (loops := [(0, ⟨[1, 4, 5], (.cons (.ptr 0 (.cons (.int .i64) (.cons (.int .i64) (.cons (.int .i64) (.cons (.int .i64) (.cons (.int .i64) (.cons (.il true (.int .i64)) (.cons .str .nil)))))))) (.cons .str (.cons (.int .i64) .nil)))⟩, ⟨[1, 4], (.cons (.ptr 0 (.cons (.int .i64) (.cons (.int .i64) (.cons (.int .i64) (.cons (.int .i64) (.cons (.int .i64) (.cons (.il true (.int .i64)) (.cons .str .nil)))))))) (.cons .str .nil))⟩)]) (by kernel_rfl) (by kernel_rfl) (fun x r h => (t_s_PacketText k x).trans h)
def s_ReadPacket (k : Nat) (x : ByteArray × Unit) : Option (((Int × Int × Int × Int × Int × List (Int) × ByteArray × Unit) × Bool × Unit) × Unit × Unit) :=
((s_Unsealed k (x.1, ())).bind fun p1 =>
((s_l12One k ((p1.1.1, ((0 : Int), ((!p1.1.2.1), ()))), ())).bind fun p2 =>
((s_l12One k ((p2.2.1.1, (p2.2.1.2.1, (p2.2.1.2.2.1, ()))), ())).bind fun p3 =>
((s_l12One k ((p3.2.1.1, (p3.2.1.2.1, (p3.2.1.2.2.1, ()))), ())).bind fun p4 =>
((s_l12Var k ((p4.2.1.1, (p4.2.1.2.1, (p4.2.1.2.2.1, ()))), ())).bind fun p5 =>
((s_l12Var k ((p5.2.1.1, (p5.2.1.2.1, (p5.2.1.2.2.1, ()))), ())).bind fun p6 =>
(jn (fun (z1 : ByteArray × (Int × Int × Int × Int × Int × List (Int) × ByteArray × Unit) × ByteArray × (ByteArray × Int × Bool × Unit) × (Int × Int × Int × Int × Int × List (Int) × ByteArray × Unit) × Unit) =>
(if z1.2.2.2.1.2.2.1 = true then
some ((((0 : Int), ((0 : Int), ((0 : Int), ((0 : Int), ((0 : Int), ([], ((⟨#[]⟩ : ByteArray), ()))))))), (false, ())), ((), ()))
else
(if 0 ≤ z1.2.2.2.1.2.1 ∧ z1.2.2.2.1.2.1 ≤ (ByteArray.size z1.2.2.1 : Int) then
((s_PacketText k ((z1.2.2.2.2.1.1, (z1.2.2.2.2.1.2.1, (z1.2.2.2.2.1.2.2.1, (z1.2.2.2.2.1.2.2.2.1, (z1.2.2.2.2.1.2.2.2.2.1, (z1.2.2.2.2.1.2.2.2.2.2.1, ((ByteArray.extract z1.2.2.1 (Int.toNat z1.2.2.2.1.2.1) (Int.toNat (ByteArray.size z1.2.2.1 : Int))), ()))))))), ())).bind fun p8 =>
(if (!p8.1.2.1) = false then
(if (!decide (p8.1.1 = z1.1)) = true then
some ((((0 : Int), ((0 : Int), ((0 : Int), ((0 : Int), ((0 : Int), ([], ((⟨#[]⟩ : ByteArray), ()))))))), (false, ())), ((), ()))
else
some (((z1.2.2.2.2.1.1, (z1.2.2.2.2.1.2.1, (z1.2.2.2.2.1.2.2.1, (z1.2.2.2.2.1.2.2.2.1, (z1.2.2.2.2.1.2.2.2.2.1, (z1.2.2.2.2.1.2.2.2.2.2.1, ((ByteArray.extract z1.2.2.1 (Int.toNat z1.2.2.2.1.2.1) (Int.toNat (ByteArray.size z1.2.2.1 : Int))), ()))))))), (true, ())), ((), ())))
else
some ((((0 : Int), ((0 : Int), ((0 : Int), ((0 : Int), ((0 : Int), ([], ((⟨#[]⟩ : ByteArray), ()))))))), (false, ())), ((), ()))))
else none))) (fun (E1 : (ByteArray × (Int × Int × Int × Int × Int × List (Int) × ByteArray × Unit) × ByteArray × (ByteArray × Int × Bool × Unit) × (Int × Int × Int × Int × Int × List (Int) × ByteArray × Unit) × Unit) → Option _) =>
(whileK (fun (rec0 : (ByteArray × (Int × Int × Int × Int × Int × List (Int) × ByteArray × Unit) × ByteArray × (ByteArray × Int × Bool × Unit) × (Int × Int × Int × Int × Int × List (Int) × ByteArray × Unit) × Int × Int × Unit) → Option _) (y0 : ByteArray × (Int × Int × Int × Int × Int × List (Int) × ByteArray × Unit) × ByteArray × (ByteArray × Int × Bool × Unit) × (Int × Int × Int × Int × Int × List (Int) × ByteArray × Unit) × Int × Int × Unit) =>
(if (decide (y0.2.2.2.2.2.2.1 < y0.2.2.2.2.2.1)) = true then
(if (decide (y0.2.2.2.2.2.2.1 < (20 : Int))) = true then
(if (!y0.2.2.2.1.2.2.1) = true then
((s_l12Var k ((y0.2.2.2.1.1, (y0.2.2.2.1.2.1, (y0.2.2.2.1.2.2.1, ()))), ())).bind fun p7 =>
(if List.length y0.2.2.2.2.1.2.2.2.2.2.1 + List.length ([p7.1] : List (Int)) ≤ capMax then
(rec0 (y0.1, ((y0.2.1.1, (y0.2.1.2.1, (y0.2.1.2.2.1, (y0.2.1.2.2.2.1, (y0.2.1.2.2.2.2.1, (y0.2.1.2.2.2.2.2.1, (y0.2.1.2.2.2.2.2.2.1, ()))))))), (y0.2.2.1, ((p7.2.1.1, (p7.2.1.2.1, (p7.2.1.2.2.1, ()))), ((y0.2.2.2.2.1.1, (y0.2.2.2.2.1.2.1, (y0.2.2.2.2.1.2.2.1, (y0.2.2.2.2.1.2.2.2.1, (y0.2.2.2.2.1.2.2.2.2.1, ((y0.2.2.2.2.1.2.2.2.2.2.1 ++ ([p7.1] : List (Int))), (y0.2.2.2.2.1.2.2.2.2.2.2.1, ()))))))), (y0.2.2.2.2.2.1, ((wi64 (y0.2.2.2.2.2.2.1 + (1 : Int))), ()))))))))
else none))
else
(E1 (y0.1, ((y0.2.1.1, (y0.2.1.2.1, (y0.2.1.2.2.1, (y0.2.1.2.2.2.1, (y0.2.1.2.2.2.2.1, (y0.2.1.2.2.2.2.2.1, (y0.2.1.2.2.2.2.2.2.1, ()))))))), (y0.2.2.1, ((y0.2.2.2.1.1, (y0.2.2.2.1.2.1, (y0.2.2.2.1.2.2.1, ()))), ((y0.2.2.2.2.1.1, (y0.2.2.2.2.1.2.1, (y0.2.2.2.2.1.2.2.1, (y0.2.2.2.2.1.2.2.2.1, (y0.2.2.2.2.1.2.2.2.2.1, (y0.2.2.2.2.1.2.2.2.2.2.1, (y0.2.2.2.2.1.2.2.2.2.2.2.1, ()))))))), ())))))))
else
(E1 (y0.1, ((y0.2.1.1, (y0.2.1.2.1, (y0.2.1.2.2.1, (y0.2.1.2.2.2.1, (y0.2.1.2.2.2.2.1, (y0.2.1.2.2.2.2.2.1, (y0.2.1.2.2.2.2.2.2.1, ()))))))), (y0.2.2.1, ((y0.2.2.2.1.1, (y0.2.2.2.1.2.1, (y0.2.2.2.1.2.2.1, ()))), ((y0.2.2.2.2.1.1, (y0.2.2.2.2.1.2.1, (y0.2.2.2.2.1.2.2.1, (y0.2.2.2.2.1.2.2.2.1, (y0.2.2.2.2.1.2.2.2.2.1, (y0.2.2.2.2.1.2.2.2.2.2.1, (y0.2.2.2.2.1.2.2.2.2.2.2.1, ()))))))), ())))))))
else
(E1 (y0.1, ((y0.2.1.1, (y0.2.1.2.1, (y0.2.1.2.2.1, (y0.2.1.2.2.2.1, (y0.2.1.2.2.2.2.1, (y0.2.1.2.2.2.2.2.1, (y0.2.1.2.2.2.2.2.2.1, ()))))))), (y0.2.2.1, ((y0.2.2.2.1.1, (y0.2.2.2.1.2.1, (y0.2.2.2.1.2.2.1, ()))), ((y0.2.2.2.2.1.1, (y0.2.2.2.2.1.2.1, (y0.2.2.2.2.1.2.2.1, (y0.2.2.2.2.1.2.2.2.1, (y0.2.2.2.2.1.2.2.2.2.1, (y0.2.2.2.2.1.2.2.2.2.2.1, (y0.2.2.2.2.1.2.2.2.2.2.2.1, ()))))))), ())))))))) k (x.1, (((0 : Int), ((0 : Int), ((0 : Int), ((0 : Int), ((0 : Int), ([], ((⟨#[]⟩ : ByteArray), ()))))))), (p1.1.1, ((p6.2.1.1, (p6.2.1.2.1, (p6.2.1.2.2.1, ()))), (((wi64 (Int.tdiv p2.1 (8 : Int))), ((Int.tmod p2.1 (8 : Int)), (p3.1, (p4.1, (p5.1, ([], ((⟨#[]⟩ : ByteArray), ()))))))), (p6.1, ((0 : Int), ()))))))))))))))))
theorem t_s_ReadPacket (k : Nat) (x) : evF TTab k [⟨110, 0, (.cons .str .nil), (.tup (.cons .str (.cons .bool .nil))), s_Unsealed k⟩, ⟨111, 0, (.cons (.ptr 0 (.cons .str (.cons (.int .i64) (.cons .bool .nil)))) .nil), (.int .i64), s_l12One k⟩, ⟨112, 0, (.cons (.ptr 0 (.cons .str (.cons (.int .i64) (.cons .bool .nil)))) .nil), (.int .i64), s_l12Var k⟩, ⟨113, 0, (.cons (.agg (.cons (.int .i64) (.cons (.int .i64) (.cons (.int .i64) (.cons (.int .i64) (.cons (.int .i64) (.cons (.il true (.int .i64)) (.cons .str .nil)))))))) .nil), (.tup (.cons .str (.cons .bool .nil))), s_PacketText k⟩] [(0, ⟨[0, 2, 4, 6, 8, 9, 10], (.cons .str (.cons (.ptr 0 (.cons (.int .i64) (.cons (.int .i64) (.cons (.int .i64) (.cons (.int .i64) (.cons (.int .i64) (.cons (.own false 3 (.int .i64)) (.cons .str .nil)))))))) (.cons .str (.cons (.ptr 0 (.cons .str (.cons (.int .i64) (.cons .bool .nil)))) (.cons (.ptr 0 (.cons (.int .i64) (.cons (.int .i64) (.cons (.int .i64) (.cons (.int .i64) (.cons (.int .i64) (.cons (.own false 3 (.int .i64)) (.cons .str .nil)))))))) (.cons (.int .i64) (.cons (.int .i64) .nil)))))))⟩, ⟨[0, 2, 4, 6, 8], (.cons .str (.cons (.ptr 0 (.cons (.int .i64) (.cons (.int .i64) (.cons (.int .i64) (.cons (.int .i64) (.cons (.int .i64) (.cons (.own false 3 (.int .i64)) (.cons .str .nil)))))))) (.cons .str (.cons (.ptr 0 (.cons .str (.cons (.int .i64) (.cons .bool .nil)))) (.cons (.ptr 0 (.cons (.int .i64) (.cons (.int .i64) (.cons (.int .i64) (.cons (.int .i64) (.cons (.int .i64) (.cons (.own false 3 (.int .i64)) (.cons .str .nil)))))))) .nil)))))⟩)] Try.f40 (.cons .str .nil) (.tup (.cons (.agg (.cons (.int .i64) (.cons (.int .i64) (.cons (.int .i64) (.cons (.int .i64) (.cons (.int .i64) (.cons (.own false 3 (.int .i64)) (.cons .str .nil)))))))) (.cons .bool .nil))) x = s_ReadPacket k x := by kernel_rfl
theorem e_s_ReadPacket (k : Nat) : EntryOk Try.prog ⟨40, 0, (.cons .str .nil), (.tup (.cons (.agg (.cons (.int .i64) (.cons (.int .i64) (.cons (.int .i64) (.cons (.int .i64) (.cons (.int .i64) (.cons (.own false 3 (.int .i64)) (.cons .str .nil)))))))) (.cons .bool .nil))), s_ReadPacket k⟩ := entry_ok tok (by intro e he; simp only [List.mem_cons, List.not_mem_nil, or_false] at he; rcases he with rfl | rfl | rfl | rfl <;> first | exact e_s_Unsealed k | exact e_s_l12One k | exact e_s_l12Var k | exact e_s_PacketText k) (by kernel_rfl) (fn := Try.f40) (k := k) (es := [⟨110, 0, (.cons .str .nil), (.tup (.cons .str (.cons .bool .nil))), s_Unsealed k⟩, ⟨111, 0, (.cons (.ptr 0 (.cons .str (.cons (.int .i64) (.cons .bool .nil)))) .nil), (.int .i64), s_l12One k⟩, ⟨112, 0, (.cons (.ptr 0 (.cons .str (.cons (.int .i64) (.cons .bool .nil)))) .nil), (.int .i64), s_l12Var k⟩, ⟨113, 0, (.cons (.agg (.cons (.int .i64) (.cons (.int .i64) (.cons (.int .i64) (.cons (.int .i64) (.cons (.int .i64) (.cons (.il true (.int .i64)) (.cons .str .nil)))))))) .nil), (.tup (.cons .str (.cons .bool .nil))), s_PacketText k⟩]) (loops := [(0, ⟨[0, 2, 4, 6, 8, 9, 10], (.cons .str (.cons (.ptr 0 (.cons (.int .i64) (.cons (.int .i64) (.cons (.int .i64) (.cons (.int .i64) (.cons (.int .i64) (.cons (.own false 3 (.int .i64)) (.cons .str .nil)))))))) (.cons .str (.cons (.ptr 0 (.cons .str (.cons (.int .i64) (.cons .bool .nil)))) (.cons (.ptr 0 (.cons (.int .i64) (.cons (.int .i64) (.cons (.int .i64) (.cons (.int .i64) (.cons (.int .i64) (.cons (.own false 3 (.int .i64)) (.cons .str .nil)))))))) (.cons (.int .i64) (.cons (.int .i64) .nil)))))))⟩, ⟨[0, 2, 4, 6, 8], (.cons .str (.cons (.ptr 0 (.cons (.int .i64) (.cons (.int .i64) (.cons (.int .i64) (.cons (.int .i64) (.cons (.int .i64) (.cons (.own false 3 (.int .i64)) (.cons .str .nil)))))))) (.cons .str (.cons (.ptr 0 (.cons .str (.cons (.int .i64) (.cons .bool .nil)))) (.cons (.ptr 0 (.cons (.int .i64) (.cons (.int .i64) (.cons (.int .i64) (.cons (.int .i64) (.cons (.int .i64) (.cons (.own false 3 (.int .i64)) (.cons .str .nil)))))))) .nil)))))⟩)]) (by kernel_rfl) (by kernel_rfl) (fun x r h => (t_s_ReadPacket k x).trans h)
def i_PacketOk (k : Nat) (x : (Int × Int × Int × Int × Int × List (Int) × ByteArray × Unit) × Unit) : Option (Bool × Unit × Unit) :=
(whileK (fun (rec0 : ((Int × Int × Int × Int × Int × List (Int) × ByteArray × Unit) × List (Int) × Int × Int × Unit) → Option _) (y0 : (Int × Int × Int × Int × Int × List (Int) × ByteArray × Unit) × List (Int) × Int × Int × Unit) =>
(if (decide (y0.2.2.2.1 < y0.2.2.1)) = true then
(if 0 ≤ y0.2.2.2.1 ∧ y0.2.2.2.1 < (List.length y0.2.1 : Int) then
((i_within k ((Ty.rd (t := (.int .i64)) y0.2.1 y0.2.2.2.1), ((1 : Int), ((1000000000 : Int), ())))).bind fun p1 =>
(if (!p1.1) = true then
some (false, ((), ()))
else
(rec0 ((y0.1.1, (y0.1.2.1, (y0.1.2.2.1, (y0.1.2.2.2.1, (y0.1.2.2.2.2.1, (y0.1.2.2.2.2.2.1, (y0.1.2.2.2.2.2.2.1, ()))))))), (y0.2.1, (y0.2.2.1, ((wi64 (y0.2.2.2.1 + (1 : Int))), ())))))))
else none)
else
((fun (z1 : (Int × Int × Int × Int × Int × List (Int) × ByteArray × Unit) × Unit) =>
((i_within k (z1.1.1, ((1 : Int), ((3 : Int), ())))).bind fun p2 =>
(if (!p2.1) = false then
((i_within k (z1.1.2.1, ((0 : Int), ((7 : Int), ())))).bind fun p3 =>
(if (!p3.1) = false then
((i_isId k (z1.1.2.2.1, ())).bind fun p4 =>
(if (!p4.1) = false then
((i_isId k (z1.1.2.2.2.1, ())).bind fun p5 =>
(if (!p5.1) = false then
((i_within k (z1.1.2.2.2.2.1, ((0 : Int), ((1000000000 : Int), ())))).bind fun p6 =>
(if (!p6.1) = true then
some (false, ((), ()))
else
(if (decide ((List.length z1.1.2.2.2.2.2.1 : Int) = (0 : Int))) = false then
(if (!decide (z1.1.1 = (3 : Int))) = true then
(if (decide ((List.length z1.1.2.2.2.2.2.1 : Int) ≤ (4 : Int))) = true then
(if (decide ((ByteArray.size z1.1.2.2.2.2.2.2.1 : Int) ≤ (120 : Int))) = true then
(if (!decide (z1.1.1 = (2 : Int))) = false then
(if (decide (z1.1.2.2.2.2.2.2.1 = (⟨#[]⟩ : ByteArray))) = true then
some ((decide (z1.1.2.2.2.2.1 = (0 : Int))), ((), ()))
else
some (false, ((), ())))
else
some (true, ((), ())))
else
some (false, ((), ())))
else
some (false, ((), ())))
else
some (false, ((), ())))
else
(if (decide ((ByteArray.size z1.1.2.2.2.2.2.2.1 : Int) ≤ (120 : Int))) = true then
(if (!decide (z1.1.1 = (2 : Int))) = false then
(if (decide (z1.1.2.2.2.2.2.2.1 = (⟨#[]⟩ : ByteArray))) = true then
some ((decide (z1.1.2.2.2.2.1 = (0 : Int))), ((), ()))
else
some (false, ((), ())))
else
some (true, ((), ())))
else
some (false, ((), ()))))))
else
some (false, ((), ()))))
else
some (false, ((), ()))))
else
some (false, ((), ()))))
else
some (false, ((), ()))))) ((y0.1.1, (y0.1.2.1, (y0.1.2.2.1, (y0.1.2.2.2.1, (y0.1.2.2.2.2.1, (y0.1.2.2.2.2.2.1, (y0.1.2.2.2.2.2.2.1, ()))))))), ())))) k ((x.1.1, (x.1.2.1, (x.1.2.2.1, (x.1.2.2.2.1, (x.1.2.2.2.2.1, (x.1.2.2.2.2.2.1, (x.1.2.2.2.2.2.2.1, ()))))))), (x.1.2.2.2.2.2.1, ((List.length x.1.2.2.2.2.2.1 : Int), ((0 : Int), ())))))
theorem t_i_PacketOk (k : Nat) (x) : evF TTab k [⟨77, 0, (.cons (.int .i64) (.cons (.int .i64) (.cons (.int .i64) .nil))), .bool, i_within k⟩, ⟨83, 0, (.cons (.int .i64) .nil), .bool, i_isId k⟩] [(0, ⟨[1, 7, 8, 9], (.cons (.ptr 0 (.cons (.int .i64) (.cons (.int .i64) (.cons (.int .i64) (.cons (.int .i64) (.cons (.int .i64) (.cons (.il true (.int .i64)) (.cons .str .nil)))))))) (.cons (.il true (.int .i64)) (.cons (.int .i64) (.cons (.int .i64) .nil))))⟩, ⟨[1], (.cons (.ptr 0 (.cons (.int .i64) (.cons (.int .i64) (.cons (.int .i64) (.cons (.int .i64) (.cons (.int .i64) (.cons (.il true (.int .i64)) (.cons .str .nil)))))))) .nil)⟩)] Try.f48 (.cons (.agg (.cons (.int .i64) (.cons (.int .i64) (.cons (.int .i64) (.cons (.int .i64) (.cons (.int .i64) (.cons (.il true (.int .i64)) (.cons .str .nil)))))))) .nil) .bool x = i_PacketOk k x := by kernel_rfl
theorem e_i_PacketOk (k : Nat) : EntryOk Try.prog ⟨48, 0, (.cons (.agg (.cons (.int .i64) (.cons (.int .i64) (.cons (.int .i64) (.cons (.int .i64) (.cons (.int .i64) (.cons (.il true (.int .i64)) (.cons .str .nil)))))))) .nil), .bool, i_PacketOk k⟩ := entry_ok tok (by intro e he; simp only [List.mem_cons, List.not_mem_nil, or_false] at he; rcases he with rfl | rfl <;> first | exact e_i_within k | exact e_i_isId k) (by kernel_rfl) (fn := Try.f48) (k := k) (es := [⟨77, 0, (.cons (.int .i64) (.cons (.int .i64) (.cons (.int .i64) .nil))), .bool, i_within k⟩, ⟨83, 0, (.cons (.int .i64) .nil), .bool, i_isId k⟩]) (loops := [(0, ⟨[1, 7, 8, 9], (.cons (.ptr 0 (.cons (.int .i64) (.cons (.int .i64) (.cons (.int .i64) (.cons (.int .i64) (.cons (.int .i64) (.cons (.il true (.int .i64)) (.cons .str .nil)))))))) (.cons (.il true (.int .i64)) (.cons (.int .i64) (.cons (.int .i64) .nil))))⟩, ⟨[1], (.cons (.ptr 0 (.cons (.int .i64) (.cons (.int .i64) (.cons (.int .i64) (.cons (.int .i64) (.cons (.int .i64) (.cons (.il true (.int .i64)) (.cons .str .nil)))))))) .nil)⟩)]) (by kernel_rfl) (by kernel_rfl) (fun x r h => (t_i_PacketOk k x).trans h)
def i_highFirst (k : Nat) (x : Int × Int × Unit) : Option (ByteArray × Unit × Unit × Unit) :=
(if x.2.1 = x.2.1 then
(if 0 ≤ x.2.1 ∧ x.2.1 ≤ (capMax : Int) then
(whileK (fun (rec0 : (Int × List (Int) × Int × Unit) → Option _) (y0 : Int × List (Int) × Int × Unit) =>
(if (decide ((0 : Int) ≤ y0.2.2.1)) = true then
(if 0 ≤ y0.2.2.1 ∧ y0.2.2.1 < (List.length y0.2.1 : Int) then
(rec0 ((Int.fdiv y0.1 (2 ^ (min (Int.toNat (8 : Int)) (IntKind.bits .i64)))), ((List.set y0.2.1 (Int.toNat y0.2.2.1) (wu8 ((bitsI .and .i64 y0.1 (255 : Int))))), ((wi64 (y0.2.2.1 - (1 : Int))), ()))))
else none)
else
((fun (z1 : List (Int) × Unit) =>
some ((strOf z1.1), ((), ((), ())))) (y0.2.1, ())))) k (x.1, ((List.replicate (Int.toNat x.2.1) (0 : Int)), ((wi64 (x.2.1 - (1 : Int))), ()))))
else none)
else none)
theorem t_i_highFirst (k : Nat) (x) : evF TTab k [] [(0, ⟨[0, 5, 6], (.cons (.int .i64) (.cons (.own false 5 (.int .u8)) (.cons (.int .i64) .nil)))⟩, ⟨[5], (.cons (.own false 5 (.int .u8)) .nil)⟩)] Try.f187 (.cons (.int .i64) (.cons (.int .i64) .nil)) .str x = i_highFirst k x := by kernel_rfl
theorem e_i_highFirst (k : Nat) : EntryOk Try.prog ⟨187, 0, (.cons (.int .i64) (.cons (.int .i64) .nil)), .str, i_highFirst k⟩ := entry_ok tok (by simp) (by kernel_rfl) (fn := Try.f187) (k := k) (es := []) (loops := [(0, ⟨[0, 5, 6], (.cons (.int .i64) (.cons (.own false 5 (.int .u8)) (.cons (.int .i64) .nil)))⟩, ⟨[5], (.cons (.own false 5 (.int .u8)) .nil)⟩)]) (by kernel_rfl) (by kernel_rfl) (fun x r h => (t_i_highFirst k x).trans h)
def i_SumMore (k : Nat) (x : Int × ByteArray × Unit) : Option (Int × Unit × Unit × Unit) :=
(whileK (fun (rec0 : (Int × ByteArray × Int × Unit) → Option _) (y0 : Int × ByteArray × Int × Unit) =>
(if (decide (y0.2.2.1 < (ByteArray.size y0.2.1 : Int))) = true then
(if 0 ≤ y0.2.2.1 ∧ y0.2.2.1 < (ByteArray.size y0.2.1 : Int) then
(whileK (fun (rec2 : (Int × ByteArray × Int × Int × Unit) → Option _) (y2 : Int × ByteArray × Int × Int × Unit) =>
(if (decide (y2.2.2.2.1 < (8 : Int))) = true then
(if (decide ((Int.tmod y2.1 (2 : Int)) = (1 : Int))) = true then
(rec2 ((bitsI .xor .u32 (wu32 (Int.tdiv y2.1 (2 : Int))) (3558460437 : Int)), (y2.2.1, (y2.2.2.1, ((wi64 (y2.2.2.2.1 + (1 : Int))), ())))))
else
(rec2 ((wu32 (Int.tdiv y2.1 (2 : Int))), (y2.2.1, (y2.2.2.1, ((wi64 (y2.2.2.2.1 + (1 : Int))), ()))))))
else
((fun (z1 : Int × ByteArray × Int × Unit) =>
(rec0 (z1.1, (z1.2.1, ((wi64 (z1.2.2.1 + (1 : Int))), ()))))) (y2.1, (y2.2.1, (y2.2.2.1, ())))))) k ((bitsI .xor .u32 y0.1 (wu32 ((bt y0.2.1 y0.2.2.1)))), (y0.2.1, (y0.2.2.1, ((0 : Int), ())))))
else none)
else
((fun (z2 : Int × Unit) =>
some (z2.1, ((), ((), ())))) (y0.1, ())))) k (x.1, (x.2.1, ((0 : Int), ()))))
theorem t_i_SumMore (k : Nat) (x) : evF TTab k [] [(0, ⟨[0, 1, 5], (.cons (.int .u32) (.cons .str (.cons (.int .i64) .nil)))⟩, ⟨[0], (.cons (.int .u32) .nil)⟩), (2, ⟨[0, 1, 5, 19], (.cons (.int .u32) (.cons .str (.cons (.int .i64) (.cons (.int .i64) .nil))))⟩, ⟨[0, 1, 5], (.cons (.int .u32) (.cons .str (.cons (.int .i64) .nil)))⟩)] Try.f225 (.cons (.int .u32) (.cons .str .nil)) (.int .u32) x = i_SumMore k x := by kernel_rfl
theorem e_i_SumMore (k : Nat) : EntryOk Try.prog ⟨225, 0, (.cons (.int .u32) (.cons .str .nil)), (.int .u32), i_SumMore k⟩ := entry_ok tok (by simp) (by kernel_rfl) (fn := Try.f225) (k := k) (es := []) (loops := [(0, ⟨[0, 1, 5], (.cons (.int .u32) (.cons .str (.cons (.int .i64) .nil)))⟩, ⟨[0], (.cons (.int .u32) .nil)⟩), (2, ⟨[0, 1, 5, 19], (.cons (.int .u32) (.cons .str (.cons (.int .i64) (.cons (.int .i64) .nil))))⟩, ⟨[0, 1, 5], (.cons (.int .u32) (.cons .str (.cons (.int .i64) .nil)))⟩)]) (by kernel_rfl) (by kernel_rfl) (fun x r h => (t_i_SumMore k x).trans h)
def i_SumOf (k : Nat) (x : ByteArray × Unit) : Option (Int × Unit × Unit) :=
((i_SumMore k ((4294967295 : Int), (x.1, ()))).bind fun p1 =>
some (p1.1, ((), ())))
theorem t_i_SumOf (k : Nat) (x) : evF TTab k [⟨225, 0, (.cons (.int .u32) (.cons .str .nil)), (.int .u32), i_SumMore k⟩] [] Try.f188 (.cons .str .nil) (.int .u32) x = i_SumOf k x := by kernel_rfl
theorem e_i_SumOf (k : Nat) : EntryOk Try.prog ⟨188, 0, (.cons .str .nil), (.int .u32), i_SumOf k⟩ := entry_ok tok (by intro e he; simp only [List.mem_cons, List.not_mem_nil, or_false] at he; rcases he with rfl <;> first | exact e_i_SumMore k) (by kernel_rfl) (fn := Try.f188) (k := k) (es := [⟨225, 0, (.cons (.int .u32) (.cons .str .nil)), (.int .u32), i_SumMore k⟩]) (loops := []) (by kernel_rfl) (by kernel_rfl) (fun x r h => (t_i_SumOf k x).trans h)
def i_Sealed (k : Nat) (x : ByteArray × Unit) : Option ((ByteArray × Bool × Unit) × Unit × Unit) :=
(if (decide ((20000 : Int) < (ByteArray.size x.1 : Int))) = true then
some (((⟨#[]⟩ : ByteArray), (false, ())), ((), ()))
else
((i_SumOf k (x.1, ())).bind fun p1 =>
((i_highFirst k ((wi64 (p1.1)), ((4 : Int), ()))).bind fun p2 =>
(if ByteArray.size x.1 + ByteArray.size p2.1 ≤ maxStr then
some (((x.1 ++ p2.1), (true, ())), ((), ()))
else none))))
theorem t_i_Sealed (k : Nat) (x) : evF TTab k [⟨187, 0, (.cons (.int .i64) (.cons (.int .i64) .nil)), .str, i_highFirst k⟩, ⟨188, 0, (.cons .str .nil), (.int .u32), i_SumOf k⟩] [] Try.f121 (.cons .str .nil) (.tup (.cons .str (.cons .bool .nil))) x = i_Sealed k x := by kernel_rfl
theorem e_i_Sealed (k : Nat) : EntryOk Try.prog ⟨121, 0, (.cons .str .nil), (.tup (.cons .str (.cons .bool .nil))), i_Sealed k⟩ := entry_ok tok (by intro e he; simp only [List.mem_cons, List.not_mem_nil, or_false] at he; rcases he with rfl | rfl <;> first | exact e_i_highFirst k | exact e_i_SumOf k) (by kernel_rfl) (fn := Try.f121) (k := k) (es := [⟨187, 0, (.cons (.int .i64) (.cons (.int .i64) .nil)), .str, i_highFirst k⟩, ⟨188, 0, (.cons .str .nil), (.int .u32), i_SumOf k⟩]) (loops := []) (by kernel_rfl) (by kernel_rfl) (fun x r h => (t_i_Sealed k x).trans h)
def i_Unsealed (k : Nat) (x : ByteArray × Unit) : Option ((ByteArray × Bool × Unit) × Unit × Unit) :=
(if (decide ((wi64 ((ByteArray.size x.1 : Int) - (4 : Int))) < (0 : Int))) = true then
some (((⟨#[]⟩ : ByteArray), (false, ())), ((), ()))
else
(if 0 ≤ (wi64 ((ByteArray.size x.1 : Int) - (4 : Int))) ∧ (wi64 ((ByteArray.size x.1 : Int) - (4 : Int))) ≤ (ByteArray.size x.1 : Int) then
((i_Sealed k ((ByteArray.extract x.1 (Int.toNat (0 : Int)) (Int.toNat (wi64 ((ByteArray.size x.1 : Int) - (4 : Int))))), ())).bind fun p1 =>
(if (!p1.1.2.1) = false then
(if (!decide (p1.1.1 = x.1)) = true then
some (((⟨#[]⟩ : ByteArray), (false, ())), ((), ()))
else
(if 0 ≤ (wi64 ((ByteArray.size x.1 : Int) - (4 : Int))) ∧ (wi64 ((ByteArray.size x.1 : Int) - (4 : Int))) ≤ (ByteArray.size x.1 : Int) then
some (((ByteArray.extract x.1 (Int.toNat (0 : Int)) (Int.toNat (wi64 ((ByteArray.size x.1 : Int) - (4 : Int))))), (true, ())), ((), ()))
else none))
else
some (((⟨#[]⟩ : ByteArray), (false, ())), ((), ()))))
else none))
theorem t_i_Unsealed (k : Nat) (x) : evF TTab k [⟨121, 0, (.cons .str .nil), (.tup (.cons .str (.cons .bool .nil))), i_Sealed k⟩] [] Try.f114 (.cons .str .nil) (.tup (.cons .str (.cons .bool .nil))) x = i_Unsealed k x := by kernel_rfl
theorem e_i_Unsealed (k : Nat) : EntryOk Try.prog ⟨114, 0, (.cons .str .nil), (.tup (.cons .str (.cons .bool .nil))), i_Unsealed k⟩ := entry_ok tok (by intro e he; simp only [List.mem_cons, List.not_mem_nil, or_false] at he; rcases he with rfl <;> first | exact e_i_Sealed k) (by kernel_rfl) (fn := Try.f114) (k := k) (es := [⟨121, 0, (.cons .str .nil), (.tup (.cons .str (.cons .bool .nil))), i_Sealed k⟩]) (loops := []) (by kernel_rfl) (by kernel_rfl) (fun x r h => (t_i_Unsealed k x).trans h)
def i_scan_one (k : Nat) (x : (ByteArray × Int × Bool × Unit) × Unit) : Option (Int × (ByteArray × Int × Bool × Unit) × Unit) :=
(if x.1.2.2.1 = false then
(if (decide ((ByteArray.size x.1.1 : Int) ≤ x.1.2.1)) = true then
some ((0 : Int), ((x.1.1, (x.1.2.1, (true, ()))), ()))
else
(if 0 ≤ (wi64 ((wi64 (x.1.2.1 + (1 : Int))) - (1 : Int))) ∧ (wi64 ((wi64 (x.1.2.1 + (1 : Int))) - (1 : Int))) < (ByteArray.size x.1.1 : Int) then
some ((wi64 ((bt x.1.1 (wi64 ((wi64 (x.1.2.1 + (1 : Int))) - (1 : Int)))))), ((x.1.1, ((wi64 (x.1.2.1 + (1 : Int))), (x.1.2.2.1, ()))), ()))
else none))
else
some ((0 : Int), ((x.1.1, (x.1.2.1, (true, ()))), ())))
theorem t_i_scan_one (k : Nat) (x) : evF TTab k [] [] Try.f115 (.cons (.ptr 0 (.cons .str (.cons (.int .i64) (.cons .bool .nil)))) .nil) (.int .i64) x = i_scan_one k x := by kernel_rfl
theorem e_i_scan_one (k : Nat) : EntryOk Try.prog ⟨115, 0, (.cons (.ptr 0 (.cons .str (.cons (.int .i64) (.cons .bool .nil)))) .nil), (.int .i64), i_scan_one k⟩ := entry_ok tok (by simp) (by kernel_rfl) (fn := Try.f115) (k := k) (es := []) (loops := []) (by kernel_rfl) (by kernel_rfl) (fun x r h => (t_i_scan_one k x).trans h)
def i_ReadVar (k : Nat) (x : ByteArray × Int × Unit) : Option ((Int × Int × Bool × Unit) × Unit × Unit × Unit) :=
((i_within k (x.2.1, ((0 : Int), ((ByteArray.size x.1 : Int), ())))).bind fun p1 =>
(if (!p1.1) = true then
some (((0 : Int), ((0 : Int), (false, ()))), ((), ((), ())))
else
(whileK (fun (rec0 : (ByteArray × Int × Int × Int × Unit) → Option _) (y0 : ByteArray × Int × Int × Int × Unit) =>
(if (decide (y0.2.2.2.1 < (5 : Int))) = true then
(if (decide ((wi64 (y0.2.1 + y0.2.2.2.1)) < (ByteArray.size y0.1 : Int))) = true then
(if 0 ≤ (wi64 (y0.2.1 + y0.2.2.2.1)) ∧ (wi64 (y0.2.1 + y0.2.2.2.1)) < (ByteArray.size y0.1 : Int) then
(if (wi64 ((7 : Int) * y0.2.2.2.1)) < 0 then
none
else
(if (decide ((127 : Int) < (wi64 ((bt y0.1 (wi64 (y0.2.1 + y0.2.2.2.1))))))) = true then
(rec0 (y0.1, (y0.2.1, ((wi64 (y0.2.2.1 + (wi64 ((Int.tmod (wi64 ((bt y0.1 (wi64 (y0.2.1 + y0.2.2.2.1))))) (128 : Int)) * 2 ^ (min (Int.toNat (wi64 ((7 : Int) * y0.2.2.2.1))) (IntKind.bits .i64)))))), ((wi64 (y0.2.2.2.1 + (1 : Int))), ())))))
else
(if (decide ((0 : Int) < y0.2.2.2.1)) = true then
(if (decide ((wi64 ((bt y0.1 (wi64 (y0.2.1 + y0.2.2.2.1))))) = (0 : Int))) = false then
(if (decide ((1000000000 : Int) < (wi64 (y0.2.2.1 + (wi64 ((Int.tmod (wi64 ((bt y0.1 (wi64 (y0.2.1 + y0.2.2.2.1))))) (128 : Int)) * 2 ^ (min (Int.toNat (wi64 ((7 : Int) * y0.2.2.2.1))) (IntKind.bits .i64)))))))) = true then
some (((0 : Int), ((0 : Int), (false, ()))), ((), ((), ())))
else
some (((wi64 (y0.2.2.1 + (wi64 ((Int.tmod (wi64 ((bt y0.1 (wi64 (y0.2.1 + y0.2.2.2.1))))) (128 : Int)) * 2 ^ (min (Int.toNat (wi64 ((7 : Int) * y0.2.2.2.1))) (IntKind.bits .i64)))))), ((wi64 ((wi64 (y0.2.1 + y0.2.2.2.1)) + (1 : Int))), (true, ()))), ((), ((), ()))))
else
some (((0 : Int), ((0 : Int), (false, ()))), ((), ((), ()))))
else
(if (decide ((1000000000 : Int) < (wi64 (y0.2.2.1 + (wi64 ((Int.tmod (wi64 ((bt y0.1 (wi64 (y0.2.1 + y0.2.2.2.1))))) (128 : Int)) * 2 ^ (min (Int.toNat (wi64 ((7 : Int) * y0.2.2.2.1))) (IntKind.bits .i64)))))))) = true then
some (((0 : Int), ((0 : Int), (false, ()))), ((), ((), ())))
else
some (((wi64 (y0.2.2.1 + (wi64 ((Int.tmod (wi64 ((bt y0.1 (wi64 (y0.2.1 + y0.2.2.2.1))))) (128 : Int)) * 2 ^ (min (Int.toNat (wi64 ((7 : Int) * y0.2.2.2.1))) (IntKind.bits .i64)))))), ((wi64 ((wi64 (y0.2.1 + y0.2.2.2.1)) + (1 : Int))), (true, ()))), ((), ((), ())))))))
else none)
else
((fun (z1 : Unit) =>
some (((0 : Int), ((0 : Int), (false, ()))), ((), ((), ())))) ()))
else
((fun (z1 : Unit) =>
some (((0 : Int), ((0 : Int), (false, ()))), ((), ((), ())))) ()))) k (x.1, (x.2.1, ((0 : Int), ((0 : Int), ())))))))
theorem t_i_ReadVar (k : Nat) (x) : evF TTab k [⟨77, 0, (.cons (.int .i64) (.cons (.int .i64) (.cons (.int .i64) .nil))), .bool, i_within k⟩] [(0, ⟨[0, 1, 7, 8], (.cons .str (.cons (.int .i64) (.cons (.int .i64) (.cons (.int .i64) .nil))))⟩, ⟨[], .nil⟩)] Try.f185 (.cons .str (.cons (.int .i64) .nil)) (.tup (.cons (.int .i64) (.cons (.int .i64) (.cons .bool .nil)))) x = i_ReadVar k x := by kernel_rfl
theorem e_i_ReadVar (k : Nat) : EntryOk Try.prog ⟨185, 0, (.cons .str (.cons (.int .i64) .nil)), (.tup (.cons (.int .i64) (.cons (.int .i64) (.cons .bool .nil)))), i_ReadVar k⟩ := entry_ok tok (by intro e he; simp only [List.mem_cons, List.not_mem_nil, or_false] at he; rcases he with rfl <;> first | exact e_i_within k) (by kernel_rfl) (fn := Try.f185) (k := k) (es := [⟨77, 0, (.cons (.int .i64) (.cons (.int .i64) (.cons (.int .i64) .nil))), .bool, i_within k⟩]) (loops := [(0, ⟨[0, 1, 7, 8], (.cons .str (.cons (.int .i64) (.cons (.int .i64) (.cons (.int .i64) .nil))))⟩, ⟨[], .nil⟩)]) (by kernel_rfl) (by kernel_rfl) (fun x r h => (t_i_ReadVar k x).trans h)
def i_scan_number (k : Nat) (x : (ByteArray × Int × Bool × Unit) × Unit) : Option (Int × (ByteArray × Int × Bool × Unit) × Unit) :=
((i_ReadVar k (x.1.1, (x.1.2.1, ()))).bind fun p1 =>
(if x.1.2.2.1 = false then
(if (!p1.1.2.2.1) = true then
some ((0 : Int), ((x.1.1, (x.1.2.1, (true, ()))), ()))
else
some (p1.1.1, ((x.1.1, (p1.1.2.1, (x.1.2.2.1, ()))), ())))
else
some ((0 : Int), ((x.1.1, (x.1.2.1, (true, ()))), ()))))
theorem t_i_scan_number (k : Nat) (x) : evF TTab k [⟨185, 0, (.cons .str (.cons (.int .i64) .nil)), (.tup (.cons (.int .i64) (.cons (.int .i64) (.cons .bool .nil)))), i_ReadVar k⟩] [] Try.f116 (.cons (.ptr 0 (.cons .str (.cons (.int .i64) (.cons .bool .nil)))) .nil) (.int .i64) x = i_scan_number k x := by kernel_rfl
theorem e_i_scan_number (k : Nat) : EntryOk Try.prog ⟨116, 0, (.cons (.ptr 0 (.cons .str (.cons (.int .i64) (.cons .bool .nil)))) .nil), (.int .i64), i_scan_number k⟩ := entry_ok tok (by intro e he; simp only [List.mem_cons, List.not_mem_nil, or_false] at he; rcases he with rfl <;> first | exact e_i_ReadVar k) (by kernel_rfl) (fn := Try.f116) (k := k) (es := [⟨185, 0, (.cons .str (.cons (.int .i64) .nil)), (.tup (.cons (.int .i64) (.cons (.int .i64) (.cons .bool .nil)))), i_ReadVar k⟩]) (loops := []) (by kernel_rfl) (by kernel_rfl) (fun x r h => (t_i_scan_number k x).trans h)
def i_ReadPacket (k : Nat) (x : ByteArray × Unit) : Option (((Int × Int × Int × Int × Int × List (Int) × ByteArray × Unit) × Bool × Unit) × Unit × Unit) :=
((i_Unsealed k (x.1, ())).bind fun p1 =>
((i_scan_one k ((p1.1.1, ((0 : Int), ((!p1.1.2.1), ()))), ())).bind fun p2 =>
((i_scan_one k ((p2.2.1.1, (p2.2.1.2.1, (p2.2.1.2.2.1, ()))), ())).bind fun p3 =>
((i_scan_one k ((p3.2.1.1, (p3.2.1.2.1, (p3.2.1.2.2.1, ()))), ())).bind fun p4 =>
((i_scan_number k ((p4.2.1.1, (p4.2.1.2.1, (p4.2.1.2.2.1, ()))), ())).bind fun p5 =>
((i_scan_number k ((p5.2.1.1, (p5.2.1.2.1, (p5.2.1.2.2.1, ()))), ())).bind fun p6 =>
(jn (fun (z1 : (Int × Int × Int × Int × Int × List (Int) × ByteArray × Unit) × ByteArray × (ByteArray × Int × Bool × Unit) × (Int × Int × Int × Int × Int × List (Int) × ByteArray × Unit) × Unit) =>
(if z1.2.2.1.2.2.1 = true then
some ((((0 : Int), ((0 : Int), ((0 : Int), ((0 : Int), ((0 : Int), ([], ((⟨#[]⟩ : ByteArray), ()))))))), (false, ())), ((), ()))
else
(if 0 ≤ z1.2.2.1.2.1 ∧ z1.2.2.1.2.1 ≤ (ByteArray.size z1.2.1 : Int) then
((i_PacketOk k ((z1.2.2.2.1.1, (z1.2.2.2.1.2.1, (z1.2.2.2.1.2.2.1, (z1.2.2.2.1.2.2.2.1, (z1.2.2.2.1.2.2.2.2.1, (z1.2.2.2.1.2.2.2.2.2.1, ((ByteArray.extract z1.2.1 (Int.toNat z1.2.2.1.2.1) (Int.toNat (ByteArray.size z1.2.1 : Int))), ()))))))), ())).bind fun p8 =>
(if (!p8.1) = true then
some ((((0 : Int), ((0 : Int), ((0 : Int), ((0 : Int), ((0 : Int), ([], ((⟨#[]⟩ : ByteArray), ()))))))), (false, ())), ((), ()))
else
some (((z1.2.2.2.1.1, (z1.2.2.2.1.2.1, (z1.2.2.2.1.2.2.1, (z1.2.2.2.1.2.2.2.1, (z1.2.2.2.1.2.2.2.2.1, (z1.2.2.2.1.2.2.2.2.2.1, ((ByteArray.extract z1.2.1 (Int.toNat z1.2.2.1.2.1) (Int.toNat (ByteArray.size z1.2.1 : Int))), ()))))))), (true, ())), ((), ()))))
else none))) (fun (E1 : ((Int × Int × Int × Int × Int × List (Int) × ByteArray × Unit) × ByteArray × (ByteArray × Int × Bool × Unit) × (Int × Int × Int × Int × Int × List (Int) × ByteArray × Unit) × Unit) → Option _) =>
(whileK (fun (rec0 : ((Int × Int × Int × Int × Int × List (Int) × ByteArray × Unit) × ByteArray × (ByteArray × Int × Bool × Unit) × (Int × Int × Int × Int × Int × List (Int) × ByteArray × Unit) × Int × Int × Unit) → Option _) (y0 : (Int × Int × Int × Int × Int × List (Int) × ByteArray × Unit) × ByteArray × (ByteArray × Int × Bool × Unit) × (Int × Int × Int × Int × Int × List (Int) × ByteArray × Unit) × Int × Int × Unit) =>
(if (decide (y0.2.2.2.2.2.1 < y0.2.2.2.2.1)) = true then
(if (decide (y0.2.2.2.2.2.1 ≤ (4 : Int))) = true then
((i_scan_number k ((y0.2.2.1.1, (y0.2.2.1.2.1, (y0.2.2.1.2.2.1, ()))), ())).bind fun p7 =>
(if List.length y0.2.2.2.1.2.2.2.2.2.1 + List.length ([p7.1] : List (Int)) ≤ capMax then
(rec0 ((y0.1.1, (y0.1.2.1, (y0.1.2.2.1, (y0.1.2.2.2.1, (y0.1.2.2.2.2.1, (y0.1.2.2.2.2.2.1, (y0.1.2.2.2.2.2.2.1, ()))))))), (y0.2.1, ((p7.2.1.1, (p7.2.1.2.1, (p7.2.1.2.2.1, ()))), ((y0.2.2.2.1.1, (y0.2.2.2.1.2.1, (y0.2.2.2.1.2.2.1, (y0.2.2.2.1.2.2.2.1, (y0.2.2.2.1.2.2.2.2.1, ((y0.2.2.2.1.2.2.2.2.2.1 ++ ([p7.1] : List (Int))), (y0.2.2.2.1.2.2.2.2.2.2.1, ()))))))), (y0.2.2.2.2.1, ((wi64 (y0.2.2.2.2.2.1 + (1 : Int))), ())))))))
else none))
else
(E1 ((y0.1.1, (y0.1.2.1, (y0.1.2.2.1, (y0.1.2.2.2.1, (y0.1.2.2.2.2.1, (y0.1.2.2.2.2.2.1, (y0.1.2.2.2.2.2.2.1, ()))))))), (y0.2.1, ((y0.2.2.1.1, (y0.2.2.1.2.1, (y0.2.2.1.2.2.1, ()))), ((y0.2.2.2.1.1, (y0.2.2.2.1.2.1, (y0.2.2.2.1.2.2.1, (y0.2.2.2.1.2.2.2.1, (y0.2.2.2.1.2.2.2.2.1, (y0.2.2.2.1.2.2.2.2.2.1, (y0.2.2.2.1.2.2.2.2.2.2.1, ()))))))), ()))))))
else
(E1 ((y0.1.1, (y0.1.2.1, (y0.1.2.2.1, (y0.1.2.2.2.1, (y0.1.2.2.2.2.1, (y0.1.2.2.2.2.2.1, (y0.1.2.2.2.2.2.2.1, ()))))))), (y0.2.1, ((y0.2.2.1.1, (y0.2.2.1.2.1, (y0.2.2.1.2.2.1, ()))), ((y0.2.2.2.1.1, (y0.2.2.2.1.2.1, (y0.2.2.2.1.2.2.1, (y0.2.2.2.1.2.2.2.1, (y0.2.2.2.1.2.2.2.2.1, (y0.2.2.2.1.2.2.2.2.2.1, (y0.2.2.2.1.2.2.2.2.2.2.1, ()))))))), ()))))))) k (((0 : Int), ((0 : Int), ((0 : Int), ((0 : Int), ((0 : Int), ([], ((⟨#[]⟩ : ByteArray), ()))))))), (p1.1.1, ((p6.2.1.1, (p6.2.1.2.1, (p6.2.1.2.2.1, ()))), (((wi64 (Int.tdiv p2.1 (8 : Int))), ((Int.tmod p2.1 (8 : Int)), (p3.1, (p4.1, (p5.1, ([], ((⟨#[]⟩ : ByteArray), ()))))))), (p6.1, ((0 : Int), ())))))))))))))))
theorem t_i_ReadPacket (k : Nat) (x) : evF TTab k [⟨48, 0, (.cons (.agg (.cons (.int .i64) (.cons (.int .i64) (.cons (.int .i64) (.cons (.int .i64) (.cons (.int .i64) (.cons (.il true (.int .i64)) (.cons .str .nil)))))))) .nil), .bool, i_PacketOk k⟩, ⟨114, 0, (.cons .str .nil), (.tup (.cons .str (.cons .bool .nil))), i_Unsealed k⟩, ⟨115, 0, (.cons (.ptr 0 (.cons .str (.cons (.int .i64) (.cons .bool .nil)))) .nil), (.int .i64), i_scan_one k⟩, ⟨116, 0, (.cons (.ptr 0 (.cons .str (.cons (.int .i64) (.cons .bool .nil)))) .nil), (.int .i64), i_scan_number k⟩] [(0, ⟨[2, 4, 6, 7, 9, 10], (.cons (.ptr 0 (.cons (.int .i64) (.cons (.int .i64) (.cons (.int .i64) (.cons (.int .i64) (.cons (.int .i64) (.cons (.own false 3 (.int .i64)) (.cons .str .nil)))))))) (.cons .str (.cons (.ptr 0 (.cons .str (.cons (.int .i64) (.cons .bool .nil)))) (.cons (.ptr 0 (.cons (.int .i64) (.cons (.int .i64) (.cons (.int .i64) (.cons (.int .i64) (.cons (.int .i64) (.cons (.own false 3 (.int .i64)) (.cons .str .nil)))))))) (.cons (.int .i64) (.cons (.int .i64) .nil))))))⟩, ⟨[2, 4, 6, 7], (.cons (.ptr 0 (.cons (.int .i64) (.cons (.int .i64) (.cons (.int .i64) (.cons (.int .i64) (.cons (.int .i64) (.cons (.own false 3 (.int .i64)) (.cons .str .nil)))))))) (.cons .str (.cons (.ptr 0 (.cons .str (.cons (.int .i64) (.cons .bool .nil)))) (.cons (.ptr 0 (.cons (.int .i64) (.cons (.int .i64) (.cons (.int .i64) (.cons (.int .i64) (.cons (.int .i64) (.cons (.own false 3 (.int .i64)) (.cons .str .nil)))))))) .nil))))⟩)] Try.f41 (.cons .str .nil) (.tup (.cons (.agg (.cons (.int .i64) (.cons (.int .i64) (.cons (.int .i64) (.cons (.int .i64) (.cons (.int .i64) (.cons (.own false 3 (.int .i64)) (.cons .str .nil)))))))) (.cons .bool .nil))) x = i_ReadPacket k x := by kernel_rfl
theorem e_i_ReadPacket (k : Nat) : EntryOk Try.prog ⟨41, 0, (.cons .str .nil), (.tup (.cons (.agg (.cons (.int .i64) (.cons (.int .i64) (.cons (.int .i64) (.cons (.int .i64) (.cons (.int .i64) (.cons (.own false 3 (.int .i64)) (.cons .str .nil)))))))) (.cons .bool .nil))), i_ReadPacket k⟩ := entry_ok tok (by intro e he; simp only [List.mem_cons, List.not_mem_nil, or_false] at he; rcases he with rfl | rfl | rfl | rfl <;> first | exact e_i_PacketOk k | exact e_i_Unsealed k | exact e_i_scan_one k | exact e_i_scan_number k) (by kernel_rfl) (fn := Try.f41) (k := k) (es := [⟨48, 0, (.cons (.agg (.cons (.int .i64) (.cons (.int .i64) (.cons (.int .i64) (.cons (.int .i64) (.cons (.int .i64) (.cons (.il true (.int .i64)) (.cons .str .nil)))))))) .nil), .bool, i_PacketOk k⟩, ⟨114, 0, (.cons .str .nil), (.tup (.cons .str (.cons .bool .nil))), i_Unsealed k⟩, ⟨115, 0, (.cons (.ptr 0 (.cons .str (.cons (.int .i64) (.cons .bool .nil)))) .nil), (.int .i64), i_scan_one k⟩, ⟨116, 0, (.cons (.ptr 0 (.cons .str (.cons (.int .i64) (.cons .bool .nil)))) .nil), (.int .i64), i_scan_number k⟩]) (loops := [(0, ⟨[2, 4, 6, 7, 9, 10], (.cons (.ptr 0 (.cons (.int .i64) (.cons (.int .i64) (.cons (.int .i64) (.cons (.int .i64) (.cons (.int .i64) (.cons (.own false 3 (.int .i64)) (.cons .str .nil)))))))) (.cons .str (.cons (.ptr 0 (.cons .str (.cons (.int .i64) (.cons .bool .nil)))) (.cons (.ptr 0 (.cons (.int .i64) (.cons (.int .i64) (.cons (.int .i64) (.cons (.int .i64) (.cons (.int .i64) (.cons (.own false 3 (.int .i64)) (.cons .str .nil)))))))) (.cons (.int .i64) (.cons (.int .i64) .nil))))))⟩, ⟨[2, 4, 6, 7], (.cons (.ptr 0 (.cons (.int .i64) (.cons (.int .i64) (.cons (.int .i64) (.cons (.int .i64) (.cons (.int .i64) (.cons (.own false 3 (.int .i64)) (.cons .str .nil)))))))) (.cons .str (.cons (.ptr 0 (.cons .str (.cons (.int .i64) (.cons .bool .nil)))) (.cons (.ptr 0 (.cons (.int .i64) (.cons (.int .i64) (.cons (.int .i64) (.cons (.int .i64) (.cons (.int .i64) (.cons (.own false 3 (.int .i64)) (.cons .str .nil)))))))) .nil))))⟩)]) (by kernel_rfl) (by kernel_rfl) (fun x r h => (t_i_ReadPacket k x).trans h)
def s_l12Packet (k : Nat) (x : (List (Int) × Int × Int × Unit) × Unit) : Option ((Int × Int × Int × Int × Int × List (Int) × ByteArray × Unit) × (List (Int) × Int × Int × Unit) × Unit) :=
((s_l01Below k ((x.1.1, (x.1.2.1, (x.1.2.2.1, ()))), ((3 : Int), ()))).bind fun p1 =>
((s_l01Below k ((p1.2.1.1, (p1.2.1.2.1, (p1.2.1.2.2.1, ()))), ((3 : Int), ()))).bind fun p2 =>
((s_l01Below k ((p2.2.1.1, (p2.2.1.2.1, (p2.2.1.2.2.1, ()))), ((3 : Int), ()))).bind fun p3 =>
((s_l01Below k ((p3.2.1.1, (p3.2.1.2.1, (p3.2.1.2.2.1, ()))), ((9 : Int), ()))).bind fun p4 =>
(jn (fun (j1v0 : List (Int)) (j1v1 : Int) (j1v2 : Int) (j1v3 : Int) (j1v4 : ByteArray) =>
(if (!decide ((wi64 ((1 : Int) + p1.1)) = (3 : Int))) = true then
(whileK (fun (rec0 : ((List (Int) × Int × Int × Unit) × (Int × Int × Int × Int × Int × List (Int) × ByteArray × Unit) × (Int × Int × Int × Int × Int × List (Int) × ByteArray × Unit) × Int × Unit) → Option _) (y0 : (List (Int) × Int × Int × Unit) × (Int × Int × Int × Int × Int × List (Int) × ByteArray × Unit) × (Int × Int × Int × Int × Int × List (Int) × ByteArray × Unit) × Int × Unit) =>
((s_l01Below k ((y0.1.1, (y0.1.2.1, (y0.1.2.2.1, ()))), ((4 : Int), ()))).bind fun p10 =>
(if (decide (y0.2.2.2.1 < p10.1)) = true then
((s_l01Below k ((p10.2.1.1, (p10.2.1.2.1, (p10.2.1.2.2.1, ()))), ((9 : Int), ()))).bind fun p11 =>
(if List.length y0.2.2.1.2.2.2.2.2.1 + List.length ([(wi64 ((1 : Int) + p11.1))] : List (Int)) ≤ capMax then
(rec0 ((p11.2.1.1, (p11.2.1.2.1, (p11.2.1.2.2.1, ()))), ((y0.2.1.1, (y0.2.1.2.1, (y0.2.1.2.2.1, (y0.2.1.2.2.2.1, (y0.2.1.2.2.2.2.1, (y0.2.1.2.2.2.2.2.1, (y0.2.1.2.2.2.2.2.2.1, ()))))))), ((y0.2.2.1.1, (y0.2.2.1.2.1, (y0.2.2.1.2.2.1, (y0.2.2.1.2.2.2.1, (y0.2.2.1.2.2.2.2.1, ((y0.2.2.1.2.2.2.2.2.1 ++ ([(wi64 ((1 : Int) + p11.1))] : List (Int))), (y0.2.2.1.2.2.2.2.2.2.1, ()))))))), ((wi64 (y0.2.2.2.1 + (1 : Int))), ())))))
else none))
else
((fun (z2 : (List (Int) × Int × Int × Unit) × (Int × Int × Int × Int × Int × List (Int) × ByteArray × Unit) × (Int × Int × Int × Int × Int × List (Int) × ByteArray × Unit) × Unit) =>
some ((z2.2.2.1.1, (z2.2.2.1.2.1, (z2.2.2.1.2.2.1, (z2.2.2.1.2.2.2.1, (z2.2.2.1.2.2.2.2.1, (z2.2.2.1.2.2.2.2.2.1, (z2.2.2.1.2.2.2.2.2.2.1, ()))))))), ((z2.1.1, (z2.1.2.1, (z2.1.2.2.1, ()))), ()))) ((p10.2.1.1, (p10.2.1.2.1, (p10.2.1.2.2.1, ()))), ((y0.2.1.1, (y0.2.1.2.1, (y0.2.1.2.2.1, (y0.2.1.2.2.2.1, (y0.2.1.2.2.2.2.1, (y0.2.1.2.2.2.2.2.1, (y0.2.1.2.2.2.2.2.2.1, ()))))))), ((y0.2.2.1.1, (y0.2.2.1.2.1, (y0.2.2.1.2.2.1, (y0.2.2.1.2.2.2.1, (y0.2.2.1.2.2.2.2.1, (y0.2.2.1.2.2.2.2.2.1, (y0.2.2.1.2.2.2.2.2.2.1, ()))))))), ()))))))) k ((j1v0, (j1v1, (j1v2, ()))), (((0 : Int), ((0 : Int), ((0 : Int), ((0 : Int), ((0 : Int), ([], ((⟨#[]⟩ : ByteArray), ()))))))), (((wi64 ((1 : Int) + p1.1)), ((0 : Int), ((wi64 ((1 : Int) + p2.1)), ((wi64 ((1 : Int) + p3.1)), (j1v3, ([], (j1v4, ()))))))), ((0 : Int), ())))))
else
((s_l01Below k ((j1v0, (j1v1, (j1v2, ()))), ((8 : Int), ()))).bind fun p12 =>
some (((wi64 ((1 : Int) + p1.1)), (p12.1, ((wi64 ((1 : Int) + p2.1)), ((wi64 ((1 : Int) + p3.1)), (j1v3, ([], (j1v4, ()))))))), ((p12.2.1.1, (p12.2.1.2.1, (p12.2.1.2.2.1, ()))), ()))))) (fun (j1 : List (Int) → Int → Int → Int → ByteArray → Option _) =>
(if (decide ((wi64 ((1 : Int) + p1.1)) = (2 : Int))) = true then
(j1 p4.2.1.1 p4.2.1.2.1 p4.2.1.2.2.1 (0 : Int) (⟨#[]⟩ : ByteArray))
else
((s_l01Below k ((p4.2.1.1, (p4.2.1.2.1, (p4.2.1.2.2.1, ()))), ((9 : Int), ()))).bind fun p5 =>
((s_l01Text k ((p5.2.1.1, (p5.2.1.2.1, (p5.2.1.2.2.1, ()))), (p5.1, ()))).bind fun p6 =>
(j1 p6.2.1.1 p6.2.1.2.1 p6.2.1.2.2.1 p4.1 p6.1))))))))))
theorem t_s_l12Packet (k : Nat) (x) : evF TTab k [⟨76, 0, (.cons (.ptr 0 (.cons (.il true (.int .u8)) (.cons (.int .i64) (.cons (.int .i64) .nil)))) (.cons (.int .i64) .nil)), (.int .i64), s_l01Below k⟩, ⟨158, 0, (.cons (.ptr 0 (.cons (.il true (.int .u8)) (.cons (.int .i64) (.cons (.int .i64) .nil)))) (.cons (.int .i64) .nil)), .str, s_l01Text k⟩] [(0, ⟨[0, 2, 3, 4], (.cons (.ptr 0 (.cons (.il true (.int .u8)) (.cons (.int .i64) (.cons (.int .i64) .nil)))) (.cons (.ptr 0 (.cons (.int .i64) (.cons (.int .i64) (.cons (.int .i64) (.cons (.int .i64) (.cons (.int .i64) (.cons (.own false 3 (.int .i64)) (.cons .str .nil)))))))) (.cons (.ptr 0 (.cons (.int .i64) (.cons (.int .i64) (.cons (.int .i64) (.cons (.int .i64) (.cons (.int .i64) (.cons (.own false 3 (.int .i64)) (.cons .str .nil)))))))) (.cons (.int .i64) .nil))))⟩, ⟨[0, 2, 3], (.cons (.ptr 0 (.cons (.il true (.int .u8)) (.cons (.int .i64) (.cons (.int .i64) .nil)))) (.cons (.ptr 0 (.cons (.int .i64) (.cons (.int .i64) (.cons (.int .i64) (.cons (.int .i64) (.cons (.int .i64) (.cons (.own false 3 (.int .i64)) (.cons .str .nil)))))))) (.cons (.ptr 0 (.cons (.int .i64) (.cons (.int .i64) (.cons (.int .i64) (.cons (.int .i64) (.cons (.int .i64) (.cons (.own false 3 (.int .i64)) (.cons .str .nil)))))))) .nil)))⟩)] Try.f186 (.cons (.ptr 0 (.cons (.il true (.int .u8)) (.cons (.int .i64) (.cons (.int .i64) .nil)))) .nil) (.agg (.cons (.int .i64) (.cons (.int .i64) (.cons (.int .i64) (.cons (.int .i64) (.cons (.int .i64) (.cons (.own false 3 (.int .i64)) (.cons .str .nil)))))))) x = s_l12Packet k x := by kernel_rfl
theorem e_s_l12Packet (k : Nat) : EntryOk Try.prog ⟨186, 0, (.cons (.ptr 0 (.cons (.il true (.int .u8)) (.cons (.int .i64) (.cons (.int .i64) .nil)))) .nil), (.agg (.cons (.int .i64) (.cons (.int .i64) (.cons (.int .i64) (.cons (.int .i64) (.cons (.int .i64) (.cons (.own false 3 (.int .i64)) (.cons .str .nil)))))))), s_l12Packet k⟩ := entry_ok tok (by intro e he; simp only [List.mem_cons, List.not_mem_nil, or_false] at he; rcases he with rfl | rfl <;> first | exact e_s_l01Below k | exact e_s_l01Text k) (by kernel_rfl) (fn := Try.f186) (k := k) (es := [⟨76, 0, (.cons (.ptr 0 (.cons (.il true (.int .u8)) (.cons (.int .i64) (.cons (.int .i64) .nil)))) (.cons (.int .i64) .nil)), (.int .i64), s_l01Below k⟩, ⟨158, 0, (.cons (.ptr 0 (.cons (.il true (.int .u8)) (.cons (.int .i64) (.cons (.int .i64) .nil)))) (.cons (.int .i64) .nil)), .str, s_l01Text k⟩]) (loops := [(0, ⟨[0, 2, 3, 4], (.cons (.ptr 0 (.cons (.il true (.int .u8)) (.cons (.int .i64) (.cons (.int .i64) .nil)))) (.cons (.ptr 0 (.cons (.int .i64) (.cons (.int .i64) (.cons (.int .i64) (.cons (.int .i64) (.cons (.int .i64) (.cons (.own false 3 (.int .i64)) (.cons .str .nil)))))))) (.cons (.ptr 0 (.cons (.int .i64) (.cons (.int .i64) (.cons (.int .i64) (.cons (.int .i64) (.cons (.int .i64) (.cons (.own false 3 (.int .i64)) (.cons .str .nil)))))))) (.cons (.int .i64) .nil))))⟩, ⟨[0, 2, 3], (.cons (.ptr 0 (.cons (.il true (.int .u8)) (.cons (.int .i64) (.cons (.int .i64) .nil)))) (.cons (.ptr 0 (.cons (.int .i64) (.cons (.int .i64) (.cons (.int .i64) (.cons (.int .i64) (.cons (.int .i64) (.cons (.own false 3 (.int .i64)) (.cons .str .nil)))))))) (.cons (.ptr 0 (.cons (.int .i64) (.cons (.int .i64) (.cons (.int .i64) (.cons (.int .i64) (.cons (.int .i64) (.cons (.own false 3 (.int .i64)) (.cons .str .nil)))))))) .nil)))⟩)]) (by kernel_rfl) (by kernel_rfl) (fun x r h => (t_s_l12Packet k x).trans h)
def s_l12Any (k : Nat) (x : (List (Int) × Int × Int × Unit) × Unit) : Option ((Int × Int × Int × Int × Int × List (Int) × ByteArray × Unit) × (List (Int) × Int × Int × Unit) × Unit) :=
((s_l12Packet k ((x.1.1, (x.1.2.1, (x.1.2.2.1, ()))), ())).bind fun p1 =>
((s_l01Below k ((p1.2.1.1, (p1.2.1.2.1, (p1.2.1.2.2.1, ()))), ((20 : Int), ()))).bind fun p2 =>
(if (decide (p2.1 = (0 : Int))) = true then
((s_l01PickInt k ((p2.2.1.1, (p2.2.1.2.1, (p2.2.1.2.2.1, ()))), (([(0 : Int), (2 : Int), (3 : Int), (4 : Int)] : List (Int)), ()))).bind fun p3 =>
some ((p3.1, (p1.1.2.1, (p1.1.2.2.1, (p1.1.2.2.2.1, (p1.1.2.2.2.2.1, (p1.1.2.2.2.2.2.1, (p1.1.2.2.2.2.2.2.1, ()))))))), ((p3.2.1.1, (p3.2.1.2.1, (p3.2.1.2.2.1, ()))), ())))
else
(if (decide (p2.1 = (1 : Int))) = true then
((s_l01PickInt k ((p2.2.1.1, (p2.2.1.2.1, (p2.2.1.2.2.1, ()))), (([(-1 : Int), (7 : Int), (8 : Int)] : List (Int)), ()))).bind fun p4 =>
some ((p1.1.1, (p4.1, (p1.1.2.2.1, (p1.1.2.2.2.1, (p1.1.2.2.2.2.1, (p1.1.2.2.2.2.2.1, (p1.1.2.2.2.2.2.2.1, ()))))))), ((p4.2.1.1, (p4.2.1.2.1, (p4.2.1.2.2.1, ()))), ())))
else
(if (decide (p2.1 = (2 : Int))) = true then
((s_l01PickInt k ((p2.2.1.1, (p2.2.1.2.1, (p2.2.1.2.2.1, ()))), (([(0 : Int), (99 : Int), (100 : Int)] : List (Int)), ()))).bind fun p5 =>
some ((p1.1.1, (p1.1.2.1, (p5.1, (p1.1.2.2.2.1, (p1.1.2.2.2.2.1, (p1.1.2.2.2.2.2.1, (p1.1.2.2.2.2.2.2.1, ()))))))), ((p5.2.1.1, (p5.2.1.2.1, (p5.2.1.2.2.1, ()))), ())))
else
(if (decide (p2.1 = (3 : Int))) = true then
((s_l01PickInt k ((p2.2.1.1, (p2.2.1.2.1, (p2.2.1.2.2.1, ()))), (([(-1 : Int), (1000000000 : Int), (1000000001 : Int)] : List (Int)), ()))).bind fun p6 =>
some ((p1.1.1, (p1.1.2.1, (p1.1.2.2.1, (p1.1.2.2.2.1, (p6.1, (p1.1.2.2.2.2.2.1, (p1.1.2.2.2.2.2.2.1, ()))))))), ((p6.2.1.1, (p6.2.1.2.1, (p6.2.1.2.2.1, ()))), ())))
else
(if (decide (p2.1 = (4 : Int))) = true then
((s_l01Below k ((p2.2.1.1, (p2.2.1.2.1, (p2.2.1.2.2.1, ()))), ((3 : Int), ()))).bind fun p7 =>
(if List.length p1.1.2.2.2.2.2.1 + List.length ([p7.1] : List (Int)) ≤ capMax then
some ((p1.1.1, (p1.1.2.1, (p1.1.2.2.1, (p1.1.2.2.2.1, (p1.1.2.2.2.2.1, ((p1.1.2.2.2.2.2.1 ++ ([p7.1] : List (Int))), (p1.1.2.2.2.2.2.2.1, ()))))))), ((p7.2.1.1, (p7.2.1.2.1, (p7.2.1.2.2.1, ()))), ()))
else none))
else
(if (decide (p2.1 = (5 : Int))) = true then
((s_l01Below k ((p2.2.1.1, (p2.2.1.2.1, (p2.2.1.2.2.1, ()))), ((2 : Int), ()))).bind fun p8 =>
((s_l01Long k ((wi64 ((120 : Int) + p8.1)), ((65 : Int), ()))).bind fun p9 =>
some ((p1.1.1, (p1.1.2.1, (p1.1.2.2.1, (p1.1.2.2.2.1, (p1.1.2.2.2.2.1, (p1.1.2.2.2.2.2.1, (p9.1, ()))))))), ((p8.2.1.1, (p8.2.1.2.1, (p8.2.1.2.2.1, ()))), ()))))
else
some ((p1.1.1, (p1.1.2.1, (p1.1.2.2.1, (p1.1.2.2.2.1, (p1.1.2.2.2.2.1, (p1.1.2.2.2.2.2.1, (p1.1.2.2.2.2.2.2.1, ()))))))), ((p2.2.1.1, (p2.2.1.2.1, (p2.2.1.2.2.1, ()))), ()))))))))))
theorem t_s_l12Any (k : Nat) (x) : evF TTab k [⟨76, 0, (.cons (.ptr 0 (.cons (.il true (.int .u8)) (.cons (.int .i64) (.cons (.int .i64) .nil)))) (.cons (.int .i64) .nil)), (.int .i64), s_l01Below k⟩, ⟨159, 0, (.cons (.int .i64) (.cons (.int .u8) .nil)), .str, s_l01Long k⟩, ⟨160, 0, (.cons (.ptr 0 (.cons (.il true (.int .u8)) (.cons (.int .i64) (.cons (.int .i64) .nil)))) (.cons (.il false (.int .i64)) .nil)), (.int .i64), s_l01PickInt k⟩, ⟨186, 0, (.cons (.ptr 0 (.cons (.il true (.int .u8)) (.cons (.int .i64) (.cons (.int .i64) .nil)))) .nil), (.agg (.cons (.int .i64) (.cons (.int .i64) (.cons (.int .i64) (.cons (.int .i64) (.cons (.int .i64) (.cons (.own false 3 (.int .i64)) (.cons .str .nil)))))))), s_l12Packet k⟩] [] Try.f120 (.cons (.ptr 0 (.cons (.il true (.int .u8)) (.cons (.int .i64) (.cons (.int .i64) .nil)))) .nil) (.agg (.cons (.int .i64) (.cons (.int .i64) (.cons (.int .i64) (.cons (.int .i64) (.cons (.int .i64) (.cons (.own false 3 (.int .i64)) (.cons .str .nil)))))))) x = s_l12Any k x := by kernel_rfl
theorem e_s_l12Any (k : Nat) : EntryOk Try.prog ⟨120, 0, (.cons (.ptr 0 (.cons (.il true (.int .u8)) (.cons (.int .i64) (.cons (.int .i64) .nil)))) .nil), (.agg (.cons (.int .i64) (.cons (.int .i64) (.cons (.int .i64) (.cons (.int .i64) (.cons (.int .i64) (.cons (.own false 3 (.int .i64)) (.cons .str .nil)))))))), s_l12Any k⟩ := entry_ok tok (by intro e he; simp only [List.mem_cons, List.not_mem_nil, or_false] at he; rcases he with rfl | rfl | rfl | rfl <;> first | exact e_s_l01Below k | exact e_s_l01Long k | exact e_s_l01PickInt k | exact e_s_l12Packet k) (by kernel_rfl) (fn := Try.f120) (k := k) (es := [⟨76, 0, (.cons (.ptr 0 (.cons (.il true (.int .u8)) (.cons (.int .i64) (.cons (.int .i64) .nil)))) (.cons (.int .i64) .nil)), (.int .i64), s_l01Below k⟩, ⟨159, 0, (.cons (.int .i64) (.cons (.int .u8) .nil)), .str, s_l01Long k⟩, ⟨160, 0, (.cons (.ptr 0 (.cons (.il true (.int .u8)) (.cons (.int .i64) (.cons (.int .i64) .nil)))) (.cons (.il false (.int .i64)) .nil)), (.int .i64), s_l01PickInt k⟩, ⟨186, 0, (.cons (.ptr 0 (.cons (.il true (.int .u8)) (.cons (.int .i64) (.cons (.int .i64) .nil)))) .nil), (.agg (.cons (.int .i64) (.cons (.int .i64) (.cons (.int .i64) (.cons (.int .i64) (.cons (.int .i64) (.cons (.own false 3 (.int .i64)) (.cons .str .nil)))))))), s_l12Packet k⟩]) (loops := []) (by kernel_rfl) (by kernel_rfl) (fun x r h => (t_s_l12Any k x).trans h)
def s_DrawPacketText (k : Nat) (x : List (Int) × Unit) : Option ((Int × Int × Int × Int × Int × List (Int) × ByteArray × Unit) × Unit × Unit) :=
((s_l01New k (x.1, ())).bind fun p1 =>
((s_l12Any k ((p1.1.1, (p1.1.2.1, (p1.1.2.2.1, ()))), ())).bind fun p2 =>
some ((p2.1.1, (p2.1.2.1, (p2.1.2.2.1, (p2.1.2.2.2.1, (p2.1.2.2.2.2.1, (p2.1.2.2.2.2.2.1, (p2.1.2.2.2.2.2.2.1, ()))))))), ((), ()))))
theorem t_s_DrawPacketText (k : Nat) (x) : evF TTab k [⟨74, 0, (.cons (.il true (.int .u8)) .nil), (.ptr 0 (.cons (.il true (.int .u8)) (.cons (.int .i64) (.cons (.int .i64) .nil)))), s_l01New k⟩, ⟨120, 0, (.cons (.ptr 0 (.cons (.il true (.int .u8)) (.cons (.int .i64) (.cons (.int .i64) .nil)))) .nil), (.agg (.cons (.int .i64) (.cons (.int .i64) (.cons (.int .i64) (.cons (.int .i64) (.cons (.int .i64) (.cons (.own false 3 (.int .i64)) (.cons .str .nil)))))))), s_l12Any k⟩] [] Try.f45 (.cons (.il true (.int .u8)) .nil) (.agg (.cons (.int .i64) (.cons (.int .i64) (.cons (.int .i64) (.cons (.int .i64) (.cons (.int .i64) (.cons (.own false 3 (.int .i64)) (.cons .str .nil)))))))) x = s_DrawPacketText k x := by kernel_rfl
theorem e_s_DrawPacketText (k : Nat) : EntryOk Try.prog ⟨45, 0, (.cons (.il true (.int .u8)) .nil), (.agg (.cons (.int .i64) (.cons (.int .i64) (.cons (.int .i64) (.cons (.int .i64) (.cons (.int .i64) (.cons (.own false 3 (.int .i64)) (.cons .str .nil)))))))), s_DrawPacketText k⟩ := entry_ok tok (by intro e he; simp only [List.mem_cons, List.not_mem_nil, or_false] at he; rcases he with rfl | rfl <;> first | exact e_s_l01New k | exact e_s_l12Any k) (by kernel_rfl) (fn := Try.f45) (k := k) (es := [⟨74, 0, (.cons (.il true (.int .u8)) .nil), (.ptr 0 (.cons (.il true (.int .u8)) (.cons (.int .i64) (.cons (.int .i64) .nil)))), s_l01New k⟩, ⟨120, 0, (.cons (.ptr 0 (.cons (.il true (.int .u8)) (.cons (.int .i64) (.cons (.int .i64) .nil)))) .nil), (.agg (.cons (.int .i64) (.cons (.int .i64) (.cons (.int .i64) (.cons (.int .i64) (.cons (.int .i64) (.cons (.own false 3 (.int .i64)) (.cons .str .nil)))))))), s_l12Any k⟩]) (loops := []) (by kernel_rfl) (by kernel_rfl) (fun x r h => (t_s_DrawPacketText k x).trans h)
def i_VarText (k : Nat) (x : Int × Unit) : Option ((ByteArray × Bool × Unit) × Unit × Unit) :=
((i_within k (x.1, ((0 : Int), ((1000000000 : Int), ())))).bind fun p1 =>
(if (!p1.1) = true then
some (((⟨#[]⟩ : ByteArray), (false, ())), ((), ()))
else
(whileK (fun (rec0 : (Int × List (Int) × Unit) → Option _) (y0 : Int × List (Int) × Unit) =>
(if (decide ((127 : Int) < y0.1)) = true then
(if List.length y0.2.1 + List.length ([(wu8 ((wi64 ((Int.tmod y0.1 (128 : Int)) + (128 : Int)))))] : List (Int)) ≤ capMax then
(rec0 ((wi64 (Int.tdiv y0.1 (128 : Int))), ((y0.2.1 ++ ([(wu8 ((wi64 ((Int.tmod y0.1 (128 : Int)) + (128 : Int)))))] : List (Int))), ())))
else none)
else
((fun (z1 : Int × List (Int) × Unit) =>
(if List.length z1.2.1 + List.length ([(wu8 (z1.1))] : List (Int)) ≤ capMax then
some (((strOf (z1.2.1 ++ ([(wu8 (z1.1))] : List (Int)))), (true, ())), ((), ()))
else none)) (y0.1, (y0.2.1, ()))))) k (x.1, (([] : List (Int)), ())))))
theorem t_i_VarText (k : Nat) (x) : evF TTab k [⟨77, 0, (.cons (.int .i64) (.cons (.int .i64) (.cons (.int .i64) .nil))), .bool, i_within k⟩] [(0, ⟨[0, 4], (.cons (.int .i64) (.cons (.own false 5 (.int .u8)) .nil))⟩, ⟨[0, 4], (.cons (.int .i64) (.cons (.own false 5 (.int .u8)) .nil))⟩)] Try.f189 (.cons (.int .i64) .nil) (.tup (.cons .str (.cons .bool .nil))) x = i_VarText k x := by kernel_rfl
theorem e_i_VarText (k : Nat) : EntryOk Try.prog ⟨189, 0, (.cons (.int .i64) .nil), (.tup (.cons .str (.cons .bool .nil))), i_VarText k⟩ := entry_ok tok (by intro e he; simp only [List.mem_cons, List.not_mem_nil, or_false] at he; rcases he with rfl <;> first | exact e_i_within k) (by kernel_rfl) (fn := Try.f189) (k := k) (es := [⟨77, 0, (.cons (.int .i64) (.cons (.int .i64) (.cons (.int .i64) .nil))), .bool, i_within k⟩]) (loops := [(0, ⟨[0, 4], (.cons (.int .i64) (.cons (.own false 5 (.int .u8)) .nil))⟩, ⟨[0, 4], (.cons (.int .i64) (.cons (.own false 5 (.int .u8)) .nil))⟩)]) (by kernel_rfl) (by kernel_rfl) (fun x r h => (t_i_VarText k x).trans h)
def i_varTexts (k : Nat) (x : List (Int) × Unit) : Option (ByteArray × Unit × Unit) :=
(whileK (fun (rec0 : (ByteArray × List (Int) × Int × Int × Unit) → Option _) (y0 : ByteArray × List (Int) × Int × Int × Unit) =>
(if (decide (y0.2.2.2.1 < y0.2.2.1)) = true then
(if 0 ≤ y0.2.2.2.1 ∧ y0.2.2.2.1 < (List.length y0.2.1 : Int) then
((i_VarText k ((Ty.rd (t := (.int .i64)) y0.2.1 y0.2.2.2.1), ())).bind fun p1 =>
(if ByteArray.size y0.1 + ByteArray.size p1.1.1 ≤ maxStr then
(rec0 ((y0.1 ++ p1.1.1), (y0.2.1, (y0.2.2.1, ((wi64 (y0.2.2.2.1 + (1 : Int))), ())))))
else none))
else none)
else
((fun (z1 : ByteArray × Unit) =>
some (z1.1, ((), ()))) (y0.1, ())))) k ((⟨#[]⟩ : ByteArray), (x.1, ((List.length x.1 : Int), ((0 : Int), ())))))
theorem t_i_varTexts (k : Nat) (x) : evF TTab k [⟨189, 0, (.cons (.int .i64) .nil), (.tup (.cons .str (.cons .bool .nil))), i_VarText k⟩] [(0, ⟨[3, 8, 9, 10], (.cons .str (.cons (.il true (.int .i64)) (.cons (.int .i64) (.cons (.int .i64) .nil))))⟩, ⟨[3], (.cons .str .nil)⟩)] Try.f122 (.cons (.il true (.int .i64)) .nil) .str x = i_varTexts k x := by kernel_rfl
theorem e_i_varTexts (k : Nat) : EntryOk Try.prog ⟨122, 0, (.cons (.il true (.int .i64)) .nil), .str, i_varTexts k⟩ := entry_ok tok (by intro e he; simp only [List.mem_cons, List.not_mem_nil, or_false] at he; rcases he with rfl <;> first | exact e_i_VarText k) (by kernel_rfl) (fn := Try.f122) (k := k) (es := [⟨189, 0, (.cons (.int .i64) .nil), (.tup (.cons .str (.cons .bool .nil))), i_VarText k⟩]) (loops := [(0, ⟨[3, 8, 9, 10], (.cons .str (.cons (.il true (.int .i64)) (.cons (.int .i64) (.cons (.int .i64) .nil))))⟩, ⟨[3], (.cons .str .nil)⟩)]) (by kernel_rfl) (by kernel_rfl) (fun x r h => (t_i_varTexts k x).trans h)
def i_PacketText (k : Nat) (x : (Int × Int × Int × Int × Int × List (Int) × ByteArray × Unit) × Unit) : Option ((ByteArray × Bool × Unit) × Unit × Unit) :=
((i_PacketOk k ((x.1.1, (x.1.2.1, (x.1.2.2.1, (x.1.2.2.2.1, (x.1.2.2.2.2.1, (x.1.2.2.2.2.2.1, (x.1.2.2.2.2.2.2.1, ()))))))), ())).bind fun p1 =>
(if (!p1.1) = true then
some (((⟨#[]⟩ : ByteArray), (false, ())), ((), ()))
else
((i_byteText k ((wi64 ((wi64 ((8 : Int) * x.1.1)) + x.1.2.1)), ())).bind fun p2 =>
((i_byteText k (x.1.2.2.1, ())).bind fun p3 =>
(if ByteArray.size p2.1 + ByteArray.size p3.1 ≤ maxStr then
((i_byteText k (x.1.2.2.2.1, ())).bind fun p4 =>
(if ByteArray.size (p2.1 ++ p3.1) + ByteArray.size p4.1 ≤ maxStr then
((i_varTexts k (([x.1.2.2.2.2.1, (List.length x.1.2.2.2.2.2.1 : Int)] : List (Int)), ())).bind fun p5 =>
(if ByteArray.size ((p2.1 ++ p3.1) ++ p4.1) + ByteArray.size p5.1 ≤ maxStr then
((i_varTexts k (x.1.2.2.2.2.2.1, ())).bind fun p6 =>
(if ByteArray.size (((p2.1 ++ p3.1) ++ p4.1) ++ p5.1) + ByteArray.size p6.1 ≤ maxStr then
(if ByteArray.size ((((p2.1 ++ p3.1) ++ p4.1) ++ p5.1) ++ p6.1) + ByteArray.size x.1.2.2.2.2.2.2.1 ≤ maxStr then
((i_Sealed k ((((((p2.1 ++ p3.1) ++ p4.1) ++ p5.1) ++ p6.1) ++ x.1.2.2.2.2.2.2.1), ())).bind fun p7 =>
some ((p7.1.1, (p7.1.2.1, ())), ((), ())))
else none)
else none))
else none))
else none))
else none)))))
theorem t_i_PacketText (k : Nat) (x) : evF TTab k [⟨48, 0, (.cons (.agg (.cons (.int .i64) (.cons (.int .i64) (.cons (.int .i64) (.cons (.int .i64) (.cons (.int .i64) (.cons (.il true (.int .i64)) (.cons .str .nil)))))))) .nil), .bool, i_PacketOk k⟩, ⟨78, 0, (.cons (.int .i64) .nil), .str, i_byteText k⟩, ⟨121, 0, (.cons .str .nil), (.tup (.cons .str (.cons .bool .nil))), i_Sealed k⟩, ⟨122, 0, (.cons (.il true (.int .i64)) .nil), .str, i_varTexts k⟩] [] Try.f46 (.cons (.agg (.cons (.int .i64) (.cons (.int .i64) (.cons (.int .i64) (.cons (.int .i64) (.cons (.int .i64) (.cons (.il true (.int .i64)) (.cons .str .nil)))))))) .nil) (.tup (.cons .str (.cons .bool .nil))) x = i_PacketText k x := by kernel_rfl
theorem e_i_PacketText (k : Nat) : EntryOk Try.prog ⟨46, 0, (.cons (.agg (.cons (.int .i64) (.cons (.int .i64) (.cons (.int .i64) (.cons (.int .i64) (.cons (.int .i64) (.cons (.il true (.int .i64)) (.cons .str .nil)))))))) .nil), (.tup (.cons .str (.cons .bool .nil))), i_PacketText k⟩ := entry_ok tok (by intro e he; simp only [List.mem_cons, List.not_mem_nil, or_false] at he; rcases he with rfl | rfl | rfl | rfl <;> first | exact e_i_PacketOk k | exact e_i_byteText k | exact e_i_Sealed k | exact e_i_varTexts k) (by kernel_rfl) (fn := Try.f46) (k := k) (es := [⟨48, 0, (.cons (.agg (.cons (.int .i64) (.cons (.int .i64) (.cons (.int .i64) (.cons (.int .i64) (.cons (.int .i64) (.cons (.il true (.int .i64)) (.cons .str .nil)))))))) .nil), .bool, i_PacketOk k⟩, ⟨78, 0, (.cons (.int .i64) .nil), .str, i_byteText k⟩, ⟨121, 0, (.cons .str .nil), (.tup (.cons .str (.cons .bool .nil))), i_Sealed k⟩, ⟨122, 0, (.cons (.il true (.int .i64)) .nil), .str, i_varTexts k⟩]) (loops := []) (by kernel_rfl) (by kernel_rfl) (fun x r h => (t_i_PacketText k x).trans h)
def w_samePacket (k : Nat) (x : (Int × Int × Int × Int × Int × List (Int) × ByteArray × Unit) × (Int × Int × Int × Int × Int × List (Int) × ByteArray × Unit) × Unit) : Option (Bool × Unit × Unit × Unit) :=
(if (decide (x.1.1 = x.2.1.1)) = true then
(if (decide (x.1.2.1 = x.2.1.2.1)) = true then
(if (decide (x.1.2.2.1 = x.2.1.2.2.1)) = true then
(if (decide (x.1.2.2.2.1 = x.2.1.2.2.2.1)) = true then
(if (decide (x.1.2.2.2.2.1 = x.2.1.2.2.2.2.1)) = true then
((w_sameInts k (x.1.2.2.2.2.2.1, (x.2.1.2.2.2.2.2.1, ()))).bind fun p1 =>
(if p1.1 = true then
some ((decide (x.1.2.2.2.2.2.2.1 = x.2.1.2.2.2.2.2.2.1)), ((), ((), ())))
else
some (false, ((), ((), ())))))
else
some (false, ((), ((), ()))))
else
some (false, ((), ((), ()))))
else
some (false, ((), ((), ()))))
else
some (false, ((), ((), ()))))
else
some (false, ((), ((), ()))))
theorem t_w_samePacket (k : Nat) (x) : evF TTab k [⟨34, 0, (.cons (.il true (.int .i64)) (.cons (.il true (.int .i64)) .nil)), .bool, w_sameInts k⟩] [] Try.f49 (.cons (.agg (.cons (.int .i64) (.cons (.int .i64) (.cons (.int .i64) (.cons (.int .i64) (.cons (.int .i64) (.cons (.il true (.int .i64)) (.cons .str .nil)))))))) (.cons (.agg (.cons (.int .i64) (.cons (.int .i64) (.cons (.int .i64) (.cons (.int .i64) (.cons (.int .i64) (.cons (.il true (.int .i64)) (.cons .str .nil)))))))) .nil)) .bool x = w_samePacket k x := by kernel_rfl
theorem e_w_samePacket (k : Nat) : EntryOk Try.prog ⟨49, 0, (.cons (.agg (.cons (.int .i64) (.cons (.int .i64) (.cons (.int .i64) (.cons (.int .i64) (.cons (.int .i64) (.cons (.il true (.int .i64)) (.cons .str .nil)))))))) (.cons (.agg (.cons (.int .i64) (.cons (.int .i64) (.cons (.int .i64) (.cons (.int .i64) (.cons (.int .i64) (.cons (.il true (.int .i64)) (.cons .str .nil)))))))) .nil)), .bool, w_samePacket k⟩ := entry_ok tok (by intro e he; simp only [List.mem_cons, List.not_mem_nil, or_false] at he; rcases he with rfl <;> first | exact e_w_sameInts k) (by kernel_rfl) (fn := Try.f49) (k := k) (es := [⟨34, 0, (.cons (.il true (.int .i64)) (.cons (.il true (.int .i64)) .nil)), .bool, w_sameInts k⟩]) (loops := []) (by kernel_rfl) (by kernel_rfl) (fun x r h => (t_w_samePacket k x).trans h)
def s_l01Once (k : Nat) (x : (List (Int) × Int × Int × Unit) × Int × Unit) : Option (Bool × (List (Int) × Int × Int × Unit) × Unit × Unit) :=
((s_l01Below k ((x.1.1, (x.1.2.1, (x.1.2.2.1, ()))), (x.2.1, ()))).bind fun p1 =>
some ((decide (p1.1 = (0 : Int))), ((p1.2.1.1, (p1.2.1.2.1, (p1.2.1.2.2.1, ()))), ((), ()))))
theorem t_s_l01Once (k : Nat) (x) : evF TTab k [⟨76, 0, (.cons (.ptr 0 (.cons (.il true (.int .u8)) (.cons (.int .i64) (.cons (.int .i64) .nil)))) (.cons (.int .i64) .nil)), (.int .i64), s_l01Below k⟩] [] Try.f123 (.cons (.ptr 0 (.cons (.il true (.int .u8)) (.cons (.int .i64) (.cons (.int .i64) .nil)))) (.cons (.int .i64) .nil)) .bool x = s_l01Once k x := by kernel_rfl
theorem e_s_l01Once (k : Nat) : EntryOk Try.prog ⟨123, 0, (.cons (.ptr 0 (.cons (.il true (.int .u8)) (.cons (.int .i64) (.cons (.int .i64) .nil)))) (.cons (.int .i64) .nil)), .bool, s_l01Once k⟩ := entry_ok tok (by intro e he; simp only [List.mem_cons, List.not_mem_nil, or_false] at he; rcases he with rfl <;> first | exact e_s_l01Below k) (by kernel_rfl) (fn := Try.f123) (k := k) (es := [⟨76, 0, (.cons (.ptr 0 (.cons (.il true (.int .u8)) (.cons (.int .i64) (.cons (.int .i64) .nil)))) (.cons (.int .i64) .nil)), (.int .i64), s_l01Below k⟩]) (loops := []) (by kernel_rfl) (by kernel_rfl) (fun x r h => (t_s_l01Once k x).trans h)
def s_l02Spoilt (k : Nat) (x : (List (Int) × Int × Int × Unit) × ByteArray × Unit) : Option (ByteArray × (List (Int) × Int × Int × Unit) × Unit × Unit) :=
((s_l01Below k ((x.1.1, (x.1.2.1, (x.1.2.2.1, ()))), ((12 : Int), ()))).bind fun p1 =>
(if (decide (p1.1 = (0 : Int))) = true then
((s_l01Text k ((p1.2.1.1, (p1.2.1.2.1, (p1.2.1.2.2.1, ()))), ((1 : Int), ()))).bind fun p2 =>
(if ByteArray.size x.2.1 + ByteArray.size p2.1 ≤ maxStr then
some ((x.2.1 ++ p2.1), ((p2.2.1.1, (p2.2.1.2.1, (p2.2.1.2.2.1, ()))), ((), ())))
else none))
else
(if (decide (p1.1 = (1 : Int))) = true then
((s_l01Below k ((p1.2.1.1, (p1.2.1.2.1, (p1.2.1.2.2.1, ()))), ((wi64 ((ByteArray.size x.2.1 : Int) + (1 : Int))), ()))).bind fun p3 =>
(if 0 ≤ p3.1 ∧ p3.1 ≤ (ByteArray.size x.2.1 : Int) then
some ((ByteArray.extract x.2.1 (Int.toNat (0 : Int)) (Int.toNat p3.1)), ((p3.2.1.1, (p3.2.1.2.1, (p3.2.1.2.2.1, ()))), ((), ())))
else none))
else
(jn (fun (j1v0 : Bool) =>
(if j1v0 = true then
(if (decide ((0 : Int) < (ByteArray.size x.2.1 : Int))) = true then
((s_l01Below k ((p1.2.1.1, (p1.2.1.2.1, (p1.2.1.2.2.1, ()))), ((ByteArray.size x.2.1 : Int), ()))).bind fun p6 =>
(if 0 ≤ p6.1 ∧ p6.1 ≤ (ByteArray.size x.2.1 : Int) then
((s_l01Text k ((p6.2.1.1, (p6.2.1.2.1, (p6.2.1.2.2.1, ()))), ((1 : Int), ()))).bind fun p7 =>
(if ByteArray.size (ByteArray.extract x.2.1 (Int.toNat (0 : Int)) (Int.toNat p6.1)) + ByteArray.size p7.1 ≤ maxStr then
(if 0 ≤ (wi64 (p6.1 + (1 : Int))) ∧ (wi64 (p6.1 + (1 : Int))) ≤ (ByteArray.size x.2.1 : Int) then
(if ByteArray.size ((ByteArray.extract x.2.1 (Int.toNat (0 : Int)) (Int.toNat p6.1)) ++ p7.1) + ByteArray.size (ByteArray.extract x.2.1 (Int.toNat (wi64 (p6.1 + (1 : Int)))) (Int.toNat (ByteArray.size x.2.1 : Int))) ≤ maxStr then
some ((((ByteArray.extract x.2.1 (Int.toNat (0 : Int)) (Int.toNat p6.1)) ++ p7.1) ++ (ByteArray.extract x.2.1 (Int.toNat (wi64 (p6.1 + (1 : Int)))) (Int.toNat (ByteArray.size x.2.1 : Int)))), ((p7.2.1.1, (p7.2.1.2.1, (p7.2.1.2.2.1, ()))), ((), ())))
else none)
else none)
else none))
else none))
else
some (x.2.1, ((p1.2.1.1, (p1.2.1.2.1, (p1.2.1.2.2.1, ()))), ((), ()))))
else
some (x.2.1, ((p1.2.1.1, (p1.2.1.2.1, (p1.2.1.2.2.1, ()))), ((), ()))))) (fun (j1 : Bool → Option _) =>
(if (decide (p1.1 = (2 : Int))) = true then
(j1 (decide (p1.1 = (2 : Int))))
else
(j1 (decide (p1.1 = (3 : Int))))))))))
theorem t_s_l02Spoilt (k : Nat) (x) : evF TTab k [⟨76, 0, (.cons (.ptr 0 (.cons (.il true (.int .u8)) (.cons (.int .i64) (.cons (.int .i64) .nil)))) (.cons (.int .i64) .nil)), (.int .i64), s_l01Below k⟩, ⟨158, 0, (.cons (.ptr 0 (.cons (.il true (.int .u8)) (.cons (.int .i64) (.cons (.int .i64) .nil)))) (.cons (.int .i64) .nil)), .str, s_l01Text k⟩] [] Try.f125 (.cons (.ptr 0 (.cons (.il true (.int .u8)) (.cons (.int .i64) (.cons (.int .i64) .nil)))) (.cons .str .nil)) .str x = s_l02Spoilt k x := by kernel_rfl
theorem e_s_l02Spoilt (k : Nat) : EntryOk Try.prog ⟨125, 0, (.cons (.ptr 0 (.cons (.il true (.int .u8)) (.cons (.int .i64) (.cons (.int .i64) .nil)))) (.cons .str .nil)), .str, s_l02Spoilt k⟩ := entry_ok tok (by intro e he; simp only [List.mem_cons, List.not_mem_nil, or_false] at he; rcases he with rfl | rfl <;> first | exact e_s_l01Below k | exact e_s_l01Text k) (by kernel_rfl) (fn := Try.f125) (k := k) (es := [⟨76, 0, (.cons (.ptr 0 (.cons (.il true (.int .u8)) (.cons (.int .i64) (.cons (.int .i64) .nil)))) (.cons (.int .i64) .nil)), (.int .i64), s_l01Below k⟩, ⟨158, 0, (.cons (.ptr 0 (.cons (.il true (.int .u8)) (.cons (.int .i64) (.cons (.int .i64) .nil)))) (.cons (.int .i64) .nil)), .str, s_l01Text k⟩]) (loops := []) (by kernel_rfl) (by kernel_rfl) (fun x r h => (t_s_l02Spoilt k x).trans h)
def s_DrawReadPacket (k : Nat) (x : List (Int) × Unit) : Option (ByteArray × Unit × Unit) :=
((s_l01New k (x.1, ())).bind fun p1 =>
((s_l12Any k ((p1.1.1, (p1.1.2.1, (p1.1.2.2.1, ()))), ())).bind fun p2 =>
((s_PacketText k ((p2.1.1, (p2.1.2.1, (p2.1.2.2.1, (p2.1.2.2.2.1, (p2.1.2.2.2.2.1, (p2.1.2.2.2.2.2.1, (p2.1.2.2.2.2.2.2.1, ()))))))), ())).bind fun p3 =>
((s_l01Once k ((p2.2.1.1, (p2.2.1.2.1, (p2.2.1.2.2.1, ()))), ((3 : Int), ()))).bind fun p4 =>
(if p4.1 = true then
((s_Unsealed k (p3.1.1, ())).bind fun p5 =>
(if p5.1.2.1 = true then
((s_l02Spoilt k ((p4.2.1.1, (p4.2.1.2.1, (p4.2.1.2.2.1, ()))), (p5.1.1, ()))).bind fun p6 =>
((s_Sealed k (p6.1, ())).bind fun p7 =>
some (p7.1.1, ((), ()))))
else
some (p3.1.1, ((), ()))))
else
((s_l02Spoilt k ((p4.2.1.1, (p4.2.1.2.1, (p4.2.1.2.2.1, ()))), (p3.1.1, ()))).bind fun p8 =>
some (p8.1, ((), ()))))))))
theorem t_s_DrawReadPacket (k : Nat) (x) : evF TTab k [⟨74, 0, (.cons (.il true (.int .u8)) .nil), (.ptr 0 (.cons (.il true (.int .u8)) (.cons (.int .i64) (.cons (.int .i64) .nil)))), s_l01New k⟩, ⟨110, 0, (.cons .str .nil), (.tup (.cons .str (.cons .bool .nil))), s_Unsealed k⟩, ⟨113, 0, (.cons (.agg (.cons (.int .i64) (.cons (.int .i64) (.cons (.int .i64) (.cons (.int .i64) (.cons (.int .i64) (.cons (.il true (.int .i64)) (.cons .str .nil)))))))) .nil), (.tup (.cons .str (.cons .bool .nil))), s_PacketText k⟩, ⟨120, 0, (.cons (.ptr 0 (.cons (.il true (.int .u8)) (.cons (.int .i64) (.cons (.int .i64) .nil)))) .nil), (.agg (.cons (.int .i64) (.cons (.int .i64) (.cons (.int .i64) (.cons (.int .i64) (.cons (.int .i64) (.cons (.own false 3 (.int .i64)) (.cons .str .nil)))))))), s_l12Any k⟩, ⟨123, 0, (.cons (.ptr 0 (.cons (.il true (.int .u8)) (.cons (.int .i64) (.cons (.int .i64) .nil)))) (.cons (.int .i64) .nil)), .bool, s_l01Once k⟩, ⟨124, 0, (.cons .str .nil), (.tup (.cons .str (.cons .bool .nil))), s_Sealed k⟩, ⟨125, 0, (.cons (.ptr 0 (.cons (.il true (.int .u8)) (.cons (.int .i64) (.cons (.int .i64) .nil)))) (.cons .str .nil)), .str, s_l02Spoilt k⟩] [] Try.f50 (.cons (.il true (.int .u8)) .nil) .str x = s_DrawReadPacket k x := by kernel_rfl
theorem e_s_DrawReadPacket (k : Nat) : EntryOk Try.prog ⟨50, 0, (.cons (.il true (.int .u8)) .nil), .str, s_DrawReadPacket k⟩ := entry_ok tok (by intro e he; simp only [List.mem_cons, List.not_mem_nil, or_false] at he; rcases he with rfl | rfl | rfl | rfl | rfl | rfl | rfl <;> first | exact e_s_l01New k | exact e_s_Unsealed k | exact e_s_PacketText k | exact e_s_l12Any k | exact e_s_l01Once k | exact e_s_Sealed k | exact e_s_l02Spoilt k) (by kernel_rfl) (fn := Try.f50) (k := k) (es := [⟨74, 0, (.cons (.il true (.int .u8)) .nil), (.ptr 0 (.cons (.il true (.int .u8)) (.cons (.int .i64) (.cons (.int .i64) .nil)))), s_l01New k⟩, ⟨110, 0, (.cons .str .nil), (.tup (.cons .str (.cons .bool .nil))), s_Unsealed k⟩, ⟨113, 0, (.cons (.agg (.cons (.int .i64) (.cons (.int .i64) (.cons (.int .i64) (.cons (.int .i64) (.cons (.int .i64) (.cons (.il true (.int .i64)) (.cons .str .nil)))))))) .nil), (.tup (.cons .str (.cons .bool .nil))), s_PacketText k⟩, ⟨120, 0, (.cons (.ptr 0 (.cons (.il true (.int .u8)) (.cons (.int .i64) (.cons (.int .i64) .nil)))) .nil), (.agg (.cons (.int .i64) (.cons (.int .i64) (.cons (.int .i64) (.cons (.int .i64) (.cons (.int .i64) (.cons (.own false 3 (.int .i64)) (.cons .str .nil)))))))), s_l12Any k⟩, ⟨123, 0, (.cons (.ptr 0 (.cons (.il true (.int .u8)) (.cons (.int .i64) (.cons (.int .i64) .nil)))) (.cons (.int .i64) .nil)), .bool, s_l01Once k⟩, ⟨124, 0, (.cons .str .nil), (.tup (.cons .str (.cons .bool .nil))), s_Sealed k⟩, ⟨125, 0, (.cons (.ptr 0 (.cons (.il true (.int .u8)) (.cons (.int .i64) (.cons (.int .i64) .nil)))) (.cons .str .nil)), .str, s_l02Spoilt k⟩]) (loops := []) (by kernel_rfl) (by kernel_rfl) (fun x r h => (t_s_DrawReadPacket k x).trans h)
def w_turned (k : Nat) (x : ByteArray × List (Int) × Unit) : Option (ByteArray × Unit × Unit × Unit) :=
(if ByteArray.size x.1 ≤ maxStr then
(if (decide ((List.length (bytesOf x.1) : Int) = (0 : Int))) = true then
some ((⟨#[120]⟩ : ByteArray), ((), ((), ())))
else
(if 0 ≤ (0 : Int) ∧ (0 : Int) < (List.length x.2.1 : Int) then
(if (List.length (bytesOf x.1) : Int) = 0 then
none
else
(if 0 ≤ (Int.tmod (Ty.rd (t := (.int .i64)) x.2.1 (0 : Int)) (List.length (bytesOf x.1) : Int)) ∧ (Int.tmod (Ty.rd (t := (.int .i64)) x.2.1 (0 : Int)) (List.length (bytesOf x.1) : Int)) < (List.length (bytesOf x.1) : Int) then
(if 0 ≤ (1 : Int) ∧ (1 : Int) < (List.length x.2.1 : Int) then
(if 0 ≤ (Int.tmod (Ty.rd (t := (.int .i64)) x.2.1 (0 : Int)) (List.length (bytesOf x.1) : Int)) ∧ (Int.tmod (Ty.rd (t := (.int .i64)) x.2.1 (0 : Int)) (List.length (bytesOf x.1) : Int)) < (List.length (bytesOf x.1) : Int) then
some ((strOf (List.set (bytesOf x.1) (Int.toNat (Int.tmod (Ty.rd (t := (.int .i64)) x.2.1 (0 : Int)) (List.length (bytesOf x.1) : Int))) (bitsI .xor .u8 (Ty.rd (t := (.int .u8)) (bytesOf x.1) (Int.tmod (Ty.rd (t := (.int .i64)) x.2.1 (0 : Int)) (List.length (bytesOf x.1) : Int))) (wu8 ((wi64 ((1 : Int) + (Int.tmod (Ty.rd (t := (.int .i64)) x.2.1 (1 : Int)) (255 : Int))))))))), ((), ((), ())))
else none)
else none)
else none))
else none))
else none)
theorem t_w_turned (k : Nat) (x) : evF TTab k [] [] Try.f51 (.cons .str (.cons (.il true (.int .i64)) .nil)) .str x = w_turned k x := by kernel_rfl
theorem e_w_turned (k : Nat) : EntryOk Try.prog ⟨51, 0, (.cons .str (.cons (.il true (.int .i64)) .nil)), .str, w_turned k⟩ := entry_ok tok (by simp) (by kernel_rfl) (fn := Try.f51) (k := k) (es := []) (loops := []) (by kernel_rfl) (by kernel_rfl) (fun x r h => (t_w_turned k x).trans h)
def w_FnPackets (k : Nat) (x : List (Int) × Unit) : Option (Bool × Unit × Unit) :=
((w_big k (x.1, ())).bind fun p1 =>
(if p1.1 = true then
some (true, ((), ()))
else
((s_DrawPacketText k (x.1, ())).bind fun p2 =>
((i_PacketText k ((p2.1.1, (p2.1.2.1, (p2.1.2.2.1, (p2.1.2.2.2.1, (p2.1.2.2.2.2.1, (p2.1.2.2.2.2.2.1, (p2.1.2.2.2.2.2.2.1, ()))))))), ())).bind fun p3 =>
((i_ReadPacket k (p3.1.1, ())).bind fun p4 =>
(jn (
((s_DrawReadPacket k (x.1, ())).bind fun p15 =>
((i_ReadPacket k (p15.1, ())).bind fun p16 =>
((s_ReadPacket k (p15.1, ())).bind fun p17 =>
((i_PacketText k ((p16.1.1.1, (p16.1.1.2.1, (p16.1.1.2.2.1, (p16.1.1.2.2.2.1, (p16.1.1.2.2.2.2.1, (p16.1.1.2.2.2.2.2.1, (p16.1.1.2.2.2.2.2.2.1, ()))))))), ())).bind fun p18 =>
((s_DrawPlaces k (x.1, ())).bind fun p19 =>
((w_turned k (p3.1.1, (p19.1, ()))).bind fun p20 =>
((i_ReadPacket k (p20.1, ())).bind fun p21 =>
(if (decide (p16.1.2.1 = p17.1.2.1)) = true then
(if (!p16.1.2.1) = false then
(if (decide (p18.1.1 = p15.1)) = true then
(if (!p3.1.2.1) = false then
some ((!p21.1.2.1), ((), ()))
else
some (true, ((), ())))
else
some (false, ((), ())))
else
(if (!p3.1.2.1) = false then
some ((!p21.1.2.1), ((), ()))
else
some (true, ((), ()))))
else
some (false, ((), ()))))))))))) (fun (j1 : Option _) =>
((s_PacketOk k ((p2.1.1, (p2.1.2.1, (p2.1.2.2.1, (p2.1.2.2.2.1, (p2.1.2.2.2.2.1, (p2.1.2.2.2.2.2.1, (p2.1.2.2.2.2.2.2.1, ()))))))), ())).bind fun p5 =>
(if (!decide (p3.1.2.1 = p5.1)) = false then
((i_PacketOk k ((p2.1.1, (p2.1.2.1, (p2.1.2.2.1, (p2.1.2.2.2.1, (p2.1.2.2.2.2.1, (p2.1.2.2.2.2.2.1, (p2.1.2.2.2.2.2.2.1, ()))))))), ())).bind fun p6 =>
(if (!decide (p6.1 = p3.1.2.1)) = false then
(if p3.1.2.1 = true then
(if (!p4.1.2.1) = false then
((w_samePacket k ((p4.1.1.1, (p4.1.1.2.1, (p4.1.1.2.2.1, (p4.1.1.2.2.2.1, (p4.1.1.2.2.2.2.1, (p4.1.1.2.2.2.2.2.1, (p4.1.1.2.2.2.2.2.2.1, ()))))))), ((p2.1.1, (p2.1.2.1, (p2.1.2.2.1, (p2.1.2.2.2.1, (p2.1.2.2.2.2.1, (p2.1.2.2.2.2.2.1, (p2.1.2.2.2.2.2.2.1, ()))))))), ()))).bind fun p7 =>
(if (!p7.1) = true then
some (false, ((), ()))
else
j1))
else
some (false, ((), ())))
else
j1)
else
some (false, ((), ()))))
else
some (false, ((), ())))))))))))
theorem t_w_FnPackets (k : Nat) (x) : evF TTab k [⟨14, 0, (.cons (.il true (.int .u8)) .nil), .bool, w_big k⟩, ⟨19, 0, (.cons (.il true (.int .u8)) .nil), (.own false 3 (.int .i64)), s_DrawPlaces k⟩, ⟨40, 0, (.cons .str .nil), (.tup (.cons (.agg (.cons (.int .i64) (.cons (.int .i64) (.cons (.int .i64) (.cons (.int .i64) (.cons (.int .i64) (.cons (.own false 3 (.int .i64)) (.cons .str .nil)))))))) (.cons .bool .nil))), s_ReadPacket k⟩, ⟨41, 0, (.cons .str .nil), (.tup (.cons (.agg (.cons (.int .i64) (.cons (.int .i64) (.cons (.int .i64) (.cons (.int .i64) (.cons (.int .i64) (.cons (.own false 3 (.int .i64)) (.cons .str .nil)))))))) (.cons .bool .nil))), i_ReadPacket k⟩, ⟨45, 0, (.cons (.il true (.int .u8)) .nil), (.agg (.cons (.int .i64) (.cons (.int .i64) (.cons (.int .i64) (.cons (.int .i64) (.cons (.int .i64) (.cons (.own false 3 (.int .i64)) (.cons .str .nil)))))))), s_DrawPacketText k⟩, ⟨46, 0, (.cons (.agg (.cons (.int .i64) (.cons (.int .i64) (.cons (.int .i64) (.cons (.int .i64) (.cons (.int .i64) (.cons (.il true (.int .i64)) (.cons .str .nil)))))))) .nil), (.tup (.cons .str (.cons .bool .nil))), i_PacketText k⟩, ⟨47, 0, (.cons (.agg (.cons (.int .i64) (.cons (.int .i64) (.cons (.int .i64) (.cons (.int .i64) (.cons (.int .i64) (.cons (.il true (.int .i64)) (.cons .str .nil)))))))) .nil), .bool, s_PacketOk k⟩, ⟨48, 0, (.cons (.agg (.cons (.int .i64) (.cons (.int .i64) (.cons (.int .i64) (.cons (.int .i64) (.cons (.int .i64) (.cons (.il true (.int .i64)) (.cons .str .nil)))))))) .nil), .bool, i_PacketOk k⟩, ⟨49, 0, (.cons (.agg (.cons (.int .i64) (.cons (.int .i64) (.cons (.int .i64) (.cons (.int .i64) (.cons (.int .i64) (.cons (.il true (.int .i64)) (.cons .str .nil)))))))) (.cons (.agg (.cons (.int .i64) (.cons (.int .i64) (.cons (.int .i64) (.cons (.int .i64) (.cons (.int .i64) (.cons (.il true (.int .i64)) (.cons .str .nil)))))))) .nil)), .bool, w_samePacket k⟩, ⟨50, 0, (.cons (.il true (.int .u8)) .nil), .str, s_DrawReadPacket k⟩, ⟨51, 0, (.cons .str (.cons (.il true (.int .i64)) .nil)), .str, w_turned k⟩] [] Try.f9 (.cons (.il true (.int .u8)) .nil) .bool x = w_FnPackets k x := by kernel_rfl
theorem e_w_FnPackets (k : Nat) : EntryOk Try.prog ⟨9, 0, (.cons (.il true (.int .u8)) .nil), .bool, w_FnPackets k⟩ := entry_ok tok (by intro e he; simp only [List.mem_cons, List.not_mem_nil, or_false] at he; rcases he with rfl | rfl | rfl | rfl | rfl | rfl | rfl | rfl | rfl | rfl | rfl <;> first | exact e_w_big k | exact e_s_DrawPlaces k | exact e_s_ReadPacket k | exact e_i_ReadPacket k | exact e_s_DrawPacketText k | exact e_i_PacketText k | exact e_s_PacketOk k | exact e_i_PacketOk k | exact e_w_samePacket k | exact e_s_DrawReadPacket k | exact e_w_turned k) (by kernel_rfl) (fn := Try.f9) (k := k) (es := [⟨14, 0, (.cons (.il true (.int .u8)) .nil), .bool, w_big k⟩, ⟨19, 0, (.cons (.il true (.int .u8)) .nil), (.own false 3 (.int .i64)), s_DrawPlaces k⟩, ⟨40, 0, (.cons .str .nil), (.tup (.cons (.agg (.cons (.int .i64) (.cons (.int .i64) (.cons (.int .i64) (.cons (.int .i64) (.cons (.int .i64) (.cons (.own false 3 (.int .i64)) (.cons .str .nil)))))))) (.cons .bool .nil))), s_ReadPacket k⟩, ⟨41, 0, (.cons .str .nil), (.tup (.cons (.agg (.cons (.int .i64) (.cons (.int .i64) (.cons (.int .i64) (.cons (.int .i64) (.cons (.int .i64) (.cons (.own false 3 (.int .i64)) (.cons .str .nil)))))))) (.cons .bool .nil))), i_ReadPacket k⟩, ⟨45, 0, (.cons (.il true (.int .u8)) .nil), (.agg (.cons (.int .i64) (.cons (.int .i64) (.cons (.int .i64) (.cons (.int .i64) (.cons (.int .i64) (.cons (.own false 3 (.int .i64)) (.cons .str .nil)))))))), s_DrawPacketText k⟩, ⟨46, 0, (.cons (.agg (.cons (.int .i64) (.cons (.int .i64) (.cons (.int .i64) (.cons (.int .i64) (.cons (.int .i64) (.cons (.il true (.int .i64)) (.cons .str .nil)))))))) .nil), (.tup (.cons .str (.cons .bool .nil))), i_PacketText k⟩, ⟨47, 0, (.cons (.agg (.cons (.int .i64) (.cons (.int .i64) (.cons (.int .i64) (.cons (.int .i64) (.cons (.int .i64) (.cons (.il true (.int .i64)) (.cons .str .nil)))))))) .nil), .bool, s_PacketOk k⟩, ⟨48, 0, (.cons (.agg (.cons (.int .i64) (.cons (.int .i64) (.cons (.int .i64) (.cons (.int .i64) (.cons (.int .i64) (.cons (.il true (.int .i64)) (.cons .str .nil)))))))) .nil), .bool, i_PacketOk k⟩, ⟨49, 0, (.cons (.agg (.cons (.int .i64) (.cons (.int .i64) (.cons (.int .i64) (.cons (.int .i64) (.cons (.int .i64) (.cons (.il true (.int .i64)) (.cons .str .nil)))))))) (.cons (.agg (.cons (.int .i64) (.cons (.int .i64) (.cons (.int .i64) (.cons (.int .i64) (.cons (.int .i64) (.cons (.il true (.int .i64)) (.cons .str .nil)))))))) .nil)), .bool, w_samePacket k⟩, ⟨50, 0, (.cons (.il true (.int .u8)) .nil), .str, s_DrawReadPacket k⟩, ⟨51, 0, (.cons .str (.cons (.il true (.int .i64)) .nil)), .str, w_turned k⟩]) (loops := []) (by kernel_rfl) (by kernel_rfl) (fun x r h => (t_w_FnPackets k x).trans h)
end Go.Proofs.Ytjmpbkkomiebhaa
