import Derived.Test.YtfgdejabocealaaFun1
/- What functions of the program compute, as plain functions, and that their calls do so (part 2). Conditions: the plain function answers. -/
set_option linter.unusedVariables false
namespace Go.Proofs.Ytfgdejabocealaa
open Go Go.Eng Go.Proofs
def s_l06Xor (k : Nat) (x : ByteArray × ByteArray × Unit) : Option (ByteArray × Unit × Unit × Unit) :=
(if ByteArray.size x.1 ≤ maxStr then
(whileK (fun (rec0 : (ByteArray × List (Int) × Int × Unit) → Option _) (y0 : ByteArray × List (Int) × Int × Unit) =>
(if (decide (y0.2.2.1 < (List.length y0.2.1 : Int))) = true then
(if 0 ≤ y0.2.2.1 ∧ y0.2.2.1 < (List.length y0.2.1 : Int) then
(if 0 ≤ y0.2.2.1 ∧ y0.2.2.1 < (ByteArray.size y0.1 : Int) then
(if 0 ≤ y0.2.2.1 ∧ y0.2.2.1 < (List.length y0.2.1 : Int) then
(rec0 (y0.1, ((List.set y0.2.1 (Int.toNat y0.2.2.1) (bitsI .xor .u8 (Ty.rd (t := (.int .u8)) y0.2.1 y0.2.2.1) (bt y0.1 y0.2.2.1))), ((wi64 (y0.2.2.1 + (1 : Int))), ()))))
else none)
else none)
else none)
else
((fun (z1 : List (Int) × Unit) =>
some ((strOf z1.1), ((), ((), ())))) (y0.2.1, ())))) k (x.2.1, ((bytesOf x.1), ((0 : Int), ()))))
else none)
theorem t_s_l06Xor (k : Nat) (x) : evF TTab k [] [(0, ⟨[1, 5, 6], (.cons .str (.cons (.own true 5 (.int .u8)) (.cons (.int .i64) .nil)))⟩, ⟨[5], (.cons (.own true 5 (.int .u8)) .nil)⟩)] Try.f76 (.cons .str (.cons .str .nil)) .str x = s_l06Xor k x := by kernel_rfl
theorem e_s_l06Xor (k : Nat) : EntryOk Try.prog ⟨76, 0, (.cons .str (.cons .str .nil)), .str, s_l06Xor k⟩ := entry_ok tok (by simp) (by kernel_rfl) (fn := Try.f76) (k := k) (es := []) (loops := [(0, ⟨[1, 5, 6], (.cons .str (.cons (.own true 5 (.int .u8)) (.cons (.int .i64) .nil)))⟩, ⟨[5], (.cons (.own true 5 (.int .u8)) .nil)⟩)]) (by kernel_rfl) (by kernel_rfl) (fun x r h => (t_s_l06Xor k x).trans h)
def s_l06Tag (k : Nat) (x : ByteArray × Int × ByteArray × Unit) : Option (ByteArray × Unit × Unit × Unit × Unit) :=
((s_l01Var k (x.2.1, ())).bind fun p1 =>
(if ByteArray.size (⟨#[116]⟩ : ByteArray) + ByteArray.size p1.1 ≤ maxStr then
(if ByteArray.size ((⟨#[116]⟩ : ByteArray) ++ p1.1) + ByteArray.size x.2.2.1 ≤ maxStr then
((s_MacOf k (x.1, ((((⟨#[116]⟩ : ByteArray) ++ p1.1) ++ x.2.2.1), ()))).bind fun p2 =>
(if 0 ≤ (16 : Int) ∧ (16 : Int) ≤ (ByteArray.size p2.1 : Int) then
some ((ByteArray.extract p2.1 (Int.toNat (0 : Int)) (Int.toNat (16 : Int))), ((), ((), ((), ()))))
else none))
else none)
else none))
theorem t_s_l06Tag (k : Nat) (x) : evF TTab k [⟨97, 0, (.cons .str (.cons .str .nil)), .str, s_MacOf k⟩, ⟨98, 0, (.cons (.int .i64) .nil), .str, s_l01Var k⟩] [] Try.f77 (.cons .str (.cons (.int .i64) (.cons .str .nil))) .str x = s_l06Tag k x := by kernel_rfl
theorem e_s_l06Tag (k : Nat) : EntryOk Try.prog ⟨77, 0, (.cons .str (.cons (.int .i64) (.cons .str .nil))), .str, s_l06Tag k⟩ := entry_ok tok (by intro e he; simp only [List.mem_cons, List.not_mem_nil, or_false] at he; rcases he with rfl | rfl <;> first | exact e_s_MacOf k | exact e_s_l01Var k) (by kernel_rfl) (fn := Try.f77) (k := k) (es := [⟨97, 0, (.cons .str (.cons .str .nil)), .str, s_MacOf k⟩, ⟨98, 0, (.cons (.int .i64) .nil), .str, s_l01Var k⟩]) (loops := []) (by kernel_rfl) (by kernel_rfl) (fun x r h => (t_s_l06Tag k x).trans h)
def s_LockText (k : Nat) (x : ByteArray × Int × ByteArray × Unit) : Option ((ByteArray × Bool × Unit) × Unit × Unit × Unit × Unit) :=
((s_Mask k (x.1, (x.2.1, ((ByteArray.size x.2.2.1 : Int), ())))).bind fun p1 =>
(if (!p1.1.2.1) = true then
some (((⟨#[]⟩ : ByteArray), (false, ())), ((), ((), ((), ()))))
else
((s_l06Xor k (x.2.2.1, (p1.1.1, ()))).bind fun p2 =>
((s_l06Tag k (x.1, (x.2.1, (p2.1, ())))).bind fun p3 =>
(if ByteArray.size p2.1 + ByteArray.size p3.1 ≤ maxStr then
some (((p2.1 ++ p3.1), (true, ())), ((), ((), ((), ()))))
else none)))))
theorem t_s_LockText (k : Nat) (x) : evF TTab k [⟨75, 0, (.cons .str (.cons (.int .i64) (.cons (.int .i64) .nil))), (.tup (.cons .str (.cons .bool .nil))), s_Mask k⟩, ⟨76, 0, (.cons .str (.cons .str .nil)), .str, s_l06Xor k⟩, ⟨77, 0, (.cons .str (.cons (.int .i64) (.cons .str .nil))), .str, s_l06Tag k⟩] [] Try.f46 (.cons .str (.cons (.int .i64) (.cons .str .nil))) (.tup (.cons .str (.cons .bool .nil))) x = s_LockText k x := by kernel_rfl
theorem e_s_LockText (k : Nat) : EntryOk Try.prog ⟨46, 0, (.cons .str (.cons (.int .i64) (.cons .str .nil))), (.tup (.cons .str (.cons .bool .nil))), s_LockText k⟩ := entry_ok tok (by intro e he; simp only [List.mem_cons, List.not_mem_nil, or_false] at he; rcases he with rfl | rfl | rfl <;> first | exact e_s_Mask k | exact e_s_l06Xor k | exact e_s_l06Tag k) (by kernel_rfl) (fn := Try.f46) (k := k) (es := [⟨75, 0, (.cons .str (.cons (.int .i64) (.cons (.int .i64) .nil))), (.tup (.cons .str (.cons .bool .nil))), s_Mask k⟩, ⟨76, 0, (.cons .str (.cons .str .nil)), .str, s_l06Xor k⟩, ⟨77, 0, (.cons .str (.cons (.int .i64) (.cons .str .nil))), .str, s_l06Tag k⟩]) (loops := []) (by kernel_rfl) (by kernel_rfl) (fun x r h => (t_s_LockText k x).trans h)
def s_SealData (k : Nat) (x : (Int × ByteArray × ByteArray × Int × List (Int) × Int × Int × ByteArray × ByteArray × Int × List (Int) × Int × Unit) × Int × Int × ByteArray × Unit) : Option (((Int × ByteArray × ByteArray × Int × List (Int) × Int × Int × ByteArray × ByteArray × Int × List (Int) × Int × Unit) × (Int × Int × Int × Int × Int × List (Int) × ByteArray × Unit) × Bool × Unit) × Unit × Unit × Unit × Unit × Unit) :=
((s_l17Copy k ((x.1.1, (x.1.2.1, (x.1.2.2.1, (x.1.2.2.2.1, (x.1.2.2.2.2.1, (x.1.2.2.2.2.2.1, (x.1.2.2.2.2.2.2.1, (x.1.2.2.2.2.2.2.2.1, (x.1.2.2.2.2.2.2.2.2.1, (x.1.2.2.2.2.2.2.2.2.2.1, (x.1.2.2.2.2.2.2.2.2.2.2.1, (x.1.2.2.2.2.2.2.2.2.2.2.2.1, ())))))))))))), ())).bind fun p1 =>
((s_SlotsOk k ((x.1.1, (x.1.2.1, (x.1.2.2.1, (x.1.2.2.2.1, (x.1.2.2.2.2.1, (x.1.2.2.2.2.2.1, (x.1.2.2.2.2.2.2.1, (x.1.2.2.2.2.2.2.2.1, (x.1.2.2.2.2.2.2.2.2.1, (x.1.2.2.2.2.2.2.2.2.2.1, (x.1.2.2.2.2.2.2.2.2.2.2.1, (x.1.2.2.2.2.2.2.2.2.2.2.2.1, ())))))))))))), ())).bind fun p2 =>
(if (!p2.1) = false then
((s_Spent k ((x.1.1, (x.1.2.1, (x.1.2.2.1, (x.1.2.2.2.1, (x.1.2.2.2.2.1, (x.1.2.2.2.2.2.1, (x.1.2.2.2.2.2.2.1, (x.1.2.2.2.2.2.2.2.1, (x.1.2.2.2.2.2.2.2.2.1, (x.1.2.2.2.2.2.2.2.2.2.1, (x.1.2.2.2.2.2.2.2.2.2.2.1, (x.1.2.2.2.2.2.2.2.2.2.2.2.1, ())))))))))))), ())).bind fun p3 =>
(if p3.1 = false then
((s_l01In k (x.2.1, ((1 : Int), ((99 : Int), ())))).bind fun p4 =>
(if (!p4.1) = false then
((s_l01In k (x.2.2.1, ((1 : Int), ((99 : Int), ())))).bind fun p5 =>
(if (!p5.1) = false then
(if (decide ((104 : Int) < (ByteArray.size x.2.2.2.1 : Int))) = true then
some (((p1.1.1, (p1.1.2.1, (p1.1.2.2.1, (p1.1.2.2.2.1, (p1.1.2.2.2.2.1, (p1.1.2.2.2.2.2.1, (p1.1.2.2.2.2.2.2.1, (p1.1.2.2.2.2.2.2.2.1, (p1.1.2.2.2.2.2.2.2.2.1, (p1.1.2.2.2.2.2.2.2.2.2.1, (p1.1.2.2.2.2.2.2.2.2.2.2.1, (p1.1.2.2.2.2.2.2.2.2.2.2.2.1, ())))))))))))), (((0 : Int), ((0 : Int), ((0 : Int), ((0 : Int), ((0 : Int), ([], ((⟨#[]⟩ : ByteArray), ()))))))), (false, ()))), ((), ((), ((), ((), ())))))
else
((s_LockText k (x.1.2.1, ((wi64 (x.1.2.2.2.1 + (1 : Int))), (x.2.2.2.1, ())))).bind fun p6 =>
some (((p1.1.1, (p1.1.2.1, (p1.1.2.2.1, ((wi64 (x.1.2.2.2.1 + (1 : Int))), (p1.1.2.2.2.2.1, (p1.1.2.2.2.2.2.1, (p1.1.2.2.2.2.2.2.1, (p1.1.2.2.2.2.2.2.2.1, (p1.1.2.2.2.2.2.2.2.2.1, (p1.1.2.2.2.2.2.2.2.2.2.1, (p1.1.2.2.2.2.2.2.2.2.2.2.1, (p1.1.2.2.2.2.2.2.2.2.2.2.2.1, ())))))))))))), (((3 : Int), ((Int.tmod x.1.1 (8 : Int)), (x.2.1, (x.2.2.1, ((wi64 (x.1.2.2.2.1 + (1 : Int))), ([], (p6.1.1, ()))))))), (true, ()))), ((), ((), ((), ((), ())))))))
else
some (((p1.1.1, (p1.1.2.1, (p1.1.2.2.1, (p1.1.2.2.2.1, (p1.1.2.2.2.2.1, (p1.1.2.2.2.2.2.1, (p1.1.2.2.2.2.2.2.1, (p1.1.2.2.2.2.2.2.2.1, (p1.1.2.2.2.2.2.2.2.2.1, (p1.1.2.2.2.2.2.2.2.2.2.1, (p1.1.2.2.2.2.2.2.2.2.2.2.1, (p1.1.2.2.2.2.2.2.2.2.2.2.2.1, ())))))))))))), (((0 : Int), ((0 : Int), ((0 : Int), ((0 : Int), ((0 : Int), ([], ((⟨#[]⟩ : ByteArray), ()))))))), (false, ()))), ((), ((), ((), ((), ())))))))
else
some (((p1.1.1, (p1.1.2.1, (p1.1.2.2.1, (p1.1.2.2.2.1, (p1.1.2.2.2.2.1, (p1.1.2.2.2.2.2.1, (p1.1.2.2.2.2.2.2.1, (p1.1.2.2.2.2.2.2.2.1, (p1.1.2.2.2.2.2.2.2.2.1, (p1.1.2.2.2.2.2.2.2.2.2.1, (p1.1.2.2.2.2.2.2.2.2.2.2.1, (p1.1.2.2.2.2.2.2.2.2.2.2.2.1, ())))))))))))), (((0 : Int), ((0 : Int), ((0 : Int), ((0 : Int), ((0 : Int), ([], ((⟨#[]⟩ : ByteArray), ()))))))), (false, ()))), ((), ((), ((), ((), ())))))))
else
some (((p1.1.1, (p1.1.2.1, (p1.1.2.2.1, (p1.1.2.2.2.1, (p1.1.2.2.2.2.1, (p1.1.2.2.2.2.2.1, (p1.1.2.2.2.2.2.2.1, (p1.1.2.2.2.2.2.2.2.1, (p1.1.2.2.2.2.2.2.2.2.1, (p1.1.2.2.2.2.2.2.2.2.2.1, (p1.1.2.2.2.2.2.2.2.2.2.2.1, (p1.1.2.2.2.2.2.2.2.2.2.2.2.1, ())))))))))))), (((0 : Int), ((0 : Int), ((0 : Int), ((0 : Int), ((0 : Int), ([], ((⟨#[]⟩ : ByteArray), ()))))))), (false, ()))), ((), ((), ((), ((), ())))))))
else
some (((p1.1.1, (p1.1.2.1, (p1.1.2.2.1, (p1.1.2.2.2.1, (p1.1.2.2.2.2.1, (p1.1.2.2.2.2.2.1, (p1.1.2.2.2.2.2.2.1, (p1.1.2.2.2.2.2.2.2.1, (p1.1.2.2.2.2.2.2.2.2.1, (p1.1.2.2.2.2.2.2.2.2.2.1, (p1.1.2.2.2.2.2.2.2.2.2.2.1, (p1.1.2.2.2.2.2.2.2.2.2.2.2.1, ())))))))))))), (((0 : Int), ((0 : Int), ((0 : Int), ((0 : Int), ((0 : Int), ([], ((⟨#[]⟩ : ByteArray), ()))))))), (false, ()))), ((), ((), ((), ((), ()))))))))
theorem t_s_SealData (k : Nat) (x) : evF TTab k [⟨42, 0, (.cons (.agg (.cons (.int .i64) (.cons .str (.cons .str (.cons (.int .i64) (.cons (.il true (.int .i64)) (.cons (.int .i64) (.cons (.int .i64) (.cons .str (.cons .str (.cons (.int .i64) (.cons (.il true (.int .i64)) (.cons (.int .i64) .nil))))))))))))) .nil), (.agg (.cons (.int .i64) (.cons .str (.cons .str (.cons (.int .i64) (.cons (.own false 3 (.int .i64)) (.cons (.int .i64) (.cons (.int .i64) (.cons .str (.cons .str (.cons (.int .i64) (.cons (.own false 3 (.int .i64)) (.cons (.int .i64) .nil))))))))))))), s_l17Copy k⟩, ⟨43, 0, (.cons (.agg (.cons (.int .i64) (.cons .str (.cons .str (.cons (.int .i64) (.cons (.il true (.int .i64)) (.cons (.int .i64) (.cons (.int .i64) (.cons .str (.cons .str (.cons (.int .i64) (.cons (.il true (.int .i64)) (.cons (.int .i64) .nil))))))))))))) .nil), .bool, s_SlotsOk k⟩, ⟨44, 0, (.cons (.agg (.cons (.int .i64) (.cons .str (.cons .str (.cons (.int .i64) (.cons (.il true (.int .i64)) (.cons (.int .i64) (.cons (.int .i64) (.cons .str (.cons .str (.cons (.int .i64) (.cons (.il true (.int .i64)) (.cons (.int .i64) .nil))))))))))))) .nil), .bool, s_Spent k⟩, ⟨45, 0, (.cons (.int .i64) (.cons (.int .i64) (.cons (.int .i64) .nil))), .bool, s_l01In k⟩, ⟨46, 0, (.cons .str (.cons (.int .i64) (.cons .str .nil))), (.tup (.cons .str (.cons .bool .nil))), s_LockText k⟩] [] Try.f17 (.cons (.agg (.cons (.int .i64) (.cons .str (.cons .str (.cons (.int .i64) (.cons (.il true (.int .i64)) (.cons (.int .i64) (.cons (.int .i64) (.cons .str (.cons .str (.cons (.int .i64) (.cons (.il true (.int .i64)) (.cons (.int .i64) .nil))))))))))))) (.cons (.int .i64) (.cons (.int .i64) (.cons .str .nil)))) (.tup (.cons (.agg (.cons (.int .i64) (.cons .str (.cons .str (.cons (.int .i64) (.cons (.own false 3 (.int .i64)) (.cons (.int .i64) (.cons (.int .i64) (.cons .str (.cons .str (.cons (.int .i64) (.cons (.own false 3 (.int .i64)) (.cons (.int .i64) .nil))))))))))))) (.cons (.agg (.cons (.int .i64) (.cons (.int .i64) (.cons (.int .i64) (.cons (.int .i64) (.cons (.int .i64) (.cons (.own false 3 (.int .i64)) (.cons .str .nil)))))))) (.cons .bool .nil)))) x = s_SealData k x := by kernel_rfl
theorem e_s_SealData (k : Nat) : EntryOk Try.prog ⟨17, 0, (.cons (.agg (.cons (.int .i64) (.cons .str (.cons .str (.cons (.int .i64) (.cons (.il true (.int .i64)) (.cons (.int .i64) (.cons (.int .i64) (.cons .str (.cons .str (.cons (.int .i64) (.cons (.il true (.int .i64)) (.cons (.int .i64) .nil))))))))))))) (.cons (.int .i64) (.cons (.int .i64) (.cons .str .nil)))), (.tup (.cons (.agg (.cons (.int .i64) (.cons .str (.cons .str (.cons (.int .i64) (.cons (.own false 3 (.int .i64)) (.cons (.int .i64) (.cons (.int .i64) (.cons .str (.cons .str (.cons (.int .i64) (.cons (.own false 3 (.int .i64)) (.cons (.int .i64) .nil))))))))))))) (.cons (.agg (.cons (.int .i64) (.cons (.int .i64) (.cons (.int .i64) (.cons (.int .i64) (.cons (.int .i64) (.cons (.own false 3 (.int .i64)) (.cons .str .nil)))))))) (.cons .bool .nil)))), s_SealData k⟩ := entry_ok tok (by intro e he; simp only [List.mem_cons, List.not_mem_nil, or_false] at he; rcases he with rfl | rfl | rfl | rfl | rfl <;> first | exact e_s_l17Copy k | exact e_s_SlotsOk k | exact e_s_Spent k | exact e_s_l01In k | exact e_s_LockText k) (by kernel_rfl) (fn := Try.f17) (k := k) (es := [⟨42, 0, (.cons (.agg (.cons (.int .i64) (.cons .str (.cons .str (.cons (.int .i64) (.cons (.il true (.int .i64)) (.cons (.int .i64) (.cons (.int .i64) (.cons .str (.cons .str (.cons (.int .i64) (.cons (.il true (.int .i64)) (.cons (.int .i64) .nil))))))))))))) .nil), (.agg (.cons (.int .i64) (.cons .str (.cons .str (.cons (.int .i64) (.cons (.own false 3 (.int .i64)) (.cons (.int .i64) (.cons (.int .i64) (.cons .str (.cons .str (.cons (.int .i64) (.cons (.own false 3 (.int .i64)) (.cons (.int .i64) .nil))))))))))))), s_l17Copy k⟩, ⟨43, 0, (.cons (.agg (.cons (.int .i64) (.cons .str (.cons .str (.cons (.int .i64) (.cons (.il true (.int .i64)) (.cons (.int .i64) (.cons (.int .i64) (.cons .str (.cons .str (.cons (.int .i64) (.cons (.il true (.int .i64)) (.cons (.int .i64) .nil))))))))))))) .nil), .bool, s_SlotsOk k⟩, ⟨44, 0, (.cons (.agg (.cons (.int .i64) (.cons .str (.cons .str (.cons (.int .i64) (.cons (.il true (.int .i64)) (.cons (.int .i64) (.cons (.int .i64) (.cons .str (.cons .str (.cons (.int .i64) (.cons (.il true (.int .i64)) (.cons (.int .i64) .nil))))))))))))) .nil), .bool, s_Spent k⟩, ⟨45, 0, (.cons (.int .i64) (.cons (.int .i64) (.cons (.int .i64) .nil))), .bool, s_l01In k⟩, ⟨46, 0, (.cons .str (.cons (.int .i64) (.cons .str .nil))), (.tup (.cons .str (.cons .bool .nil))), s_LockText k⟩]) (loops := []) (by kernel_rfl) (by kernel_rfl) (fun x r h => (t_s_SealData k x).trans h)
def i_noSlot (k : Nat) (x : (Int × ByteArray × ByteArray × Int × List (Int) × Int × Unit) × Unit) : Option (Bool × Unit × Unit) :=
(if (decide (x.1.1 = (0 : Int))) = true then
(if (decide (x.1.2.1 = (⟨#[]⟩ : ByteArray))) = true then
(if (decide (x.1.2.2.1 = (⟨#[]⟩ : ByteArray))) = true then
(if (decide (x.1.2.2.2.1 = (0 : Int))) = true then
(if (decide ((List.length x.1.2.2.2.2.1 : Int) = (0 : Int))) = true then
some ((decide (x.1.2.2.2.2.2.1 = (0 : Int))), ((), ()))
else
some (false, ((), ())))
else
some (false, ((), ())))
else
some (false, ((), ())))
else
some (false, ((), ())))
else
some (false, ((), ())))
theorem t_i_noSlot (k : Nat) (x) : evF TTab k [] [] Try.f62 (.cons (.agg (.cons (.int .i64) (.cons .str (.cons .str (.cons (.int .i64) (.cons (.il true (.int .i64)) (.cons (.int .i64) .nil))))))) .nil) .bool x = i_noSlot k x := by kernel_rfl
theorem e_i_noSlot (k : Nat) : EntryOk Try.prog ⟨62, 0, (.cons (.agg (.cons (.int .i64) (.cons .str (.cons .str (.cons (.int .i64) (.cons (.il true (.int .i64)) (.cons (.int .i64) .nil))))))) .nil), .bool, i_noSlot k⟩ := entry_ok tok (by simp) (by kernel_rfl) (fn := Try.f62) (k := k) (es := []) (loops := []) (by kernel_rfl) (by kernel_rfl) (fun x r h => (t_i_noSlot k x).trans h)
def i_Spent (k : Nat) (x : (Int × ByteArray × ByteArray × Int × List (Int) × Int × Int × ByteArray × ByteArray × Int × List (Int) × Int × Unit) × Unit) : Option (Bool × Unit × Unit) :=
((i_noSlot k ((x.1.1, (x.1.2.1, (x.1.2.2.1, (x.1.2.2.2.1, (x.1.2.2.2.2.1, (x.1.2.2.2.2.2.1, ())))))), ())).bind fun p1 =>
(if p1.1 = false then
some ((decide (x.1.2.2.2.1 = (12 : Int))), ((), ()))
else
some (true, ((), ()))))
theorem t_i_Spent (k : Nat) (x) : evF TTab k [⟨62, 0, (.cons (.agg (.cons (.int .i64) (.cons .str (.cons .str (.cons (.int .i64) (.cons (.il true (.int .i64)) (.cons (.int .i64) .nil))))))) .nil), .bool, i_noSlot k⟩] [] Try.f32 (.cons (.agg (.cons (.int .i64) (.cons .str (.cons .str (.cons (.int .i64) (.cons (.il true (.int .i64)) (.cons (.int .i64) (.cons (.int .i64) (.cons .str (.cons .str (.cons (.int .i64) (.cons (.il true (.int .i64)) (.cons (.int .i64) .nil))))))))))))) .nil) .bool x = i_Spent k x := by kernel_rfl
theorem e_i_Spent (k : Nat) : EntryOk Try.prog ⟨32, 0, (.cons (.agg (.cons (.int .i64) (.cons .str (.cons .str (.cons (.int .i64) (.cons (.il true (.int .i64)) (.cons (.int .i64) (.cons (.int .i64) (.cons .str (.cons .str (.cons (.int .i64) (.cons (.il true (.int .i64)) (.cons (.int .i64) .nil))))))))))))) .nil), .bool, i_Spent k⟩ := entry_ok tok (by intro e he; simp only [List.mem_cons, List.not_mem_nil, or_false] at he; rcases he with rfl <;> first | exact e_i_noSlot k) (by kernel_rfl) (fn := Try.f32) (k := k) (es := [⟨62, 0, (.cons (.agg (.cons (.int .i64) (.cons .str (.cons .str (.cons (.int .i64) (.cons (.il true (.int .i64)) (.cons (.int .i64) .nil))))))) .nil), .bool, i_noSlot k⟩]) (loops := []) (by kernel_rfl) (by kernel_rfl) (fun x r h => (t_i_Spent k x).trans h)
def w_big (k : Nat) (x : List (Int) × Unit) : Option (Bool × Unit × Unit) :=
some ((decide ((1048576 : Int) < (List.length x.1 : Int))), ((), ()))
theorem t_w_big (k : Nat) (x) : evF TTab k [] [] Try.f22 (.cons (.il true (.int .u8)) .nil) .bool x = w_big k x := by kernel_rfl
theorem e_w_big (k : Nat) : EntryOk Try.prog ⟨22, 0, (.cons (.il true (.int .u8)) .nil), .bool, w_big k⟩ := entry_ok tok (by simp) (by kernel_rfl) (fn := Try.f22) (k := k) (es := []) (loops := []) (by kernel_rfl) (by kernel_rfl) (fun x r h => (t_w_big k x).trans h)
def s_l01Byte (k : Nat) (x : (List (Int) × Int × Int × Unit) × Unit) : Option (Int × (List (Int) × Int × Int × Unit) × Unit) :=
(if (decide (x.1.2.1 < (List.length x.1.1 : Int))) = true then
(if 0 ≤ x.1.2.1 ∧ x.1.2.1 < (List.length x.1.1 : Int) then
some ((bitsI .and .i64 (wi64 ((bitsI .and .i64 (bitsI .xor .i64 (Int.fdiv (wi64 ((wi64 (x.1.2.2.1 * (6364136223846793005 : Int))) + (1442695040888963407 : Int))) (2 ^ (min (Int.toNat (33 : Int)) (IntKind.bits .i64)))) (Int.fdiv (wi64 ((wi64 (x.1.2.2.1 * (6364136223846793005 : Int))) + (1442695040888963407 : Int))) (2 ^ (min (Int.toNat (45 : Int)) (IntKind.bits .i64))))) (255 : Int)) + (wi64 ((Ty.rd (t := (.int .u8)) x.1.1 x.1.2.1))))) (255 : Int)), ((x.1.1, ((wi64 (x.1.2.1 + (1 : Int))), ((wi64 ((wi64 (x.1.2.2.1 * (6364136223846793005 : Int))) + (1442695040888963407 : Int))), ()))), ()))
else none)
else
some ((bitsI .and .i64 (bitsI .xor .i64 (Int.fdiv (wi64 ((wi64 (x.1.2.2.1 * (6364136223846793005 : Int))) + (1442695040888963407 : Int))) (2 ^ (min (Int.toNat (33 : Int)) (IntKind.bits .i64)))) (Int.fdiv (wi64 ((wi64 (x.1.2.2.1 * (6364136223846793005 : Int))) + (1442695040888963407 : Int))) (2 ^ (min (Int.toNat (45 : Int)) (IntKind.bits .i64))))) (255 : Int)), ((x.1.1, (x.1.2.1, ((wi64 ((wi64 (x.1.2.2.1 * (6364136223846793005 : Int))) + (1442695040888963407 : Int))), ()))), ())))
theorem t_s_l01Byte (k : Nat) (x) : evF TTab k [] [] Try.f55 (.cons (.ptr 0 (.cons (.il true (.int .u8)) (.cons (.int .i64) (.cons (.int .i64) .nil)))) .nil) (.int .i64) x = s_l01Byte k x := by kernel_rfl
theorem e_s_l01Byte (k : Nat) : EntryOk Try.prog ⟨55, 0, (.cons (.ptr 0 (.cons (.il true (.int .u8)) (.cons (.int .i64) (.cons (.int .i64) .nil)))) .nil), (.int .i64), s_l01Byte k⟩ := entry_ok tok (by simp) (by kernel_rfl) (fn := Try.f55) (k := k) (es := []) (loops := []) (by kernel_rfl) (by kernel_rfl) (fun x r h => (t_s_l01Byte k x).trans h)
def s_l01Below (k : Nat) (x : (List (Int) × Int × Int × Unit) × Int × Unit) : Option (Int × (List (Int) × Int × Int × Unit) × Unit × Unit) :=
(if (decide (x.2.1 ≤ (0 : Int))) = true then
some ((0 : Int), ((x.1.1, (x.1.2.1, (x.1.2.2.1, ()))), ((), ())))
else
(if (decide (x.2.1 ≤ (256 : Int))) = true then
((s_l01Byte k ((x.1.1, (x.1.2.1, (x.1.2.2.1, ()))), ())).bind fun p1 =>
(if x.2.1 = 0 then
none
else
some ((Int.tmod p1.1 x.2.1), ((p1.2.1.1, (p1.2.1.2.1, (p1.2.1.2.2.1, ()))), ((), ())))))
else
((s_l01Byte k ((x.1.1, (x.1.2.1, (x.1.2.2.1, ()))), ())).bind fun p2 =>
((s_l01Byte k ((p2.2.1.1, (p2.2.1.2.1, (p2.2.1.2.2.1, ()))), ())).bind fun p3 =>
((s_l01Byte k ((p3.2.1.1, (p3.2.1.2.1, (p3.2.1.2.2.1, ()))), ())).bind fun p4 =>
((s_l01Byte k ((p4.2.1.1, (p4.2.1.2.1, (p4.2.1.2.2.1, ()))), ())).bind fun p5 =>
(if x.2.1 = 0 then
none
else
some ((Int.tmod (wi64 ((wi64 ((wi64 ((wi64 (p2.1 * (16777216 : Int))) + (wi64 (p3.1 * (65536 : Int))))) + (wi64 (p4.1 * (256 : Int))))) + p5.1)) x.2.1), ((p5.2.1.1, (p5.2.1.2.1, (p5.2.1.2.2.1, ()))), ((), ()))))))))))
theorem t_s_l01Below (k : Nat) (x) : evF TTab k [⟨55, 0, (.cons (.ptr 0 (.cons (.il true (.int .u8)) (.cons (.int .i64) (.cons (.int .i64) .nil)))) .nil), (.int .i64), s_l01Byte k⟩] [] Try.f56 (.cons (.ptr 0 (.cons (.il true (.int .u8)) (.cons (.int .i64) (.cons (.int .i64) .nil)))) (.cons (.int .i64) .nil)) (.int .i64) x = s_l01Below k x := by kernel_rfl
theorem e_s_l01Below (k : Nat) : EntryOk Try.prog ⟨56, 0, (.cons (.ptr 0 (.cons (.il true (.int .u8)) (.cons (.int .i64) (.cons (.int .i64) .nil)))) (.cons (.int .i64) .nil)), (.int .i64), s_l01Below k⟩ := entry_ok tok (by intro e he; simp only [List.mem_cons, List.not_mem_nil, or_false] at he; rcases he with rfl <;> first | exact e_s_l01Byte k) (by kernel_rfl) (fn := Try.f56) (k := k) (es := [⟨55, 0, (.cons (.ptr 0 (.cons (.il true (.int .u8)) (.cons (.int .i64) (.cons (.int .i64) .nil)))) .nil), (.int .i64), s_l01Byte k⟩]) (loops := []) (by kernel_rfl) (by kernel_rfl) (fun x r h => (t_s_l01Below k x).trans h)
def s_l01Text (k : Nat) (x : (List (Int) × Int × Int × Unit) × Int × Unit) : Option (ByteArray × (List (Int) × Int × Int × Unit) × Unit × Unit) :=
(jn (fun (j1v0 : Int) =>
(whileK (fun (rec0 : ((List (Int) × Int × Int × Unit) × Int × List (Int) × Int × Unit) → Option _) (y0 : (List (Int) × Int × Int × Unit) × Int × List (Int) × Int × Unit) =>
(if (decide (y0.2.2.2.1 < y0.2.1)) = true then
((s_l01Byte k ((y0.1.1, (y0.1.2.1, (y0.1.2.2.1, ()))), ())).bind fun p2 =>
(if List.length y0.2.2.1 + List.length ([(wu8 (p2.1))] : List (Int)) ≤ capMax then
(rec0 ((p2.2.1.1, (p2.2.1.2.1, (p2.2.1.2.2.1, ()))), (y0.2.1, ((y0.2.2.1 ++ ([(wu8 (p2.1))] : List (Int))), ((wi64 (y0.2.2.2.1 + (1 : Int))), ())))))
else none))
else
((fun (z2 : (List (Int) × Int × Int × Unit) × List (Int) × Unit) =>
some ((strOf z2.2.1), ((z2.1.1, (z2.1.2.1, (z2.1.2.2.1, ()))), ((), ())))) ((y0.1.1, (y0.1.2.1, (y0.1.2.2.1, ()))), (y0.2.2.1, ()))))) k ((x.1.1, (x.1.2.1, (x.1.2.2.1, ()))), (j1v0, (([] : List (Int)), ((0 : Int), ())))))) (fun (j1 : Int → Option _) =>
(if (decide ((5000 : Int) < x.2.1)) = true then
(j1 (5000 : Int))
else
(j1 x.2.1))))
theorem t_s_l01Text (k : Nat) (x) : evF TTab k [⟨55, 0, (.cons (.ptr 0 (.cons (.il true (.int .u8)) (.cons (.int .i64) (.cons (.int .i64) .nil)))) .nil), (.int .i64), s_l01Byte k⟩] [(0, ⟨[0, 1, 5, 6], (.cons (.ptr 0 (.cons (.il true (.int .u8)) (.cons (.int .i64) (.cons (.int .i64) .nil)))) (.cons (.int .i64) (.cons (.own false 5 (.int .u8)) (.cons (.int .i64) .nil))))⟩, ⟨[0, 5], (.cons (.ptr 0 (.cons (.il true (.int .u8)) (.cons (.int .i64) (.cons (.int .i64) .nil)))) (.cons (.own false 5 (.int .u8)) .nil))⟩)] Try.f63 (.cons (.ptr 0 (.cons (.il true (.int .u8)) (.cons (.int .i64) (.cons (.int .i64) .nil)))) (.cons (.int .i64) .nil)) .str x = s_l01Text k x := by kernel_rfl
theorem e_s_l01Text (k : Nat) : EntryOk Try.prog ⟨63, 0, (.cons (.ptr 0 (.cons (.il true (.int .u8)) (.cons (.int .i64) (.cons (.int .i64) .nil)))) (.cons (.int .i64) .nil)), .str, s_l01Text k⟩ := entry_ok tok (by intro e he; simp only [List.mem_cons, List.not_mem_nil, or_false] at he; rcases he with rfl <;> first | exact e_s_l01Byte k) (by kernel_rfl) (fn := Try.f63) (k := k) (es := [⟨55, 0, (.cons (.ptr 0 (.cons (.il true (.int .u8)) (.cons (.int .i64) (.cons (.int .i64) .nil)))) .nil), (.int .i64), s_l01Byte k⟩]) (loops := [(0, ⟨[0, 1, 5, 6], (.cons (.ptr 0 (.cons (.il true (.int .u8)) (.cons (.int .i64) (.cons (.int .i64) .nil)))) (.cons (.int .i64) (.cons (.own false 5 (.int .u8)) (.cons (.int .i64) .nil))))⟩, ⟨[0, 5], (.cons (.ptr 0 (.cons (.il true (.int .u8)) (.cons (.int .i64) (.cons (.int .i64) .nil)))) (.cons (.own false 5 (.int .u8)) .nil))⟩)]) (by kernel_rfl) (by kernel_rfl) (fun x r h => (t_s_l01Text k x).trans h)
def s_l13In (k : Nat) (x : List (Int) × Int × Unit) : Option (Bool × Unit × Unit × Unit) :=
(whileK (fun (rec0 : (List (Int) × Int × Int × Unit) → Option _) (y0 : List (Int) × Int × Int × Unit) =>
(if (decide (y0.2.2.1 < (List.length y0.1 : Int))) = true then
(if 0 ≤ y0.2.2.1 ∧ y0.2.2.1 < (List.length y0.1 : Int) then
(if (decide ((Ty.rd (t := (.int .i64)) y0.1 y0.2.2.1) = y0.2.1)) = true then
some (true, ((), ((), ())))
else
(rec0 (y0.1, (y0.2.1, ((wi64 (y0.2.2.1 + (1 : Int))), ())))))
else none)
else
((fun (z1 : Unit) =>
some (false, ((), ((), ())))) ()))) k (x.1, (x.2.1, ((0 : Int), ()))))
theorem t_s_l13In (k : Nat) (x) : evF TTab k [] [(0, ⟨[0, 1, 5], (.cons (.il true (.int .i64)) (.cons (.int .i64) (.cons (.int .i64) .nil)))⟩, ⟨[], .nil⟩)] Try.f125 (.cons (.il true (.int .i64)) (.cons (.int .i64) .nil)) .bool x = s_l13In k x := by kernel_rfl
theorem e_s_l13In (k : Nat) : EntryOk Try.prog ⟨125, 0, (.cons (.il true (.int .i64)) (.cons (.int .i64) .nil)), .bool, s_l13In k⟩ := entry_ok tok (by simp) (by kernel_rfl) (fn := Try.f125) (k := k) (es := []) (loops := [(0, ⟨[0, 1, 5], (.cons (.il true (.int .i64)) (.cons (.int .i64) (.cons (.int .i64) .nil)))⟩, ⟨[], .nil⟩)]) (by kernel_rfl) (by kernel_rfl) (fun x r h => (t_s_l13In k x).trans h)
def s_IsFresh (k : Nat) (x : List (Int) × Int × Unit) : Option (Bool × Unit × Unit × Unit) :=
((s_SeenOk k (x.1, ())).bind fun p1 =>
(if (!p1.1) = false then
((s_l01In k (x.2.1, ((1 : Int), ((1000000000 : Int), ())))).bind fun p2 =>
(if (!p2.1) = false then
((s_l13In k (x.1, (x.2.1, ()))).bind fun p3 =>
(if p3.1 = true then
some (false, ((), ((), ())))
else
(if (decide ((List.length x.1 : Int) = (0 : Int))) = false then
(if 0 ≤ (0 : Int) ∧ (0 : Int) < (List.length x.1 : Int) then
some ((decide ((wi64 ((Ty.rd (t := (.int .i64)) x.1 (0 : Int)) - (6 : Int))) < x.2.1)), ((), ((), ())))
else none)
else
some (true, ((), ((), ()))))))
else
some (false, ((), ((), ())))))
else
some (false, ((), ((), ())))))
theorem t_s_IsFresh (k : Nat) (x) : evF TTab k [⟨45, 0, (.cons (.int .i64) (.cons (.int .i64) (.cons (.int .i64) .nil))), .bool, s_l01In k⟩, ⟨96, 0, (.cons (.il true (.int .i64)) .nil), .bool, s_SeenOk k⟩, ⟨125, 0, (.cons (.il true (.int .i64)) (.cons (.int .i64) .nil)), .bool, s_l13In k⟩] [] Try.f103 (.cons (.il true (.int .i64)) (.cons (.int .i64) .nil)) .bool x = s_IsFresh k x := by kernel_rfl
theorem e_s_IsFresh (k : Nat) : EntryOk Try.prog ⟨103, 0, (.cons (.il true (.int .i64)) (.cons (.int .i64) .nil)), .bool, s_IsFresh k⟩ := entry_ok tok (by intro e he; simp only [List.mem_cons, List.not_mem_nil, or_false] at he; rcases he with rfl | rfl | rfl <;> first | exact e_s_l01In k | exact e_s_SeenOk k | exact e_s_l13In k) (by kernel_rfl) (fn := Try.f103) (k := k) (es := [⟨45, 0, (.cons (.int .i64) (.cons (.int .i64) (.cons (.int .i64) .nil))), .bool, s_l01In k⟩, ⟨96, 0, (.cons (.il true (.int .i64)) .nil), .bool, s_SeenOk k⟩, ⟨125, 0, (.cons (.il true (.int .i64)) (.cons (.int .i64) .nil)), .bool, s_l13In k⟩]) (loops := []) (by kernel_rfl) (by kernel_rfl) (fun x r h => (t_s_IsFresh k x).trans h)
def s_NoteSeen (k : Nat) (x : List (Int) × Int × Unit) : Option (List (Int) × Unit × Unit × Unit) :=
((s_IsFresh k (x.1, (x.2.1, ()))).bind fun p1 =>
(if (!p1.1) = true then
(if List.length ([] : List (Int)) + List.length x.1 ≤ capMax then
some ((([] : List (Int)) ++ x.1), ((), ((), ())))
else none)
else
(whileK (fun (rec0 : (List (Int) × Int × List (Int) × Int × Unit) → Option _) (y0 : List (Int) × Int × List (Int) × Int × Unit) =>
(if (decide (y0.2.2.2.1 < (List.length y0.1 : Int))) = true then
(if 0 ≤ y0.2.2.2.1 ∧ y0.2.2.2.1 < (List.length y0.1 : Int) then
(if (decide (y0.2.1 < (Ty.rd (t := (.int .i64)) y0.1 y0.2.2.2.1))) = true then
(if 0 ≤ y0.2.2.2.1 ∧ y0.2.2.2.1 < (List.length y0.1 : Int) then
(if List.length y0.2.2.1 + List.length ([(Ty.rd (t := (.int .i64)) y0.1 y0.2.2.2.1)] : List (Int)) ≤ capMax then
(rec0 (y0.1, (y0.2.1, ((y0.2.2.1 ++ ([(Ty.rd (t := (.int .i64)) y0.1 y0.2.2.2.1)] : List (Int))), ((wi64 (y0.2.2.2.1 + (1 : Int))), ())))))
else none)
else none)
else
(rec0 (y0.1, (y0.2.1, (y0.2.2.1, ((wi64 (y0.2.2.2.1 + (1 : Int))), ()))))))
else none)
else
((fun (z1 : List (Int) × Int × List (Int) × Unit) =>
(if List.length z1.2.2.1 + List.length ([z1.2.1] : List (Int)) ≤ capMax then
(whileK (fun (rec2 : (List (Int) × Int × List (Int) × Int × Unit) → Option _) (y2 : List (Int) × Int × List (Int) × Int × Unit) =>
(if (decide (y2.2.2.2.1 < (List.length y2.1 : Int))) = true then
(if 0 ≤ y2.2.2.2.1 ∧ y2.2.2.2.1 < (List.length y2.1 : Int) then
(if (decide ((Ty.rd (t := (.int .i64)) y2.1 y2.2.2.2.1) < y2.2.1)) = true then
(if 0 ≤ y2.2.2.2.1 ∧ y2.2.2.2.1 < (List.length y2.1 : Int) then
(if List.length y2.2.2.1 + List.length ([(Ty.rd (t := (.int .i64)) y2.1 y2.2.2.2.1)] : List (Int)) ≤ capMax then
(rec2 (y2.1, (y2.2.1, ((y2.2.2.1 ++ ([(Ty.rd (t := (.int .i64)) y2.1 y2.2.2.2.1)] : List (Int))), ((wi64 (y2.2.2.2.1 + (1 : Int))), ())))))
else none)
else none)
else
(rec2 (y2.1, (y2.2.1, (y2.2.2.1, ((wi64 (y2.2.2.2.1 + (1 : Int))), ()))))))
else none)
else
((fun (z2 : List (Int) × Unit) =>
(whileK (fun (rec4 : (List (Int) × List (Int) × Int × Unit) → Option _) (y4 : List (Int) × List (Int) × Int × Unit) =>
(if (decide (y4.2.2.1 < (List.length y4.1 : Int))) = true then
(if 0 ≤ y4.2.2.1 ∧ y4.2.2.1 < (List.length y4.1 : Int) then
(if 0 ≤ (0 : Int) ∧ (0 : Int) < (List.length y4.1 : Int) then
(if (decide ((wi64 ((Ty.rd (t := (.int .i64)) y4.1 (0 : Int)) - (6 : Int))) < (Ty.rd (t := (.int .i64)) y4.1 y4.2.2.1))) = true then
(if 0 ≤ y4.2.2.1 ∧ y4.2.2.1 < (List.length y4.1 : Int) then
(if List.length y4.2.1 + List.length ([(Ty.rd (t := (.int .i64)) y4.1 y4.2.2.1)] : List (Int)) ≤ capMax then
(rec4 (y4.1, ((y4.2.1 ++ ([(Ty.rd (t := (.int .i64)) y4.1 y4.2.2.1)] : List (Int))), ((wi64 (y4.2.2.1 + (1 : Int))), ()))))
else none)
else none)
else
(rec4 (y4.1, (y4.2.1, ((wi64 (y4.2.2.1 + (1 : Int))), ())))))
else none)
else none)
else
((fun (z3 : List (Int) × Unit) =>
some (z3.1, ((), ((), ())))) (y4.2.1, ())))) k (z2.1, (([] : List (Int)), ((0 : Int), ()))))) (y2.2.2.1, ())))) k (z1.1, (z1.2.1, ((z1.2.2.1 ++ ([z1.2.1] : List (Int))), ((0 : Int), ())))))
else none)) (y0.1, (y0.2.1, (y0.2.2.1, ())))))) k (x.1, (x.2.1, (([] : List (Int)), ((0 : Int), ())))))))
theorem t_s_NoteSeen (k : Nat) (x) : evF TTab k [⟨103, 0, (.cons (.il true (.int .i64)) (.cons (.int .i64) .nil)), .bool, s_IsFresh k⟩] [(0, ⟨[0, 1, 5, 6], (.cons (.il true (.int .i64)) (.cons (.int .i64) (.cons (.own false 3 (.int .i64)) (.cons (.int .i64) .nil))))⟩, ⟨[0, 1, 5], (.cons (.il true (.int .i64)) (.cons (.int .i64) (.cons (.own false 3 (.int .i64)) .nil)))⟩), (2, ⟨[0, 1, 5, 7], (.cons (.il true (.int .i64)) (.cons (.int .i64) (.cons (.own false 3 (.int .i64)) (.cons (.int .i64) .nil))))⟩, ⟨[5], (.cons (.own false 3 (.int .i64)) .nil)⟩), (4, ⟨[5, 8, 9], (.cons (.own false 3 (.int .i64)) (.cons (.own false 3 (.int .i64)) (.cons (.int .i64) .nil)))⟩, ⟨[8], (.cons (.own false 3 (.int .i64)) .nil)⟩)] Try.f81 (.cons (.il true (.int .i64)) (.cons (.int .i64) .nil)) (.own false 3 (.int .i64)) x = s_NoteSeen k x := by kernel_rfl
theorem e_s_NoteSeen (k : Nat) : EntryOk Try.prog ⟨81, 0, (.cons (.il true (.int .i64)) (.cons (.int .i64) .nil)), (.own false 3 (.int .i64)), s_NoteSeen k⟩ := entry_ok tok (by intro e he; simp only [List.mem_cons, List.not_mem_nil, or_false] at he; rcases he with rfl <;> first | exact e_s_IsFresh k) (by kernel_rfl) (fn := Try.f81) (k := k) (es := [⟨103, 0, (.cons (.il true (.int .i64)) (.cons (.int .i64) .nil)), .bool, s_IsFresh k⟩]) (loops := [(0, ⟨[0, 1, 5, 6], (.cons (.il true (.int .i64)) (.cons (.int .i64) (.cons (.own false 3 (.int .i64)) (.cons (.int .i64) .nil))))⟩, ⟨[0, 1, 5], (.cons (.il true (.int .i64)) (.cons (.int .i64) (.cons (.own false 3 (.int .i64)) .nil)))⟩), (2, ⟨[0, 1, 5, 7], (.cons (.il true (.int .i64)) (.cons (.int .i64) (.cons (.own false 3 (.int .i64)) (.cons (.int .i64) .nil))))⟩, ⟨[5], (.cons (.own false 3 (.int .i64)) .nil)⟩), (4, ⟨[5, 8, 9], (.cons (.own false 3 (.int .i64)) (.cons (.own false 3 (.int .i64)) (.cons (.int .i64) .nil)))⟩, ⟨[8], (.cons (.own false 3 (.int .i64)) .nil)⟩)]) (by kernel_rfl) (by kernel_rfl) (fun x r h => (t_s_NoteSeen k x).trans h)
def s_TidySlots (k : Nat) (x : (Int × ByteArray × ByteArray × Int × List (Int) × Int × Int × ByteArray × ByteArray × Int × List (Int) × Int × Unit) × Int × Unit) : Option ((Int × ByteArray × ByteArray × Int × List (Int) × Int × Int × ByteArray × ByteArray × Int × List (Int) × Int × Unit) × Unit × Unit × Unit) :=
((s_l17Copy k ((x.1.1, (x.1.2.1, (x.1.2.2.1, (x.1.2.2.2.1, (x.1.2.2.2.2.1, (x.1.2.2.2.2.2.1, (x.1.2.2.2.2.2.2.1, (x.1.2.2.2.2.2.2.2.1, (x.1.2.2.2.2.2.2.2.2.1, (x.1.2.2.2.2.2.2.2.2.2.1, (x.1.2.2.2.2.2.2.2.2.2.2.1, (x.1.2.2.2.2.2.2.2.2.2.2.2.1, ())))))))))))), ())).bind fun p1 =>
(if (decide (x.1.2.2.2.2.2.2.2.2.2.2.2.1 ≤ x.2.1)) = true then
some ((p1.1.1, (p1.1.2.1, (p1.1.2.2.1, (p1.1.2.2.2.1, (p1.1.2.2.2.2.1, (p1.1.2.2.2.2.2.1, ((0 : Int), ((⟨#[]⟩ : ByteArray), ((⟨#[]⟩ : ByteArray), ((0 : Int), ([], ((0 : Int), ())))))))))))), ((), ((), ())))
else
some ((p1.1.1, (p1.1.2.1, (p1.1.2.2.1, (p1.1.2.2.2.1, (p1.1.2.2.2.2.1, (p1.1.2.2.2.2.2.1, (p1.1.2.2.2.2.2.2.1, (p1.1.2.2.2.2.2.2.2.1, (p1.1.2.2.2.2.2.2.2.2.1, (p1.1.2.2.2.2.2.2.2.2.2.1, (p1.1.2.2.2.2.2.2.2.2.2.2.1, (p1.1.2.2.2.2.2.2.2.2.2.2.2.1, ())))))))))))), ((), ((), ())))))
theorem t_s_TidySlots (k : Nat) (x) : evF TTab k [⟨42, 0, (.cons (.agg (.cons (.int .i64) (.cons .str (.cons .str (.cons (.int .i64) (.cons (.il true (.int .i64)) (.cons (.int .i64) (.cons (.int .i64) (.cons .str (.cons .str (.cons (.int .i64) (.cons (.il true (.int .i64)) (.cons (.int .i64) .nil))))))))))))) .nil), (.agg (.cons (.int .i64) (.cons .str (.cons .str (.cons (.int .i64) (.cons (.own false 3 (.int .i64)) (.cons (.int .i64) (.cons (.int .i64) (.cons .str (.cons .str (.cons (.int .i64) (.cons (.own false 3 (.int .i64)) (.cons (.int .i64) .nil))))))))))))), s_l17Copy k⟩] [] Try.f82 (.cons (.agg (.cons (.int .i64) (.cons .str (.cons .str (.cons (.int .i64) (.cons (.il true (.int .i64)) (.cons (.int .i64) (.cons (.int .i64) (.cons .str (.cons .str (.cons (.int .i64) (.cons (.il true (.int .i64)) (.cons (.int .i64) .nil))))))))))))) (.cons (.int .i64) .nil)) (.agg (.cons (.int .i64) (.cons .str (.cons .str (.cons (.int .i64) (.cons (.own false 3 (.int .i64)) (.cons (.int .i64) (.cons (.int .i64) (.cons .str (.cons .str (.cons (.int .i64) (.cons (.own false 3 (.int .i64)) (.cons (.int .i64) .nil))))))))))))) x = s_TidySlots k x := by kernel_rfl
theorem e_s_TidySlots (k : Nat) : EntryOk Try.prog ⟨82, 0, (.cons (.agg (.cons (.int .i64) (.cons .str (.cons .str (.cons (.int .i64) (.cons (.il true (.int .i64)) (.cons (.int .i64) (.cons (.int .i64) (.cons .str (.cons .str (.cons (.int .i64) (.cons (.il true (.int .i64)) (.cons (.int .i64) .nil))))))))))))) (.cons (.int .i64) .nil)), (.agg (.cons (.int .i64) (.cons .str (.cons .str (.cons (.int .i64) (.cons (.own false 3 (.int .i64)) (.cons (.int .i64) (.cons (.int .i64) (.cons .str (.cons .str (.cons (.int .i64) (.cons (.own false 3 (.int .i64)) (.cons (.int .i64) .nil))))))))))))), s_TidySlots k⟩ := entry_ok tok (by intro e he; simp only [List.mem_cons, List.not_mem_nil, or_false] at he; rcases he with rfl <;> first | exact e_s_l17Copy k) (by kernel_rfl) (fn := Try.f82) (k := k) (es := [⟨42, 0, (.cons (.agg (.cons (.int .i64) (.cons .str (.cons .str (.cons (.int .i64) (.cons (.il true (.int .i64)) (.cons (.int .i64) (.cons (.int .i64) (.cons .str (.cons .str (.cons (.int .i64) (.cons (.il true (.int .i64)) (.cons (.int .i64) .nil))))))))))))) .nil), (.agg (.cons (.int .i64) (.cons .str (.cons .str (.cons (.int .i64) (.cons (.own false 3 (.int .i64)) (.cons (.int .i64) (.cons (.int .i64) (.cons .str (.cons .str (.cons (.int .i64) (.cons (.own false 3 (.int .i64)) (.cons (.int .i64) .nil))))))))))))), s_l17Copy k⟩]) (loops := []) (by kernel_rfl) (by kernel_rfl) (fun x r h => (t_s_TidySlots k x).trans h)
def s_l17Slots (k : Nat) (x : (List (Int) × Int × Int × Unit) × Unit) : Option ((Int × ByteArray × ByteArray × Int × List (Int) × Int × Int × ByteArray × ByteArray × Int × List (Int) × Int × Unit) × (List (Int) × Int × Int × Unit) × Unit) :=
((s_l01Text k ((x.1.1, (x.1.2.1, (x.1.2.2.1, ()))), ((2 : Int), ()))).bind fun p1 =>
((s_PairSlots k (p1.1, ())).bind fun p2 =>
(whileK (fun (rec0 : ((List (Int) × Int × Int × Unit) × (Int × ByteArray × ByteArray × Int × List (Int) × Int × Int × ByteArray × ByteArray × Int × List (Int) × Int × Unit) × (Int × ByteArray × ByteArray × Int × List (Int) × Int × Int × ByteArray × ByteArray × Int × List (Int) × Int × Unit) × Int × Int × Unit) → Option _) (y0 : (List (Int) × Int × Int × Unit) × (Int × ByteArray × ByteArray × Int × List (Int) × Int × Int × ByteArray × ByteArray × Int × List (Int) × Int × Unit) × (Int × ByteArray × ByteArray × Int × List (Int) × Int × Int × ByteArray × ByteArray × Int × List (Int) × Int × Unit) × Int × Int × Unit) =>
((s_l01Below k ((y0.1.1, (y0.1.2.1, (y0.1.2.2.1, ()))), ((8 : Int), ()))).bind fun p3 =>
(if (decide (y0.2.2.2.2.1 < p3.1)) = true then
((s_l01Below k ((p3.2.1.1, (p3.2.1.2.1, (p3.2.1.2.2.1, ()))), ((6 : Int), ()))).bind fun p4 =>
((s_l01Below k ((p4.2.1.1, (p4.2.1.2.1, (p4.2.1.2.2.1, ()))), ((4 : Int), ()))).bind fun p5 =>
(if (decide (p5.1 = (0 : Int))) = true then
((s_StepBoth k ((y0.2.2.1.1, (y0.2.2.1.2.1, (y0.2.2.1.2.2.1, (y0.2.2.1.2.2.2.1, (y0.2.2.1.2.2.2.2.1, (y0.2.2.1.2.2.2.2.2.1, (y0.2.2.1.2.2.2.2.2.2.1, (y0.2.2.1.2.2.2.2.2.2.2.1, (y0.2.2.1.2.2.2.2.2.2.2.2.1, (y0.2.2.1.2.2.2.2.2.2.2.2.2.1, (y0.2.2.1.2.2.2.2.2.2.2.2.2.2.1, (y0.2.2.1.2.2.2.2.2.2.2.2.2.2.2.1, ())))))))))))), ((wi64 (y0.2.2.2.1 + p4.1)), ()))).bind fun p6 =>
(rec0 ((p5.2.1.1, (p5.2.1.2.1, (p5.2.1.2.2.1, ()))), ((y0.2.1.1, (y0.2.1.2.1, (y0.2.1.2.2.1, (y0.2.1.2.2.2.1, (y0.2.1.2.2.2.2.1, (y0.2.1.2.2.2.2.2.1, (y0.2.1.2.2.2.2.2.2.1, (y0.2.1.2.2.2.2.2.2.2.1, (y0.2.1.2.2.2.2.2.2.2.2.1, (y0.2.1.2.2.2.2.2.2.2.2.2.1, (y0.2.1.2.2.2.2.2.2.2.2.2.2.1, (y0.2.1.2.2.2.2.2.2.2.2.2.2.2.1, ())))))))))))), ((p6.1.1.1, (p6.1.1.2.1, (p6.1.1.2.2.1, (p6.1.1.2.2.2.1, (p6.1.1.2.2.2.2.1, (p6.1.1.2.2.2.2.2.1, (p6.1.1.2.2.2.2.2.2.1, (p6.1.1.2.2.2.2.2.2.2.1, (p6.1.1.2.2.2.2.2.2.2.2.1, (p6.1.1.2.2.2.2.2.2.2.2.2.1, (p6.1.1.2.2.2.2.2.2.2.2.2.2.1, (p6.1.1.2.2.2.2.2.2.2.2.2.2.2.1, ())))))))))))), ((wi64 (y0.2.2.2.1 + p4.1)), ((wi64 (y0.2.2.2.2.1 + (1 : Int))), ())))))))
else
(if (decide (p5.1 = (1 : Int))) = true then
((s_l01Below k ((p5.2.1.1, (p5.2.1.2.1, (p5.2.1.2.2.1, ()))), ((9 : Int), ()))).bind fun p7 =>
((s_NoteSeen k (y0.2.2.1.2.2.2.2.1, ((wi64 ((1 : Int) + p7.1)), ()))).bind fun p8 =>
(rec0 ((p7.2.1.1, (p7.2.1.2.1, (p7.2.1.2.2.1, ()))), ((y0.2.1.1, (y0.2.1.2.1, (y0.2.1.2.2.1, (y0.2.1.2.2.2.1, (y0.2.1.2.2.2.2.1, (y0.2.1.2.2.2.2.2.1, (y0.2.1.2.2.2.2.2.2.1, (y0.2.1.2.2.2.2.2.2.2.1, (y0.2.1.2.2.2.2.2.2.2.2.1, (y0.2.1.2.2.2.2.2.2.2.2.2.1, (y0.2.1.2.2.2.2.2.2.2.2.2.2.1, (y0.2.1.2.2.2.2.2.2.2.2.2.2.2.1, ())))))))))))), ((y0.2.2.1.1, (y0.2.2.1.2.1, (y0.2.2.1.2.2.1, (y0.2.2.1.2.2.2.1, (p8.1, (y0.2.2.1.2.2.2.2.2.1, (y0.2.2.1.2.2.2.2.2.2.1, (y0.2.2.1.2.2.2.2.2.2.2.1, (y0.2.2.1.2.2.2.2.2.2.2.2.1, (y0.2.2.1.2.2.2.2.2.2.2.2.2.1, (y0.2.2.1.2.2.2.2.2.2.2.2.2.2.1, (y0.2.2.1.2.2.2.2.2.2.2.2.2.2.2.1, ())))))))))))), ((wi64 (y0.2.2.2.1 + p4.1)), ((wi64 (y0.2.2.2.2.1 + (1 : Int))), ()))))))))
else
(if (decide (p5.1 = (2 : Int))) = true then
((s_TidySlots k ((y0.2.2.1.1, (y0.2.2.1.2.1, (y0.2.2.1.2.2.1, (y0.2.2.1.2.2.2.1, (y0.2.2.1.2.2.2.2.1, (y0.2.2.1.2.2.2.2.2.1, (y0.2.2.1.2.2.2.2.2.2.1, (y0.2.2.1.2.2.2.2.2.2.2.1, (y0.2.2.1.2.2.2.2.2.2.2.2.1, (y0.2.2.1.2.2.2.2.2.2.2.2.2.1, (y0.2.2.1.2.2.2.2.2.2.2.2.2.2.1, (y0.2.2.1.2.2.2.2.2.2.2.2.2.2.2.1, ())))))))))))), ((wi64 (y0.2.2.2.1 + p4.1)), ()))).bind fun p9 =>
(rec0 ((p5.2.1.1, (p5.2.1.2.1, (p5.2.1.2.2.1, ()))), ((y0.2.1.1, (y0.2.1.2.1, (y0.2.1.2.2.1, (y0.2.1.2.2.2.1, (y0.2.1.2.2.2.2.1, (y0.2.1.2.2.2.2.2.1, (y0.2.1.2.2.2.2.2.2.1, (y0.2.1.2.2.2.2.2.2.2.1, (y0.2.1.2.2.2.2.2.2.2.2.1, (y0.2.1.2.2.2.2.2.2.2.2.2.1, (y0.2.1.2.2.2.2.2.2.2.2.2.2.1, (y0.2.1.2.2.2.2.2.2.2.2.2.2.2.1, ())))))))))))), ((p9.1.1, (p9.1.2.1, (p9.1.2.2.1, (p9.1.2.2.2.1, (p9.1.2.2.2.2.1, (p9.1.2.2.2.2.2.1, (p9.1.2.2.2.2.2.2.1, (p9.1.2.2.2.2.2.2.2.1, (p9.1.2.2.2.2.2.2.2.2.1, (p9.1.2.2.2.2.2.2.2.2.2.1, (p9.1.2.2.2.2.2.2.2.2.2.2.1, (p9.1.2.2.2.2.2.2.2.2.2.2.2.1, ())))))))))))), ((wi64 (y0.2.2.2.1 + p4.1)), ((wi64 (y0.2.2.2.2.1 + (1 : Int))), ())))))))
else
((s_SealData k ((y0.2.2.1.1, (y0.2.2.1.2.1, (y0.2.2.1.2.2.1, (y0.2.2.1.2.2.2.1, (y0.2.2.1.2.2.2.2.1, (y0.2.2.1.2.2.2.2.2.1, (y0.2.2.1.2.2.2.2.2.2.1, (y0.2.2.1.2.2.2.2.2.2.2.1, (y0.2.2.1.2.2.2.2.2.2.2.2.1, (y0.2.2.1.2.2.2.2.2.2.2.2.2.1, (y0.2.2.1.2.2.2.2.2.2.2.2.2.2.1, (y0.2.2.1.2.2.2.2.2.2.2.2.2.2.2.1, ())))))))))))), ((1 : Int), ((2 : Int), ((⟨#[120]⟩ : ByteArray), ()))))).bind fun p10 =>
(rec0 ((p5.2.1.1, (p5.2.1.2.1, (p5.2.1.2.2.1, ()))), ((y0.2.1.1, (y0.2.1.2.1, (y0.2.1.2.2.1, (y0.2.1.2.2.2.1, (y0.2.1.2.2.2.2.1, (y0.2.1.2.2.2.2.2.1, (y0.2.1.2.2.2.2.2.2.1, (y0.2.1.2.2.2.2.2.2.2.1, (y0.2.1.2.2.2.2.2.2.2.2.1, (y0.2.1.2.2.2.2.2.2.2.2.2.1, (y0.2.1.2.2.2.2.2.2.2.2.2.2.1, (y0.2.1.2.2.2.2.2.2.2.2.2.2.2.1, ())))))))))))), ((p10.1.1.1, (p10.1.1.2.1, (p10.1.1.2.2.1, (p10.1.1.2.2.2.1, (p10.1.1.2.2.2.2.1, (p10.1.1.2.2.2.2.2.1, (p10.1.1.2.2.2.2.2.2.1, (p10.1.1.2.2.2.2.2.2.2.1, (p10.1.1.2.2.2.2.2.2.2.2.1, (p10.1.1.2.2.2.2.2.2.2.2.2.1, (p10.1.1.2.2.2.2.2.2.2.2.2.2.1, (p10.1.1.2.2.2.2.2.2.2.2.2.2.2.1, ())))))))))))), ((wi64 (y0.2.2.2.1 + p4.1)), ((wi64 (y0.2.2.2.2.1 + (1 : Int))), ()))))))))))))
else
((fun (z1 : (List (Int) × Int × Int × Unit) × (Int × ByteArray × ByteArray × Int × List (Int) × Int × Int × ByteArray × ByteArray × Int × List (Int) × Int × Unit) × (Int × ByteArray × ByteArray × Int × List (Int) × Int × Int × ByteArray × ByteArray × Int × List (Int) × Int × Unit) × Unit) =>
some ((z1.2.2.1.1, (z1.2.2.1.2.1, (z1.2.2.1.2.2.1, (z1.2.2.1.2.2.2.1, (z1.2.2.1.2.2.2.2.1, (z1.2.2.1.2.2.2.2.2.1, (z1.2.2.1.2.2.2.2.2.2.1, (z1.2.2.1.2.2.2.2.2.2.2.1, (z1.2.2.1.2.2.2.2.2.2.2.2.1, (z1.2.2.1.2.2.2.2.2.2.2.2.2.1, (z1.2.2.1.2.2.2.2.2.2.2.2.2.2.1, (z1.2.2.1.2.2.2.2.2.2.2.2.2.2.2.1, ())))))))))))), ((z1.1.1, (z1.1.2.1, (z1.1.2.2.1, ()))), ()))) ((p3.2.1.1, (p3.2.1.2.1, (p3.2.1.2.2.1, ()))), ((y0.2.1.1, (y0.2.1.2.1, (y0.2.1.2.2.1, (y0.2.1.2.2.2.1, (y0.2.1.2.2.2.2.1, (y0.2.1.2.2.2.2.2.1, (y0.2.1.2.2.2.2.2.2.1, (y0.2.1.2.2.2.2.2.2.2.1, (y0.2.1.2.2.2.2.2.2.2.2.1, (y0.2.1.2.2.2.2.2.2.2.2.2.1, (y0.2.1.2.2.2.2.2.2.2.2.2.2.1, (y0.2.1.2.2.2.2.2.2.2.2.2.2.2.1, ())))))))))))), ((y0.2.2.1.1, (y0.2.2.1.2.1, (y0.2.2.1.2.2.1, (y0.2.2.1.2.2.2.1, (y0.2.2.1.2.2.2.2.1, (y0.2.2.1.2.2.2.2.2.1, (y0.2.2.1.2.2.2.2.2.2.1, (y0.2.2.1.2.2.2.2.2.2.2.1, (y0.2.2.1.2.2.2.2.2.2.2.2.1, (y0.2.2.1.2.2.2.2.2.2.2.2.2.1, (y0.2.2.1.2.2.2.2.2.2.2.2.2.2.1, (y0.2.2.1.2.2.2.2.2.2.2.2.2.2.2.1, ())))))))))))), ()))))))) k ((p1.2.1.1, (p1.2.1.2.1, (p1.2.1.2.2.1, ()))), (((0 : Int), ((⟨#[]⟩ : ByteArray), ((⟨#[]⟩ : ByteArray), ((0 : Int), ([], ((0 : Int), ((0 : Int), ((⟨#[]⟩ : ByteArray), ((⟨#[]⟩ : ByteArray), ((0 : Int), ([], ((0 : Int), ())))))))))))), ((p2.1.1.1, (p2.1.1.2.1, (p2.1.1.2.2.1, (p2.1.1.2.2.2.1, (p2.1.1.2.2.2.2.1, (p2.1.1.2.2.2.2.2.1, (p2.1.1.2.2.2.2.2.2.1, (p2.1.1.2.2.2.2.2.2.2.1, (p2.1.1.2.2.2.2.2.2.2.2.1, (p2.1.1.2.2.2.2.2.2.2.2.2.1, (p2.1.1.2.2.2.2.2.2.2.2.2.2.1, (p2.1.1.2.2.2.2.2.2.2.2.2.2.2.1, ())))))))))))), ((0 : Int), ((0 : Int), ()))))))))
theorem t_s_l17Slots (k : Nat) (x) : evF TTab k [⟨8, 0, (.cons .str .nil), (.tup (.cons (.agg (.cons (.int .i64) (.cons .str (.cons .str (.cons (.int .i64) (.cons (.own false 3 (.int .i64)) (.cons (.int .i64) (.cons (.int .i64) (.cons .str (.cons .str (.cons (.int .i64) (.cons (.own false 3 (.int .i64)) (.cons (.int .i64) .nil))))))))))))) (.cons (.agg (.cons (.int .i64) (.cons .str (.cons .str (.cons (.int .i64) (.cons (.own false 3 (.int .i64)) (.cons (.int .i64) (.cons (.int .i64) (.cons .str (.cons .str (.cons (.int .i64) (.cons (.own false 3 (.int .i64)) (.cons (.int .i64) .nil))))))))))))) .nil))), s_PairSlots k⟩, ⟨14, 0, (.cons (.agg (.cons (.int .i64) (.cons .str (.cons .str (.cons (.int .i64) (.cons (.il true (.int .i64)) (.cons (.int .i64) (.cons (.int .i64) (.cons .str (.cons .str (.cons (.int .i64) (.cons (.il true (.int .i64)) (.cons (.int .i64) .nil))))))))))))) (.cons (.int .i64) .nil)), (.tup (.cons (.agg (.cons (.int .i64) (.cons .str (.cons .str (.cons (.int .i64) (.cons (.own false 3 (.int .i64)) (.cons (.int .i64) (.cons (.int .i64) (.cons .str (.cons .str (.cons (.int .i64) (.cons (.own false 3 (.int .i64)) (.cons (.int .i64) .nil))))))))))))) (.cons .bool .nil))), s_StepBoth k⟩, ⟨17, 0, (.cons (.agg (.cons (.int .i64) (.cons .str (.cons .str (.cons (.int .i64) (.cons (.il true (.int .i64)) (.cons (.int .i64) (.cons (.int .i64) (.cons .str (.cons .str (.cons (.int .i64) (.cons (.il true (.int .i64)) (.cons (.int .i64) .nil))))))))))))) (.cons (.int .i64) (.cons (.int .i64) (.cons .str .nil)))), (.tup (.cons (.agg (.cons (.int .i64) (.cons .str (.cons .str (.cons (.int .i64) (.cons (.own false 3 (.int .i64)) (.cons (.int .i64) (.cons (.int .i64) (.cons .str (.cons .str (.cons (.int .i64) (.cons (.own false 3 (.int .i64)) (.cons (.int .i64) .nil))))))))))))) (.cons (.agg (.cons (.int .i64) (.cons (.int .i64) (.cons (.int .i64) (.cons (.int .i64) (.cons (.int .i64) (.cons (.own false 3 (.int .i64)) (.cons .str .nil)))))))) (.cons .bool .nil)))), s_SealData k⟩, ⟨56, 0, (.cons (.ptr 0 (.cons (.il true (.int .u8)) (.cons (.int .i64) (.cons (.int .i64) .nil)))) (.cons (.int .i64) .nil)), (.int .i64), s_l01Below k⟩, ⟨63, 0, (.cons (.ptr 0 (.cons (.il true (.int .u8)) (.cons (.int .i64) (.cons (.int .i64) .nil)))) (.cons (.int .i64) .nil)), .str, s_l01Text k⟩, ⟨81, 0, (.cons (.il true (.int .i64)) (.cons (.int .i64) .nil)), (.own false 3 (.int .i64)), s_NoteSeen k⟩, ⟨82, 0, (.cons (.agg (.cons (.int .i64) (.cons .str (.cons .str (.cons (.int .i64) (.cons (.il true (.int .i64)) (.cons (.int .i64) (.cons (.int .i64) (.cons .str (.cons .str (.cons (.int .i64) (.cons (.il true (.int .i64)) (.cons (.int .i64) .nil))))))))))))) (.cons (.int .i64) .nil)), (.agg (.cons (.int .i64) (.cons .str (.cons .str (.cons (.int .i64) (.cons (.own false 3 (.int .i64)) (.cons (.int .i64) (.cons (.int .i64) (.cons .str (.cons .str (.cons (.int .i64) (.cons (.own false 3 (.int .i64)) (.cons (.int .i64) .nil))))))))))))), s_TidySlots k⟩] [(0, ⟨[0, 2, 3, 5, 6], (.cons (.ptr 0 (.cons (.il true (.int .u8)) (.cons (.int .i64) (.cons (.int .i64) .nil)))) (.cons (.ptr 0 (.cons (.int .i64) (.cons .str (.cons .str (.cons (.int .i64) (.cons (.own false 3 (.int .i64)) (.cons (.int .i64) (.cons (.int .i64) (.cons .str (.cons .str (.cons (.int .i64) (.cons (.own false 3 (.int .i64)) (.cons (.int .i64) .nil))))))))))))) (.cons (.ptr 0 (.cons (.int .i64) (.cons .str (.cons .str (.cons (.int .i64) (.cons (.own false 3 (.int .i64)) (.cons (.int .i64) (.cons (.int .i64) (.cons .str (.cons .str (.cons (.int .i64) (.cons (.own false 3 (.int .i64)) (.cons (.int .i64) .nil))))))))))))) (.cons (.int .i64) (.cons (.int .i64) .nil)))))⟩, ⟨[0, 2, 3], (.cons (.ptr 0 (.cons (.il true (.int .u8)) (.cons (.int .i64) (.cons (.int .i64) .nil)))) (.cons (.ptr 0 (.cons (.int .i64) (.cons .str (.cons .str (.cons (.int .i64) (.cons (.own false 3 (.int .i64)) (.cons (.int .i64) (.cons (.int .i64) (.cons .str (.cons .str (.cons (.int .i64) (.cons (.own false 3 (.int .i64)) (.cons (.int .i64) .nil))))))))))))) (.cons (.ptr 0 (.cons (.int .i64) (.cons .str (.cons .str (.cons (.int .i64) (.cons (.own false 3 (.int .i64)) (.cons (.int .i64) (.cons (.int .i64) (.cons .str (.cons .str (.cons (.int .i64) (.cons (.own false 3 (.int .i64)) (.cons (.int .i64) .nil))))))))))))) .nil)))⟩)] Try.f53 (.cons (.ptr 0 (.cons (.il true (.int .u8)) (.cons (.int .i64) (.cons (.int .i64) .nil)))) .nil) (.agg (.cons (.int .i64) (.cons .str (.cons .str (.cons (.int .i64) (.cons (.own false 3 (.int .i64)) (.cons (.int .i64) (.cons (.int .i64) (.cons .str (.cons .str (.cons (.int .i64) (.cons (.own false 3 (.int .i64)) (.cons (.int .i64) .nil))))))))))))) x = s_l17Slots k x := by kernel_rfl
theorem e_s_l17Slots (k : Nat) : EntryOk Try.prog ⟨53, 0, (.cons (.ptr 0 (.cons (.il true (.int .u8)) (.cons (.int .i64) (.cons (.int .i64) .nil)))) .nil), (.agg (.cons (.int .i64) (.cons .str (.cons .str (.cons (.int .i64) (.cons (.own false 3 (.int .i64)) (.cons (.int .i64) (.cons (.int .i64) (.cons .str (.cons .str (.cons (.int .i64) (.cons (.own false 3 (.int .i64)) (.cons (.int .i64) .nil))))))))))))), s_l17Slots k⟩ := entry_ok tok (by intro e he; simp only [List.mem_cons, List.not_mem_nil, or_false] at he; rcases he with rfl | rfl | rfl | rfl | rfl | rfl | rfl <;> first | exact e_s_PairSlots k | exact e_s_StepBoth k | exact e_s_SealData k | exact e_s_l01Below k | exact e_s_l01Text k | exact e_s_NoteSeen k | exact e_s_TidySlots k) (by kernel_rfl) (fn := Try.f53) (k := k) (es := [⟨8, 0, (.cons .str .nil), (.tup (.cons (.agg (.cons (.int .i64) (.cons .str (.cons .str (.cons (.int .i64) (.cons (.own false 3 (.int .i64)) (.cons (.int .i64) (.cons (.int .i64) (.cons .str (.cons .str (.cons (.int .i64) (.cons (.own false 3 (.int .i64)) (.cons (.int .i64) .nil))))))))))))) (.cons (.agg (.cons (.int .i64) (.cons .str (.cons .str (.cons (.int .i64) (.cons (.own false 3 (.int .i64)) (.cons (.int .i64) (.cons (.int .i64) (.cons .str (.cons .str (.cons (.int .i64) (.cons (.own false 3 (.int .i64)) (.cons (.int .i64) .nil))))))))))))) .nil))), s_PairSlots k⟩, ⟨14, 0, (.cons (.agg (.cons (.int .i64) (.cons .str (.cons .str (.cons (.int .i64) (.cons (.il true (.int .i64)) (.cons (.int .i64) (.cons (.int .i64) (.cons .str (.cons .str (.cons (.int .i64) (.cons (.il true (.int .i64)) (.cons (.int .i64) .nil))))))))))))) (.cons (.int .i64) .nil)), (.tup (.cons (.agg (.cons (.int .i64) (.cons .str (.cons .str (.cons (.int .i64) (.cons (.own false 3 (.int .i64)) (.cons (.int .i64) (.cons (.int .i64) (.cons .str (.cons .str (.cons (.int .i64) (.cons (.own false 3 (.int .i64)) (.cons (.int .i64) .nil))))))))))))) (.cons .bool .nil))), s_StepBoth k⟩, ⟨17, 0, (.cons (.agg (.cons (.int .i64) (.cons .str (.cons .str (.cons (.int .i64) (.cons (.il true (.int .i64)) (.cons (.int .i64) (.cons (.int .i64) (.cons .str (.cons .str (.cons (.int .i64) (.cons (.il true (.int .i64)) (.cons (.int .i64) .nil))))))))))))) (.cons (.int .i64) (.cons (.int .i64) (.cons .str .nil)))), (.tup (.cons (.agg (.cons (.int .i64) (.cons .str (.cons .str (.cons (.int .i64) (.cons (.own false 3 (.int .i64)) (.cons (.int .i64) (.cons (.int .i64) (.cons .str (.cons .str (.cons (.int .i64) (.cons (.own false 3 (.int .i64)) (.cons (.int .i64) .nil))))))))))))) (.cons (.agg (.cons (.int .i64) (.cons (.int .i64) (.cons (.int .i64) (.cons (.int .i64) (.cons (.int .i64) (.cons (.own false 3 (.int .i64)) (.cons .str .nil)))))))) (.cons .bool .nil)))), s_SealData k⟩, ⟨56, 0, (.cons (.ptr 0 (.cons (.il true (.int .u8)) (.cons (.int .i64) (.cons (.int .i64) .nil)))) (.cons (.int .i64) .nil)), (.int .i64), s_l01Below k⟩, ⟨63, 0, (.cons (.ptr 0 (.cons (.il true (.int .u8)) (.cons (.int .i64) (.cons (.int .i64) .nil)))) (.cons (.int .i64) .nil)), .str, s_l01Text k⟩, ⟨81, 0, (.cons (.il true (.int .i64)) (.cons (.int .i64) .nil)), (.own false 3 (.int .i64)), s_NoteSeen k⟩, ⟨82, 0, (.cons (.agg (.cons (.int .i64) (.cons .str (.cons .str (.cons (.int .i64) (.cons (.il true (.int .i64)) (.cons (.int .i64) (.cons (.int .i64) (.cons .str (.cons .str (.cons (.int .i64) (.cons (.il true (.int .i64)) (.cons (.int .i64) .nil))))))))))))) (.cons (.int .i64) .nil)), (.agg (.cons (.int .i64) (.cons .str (.cons .str (.cons (.int .i64) (.cons (.own false 3 (.int .i64)) (.cons (.int .i64) (.cons (.int .i64) (.cons .str (.cons .str (.cons (.int .i64) (.cons (.own false 3 (.int .i64)) (.cons (.int .i64) .nil))))))))))))), s_TidySlots k⟩]) (loops := [(0, ⟨[0, 2, 3, 5, 6], (.cons (.ptr 0 (.cons (.il true (.int .u8)) (.cons (.int .i64) (.cons (.int .i64) .nil)))) (.cons (.ptr 0 (.cons (.int .i64) (.cons .str (.cons .str (.cons (.int .i64) (.cons (.own false 3 (.int .i64)) (.cons (.int .i64) (.cons (.int .i64) (.cons .str (.cons .str (.cons (.int .i64) (.cons (.own false 3 (.int .i64)) (.cons (.int .i64) .nil))))))))))))) (.cons (.ptr 0 (.cons (.int .i64) (.cons .str (.cons .str (.cons (.int .i64) (.cons (.own false 3 (.int .i64)) (.cons (.int .i64) (.cons (.int .i64) (.cons .str (.cons .str (.cons (.int .i64) (.cons (.own false 3 (.int .i64)) (.cons (.int .i64) .nil))))))))))))) (.cons (.int .i64) (.cons (.int .i64) .nil)))))⟩, ⟨[0, 2, 3], (.cons (.ptr 0 (.cons (.il true (.int .u8)) (.cons (.int .i64) (.cons (.int .i64) .nil)))) (.cons (.ptr 0 (.cons (.int .i64) (.cons .str (.cons .str (.cons (.int .i64) (.cons (.own false 3 (.int .i64)) (.cons (.int .i64) (.cons (.int .i64) (.cons .str (.cons .str (.cons (.int .i64) (.cons (.own false 3 (.int .i64)) (.cons (.int .i64) .nil))))))))))))) (.cons (.ptr 0 (.cons (.int .i64) (.cons .str (.cons .str (.cons (.int .i64) (.cons (.own false 3 (.int .i64)) (.cons (.int .i64) (.cons (.int .i64) (.cons .str (.cons .str (.cons (.int .i64) (.cons (.own false 3 (.int .i64)) (.cons (.int .i64) .nil))))))))))))) .nil)))⟩)]) (by kernel_rfl) (by kernel_rfl) (fun x r h => (t_s_l17Slots k x).trans h)
def s_l01New (k : Nat) (x : List (Int) × Unit) : Option ((List (Int) × Int × Int × Unit) × Unit × Unit) :=
(whileK (fun (rec0 : (List (Int) × Int × Int × Unit) → Option _) (y0 : List (Int) × Int × Int × Unit) =>
(if (decide (y0.2.2.1 < (List.length y0.1 : Int))) = true then
(if (decide (y0.2.2.1 < (4000 : Int))) = true then
(if 0 ≤ y0.2.2.1 ∧ y0.2.2.1 < (List.length y0.1 : Int) then
(rec0 (y0.1, ((bitsI .and .i64 (wi64 ((wi64 ((wi64 (y0.2.1 * (131 : Int))) + (wi64 ((Ty.rd (t := (.int .u8)) y0.1 y0.2.2.1))))) + (7 : Int))) (1073741823 : Int)), ((wi64 (y0.2.2.1 + (1 : Int))), ()))))
else none)
else
((fun (z1 : List (Int) × Int × Unit) =>
some ((z1.1, ((0 : Int), (z1.2.1, ()))), ((), ()))) (y0.1, (y0.2.1, ()))))
else
((fun (z1 : List (Int) × Int × Unit) =>
some ((z1.1, ((0 : Int), (z1.2.1, ()))), ((), ()))) (y0.1, (y0.2.1, ()))))) k (x.1, ((wi64 ((36201 : Int) + (List.length x.1 : Int))), ((0 : Int), ()))))
theorem t_s_l01New (k : Nat) (x) : evF TTab k [] [(0, ⟨[0, 3, 4], (.cons (.il true (.int .u8)) (.cons (.int .i64) (.cons (.int .i64) .nil)))⟩, ⟨[0, 3], (.cons (.il true (.int .u8)) (.cons (.int .i64) .nil))⟩)] Try.f54 (.cons (.il true (.int .u8)) .nil) (.ptr 0 (.cons (.il true (.int .u8)) (.cons (.int .i64) (.cons (.int .i64) .nil)))) x = s_l01New k x := by kernel_rfl
theorem e_s_l01New (k : Nat) : EntryOk Try.prog ⟨54, 0, (.cons (.il true (.int .u8)) .nil), (.ptr 0 (.cons (.il true (.int .u8)) (.cons (.int .i64) (.cons (.int .i64) .nil)))), s_l01New k⟩ := entry_ok tok (by simp) (by kernel_rfl) (fn := Try.f54) (k := k) (es := []) (loops := [(0, ⟨[0, 3, 4], (.cons (.il true (.int .u8)) (.cons (.int .i64) (.cons (.int .i64) .nil)))⟩, ⟨[0, 3], (.cons (.il true (.int .u8)) (.cons (.int .i64) .nil))⟩)]) (by kernel_rfl) (by kernel_rfl) (fun x r h => (t_s_l01New k x).trans h)
def s_DrawSlots (k : Nat) (x : List (Int) × Unit) : Option ((Int × ByteArray × ByteArray × Int × List (Int) × Int × Int × ByteArray × ByteArray × Int × List (Int) × Int × Unit) × Unit × Unit) :=
((s_l01New k (x.1, ())).bind fun p1 =>
((s_l17Slots k ((p1.1.1, (p1.1.2.1, (p1.1.2.2.1, ()))), ())).bind fun p2 =>
some ((p2.1.1, (p2.1.2.1, (p2.1.2.2.1, (p2.1.2.2.2.1, (p2.1.2.2.2.2.1, (p2.1.2.2.2.2.2.1, (p2.1.2.2.2.2.2.2.1, (p2.1.2.2.2.2.2.2.2.1, (p2.1.2.2.2.2.2.2.2.2.1, (p2.1.2.2.2.2.2.2.2.2.2.1, (p2.1.2.2.2.2.2.2.2.2.2.2.1, (p2.1.2.2.2.2.2.2.2.2.2.2.2.1, ())))))))))))), ((), ()))))
theorem t_s_DrawSlots (k : Nat) (x) : evF TTab k [⟨53, 0, (.cons (.ptr 0 (.cons (.il true (.int .u8)) (.cons (.int .i64) (.cons (.int .i64) .nil)))) .nil), (.agg (.cons (.int .i64) (.cons .str (.cons .str (.cons (.int .i64) (.cons (.own false 3 (.int .i64)) (.cons (.int .i64) (.cons (.int .i64) (.cons .str (.cons .str (.cons (.int .i64) (.cons (.own false 3 (.int .i64)) (.cons (.int .i64) .nil))))))))))))), s_l17Slots k⟩, ⟨54, 0, (.cons (.il true (.int .u8)) .nil), (.ptr 0 (.cons (.il true (.int .u8)) (.cons (.int .i64) (.cons (.int .i64) .nil)))), s_l01New k⟩] [] Try.f23 (.cons (.il true (.int .u8)) .nil) (.agg (.cons (.int .i64) (.cons .str (.cons .str (.cons (.int .i64) (.cons (.own false 3 (.int .i64)) (.cons (.int .i64) (.cons (.int .i64) (.cons .str (.cons .str (.cons (.int .i64) (.cons (.own false 3 (.int .i64)) (.cons (.int .i64) .nil))))))))))))) x = s_DrawSlots k x := by kernel_rfl
theorem e_s_DrawSlots (k : Nat) : EntryOk Try.prog ⟨23, 0, (.cons (.il true (.int .u8)) .nil), (.agg (.cons (.int .i64) (.cons .str (.cons .str (.cons (.int .i64) (.cons (.own false 3 (.int .i64)) (.cons (.int .i64) (.cons (.int .i64) (.cons .str (.cons .str (.cons (.int .i64) (.cons (.own false 3 (.int .i64)) (.cons (.int .i64) .nil))))))))))))), s_DrawSlots k⟩ := entry_ok tok (by intro e he; simp only [List.mem_cons, List.not_mem_nil, or_false] at he; rcases he with rfl | rfl <;> first | exact e_s_l17Slots k | exact e_s_l01New k) (by kernel_rfl) (fn := Try.f23) (k := k) (es := [⟨53, 0, (.cons (.ptr 0 (.cons (.il true (.int .u8)) (.cons (.int .i64) (.cons (.int .i64) .nil)))) .nil), (.agg (.cons (.int .i64) (.cons .str (.cons .str (.cons (.int .i64) (.cons (.own false 3 (.int .i64)) (.cons (.int .i64) (.cons (.int .i64) (.cons .str (.cons .str (.cons (.int .i64) (.cons (.own false 3 (.int .i64)) (.cons (.int .i64) .nil))))))))))))), s_l17Slots k⟩, ⟨54, 0, (.cons (.il true (.int .u8)) .nil), (.ptr 0 (.cons (.il true (.int .u8)) (.cons (.int .i64) (.cons (.int .i64) .nil)))), s_l01New k⟩]) (loops := []) (by kernel_rfl) (by kernel_rfl) (fun x r h => (t_s_DrawSlots k x).trans h)
def s_DrawPlaces (k : Nat) (x : List (Int) × Unit) : Option (List (Int) × Unit × Unit) :=
((s_l01New k (x.1, ())).bind fun p1 =>
((s_l01Byte k ((p1.1.1, (p1.1.2.1, (p1.1.2.2.1, ()))), ())).bind fun p2 =>
(whileK (fun (rec0 : ((List (Int) × Int × Int × Unit) × List (Int) × Int × Unit) → Option _) (y0 : (List (Int) × Int × Int × Unit) × List (Int) × Int × Unit) =>
(if (decide (y0.2.2.1 < (12 : Int))) = true then
((s_l01Below k ((y0.1.1, (y0.1.2.1, (y0.1.2.2.1, ()))), ((10000 : Int), ()))).bind fun p3 =>
(if List.length y0.2.1 + List.length ([p3.1] : List (Int)) ≤ capMax then
(rec0 ((p3.2.1.1, (p3.2.1.2.1, (p3.2.1.2.2.1, ()))), ((y0.2.1 ++ ([p3.1] : List (Int))), ((wi64 (y0.2.2.1 + (1 : Int))), ()))))
else none))
else
((fun (z1 : List (Int) × Unit) =>
some (z1.1, ((), ()))) (y0.2.1, ())))) k ((p2.2.1.1, (p2.2.1.2.1, (p2.2.1.2.2.1, ()))), (([] : List (Int)), ((0 : Int), ()))))))
theorem t_s_DrawPlaces (k : Nat) (x) : evF TTab k [⟨54, 0, (.cons (.il true (.int .u8)) .nil), (.ptr 0 (.cons (.il true (.int .u8)) (.cons (.int .i64) (.cons (.int .i64) .nil)))), s_l01New k⟩, ⟨55, 0, (.cons (.ptr 0 (.cons (.il true (.int .u8)) (.cons (.int .i64) (.cons (.int .i64) .nil)))) .nil), (.int .i64), s_l01Byte k⟩, ⟨56, 0, (.cons (.ptr 0 (.cons (.il true (.int .u8)) (.cons (.int .i64) (.cons (.int .i64) .nil)))) (.cons (.int .i64) .nil)), (.int .i64), s_l01Below k⟩] [(0, ⟨[3, 4, 5], (.cons (.ptr 0 (.cons (.il true (.int .u8)) (.cons (.int .i64) (.cons (.int .i64) .nil)))) (.cons (.own false 3 (.int .i64)) (.cons (.int .i64) .nil)))⟩, ⟨[4], (.cons (.own false 3 (.int .i64)) .nil)⟩)] Try.f24 (.cons (.il true (.int .u8)) .nil) (.own false 3 (.int .i64)) x = s_DrawPlaces k x := by kernel_rfl
theorem e_s_DrawPlaces (k : Nat) : EntryOk Try.prog ⟨24, 0, (.cons (.il true (.int .u8)) .nil), (.own false 3 (.int .i64)), s_DrawPlaces k⟩ := entry_ok tok (by intro e he; simp only [List.mem_cons, List.not_mem_nil, or_false] at he; rcases he with rfl | rfl | rfl <;> first | exact e_s_l01New k | exact e_s_l01Byte k | exact e_s_l01Below k) (by kernel_rfl) (fn := Try.f24) (k := k) (es := [⟨54, 0, (.cons (.il true (.int .u8)) .nil), (.ptr 0 (.cons (.il true (.int .u8)) (.cons (.int .i64) (.cons (.int .i64) .nil)))), s_l01New k⟩, ⟨55, 0, (.cons (.ptr 0 (.cons (.il true (.int .u8)) (.cons (.int .i64) (.cons (.int .i64) .nil)))) .nil), (.int .i64), s_l01Byte k⟩, ⟨56, 0, (.cons (.ptr 0 (.cons (.il true (.int .u8)) (.cons (.int .i64) (.cons (.int .i64) .nil)))) (.cons (.int .i64) .nil)), (.int .i64), s_l01Below k⟩]) (loops := [(0, ⟨[3, 4, 5], (.cons (.ptr 0 (.cons (.il true (.int .u8)) (.cons (.int .i64) (.cons (.int .i64) .nil)))) (.cons (.own false 3 (.int .i64)) (.cons (.int .i64) .nil)))⟩, ⟨[4], (.cons (.own false 3 (.int .i64)) .nil)⟩)]) (by kernel_rfl) (by kernel_rfl) (fun x r h => (t_s_DrawPlaces k x).trans h)
def i_TidySlots (k : Nat) (x : (Int × ByteArray × ByteArray × Int × List (Int) × Int × Int × ByteArray × ByteArray × Int × List (Int) × Int × Unit) × Int × Unit) : Option ((Int × ByteArray × ByteArray × Int × List (Int) × Int × Int × ByteArray × ByteArray × Int × List (Int) × Int × Unit) × Unit × Unit × Unit) :=
((i_copySlots k ((x.1.1, (x.1.2.1, (x.1.2.2.1, (x.1.2.2.2.1, (x.1.2.2.2.2.1, (x.1.2.2.2.2.2.1, (x.1.2.2.2.2.2.2.1, (x.1.2.2.2.2.2.2.2.1, (x.1.2.2.2.2.2.2.2.2.1, (x.1.2.2.2.2.2.2.2.2.2.1, (x.1.2.2.2.2.2.2.2.2.2.2.1, (x.1.2.2.2.2.2.2.2.2.2.2.2.1, ())))))))))))), ())).bind fun p1 =>
(if (decide (x.1.2.2.2.2.2.2.2.2.2.2.2.1 ≤ x.2.1)) = true then
some ((p1.1.1, (p1.1.2.1, (p1.1.2.2.1, (p1.1.2.2.2.1, (p1.1.2.2.2.2.1, (p1.1.2.2.2.2.2.1, ((0 : Int), ((⟨#[]⟩ : ByteArray), ((⟨#[]⟩ : ByteArray), ((0 : Int), ([], ((0 : Int), ())))))))))))), ((), ((), ())))
else
some ((p1.1.1, (p1.1.2.1, (p1.1.2.2.1, (p1.1.2.2.2.1, (p1.1.2.2.2.2.1, (p1.1.2.2.2.2.2.1, (p1.1.2.2.2.2.2.2.1, (p1.1.2.2.2.2.2.2.2.1, (p1.1.2.2.2.2.2.2.2.2.1, (p1.1.2.2.2.2.2.2.2.2.2.1, (p1.1.2.2.2.2.2.2.2.2.2.2.1, (p1.1.2.2.2.2.2.2.2.2.2.2.2.1, ())))))))))))), ((), ((), ())))))
theorem t_i_TidySlots (k : Nat) (x) : evF TTab k [⟨47, 0, (.cons (.agg (.cons (.int .i64) (.cons .str (.cons .str (.cons (.int .i64) (.cons (.il true (.int .i64)) (.cons (.int .i64) (.cons (.int .i64) (.cons .str (.cons .str (.cons (.int .i64) (.cons (.il true (.int .i64)) (.cons (.int .i64) .nil))))))))))))) .nil), (.agg (.cons (.int .i64) (.cons .str (.cons .str (.cons (.int .i64) (.cons (.own false 3 (.int .i64)) (.cons (.int .i64) (.cons (.int .i64) (.cons .str (.cons .str (.cons (.int .i64) (.cons (.own false 3 (.int .i64)) (.cons (.int .i64) .nil))))))))))))), i_copySlots k⟩] [] Try.f27 (.cons (.agg (.cons (.int .i64) (.cons .str (.cons .str (.cons (.int .i64) (.cons (.il true (.int .i64)) (.cons (.int .i64) (.cons (.int .i64) (.cons .str (.cons .str (.cons (.int .i64) (.cons (.il true (.int .i64)) (.cons (.int .i64) .nil))))))))))))) (.cons (.int .i64) .nil)) (.agg (.cons (.int .i64) (.cons .str (.cons .str (.cons (.int .i64) (.cons (.own false 3 (.int .i64)) (.cons (.int .i64) (.cons (.int .i64) (.cons .str (.cons .str (.cons (.int .i64) (.cons (.own false 3 (.int .i64)) (.cons (.int .i64) .nil))))))))))))) x = i_TidySlots k x := by kernel_rfl
theorem e_i_TidySlots (k : Nat) : EntryOk Try.prog ⟨27, 0, (.cons (.agg (.cons (.int .i64) (.cons .str (.cons .str (.cons (.int .i64) (.cons (.il true (.int .i64)) (.cons (.int .i64) (.cons (.int .i64) (.cons .str (.cons .str (.cons (.int .i64) (.cons (.il true (.int .i64)) (.cons (.int .i64) .nil))))))))))))) (.cons (.int .i64) .nil)), (.agg (.cons (.int .i64) (.cons .str (.cons .str (.cons (.int .i64) (.cons (.own false 3 (.int .i64)) (.cons (.int .i64) (.cons (.int .i64) (.cons .str (.cons .str (.cons (.int .i64) (.cons (.own false 3 (.int .i64)) (.cons (.int .i64) .nil))))))))))))), i_TidySlots k⟩ := entry_ok tok (by intro e he; simp only [List.mem_cons, List.not_mem_nil, or_false] at he; rcases he with rfl <;> first | exact e_i_copySlots k) (by kernel_rfl) (fn := Try.f27) (k := k) (es := [⟨47, 0, (.cons (.agg (.cons (.int .i64) (.cons .str (.cons .str (.cons (.int .i64) (.cons (.il true (.int .i64)) (.cons (.int .i64) (.cons (.int .i64) (.cons .str (.cons .str (.cons (.int .i64) (.cons (.il true (.int .i64)) (.cons (.int .i64) .nil))))))))))))) .nil), (.agg (.cons (.int .i64) (.cons .str (.cons .str (.cons (.int .i64) (.cons (.own false 3 (.int .i64)) (.cons (.int .i64) (.cons (.int .i64) (.cons .str (.cons .str (.cons (.int .i64) (.cons (.own false 3 (.int .i64)) (.cons (.int .i64) .nil))))))))))))), i_copySlots k⟩]) (loops := []) (by kernel_rfl) (by kernel_rfl) (fun x r h => (t_i_TidySlots k x).trans h)
def w_FnSlots (k : Nat) (x : List (Int) × Unit) : Option (Bool × Unit × Unit) :=
((w_big k (x.1, ())).bind fun p1 =>
(if p1.1 = true then
some (true, ((), ()))
else
((s_DrawSlots k (x.1, ())).bind fun p2 =>
((s_DrawPlaces k (x.1, ())).bind fun p3 =>
(if 0 ≤ (0 : Int) ∧ (0 : Int) < (List.length p3.1 : Int) then
((s_DigestOf k ((⟨#[97]⟩ : ByteArray), ())).bind fun p4 =>
((s_DigestOf k ((⟨#[98]⟩ : ByteArray), ())).bind fun p5 =>
((i_Install k ((p2.1.1, (p2.1.2.1, (p2.1.2.2.1, (p2.1.2.2.2.1, (p2.1.2.2.2.2.1, (p2.1.2.2.2.2.2.1, (p2.1.2.2.2.2.2.2.1, (p2.1.2.2.2.2.2.2.2.1, (p2.1.2.2.2.2.2.2.2.2.1, (p2.1.2.2.2.2.2.2.2.2.2.1, (p2.1.2.2.2.2.2.2.2.2.2.2.1, (p2.1.2.2.2.2.2.2.2.2.2.2.2.1, ())))))))))))), (p4.1, (p5.1, ((Int.tmod (Ty.rd (t := (.int .i64)) p3.1 (0 : Int)) (90 : Int)), ()))))).bind fun p6 =>
((i_TidySlots k ((p6.1.1.1, (p6.1.1.2.1, (p6.1.1.2.2.1, (p6.1.1.2.2.2.1, (p6.1.1.2.2.2.2.1, (p6.1.1.2.2.2.2.2.1, (p6.1.1.2.2.2.2.2.2.1, (p6.1.1.2.2.2.2.2.2.2.1, (p6.1.1.2.2.2.2.2.2.2.2.1, (p6.1.1.2.2.2.2.2.2.2.2.2.1, (p6.1.1.2.2.2.2.2.2.2.2.2.2.1, (p6.1.1.2.2.2.2.2.2.2.2.2.2.2.1, ())))))))))))), ((wi64 ((Int.tmod (Ty.rd (t := (.int .i64)) p3.1 (0 : Int)) (90 : Int)) + (10 : Int))), ()))).bind fun p7 =>
((i_TidySlots k ((p6.1.1.1, (p6.1.1.2.1, (p6.1.1.2.2.1, (p6.1.1.2.2.2.1, (p6.1.1.2.2.2.2.1, (p6.1.1.2.2.2.2.2.1, (p6.1.1.2.2.2.2.2.2.1, (p6.1.1.2.2.2.2.2.2.2.1, (p6.1.1.2.2.2.2.2.2.2.2.1, (p6.1.1.2.2.2.2.2.2.2.2.2.1, (p6.1.1.2.2.2.2.2.2.2.2.2.2.1, (p6.1.1.2.2.2.2.2.2.2.2.2.2.2.1, ())))))))))))), ((wi64 ((wi64 ((Int.tmod (Ty.rd (t := (.int .i64)) p3.1 (0 : Int)) (90 : Int)) + (10 : Int))) - (1 : Int))), ()))).bind fun p8 =>
((s_DigestOf k ((⟨#[98]⟩ : ByteArray), ())).bind fun p9 =>
((i_Install k ((p2.1.1, (p2.1.2.1, (p2.1.2.2.1, (p2.1.2.2.2.1, (p2.1.2.2.2.2.1, (p2.1.2.2.2.2.2.1, (p2.1.2.2.2.2.2.2.1, (p2.1.2.2.2.2.2.2.2.1, (p2.1.2.2.2.2.2.2.2.2.1, (p2.1.2.2.2.2.2.2.2.2.2.1, (p2.1.2.2.2.2.2.2.2.2.2.2.1, (p2.1.2.2.2.2.2.2.2.2.2.2.2.1, ())))))))))))), ((⟨#[115, 104, 111, 114, 116]⟩ : ByteArray), (p9.1, ((Int.tmod (Ty.rd (t := (.int .i64)) p3.1 (0 : Int)) (90 : Int)), ()))))).bind fun p10 =>
((i_NextKeys k (p2.1.2.1, (p2.1.2.2.1, ()))).bind fun p11 =>
((s_NextKeys k (p2.1.2.1, (p2.1.2.2.1, ()))).bind fun p12 =>
(if p6.1.2.1 = true then
(if (!p10.1.2.1) = true then
((i_SlotsOk k ((p2.1.1, (p2.1.2.1, (p2.1.2.2.1, (p2.1.2.2.2.1, (p2.1.2.2.2.2.1, (p2.1.2.2.2.2.2.1, (p2.1.2.2.2.2.2.2.1, (p2.1.2.2.2.2.2.2.2.1, (p2.1.2.2.2.2.2.2.2.2.1, (p2.1.2.2.2.2.2.2.2.2.2.1, (p2.1.2.2.2.2.2.2.2.2.2.2.1, (p2.1.2.2.2.2.2.2.2.2.2.2.2.1, ())))))))))))), ())).bind fun p13 =>
(if p13.1 = true then
((i_SlotsOk k ((p6.1.1.1, (p6.1.1.2.1, (p6.1.1.2.2.1, (p6.1.1.2.2.2.1, (p6.1.1.2.2.2.2.1, (p6.1.1.2.2.2.2.2.1, (p6.1.1.2.2.2.2.2.2.1, (p6.1.1.2.2.2.2.2.2.2.1, (p6.1.1.2.2.2.2.2.2.2.2.1, (p6.1.1.2.2.2.2.2.2.2.2.2.1, (p6.1.1.2.2.2.2.2.2.2.2.2.2.1, (p6.1.1.2.2.2.2.2.2.2.2.2.2.2.1, ())))))))))))), ())).bind fun p14 =>
(if p14.1 = true then
((i_SlotsOk k ((p7.1.1, (p7.1.2.1, (p7.1.2.2.1, (p7.1.2.2.2.1, (p7.1.2.2.2.2.1, (p7.1.2.2.2.2.2.1, (p7.1.2.2.2.2.2.2.1, (p7.1.2.2.2.2.2.2.2.1, (p7.1.2.2.2.2.2.2.2.2.1, (p7.1.2.2.2.2.2.2.2.2.2.1, (p7.1.2.2.2.2.2.2.2.2.2.2.1, (p7.1.2.2.2.2.2.2.2.2.2.2.2.1, ())))))))))))), ())).bind fun p15 =>
(if p15.1 = true then
((i_SlotOk k ((p6.1.1.2.2.2.2.2.2.1, (p6.1.1.2.2.2.2.2.2.2.1, (p6.1.1.2.2.2.2.2.2.2.2.1, (p6.1.1.2.2.2.2.2.2.2.2.2.1, (p6.1.1.2.2.2.2.2.2.2.2.2.2.1, (p6.1.1.2.2.2.2.2.2.2.2.2.2.2.1, ())))))), ())).bind fun p16 =>
(if p16.1 = true then
(if (decide (p6.1.1.1 = (wi64 (p2.1.1 + (1 : Int))))) = true then
(if (decide (p6.1.1.2.2.2.2.2.2.2.1 = p2.1.2.1)) = true then
(if (decide (p6.1.1.2.2.2.2.2.2.2.2.2.2.2.1 = (wi64 ((Int.tmod (Ty.rd (t := (.int .i64)) p3.1 (0 : Int)) (90 : Int)) + (10 : Int))))) = true then
(if (decide (p7.1.2.2.2.2.2.2.1 = (0 : Int))) = true then
(if (decide (p8.1.2.2.2.2.2.2.1 = p2.1.1)) = true then
((i_Spent k ((p6.1.1.1, (p6.1.1.2.1, (p6.1.1.2.2.1, (p6.1.1.2.2.2.1, (p6.1.1.2.2.2.2.1, (p6.1.1.2.2.2.2.2.1, (p6.1.1.2.2.2.2.2.2.1, (p6.1.1.2.2.2.2.2.2.2.1, (p6.1.1.2.2.2.2.2.2.2.2.1, (p6.1.1.2.2.2.2.2.2.2.2.2.1, (p6.1.1.2.2.2.2.2.2.2.2.2.2.1, (p6.1.1.2.2.2.2.2.2.2.2.2.2.2.1, ())))))))))))), ())).bind fun p17 =>
(if (!p17.1) = true then
((i_Spent k (((0 : Int), ((⟨#[]⟩ : ByteArray), ((⟨#[]⟩ : ByteArray), ((0 : Int), ([], ((0 : Int), ((0 : Int), ((⟨#[]⟩ : ByteArray), ((⟨#[]⟩ : ByteArray), ((0 : Int), ([], ((0 : Int), ())))))))))))), ())).bind fun p18 =>
(if p18.1 = true then
(if (decide (p11.1.1 = p12.1.1)) = true then
some ((decide (p11.1.2.1 = p12.1.2.1)), ((), ()))
else
some (false, ((), ())))
else
some (false, ((), ()))))
else
some (false, ((), ()))))
else
some (false, ((), ())))
else
some (false, ((), ())))
else
some (false, ((), ())))
else
some (false, ((), ())))
else
some (false, ((), ())))
else
some (false, ((), ()))))
else
some (false, ((), ()))))
else
some (false, ((), ()))))
else
some (false, ((), ()))))
else
some (false, ((), ())))
else
some (false, ((), ()))))))))))))
else none)))))
theorem t_w_FnSlots (k : Nat) (x) : evF TTab k [⟨22, 0, (.cons (.il true (.int .u8)) .nil), .bool, w_big k⟩, ⟨23, 0, (.cons (.il true (.int .u8)) .nil), (.agg (.cons (.int .i64) (.cons .str (.cons .str (.cons (.int .i64) (.cons (.own false 3 (.int .i64)) (.cons (.int .i64) (.cons (.int .i64) (.cons .str (.cons .str (.cons (.int .i64) (.cons (.own false 3 (.int .i64)) (.cons (.int .i64) .nil))))))))))))), s_DrawSlots k⟩, ⟨24, 0, (.cons (.il true (.int .u8)) .nil), (.own false 3 (.int .i64)), s_DrawPlaces k⟩, ⟨25, 0, (.cons (.agg (.cons (.int .i64) (.cons .str (.cons .str (.cons (.int .i64) (.cons (.il true (.int .i64)) (.cons (.int .i64) (.cons (.int .i64) (.cons .str (.cons .str (.cons (.int .i64) (.cons (.il true (.int .i64)) (.cons (.int .i64) .nil))))))))))))) (.cons .str (.cons .str (.cons (.int .i64) .nil)))), (.tup (.cons (.agg (.cons (.int .i64) (.cons .str (.cons .str (.cons (.int .i64) (.cons (.own false 3 (.int .i64)) (.cons (.int .i64) (.cons (.int .i64) (.cons .str (.cons .str (.cons (.int .i64) (.cons (.own false 3 (.int .i64)) (.cons (.int .i64) .nil))))))))))))) (.cons .bool .nil))), i_Install k⟩, ⟨26, 0, (.cons .str .nil), .str, s_DigestOf k⟩, ⟨27, 0, (.cons (.agg (.cons (.int .i64) (.cons .str (.cons .str (.cons (.int .i64) (.cons (.il true (.int .i64)) (.cons (.int .i64) (.cons (.int .i64) (.cons .str (.cons .str (.cons (.int .i64) (.cons (.il true (.int .i64)) (.cons (.int .i64) .nil))))))))))))) (.cons (.int .i64) .nil)), (.agg (.cons (.int .i64) (.cons .str (.cons .str (.cons (.int .i64) (.cons (.own false 3 (.int .i64)) (.cons (.int .i64) (.cons (.int .i64) (.cons .str (.cons .str (.cons (.int .i64) (.cons (.own false 3 (.int .i64)) (.cons (.int .i64) .nil))))))))))))), i_TidySlots k⟩, ⟨28, 0, (.cons .str (.cons .str .nil)), (.tup (.cons .str (.cons .str .nil))), i_NextKeys k⟩, ⟨29, 0, (.cons .str (.cons .str .nil)), (.tup (.cons .str (.cons .str .nil))), s_NextKeys k⟩, ⟨30, 0, (.cons (.agg (.cons (.int .i64) (.cons .str (.cons .str (.cons (.int .i64) (.cons (.il true (.int .i64)) (.cons (.int .i64) (.cons (.int .i64) (.cons .str (.cons .str (.cons (.int .i64) (.cons (.il true (.int .i64)) (.cons (.int .i64) .nil))))))))))))) .nil), .bool, i_SlotsOk k⟩, ⟨31, 0, (.cons (.agg (.cons (.int .i64) (.cons .str (.cons .str (.cons (.int .i64) (.cons (.il true (.int .i64)) (.cons (.int .i64) .nil))))))) .nil), .bool, i_SlotOk k⟩, ⟨32, 0, (.cons (.agg (.cons (.int .i64) (.cons .str (.cons .str (.cons (.int .i64) (.cons (.il true (.int .i64)) (.cons (.int .i64) (.cons (.int .i64) (.cons .str (.cons .str (.cons (.int .i64) (.cons (.il true (.int .i64)) (.cons (.int .i64) .nil))))))))))))) .nil), .bool, i_Spent k⟩] [] Try.f6 (.cons (.il true (.int .u8)) .nil) .bool x = w_FnSlots k x := by kernel_rfl
theorem e_w_FnSlots (k : Nat) : EntryOk Try.prog ⟨6, 0, (.cons (.il true (.int .u8)) .nil), .bool, w_FnSlots k⟩ := entry_ok tok (by intro e he; simp only [List.mem_cons, List.not_mem_nil, or_false] at he; rcases he with rfl | rfl | rfl | rfl | rfl | rfl | rfl | rfl | rfl | rfl | rfl <;> first | exact e_w_big k | exact e_s_DrawSlots k | exact e_s_DrawPlaces k | exact e_i_Install k | exact e_s_DigestOf k | exact e_i_TidySlots k | exact e_i_NextKeys k | exact e_s_NextKeys k | exact e_i_SlotsOk k | exact e_i_SlotOk k | exact e_i_Spent k) (by kernel_rfl) (fn := Try.f6) (k := k) (es := [⟨22, 0, (.cons (.il true (.int .u8)) .nil), .bool, w_big k⟩, ⟨23, 0, (.cons (.il true (.int .u8)) .nil), (.agg (.cons (.int .i64) (.cons .str (.cons .str (.cons (.int .i64) (.cons (.own false 3 (.int .i64)) (.cons (.int .i64) (.cons (.int .i64) (.cons .str (.cons .str (.cons (.int .i64) (.cons (.own false 3 (.int .i64)) (.cons (.int .i64) .nil))))))))))))), s_DrawSlots k⟩, ⟨24, 0, (.cons (.il true (.int .u8)) .nil), (.own false 3 (.int .i64)), s_DrawPlaces k⟩, ⟨25, 0, (.cons (.agg (.cons (.int .i64) (.cons .str (.cons .str (.cons (.int .i64) (.cons (.il true (.int .i64)) (.cons (.int .i64) (.cons (.int .i64) (.cons .str (.cons .str (.cons (.int .i64) (.cons (.il true (.int .i64)) (.cons (.int .i64) .nil))))))))))))) (.cons .str (.cons .str (.cons (.int .i64) .nil)))), (.tup (.cons (.agg (.cons (.int .i64) (.cons .str (.cons .str (.cons (.int .i64) (.cons (.own false 3 (.int .i64)) (.cons (.int .i64) (.cons (.int .i64) (.cons .str (.cons .str (.cons (.int .i64) (.cons (.own false 3 (.int .i64)) (.cons (.int .i64) .nil))))))))))))) (.cons .bool .nil))), i_Install k⟩, ⟨26, 0, (.cons .str .nil), .str, s_DigestOf k⟩, ⟨27, 0, (.cons (.agg (.cons (.int .i64) (.cons .str (.cons .str (.cons (.int .i64) (.cons (.il true (.int .i64)) (.cons (.int .i64) (.cons (.int .i64) (.cons .str (.cons .str (.cons (.int .i64) (.cons (.il true (.int .i64)) (.cons (.int .i64) .nil))))))))))))) (.cons (.int .i64) .nil)), (.agg (.cons (.int .i64) (.cons .str (.cons .str (.cons (.int .i64) (.cons (.own false 3 (.int .i64)) (.cons (.int .i64) (.cons (.int .i64) (.cons .str (.cons .str (.cons (.int .i64) (.cons (.own false 3 (.int .i64)) (.cons (.int .i64) .nil))))))))))))), i_TidySlots k⟩, ⟨28, 0, (.cons .str (.cons .str .nil)), (.tup (.cons .str (.cons .str .nil))), i_NextKeys k⟩, ⟨29, 0, (.cons .str (.cons .str .nil)), (.tup (.cons .str (.cons .str .nil))), s_NextKeys k⟩, ⟨30, 0, (.cons (.agg (.cons (.int .i64) (.cons .str (.cons .str (.cons (.int .i64) (.cons (.il true (.int .i64)) (.cons (.int .i64) (.cons (.int .i64) (.cons .str (.cons .str (.cons (.int .i64) (.cons (.il true (.int .i64)) (.cons (.int .i64) .nil))))))))))))) .nil), .bool, i_SlotsOk k⟩, ⟨31, 0, (.cons (.agg (.cons (.int .i64) (.cons .str (.cons .str (.cons (.int .i64) (.cons (.il true (.int .i64)) (.cons (.int .i64) .nil))))))) .nil), .bool, i_SlotOk k⟩, ⟨32, 0, (.cons (.agg (.cons (.int .i64) (.cons .str (.cons .str (.cons (.int .i64) (.cons (.il true (.int .i64)) (.cons (.int .i64) (.cons (.int .i64) (.cons .str (.cons .str (.cons (.int .i64) (.cons (.il true (.int .i64)) (.cons (.int .i64) .nil))))))))))))) .nil), .bool, i_Spent k⟩]) (loops := []) (by kernel_rfl) (by kernel_rfl) (fun x r h => (t_w_FnSlots k x).trans h)
end Go.Proofs.Ytfgdejabocealaa
