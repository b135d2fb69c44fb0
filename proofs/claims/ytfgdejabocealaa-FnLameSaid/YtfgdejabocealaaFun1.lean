import Derived.Test.YtfgdejabocealaaFun0
/- What functions of the program compute, as plain functions, and that their calls do so (part 1). Conditions: the plain function answers. -/
set_option linter.unusedVariables false
namespace Go.Proofs.Ytfgdejabocealaa
open Go Go.Eng Go.Proofs
def s_l01In (k : Nat) (x : Int × Int × Int × Unit) : Option (Bool × Unit × Unit × Unit × Unit) :=
(if (decide (x.2.1 ≤ x.1)) = true then
some ((decide (x.1 ≤ x.2.2.1)), ((), ((), ((), ()))))
else
some (false, ((), ((), ((), ())))))
theorem t_s_l01In (k : Nat) (x) : evF TTab k [] [] Try.f45 (.cons (.int .i64) (.cons (.int .i64) (.cons (.int .i64) .nil))) .bool x = s_l01In k x := by kernel_rfl
theorem e_s_l01In (k : Nat) : EntryOk Try.prog ⟨45, 0, (.cons (.int .i64) (.cons (.int .i64) (.cons (.int .i64) .nil))), .bool, s_l01In k⟩ := entry_ok tok (by simp) (by kernel_rfl) (fn := Try.f45) (k := k) (es := []) (loops := []) (by kernel_rfl) (by kernel_rfl) (fun x r h => (t_s_l01In k x).trans h)
def s_l17None (k : Nat) (x : (Int × ByteArray × ByteArray × Int × List (Int) × Int × Unit) × Unit) : Option (Bool × Unit × Unit) :=
(if (decide (x.1.1 = (0 : Int))) = true then
(if (decide (x.1.2.1 = (⟨#[]⟩ : ByteArray))) = true then
(if (decide (x.1.2.2.1 = (⟨#[]⟩ : ByteArray))) = true then
(if (decide (x.1.2.2.2.1 = (0 : Int))) = true then
(if (decide ((List.length x.1.2.2.2.2.1 : Int) = (0 : Int))) = true then
some ((decide (x.1.2.2.2.2.2.1 = (0 : Int))), ((), ()))
else
some (false, ((), ())))
else
some (false, ((), ())))
else
some (false, ((), ())))
else
some (false, ((), ())))
else
some (false, ((), ())))
theorem t_s_l17None (k : Nat) (x) : evF TTab k [] [] Try.f67 (.cons (.agg (.cons (.int .i64) (.cons .str (.cons .str (.cons (.int .i64) (.cons (.il true (.int .i64)) (.cons (.int .i64) .nil))))))) .nil) .bool x = s_l17None k x := by kernel_rfl
theorem e_s_l17None (k : Nat) : EntryOk Try.prog ⟨67, 0, (.cons (.agg (.cons (.int .i64) (.cons .str (.cons .str (.cons (.int .i64) (.cons (.il true (.int .i64)) (.cons (.int .i64) .nil))))))) .nil), .bool, s_l17None k⟩ := entry_ok tok (by simp) (by kernel_rfl) (fn := Try.f67) (k := k) (es := []) (loops := []) (by kernel_rfl) (by kernel_rfl) (fun x r h => (t_s_l17None k x).trans h)
def i_within (k : Nat) (x : Int × Int × Int × Unit) : Option (Bool × Unit × Unit × Unit × Unit) :=
(if (decide (x.2.1 ≤ x.1)) = true then
some ((decide (x.1 ≤ x.2.2.1)), ((), ((), ((), ()))))
else
some (false, ((), ((), ((), ())))))
theorem t_i_within (k : Nat) (x) : evF TTab k [] [] Try.f57 (.cons (.int .i64) (.cons (.int .i64) (.cons (.int .i64) .nil))) .bool x = i_within k x := by kernel_rfl
theorem e_i_within (k : Nat) : EntryOk Try.prog ⟨57, 0, (.cons (.int .i64) (.cons (.int .i64) (.cons (.int .i64) .nil))), .bool, i_within k⟩ := entry_ok tok (by simp) (by kernel_rfl) (fn := Try.f57) (k := k) (es := []) (loops := []) (by kernel_rfl) (by kernel_rfl) (fun x r h => (t_i_within k x).trans h)
def i_SeenOk (k : Nat) (x : List (Int) × Unit) : Option (Bool × Unit × Unit) :=
(whileK (fun (rec0 : (List (Int) × List (Int) × Int × Int × Unit) → Option _) (y0 : List (Int) × List (Int) × Int × Int × Unit) =>
(if (decide (y0.2.2.2.1 < y0.2.2.1)) = true then
(if 0 ≤ y0.2.2.2.1 ∧ y0.2.2.2.1 < (List.length y0.2.1 : Int) then
((i_within k ((Ty.rd (t := (.int .i64)) y0.2.1 y0.2.2.2.1), ((1 : Int), ((1000000000 : Int), ())))).bind fun p1 =>
(if (!p1.1) = false then
(if (decide ((0 : Int) < y0.2.2.2.1)) = true then
(if 0 ≤ (wi64 (y0.2.2.2.1 - (1 : Int))) ∧ (wi64 (y0.2.2.2.1 - (1 : Int))) < (List.length y0.1 : Int) then
(if (decide ((Ty.rd (t := (.int .i64)) y0.1 (wi64 (y0.2.2.2.1 - (1 : Int)))) ≤ (Ty.rd (t := (.int .i64)) y0.2.1 y0.2.2.2.1))) = false then
(if 0 ≤ (0 : Int) ∧ (0 : Int) < (List.length y0.1 : Int) then
(if (decide ((Ty.rd (t := (.int .i64)) y0.2.1 y0.2.2.2.1) ≤ (wi64 ((Ty.rd (t := (.int .i64)) y0.1 (0 : Int)) - (6 : Int))))) = true then
some (false, ((), ()))
else
(rec0 (y0.1, (y0.2.1, (y0.2.2.1, ((wi64 (y0.2.2.2.1 + (1 : Int))), ()))))))
else none)
else
some (false, ((), ())))
else none)
else
(if 0 ≤ (0 : Int) ∧ (0 : Int) < (List.length y0.1 : Int) then
(if (decide ((Ty.rd (t := (.int .i64)) y0.2.1 y0.2.2.2.1) ≤ (wi64 ((Ty.rd (t := (.int .i64)) y0.1 (0 : Int)) - (6 : Int))))) = true then
some (false, ((), ()))
else
(rec0 (y0.1, (y0.2.1, (y0.2.2.1, ((wi64 (y0.2.2.2.1 + (1 : Int))), ()))))))
else none))
else
some (false, ((), ()))))
else none)
else
((fun (z1 : List (Int) × Unit) =>
some ((decide ((List.length z1.1 : Int) ≤ (6 : Int))), ((), ()))) (y0.1, ())))) k (x.1, (x.1, ((List.length x.1 : Int), ((0 : Int), ())))))
theorem t_i_SeenOk (k : Nat) (x) : evF TTab k [⟨57, 0, (.cons (.int .i64) (.cons (.int .i64) (.cons (.int .i64) .nil))), .bool, i_within k⟩] [(0, ⟨[0, 5, 6, 7], (.cons (.il true (.int .i64)) (.cons (.il true (.int .i64)) (.cons (.int .i64) (.cons (.int .i64) .nil))))⟩, ⟨[0], (.cons (.il true (.int .i64)) .nil)⟩)] Try.f61 (.cons (.il true (.int .i64)) .nil) .bool x = i_SeenOk k x := by kernel_rfl
theorem e_i_SeenOk (k : Nat) : EntryOk Try.prog ⟨61, 0, (.cons (.il true (.int .i64)) .nil), .bool, i_SeenOk k⟩ := entry_ok tok (by intro e he; simp only [List.mem_cons, List.not_mem_nil, or_false] at he; rcases he with rfl <;> first | exact e_i_within k) (by kernel_rfl) (fn := Try.f61) (k := k) (es := [⟨57, 0, (.cons (.int .i64) (.cons (.int .i64) (.cons (.int .i64) .nil))), .bool, i_within k⟩]) (loops := [(0, ⟨[0, 5, 6, 7], (.cons (.il true (.int .i64)) (.cons (.il true (.int .i64)) (.cons (.int .i64) (.cons (.int .i64) .nil))))⟩, ⟨[0], (.cons (.il true (.int .i64)) .nil)⟩)]) (by kernel_rfl) (by kernel_rfl) (fun x r h => (t_i_SeenOk k x).trans h)
def i_SlotOk (k : Nat) (x : (Int × ByteArray × ByteArray × Int × List (Int) × Int × Unit) × Unit) : Option (Bool × Unit × Unit) :=
(if (decide (x.1.1 = (0 : Int))) = true then
(if (decide (x.1.2.1 = (⟨#[]⟩ : ByteArray))) = true then
(if (decide (x.1.2.2.1 = (⟨#[]⟩ : ByteArray))) = true then
(if (decide (x.1.2.2.2.1 = (0 : Int))) = true then
(if (decide ((List.length x.1.2.2.2.2.1 : Int) = (0 : Int))) = true then
some ((decide (x.1.2.2.2.2.2.1 = (0 : Int))), ((), ()))
else
some (false, ((), ())))
else
some (false, ((), ())))
else
some (false, ((), ())))
else
some (false, ((), ())))
else
(if (decide ((ByteArray.size x.1.2.1 : Int) = (32 : Int))) = true then
((i_within k (x.1.1, ((1 : Int), ((1000000000 : Int), ())))).bind fun p1 =>
(if p1.1 = true then
(if (decide ((ByteArray.size x.1.2.2.1 : Int) = (32 : Int))) = true then
((i_within k (x.1.2.2.2.1, ((0 : Int), ((12 : Int), ())))).bind fun p2 =>
(if p2.1 = true then
((i_SeenOk k (x.1.2.2.2.2.1, ())).bind fun p3 =>
(if p3.1 = true then
((i_within k (x.1.2.2.2.2.2.1, ((0 : Int), ((1000000000 : Int), ())))).bind fun p4 =>
some (p4.1, ((), ())))
else
some (false, ((), ()))))
else
some (false, ((), ()))))
else
some (false, ((), ())))
else
some (false, ((), ()))))
else
((i_within k (x.1.1, ((1 : Int), ((1000000000 : Int), ())))).bind fun p5 =>
(if p5.1 = true then
some (false, ((), ()))
else
some (false, ((), ()))))))
theorem t_i_SlotOk (k : Nat) (x) : evF TTab k [⟨57, 0, (.cons (.int .i64) (.cons (.int .i64) (.cons (.int .i64) .nil))), .bool, i_within k⟩, ⟨61, 0, (.cons (.il true (.int .i64)) .nil), .bool, i_SeenOk k⟩] [] Try.f31 (.cons (.agg (.cons (.int .i64) (.cons .str (.cons .str (.cons (.int .i64) (.cons (.il true (.int .i64)) (.cons (.int .i64) .nil))))))) .nil) .bool x = i_SlotOk k x := by kernel_rfl
theorem e_i_SlotOk (k : Nat) : EntryOk Try.prog ⟨31, 0, (.cons (.agg (.cons (.int .i64) (.cons .str (.cons .str (.cons (.int .i64) (.cons (.il true (.int .i64)) (.cons (.int .i64) .nil))))))) .nil), .bool, i_SlotOk k⟩ := entry_ok tok (by intro e he; simp only [List.mem_cons, List.not_mem_nil, or_false] at he; rcases he with rfl | rfl <;> first | exact e_i_within k | exact e_i_SeenOk k) (by kernel_rfl) (fn := Try.f31) (k := k) (es := [⟨57, 0, (.cons (.int .i64) (.cons (.int .i64) (.cons (.int .i64) .nil))), .bool, i_within k⟩, ⟨61, 0, (.cons (.il true (.int .i64)) .nil), .bool, i_SeenOk k⟩]) (loops := []) (by kernel_rfl) (by kernel_rfl) (fun x r h => (t_i_SlotOk k x).trans h)
def i_SlotsOk (k : Nat) (x : (Int × ByteArray × ByteArray × Int × List (Int) × Int × Int × ByteArray × ByteArray × Int × List (Int) × Int × Unit) × Unit) : Option (Bool × Unit × Unit) :=
((i_SlotOk k ((x.1.1, (x.1.2.1, (x.1.2.2.1, (x.1.2.2.2.1, (x.1.2.2.2.2.1, (x.1.2.2.2.2.2.1, ())))))), ())).bind fun p1 =>
(if p1.1 = true then
((i_SlotOk k ((x.1.2.2.2.2.2.2.1, (x.1.2.2.2.2.2.2.2.1, (x.1.2.2.2.2.2.2.2.2.1, (x.1.2.2.2.2.2.2.2.2.2.1, (x.1.2.2.2.2.2.2.2.2.2.2.1, (x.1.2.2.2.2.2.2.2.2.2.2.2.1, ())))))), ())).bind fun p2 =>
(if p2.1 = true then
(if (decide (x.1.2.2.2.2.2.2.1 = (0 : Int))) = false then
some ((decide (x.1.2.2.2.2.2.2.1 < x.1.1)), ((), ()))
else
some (true, ((), ())))
else
some (false, ((), ()))))
else
some (false, ((), ()))))
theorem t_i_SlotsOk (k : Nat) (x) : evF TTab k [⟨31, 0, (.cons (.agg (.cons (.int .i64) (.cons .str (.cons .str (.cons (.int .i64) (.cons (.il true (.int .i64)) (.cons (.int .i64) .nil))))))) .nil), .bool, i_SlotOk k⟩] [] Try.f30 (.cons (.agg (.cons (.int .i64) (.cons .str (.cons .str (.cons (.int .i64) (.cons (.il true (.int .i64)) (.cons (.int .i64) (.cons (.int .i64) (.cons .str (.cons .str (.cons (.int .i64) (.cons (.il true (.int .i64)) (.cons (.int .i64) .nil))))))))))))) .nil) .bool x = i_SlotsOk k x := by kernel_rfl
theorem e_i_SlotsOk (k : Nat) : EntryOk Try.prog ⟨30, 0, (.cons (.agg (.cons (.int .i64) (.cons .str (.cons .str (.cons (.int .i64) (.cons (.il true (.int .i64)) (.cons (.int .i64) (.cons (.int .i64) (.cons .str (.cons .str (.cons (.int .i64) (.cons (.il true (.int .i64)) (.cons (.int .i64) .nil))))))))))))) .nil), .bool, i_SlotsOk k⟩ := entry_ok tok (by intro e he; simp only [List.mem_cons, List.not_mem_nil, or_false] at he; rcases he with rfl <;> first | exact e_i_SlotOk k) (by kernel_rfl) (fn := Try.f30) (k := k) (es := [⟨31, 0, (.cons (.agg (.cons (.int .i64) (.cons .str (.cons .str (.cons (.int .i64) (.cons (.il true (.int .i64)) (.cons (.int .i64) .nil))))))) .nil), .bool, i_SlotOk k⟩]) (loops := []) (by kernel_rfl) (by kernel_rfl) (fun x r h => (t_i_SlotsOk k x).trans h)
def i_copyInts (k : Nat) (x : List (Int) × Unit) : Option (List (Int) × Unit × Unit) :=
(if List.length ([] : List (Int)) + List.length x.1 ≤ capMax then
some ((([] : List (Int)) ++ x.1), ((), ()))
else none)
theorem t_i_copyInts (k : Nat) (x) : evF TTab k [] [] Try.f78 (.cons (.il true (.int .i64)) .nil) (.own false 3 (.int .i64)) x = i_copyInts k x := by kernel_rfl
theorem e_i_copyInts (k : Nat) : EntryOk Try.prog ⟨78, 0, (.cons (.il true (.int .i64)) .nil), (.own false 3 (.int .i64)), i_copyInts k⟩ := entry_ok tok (by simp) (by kernel_rfl) (fn := Try.f78) (k := k) (es := []) (loops := []) (by kernel_rfl) (by kernel_rfl) (fun x r h => (t_i_copyInts k x).trans h)
def i_copySlots (k : Nat) (x : (Int × ByteArray × ByteArray × Int × List (Int) × Int × Int × ByteArray × ByteArray × Int × List (Int) × Int × Unit) × Unit) : Option ((Int × ByteArray × ByteArray × Int × List (Int) × Int × Int × ByteArray × ByteArray × Int × List (Int) × Int × Unit) × Unit × Unit) :=
((i_copyInts k (x.1.2.2.2.2.1, ())).bind fun p1 =>
((i_copyInts k (x.1.2.2.2.2.2.2.2.2.2.2.1, ())).bind fun p2 =>
some ((x.1.1, (x.1.2.1, (x.1.2.2.1, (x.1.2.2.2.1, (p1.1, (x.1.2.2.2.2.2.1, (x.1.2.2.2.2.2.2.1, (x.1.2.2.2.2.2.2.2.1, (x.1.2.2.2.2.2.2.2.2.1, (x.1.2.2.2.2.2.2.2.2.2.1, (p2.1, (x.1.2.2.2.2.2.2.2.2.2.2.2.1, ())))))))))))), ((), ()))))
theorem t_i_copySlots (k : Nat) (x) : evF TTab k [⟨78, 0, (.cons (.il true (.int .i64)) .nil), (.own false 3 (.int .i64)), i_copyInts k⟩] [] Try.f47 (.cons (.agg (.cons (.int .i64) (.cons .str (.cons .str (.cons (.int .i64) (.cons (.il true (.int .i64)) (.cons (.int .i64) (.cons (.int .i64) (.cons .str (.cons .str (.cons (.int .i64) (.cons (.il true (.int .i64)) (.cons (.int .i64) .nil))))))))))))) .nil) (.agg (.cons (.int .i64) (.cons .str (.cons .str (.cons (.int .i64) (.cons (.own false 3 (.int .i64)) (.cons (.int .i64) (.cons (.int .i64) (.cons .str (.cons .str (.cons (.int .i64) (.cons (.own false 3 (.int .i64)) (.cons (.int .i64) .nil))))))))))))) x = i_copySlots k x := by kernel_rfl
theorem e_i_copySlots (k : Nat) : EntryOk Try.prog ⟨47, 0, (.cons (.agg (.cons (.int .i64) (.cons .str (.cons .str (.cons (.int .i64) (.cons (.il true (.int .i64)) (.cons (.int .i64) (.cons (.int .i64) (.cons .str (.cons .str (.cons (.int .i64) (.cons (.il true (.int .i64)) (.cons (.int .i64) .nil))))))))))))) .nil), (.agg (.cons (.int .i64) (.cons .str (.cons .str (.cons (.int .i64) (.cons (.own false 3 (.int .i64)) (.cons (.int .i64) (.cons (.int .i64) (.cons .str (.cons .str (.cons (.int .i64) (.cons (.own false 3 (.int .i64)) (.cons (.int .i64) .nil))))))))))))), i_copySlots k⟩ := entry_ok tok (by intro e he; simp only [List.mem_cons, List.not_mem_nil, or_false] at he; rcases he with rfl <;> first | exact e_i_copyInts k) (by kernel_rfl) (fn := Try.f47) (k := k) (es := [⟨78, 0, (.cons (.il true (.int .i64)) .nil), (.own false 3 (.int .i64)), i_copyInts k⟩]) (loops := []) (by kernel_rfl) (by kernel_rfl) (fun x r h => (t_i_copySlots k x).trans h)
def i_Install (k : Nat) (x : (Int × ByteArray × ByteArray × Int × List (Int) × Int × Int × ByteArray × ByteArray × Int × List (Int) × Int × Unit) × ByteArray × ByteArray × Int × Unit) : Option (((Int × ByteArray × ByteArray × Int × List (Int) × Int × Int × ByteArray × ByteArray × Int × List (Int) × Int × Unit) × Bool × Unit) × Unit × Unit × Unit × Unit × Unit) :=
((i_copySlots k ((x.1.1, (x.1.2.1, (x.1.2.2.1, (x.1.2.2.2.1, (x.1.2.2.2.2.1, (x.1.2.2.2.2.2.1, (x.1.2.2.2.2.2.2.1, (x.1.2.2.2.2.2.2.2.1, (x.1.2.2.2.2.2.2.2.2.1, (x.1.2.2.2.2.2.2.2.2.2.1, (x.1.2.2.2.2.2.2.2.2.2.2.1, (x.1.2.2.2.2.2.2.2.2.2.2.2.1, ())))))))))))), ())).bind fun p1 =>
((i_SlotsOk k ((x.1.1, (x.1.2.1, (x.1.2.2.1, (x.1.2.2.2.1, (x.1.2.2.2.2.1, (x.1.2.2.2.2.2.1, (x.1.2.2.2.2.2.2.1, (x.1.2.2.2.2.2.2.2.1, (x.1.2.2.2.2.2.2.2.2.1, (x.1.2.2.2.2.2.2.2.2.2.1, (x.1.2.2.2.2.2.2.2.2.2.2.1, (x.1.2.2.2.2.2.2.2.2.2.2.2.1, ())))))))))))), ())).bind fun p2 =>
(if (!p2.1) = false then
(if (!decide ((ByteArray.size x.2.1 : Int) = (32 : Int))) = false then
(if (!decide ((ByteArray.size x.2.2.1 : Int) = (32 : Int))) = false then
((i_within k (x.2.2.2.1, ((0 : Int), ((999999990 : Int), ())))).bind fun p3 =>
(if (!p3.1) = false then
(if (decide (x.1.1 = (1000000000 : Int))) = true then
some (((p1.1.1, (p1.1.2.1, (p1.1.2.2.1, (p1.1.2.2.2.1, (p1.1.2.2.2.2.1, (p1.1.2.2.2.2.2.1, (p1.1.2.2.2.2.2.2.1, (p1.1.2.2.2.2.2.2.2.1, (p1.1.2.2.2.2.2.2.2.2.1, (p1.1.2.2.2.2.2.2.2.2.2.1, (p1.1.2.2.2.2.2.2.2.2.2.2.1, (p1.1.2.2.2.2.2.2.2.2.2.2.2.1, ())))))))))))), (false, ())), ((), ((), ((), ((), ())))))
else
(if (!decide (x.1.1 = (0 : Int))) = true then
some ((((wi64 (x.1.1 + (1 : Int))), (x.2.1, (x.2.2.1, ((0 : Int), ([], ((0 : Int), (p1.1.1, (p1.1.2.1, (p1.1.2.2.1, (p1.1.2.2.2.1, (p1.1.2.2.2.2.1, ((wi64 (x.2.2.2.1 + (10 : Int))), ())))))))))))), (true, ())), ((), ((), ((), ((), ())))))
else
some ((((wi64 (x.1.1 + (1 : Int))), (x.2.1, (x.2.2.1, ((0 : Int), ([], ((0 : Int), (p1.1.1, (p1.1.2.1, (p1.1.2.2.1, (p1.1.2.2.2.1, (p1.1.2.2.2.2.1, (p1.1.2.2.2.2.2.1, ())))))))))))), (true, ())), ((), ((), ((), ((), ())))))))
else
some (((p1.1.1, (p1.1.2.1, (p1.1.2.2.1, (p1.1.2.2.2.1, (p1.1.2.2.2.2.1, (p1.1.2.2.2.2.2.1, (p1.1.2.2.2.2.2.2.1, (p1.1.2.2.2.2.2.2.2.1, (p1.1.2.2.2.2.2.2.2.2.1, (p1.1.2.2.2.2.2.2.2.2.2.1, (p1.1.2.2.2.2.2.2.2.2.2.2.1, (p1.1.2.2.2.2.2.2.2.2.2.2.2.1, ())))))))))))), (false, ())), ((), ((), ((), ((), ())))))))
else
some (((p1.1.1, (p1.1.2.1, (p1.1.2.2.1, (p1.1.2.2.2.1, (p1.1.2.2.2.2.1, (p1.1.2.2.2.2.2.1, (p1.1.2.2.2.2.2.2.1, (p1.1.2.2.2.2.2.2.2.1, (p1.1.2.2.2.2.2.2.2.2.1, (p1.1.2.2.2.2.2.2.2.2.2.1, (p1.1.2.2.2.2.2.2.2.2.2.2.1, (p1.1.2.2.2.2.2.2.2.2.2.2.2.1, ())))))))))))), (false, ())), ((), ((), ((), ((), ()))))))
else
some (((p1.1.1, (p1.1.2.1, (p1.1.2.2.1, (p1.1.2.2.2.1, (p1.1.2.2.2.2.1, (p1.1.2.2.2.2.2.1, (p1.1.2.2.2.2.2.2.1, (p1.1.2.2.2.2.2.2.2.1, (p1.1.2.2.2.2.2.2.2.2.1, (p1.1.2.2.2.2.2.2.2.2.2.1, (p1.1.2.2.2.2.2.2.2.2.2.2.1, (p1.1.2.2.2.2.2.2.2.2.2.2.2.1, ())))))))))))), (false, ())), ((), ((), ((), ((), ()))))))
else
some (((p1.1.1, (p1.1.2.1, (p1.1.2.2.1, (p1.1.2.2.2.1, (p1.1.2.2.2.2.1, (p1.1.2.2.2.2.2.1, (p1.1.2.2.2.2.2.2.1, (p1.1.2.2.2.2.2.2.2.1, (p1.1.2.2.2.2.2.2.2.2.1, (p1.1.2.2.2.2.2.2.2.2.2.1, (p1.1.2.2.2.2.2.2.2.2.2.2.1, (p1.1.2.2.2.2.2.2.2.2.2.2.2.1, ())))))))))))), (false, ())), ((), ((), ((), ((), ()))))))))
theorem t_i_Install (k : Nat) (x) : evF TTab k [⟨30, 0, (.cons (.agg (.cons (.int .i64) (.cons .str (.cons .str (.cons (.int .i64) (.cons (.il true (.int .i64)) (.cons (.int .i64) (.cons (.int .i64) (.cons .str (.cons .str (.cons (.int .i64) (.cons (.il true (.int .i64)) (.cons (.int .i64) .nil))))))))))))) .nil), .bool, i_SlotsOk k⟩, ⟨47, 0, (.cons (.agg (.cons (.int .i64) (.cons .str (.cons .str (.cons (.int .i64) (.cons (.il true (.int .i64)) (.cons (.int .i64) (.cons (.int .i64) (.cons .str (.cons .str (.cons (.int .i64) (.cons (.il true (.int .i64)) (.cons (.int .i64) .nil))))))))))))) .nil), (.agg (.cons (.int .i64) (.cons .str (.cons .str (.cons (.int .i64) (.cons (.own false 3 (.int .i64)) (.cons (.int .i64) (.cons (.int .i64) (.cons .str (.cons .str (.cons (.int .i64) (.cons (.own false 3 (.int .i64)) (.cons (.int .i64) .nil))))))))))))), i_copySlots k⟩, ⟨57, 0, (.cons (.int .i64) (.cons (.int .i64) (.cons (.int .i64) .nil))), .bool, i_within k⟩] [] Try.f25 (.cons (.agg (.cons (.int .i64) (.cons .str (.cons .str (.cons (.int .i64) (.cons (.il true (.int .i64)) (.cons (.int .i64) (.cons (.int .i64) (.cons .str (.cons .str (.cons (.int .i64) (.cons (.il true (.int .i64)) (.cons (.int .i64) .nil))))))))))))) (.cons .str (.cons .str (.cons (.int .i64) .nil)))) (.tup (.cons (.agg (.cons (.int .i64) (.cons .str (.cons .str (.cons (.int .i64) (.cons (.own false 3 (.int .i64)) (.cons (.int .i64) (.cons (.int .i64) (.cons .str (.cons .str (.cons (.int .i64) (.cons (.own false 3 (.int .i64)) (.cons (.int .i64) .nil))))))))))))) (.cons .bool .nil))) x = i_Install k x := by kernel_rfl
theorem e_i_Install (k : Nat) : EntryOk Try.prog ⟨25, 0, (.cons (.agg (.cons (.int .i64) (.cons .str (.cons .str (.cons (.int .i64) (.cons (.il true (.int .i64)) (.cons (.int .i64) (.cons (.int .i64) (.cons .str (.cons .str (.cons (.int .i64) (.cons (.il true (.int .i64)) (.cons (.int .i64) .nil))))))))))))) (.cons .str (.cons .str (.cons (.int .i64) .nil)))), (.tup (.cons (.agg (.cons (.int .i64) (.cons .str (.cons .str (.cons (.int .i64) (.cons (.own false 3 (.int .i64)) (.cons (.int .i64) (.cons (.int .i64) (.cons .str (.cons .str (.cons (.int .i64) (.cons (.own false 3 (.int .i64)) (.cons (.int .i64) .nil))))))))))))) (.cons .bool .nil))), i_Install k⟩ := entry_ok tok (by intro e he; simp only [List.mem_cons, List.not_mem_nil, or_false] at he; rcases he with rfl | rfl | rfl <;> first | exact e_i_SlotsOk k | exact e_i_copySlots k | exact e_i_within k) (by kernel_rfl) (fn := Try.f25) (k := k) (es := [⟨30, 0, (.cons (.agg (.cons (.int .i64) (.cons .str (.cons .str (.cons (.int .i64) (.cons (.il true (.int .i64)) (.cons (.int .i64) (.cons (.int .i64) (.cons .str (.cons .str (.cons (.int .i64) (.cons (.il true (.int .i64)) (.cons (.int .i64) .nil))))))))))))) .nil), .bool, i_SlotsOk k⟩, ⟨47, 0, (.cons (.agg (.cons (.int .i64) (.cons .str (.cons .str (.cons (.int .i64) (.cons (.il true (.int .i64)) (.cons (.int .i64) (.cons (.int .i64) (.cons .str (.cons .str (.cons (.int .i64) (.cons (.il true (.int .i64)) (.cons (.int .i64) .nil))))))))))))) .nil), (.agg (.cons (.int .i64) (.cons .str (.cons .str (.cons (.int .i64) (.cons (.own false 3 (.int .i64)) (.cons (.int .i64) (.cons (.int .i64) (.cons .str (.cons .str (.cons (.int .i64) (.cons (.own false 3 (.int .i64)) (.cons (.int .i64) .nil))))))))))))), i_copySlots k⟩, ⟨57, 0, (.cons (.int .i64) (.cons (.int .i64) (.cons (.int .i64) .nil))), .bool, i_within k⟩]) (loops := []) (by kernel_rfl) (by kernel_rfl) (fun x r h => (t_i_Install k x).trans h)
def i_NumberText (k : Nat) (x : Int × Unit) : Option (ByteArray × Unit × Unit) :=
((i_within k (x.1, ((0 : Int), ((4294967295 : Int), ())))).bind fun p1 =>
(if (!p1.1) = true then
some ((⟨#[]⟩ : ByteArray), ((), ()))
else
some ((strOf ([(wu8 ((bitsI .and .i64 (Int.fdiv x.1 (2 ^ (min (Int.toNat (24 : Int)) (IntKind.bits .i64)))) (255 : Int)))), (wu8 ((bitsI .and .i64 (Int.fdiv x.1 (2 ^ (min (Int.toNat (16 : Int)) (IntKind.bits .i64)))) (255 : Int)))), (wu8 ((bitsI .and .i64 (Int.fdiv x.1 (2 ^ (min (Int.toNat (8 : Int)) (IntKind.bits .i64)))) (255 : Int)))), (wu8 ((bitsI .and .i64 x.1 (255 : Int))))] : List (Int))), ((), ()))))
theorem t_i_NumberText (k : Nat) (x) : evF TTab k [⟨57, 0, (.cons (.int .i64) (.cons (.int .i64) (.cons (.int .i64) .nil))), .bool, i_within k⟩] [] Try.f95 (.cons (.int .i64) .nil) .str x = i_NumberText k x := by kernel_rfl
theorem e_i_NumberText (k : Nat) : EntryOk Try.prog ⟨95, 0, (.cons (.int .i64) .nil), .str, i_NumberText k⟩ := entry_ok tok (by intro e he; simp only [List.mem_cons, List.not_mem_nil, or_false] at he; rcases he with rfl <;> first | exact e_i_within k) (by kernel_rfl) (fn := Try.f95) (k := k) (es := [⟨57, 0, (.cons (.int .i64) (.cons (.int .i64) (.cons (.int .i64) .nil))), .bool, i_within k⟩]) (loops := []) (by kernel_rfl) (by kernel_rfl) (fun x r h => (t_i_NumberText k x).trans h)
def i_wordsText (k : Nat) (x : List (Int) × Unit) : Option (ByteArray × Unit × Unit) :=
(whileK (fun (rec0 : (ByteArray × List (Int) × Int × Int × Unit) → Option _) (y0 : ByteArray × List (Int) × Int × Int × Unit) =>
(if (decide (y0.2.2.2.1 < y0.2.2.1)) = true then
(if 0 ≤ y0.2.2.2.1 ∧ y0.2.2.2.1 < (List.length y0.2.1 : Int) then
((i_NumberText k ((Ty.rd (t := (.int .i64)) y0.2.1 y0.2.2.2.1), ())).bind fun p1 =>
(if ByteArray.size y0.1 + ByteArray.size p1.1 ≤ maxStr then
(rec0 ((y0.1 ++ p1.1), (y0.2.1, (y0.2.2.1, ((wi64 (y0.2.2.2.1 + (1 : Int))), ())))))
else none))
else none)
else
((fun (z1 : ByteArray × Unit) =>
some (z1.1, ((), ()))) (y0.1, ())))) k ((⟨#[]⟩ : ByteArray), (x.1, ((List.length x.1 : Int), ((0 : Int), ())))))
theorem t_i_wordsText (k : Nat) (x) : evF TTab k [⟨95, 0, (.cons (.int .i64) .nil), .str, i_NumberText k⟩] [(0, ⟨[3, 6, 7, 8], (.cons .str (.cons (.il true (.int .i64)) (.cons (.int .i64) (.cons (.int .i64) .nil))))⟩, ⟨[3], (.cons .str .nil)⟩)] Try.f93 (.cons (.il true (.int .i64)) .nil) .str x = i_wordsText k x := by kernel_rfl
theorem e_i_wordsText (k : Nat) : EntryOk Try.prog ⟨93, 0, (.cons (.il true (.int .i64)) .nil), .str, i_wordsText k⟩ := entry_ok tok (by intro e he; simp only [List.mem_cons, List.not_mem_nil, or_false] at he; rcases he with rfl <;> first | exact e_i_NumberText k) (by kernel_rfl) (fn := Try.f93) (k := k) (es := [⟨95, 0, (.cons (.int .i64) .nil), .str, i_NumberText k⟩]) (loops := [(0, ⟨[3, 6, 7, 8], (.cons .str (.cons (.il true (.int .i64)) (.cons (.int .i64) (.cons (.int .i64) .nil))))⟩, ⟨[3], (.cons .str .nil)⟩)]) (by kernel_rfl) (by kernel_rfl) (fun x r h => (t_i_wordsText k x).trans h)
def i_constants (k : Nat) (x : Unit) : Option ((Int × Int × Int × Int × Int × Int × Int × Int × Int × Int × Int × Int × Int × Int × Int × Int × Int × Int × Int × Int × Int × Int × Int × Int × Int × Int × Int × Int × Int × Int × Int × Int × Int × Int × Int × Int × Int × Int × Int × Int × Int × Int × Int × Int × Int × Int × Int × Int × Int × Int × Int × Int × Int × Int × Int × Int × Int × Int × Int × Int × Int × Int × Int × Int × Unit) × Unit) :=
some (((1116352408 : Int), ((1899447441 : Int), ((3049323471 : Int), ((3921009573 : Int), ((961987163 : Int), ((1508970993 : Int), ((2453635748 : Int), ((2870763221 : Int), ((3624381080 : Int), ((310598401 : Int), ((607225278 : Int), ((1426881987 : Int), ((1925078388 : Int), ((2162078206 : Int), ((2614888103 : Int), ((3248222580 : Int), ((3835390401 : Int), ((4022224774 : Int), ((264347078 : Int), ((604807628 : Int), ((770255983 : Int), ((1249150122 : Int), ((1555081692 : Int), ((1996064986 : Int), ((2554220882 : Int), ((2821834349 : Int), ((2952996808 : Int), ((3210313671 : Int), ((3336571891 : Int), ((3584528711 : Int), ((113926993 : Int), ((338241895 : Int), ((666307205 : Int), ((773529912 : Int), ((1294757372 : Int), ((1396182291 : Int), ((1695183700 : Int), ((1986661051 : Int), ((2177026350 : Int), ((2456956037 : Int), ((2730485921 : Int), ((2820302411 : Int), ((3259730800 : Int), ((3345764771 : Int), ((3516065817 : Int), ((3600352804 : Int), ((4094571909 : Int), ((275423344 : Int), ((430227734 : Int), ((506948616 : Int), ((659060556 : Int), ((883997877 : Int), ((958139571 : Int), ((1322822218 : Int), ((1537002063 : Int), ((1747873779 : Int), ((1955562222 : Int), ((2024104815 : Int), ((2227730452 : Int), ((2361852424 : Int), ((2428436474 : Int), ((2756734187 : Int), ((3204031479 : Int), ((3329325298 : Int), ())))))))))))))))))))))))))))))))))))))))))))))))))))))))))))))))), ())
theorem t_i_constants (k : Nat) (x) : evF TTab k [] [] Try.f112 .nil (.agg (.cons (.int .i64) (.cons (.int .i64) (.cons (.int .i64) (.cons (.int .i64) (.cons (.int .i64) (.cons (.int .i64) (.cons (.int .i64) (.cons (.int .i64) (.cons (.int .i64) (.cons (.int .i64) (.cons (.int .i64) (.cons (.int .i64) (.cons (.int .i64) (.cons (.int .i64) (.cons (.int .i64) (.cons (.int .i64) (.cons (.int .i64) (.cons (.int .i64) (.cons (.int .i64) (.cons (.int .i64) (.cons (.int .i64) (.cons (.int .i64) (.cons (.int .i64) (.cons (.int .i64) (.cons (.int .i64) (.cons (.int .i64) (.cons (.int .i64) (.cons (.int .i64) (.cons (.int .i64) (.cons (.int .i64) (.cons (.int .i64) (.cons (.int .i64) (.cons (.int .i64) (.cons (.int .i64) (.cons (.int .i64) (.cons (.int .i64) (.cons (.int .i64) (.cons (.int .i64) (.cons (.int .i64) (.cons (.int .i64) (.cons (.int .i64) (.cons (.int .i64) (.cons (.int .i64) (.cons (.int .i64) (.cons (.int .i64) (.cons (.int .i64) (.cons (.int .i64) (.cons (.int .i64) (.cons (.int .i64) (.cons (.int .i64) (.cons (.int .i64) (.cons (.int .i64) (.cons (.int .i64) (.cons (.int .i64) (.cons (.int .i64) (.cons (.int .i64) (.cons (.int .i64) (.cons (.int .i64) (.cons (.int .i64) (.cons (.int .i64) (.cons (.int .i64) (.cons (.int .i64) (.cons (.int .i64) (.cons (.int .i64) .nil))))))))))))))))))))))))))))))))))))))))))))))))))))))))))))))))) x = i_constants k x := by kernel_rfl
theorem e_i_constants (k : Nat) : EntryOk Try.prog ⟨112, 0, .nil, (.agg (.cons (.int .i64) (.cons (.int .i64) (.cons (.int .i64) (.cons (.int .i64) (.cons (.int .i64) (.cons (.int .i64) (.cons (.int .i64) (.cons (.int .i64) (.cons (.int .i64) (.cons (.int .i64) (.cons (.int .i64) (.cons (.int .i64) (.cons (.int .i64) (.cons (.int .i64) (.cons (.int .i64) (.cons (.int .i64) (.cons (.int .i64) (.cons (.int .i64) (.cons (.int .i64) (.cons (.int .i64) (.cons (.int .i64) (.cons (.int .i64) (.cons (.int .i64) (.cons (.int .i64) (.cons (.int .i64) (.cons (.int .i64) (.cons (.int .i64) (.cons (.int .i64) (.cons (.int .i64) (.cons (.int .i64) (.cons (.int .i64) (.cons (.int .i64) (.cons (.int .i64) (.cons (.int .i64) (.cons (.int .i64) (.cons (.int .i64) (.cons (.int .i64) (.cons (.int .i64) (.cons (.int .i64) (.cons (.int .i64) (.cons (.int .i64) (.cons (.int .i64) (.cons (.int .i64) (.cons (.int .i64) (.cons (.int .i64) (.cons (.int .i64) (.cons (.int .i64) (.cons (.int .i64) (.cons (.int .i64) (.cons (.int .i64) (.cons (.int .i64) (.cons (.int .i64) (.cons (.int .i64) (.cons (.int .i64) (.cons (.int .i64) (.cons (.int .i64) (.cons (.int .i64) (.cons (.int .i64) (.cons (.int .i64) (.cons (.int .i64) (.cons (.int .i64) (.cons (.int .i64) (.cons (.int .i64) (.cons (.int .i64) .nil))))))))))))))))))))))))))))))))))))))))))))))))))))))))))))))))), i_constants k⟩ := entry_ok tok (by simp) (by kernel_rfl) (fn := Try.f112) (k := k) (es := []) (loops := []) (by kernel_rfl) (by kernel_rfl) (fun x r h => (t_i_constants k x).trans h)
def i_ReadNumber (k : Nat) (x : ByteArray × Unit) : Option ((Int × Bool × Unit) × Unit × Unit) :=
(if (!decide ((ByteArray.size x.1 : Int) = (4 : Int))) = true then
some (((0 : Int), (false, ())), ((), ()))
else
(if 0 ≤ (0 : Int) ∧ (0 : Int) < (ByteArray.size x.1 : Int) then
(if 0 ≤ (1 : Int) ∧ (1 : Int) < (ByteArray.size x.1 : Int) then
(if 0 ≤ (2 : Int) ∧ (2 : Int) < (ByteArray.size x.1 : Int) then
(if 0 ≤ (3 : Int) ∧ (3 : Int) < (ByteArray.size x.1 : Int) then
some (((bitsI .or .i64 (bitsI .or .i64 (bitsI .or .i64 (wi64 ((wi64 ((bt x.1 (0 : Int)))) * 2 ^ (min (Int.toNat (24 : Int)) (IntKind.bits .i64)))) (wi64 ((wi64 ((bt x.1 (1 : Int)))) * 2 ^ (min (Int.toNat (16 : Int)) (IntKind.bits .i64))))) (wi64 ((wi64 ((bt x.1 (2 : Int)))) * 2 ^ (min (Int.toNat (8 : Int)) (IntKind.bits .i64))))) (wi64 ((bt x.1 (3 : Int))))), (true, ())), ((), ()))
else none)
else none)
else none)
else none))
theorem t_i_ReadNumber (k : Nat) (x) : evF TTab k [] [] Try.f131 (.cons .str .nil) (.tup (.cons (.int .i64) (.cons .bool .nil))) x = i_ReadNumber k x := by kernel_rfl
theorem e_i_ReadNumber (k : Nat) : EntryOk Try.prog ⟨131, 0, (.cons .str .nil), (.tup (.cons (.int .i64) (.cons .bool .nil))), i_ReadNumber k⟩ := entry_ok tok (by simp) (by kernel_rfl) (fn := Try.f131) (k := k) (es := []) (loops := []) (by kernel_rfl) (by kernel_rfl) (fun x r h => (t_i_ReadNumber k x).trans h)
def i_wordsOf (k : Nat) (x : ByteArray × Unit) : Option (List (Int) × Unit × Unit) :=
(whileK (fun (rec0 : (ByteArray × List (Int) × Int × Unit) → Option _) (y0 : ByteArray × List (Int) × Int × Unit) =>
(if (decide ((wi64 (y0.2.2.1 + (4 : Int))) ≤ (ByteArray.size y0.1 : Int))) = true then
(if 0 ≤ (wi64 (y0.2.2.1 + (4 : Int))) ∧ (wi64 (y0.2.2.1 + (4 : Int))) ≤ (ByteArray.size y0.1 : Int) then
(if 0 ≤ y0.2.2.1 ∧ y0.2.2.1 ≤ (wi64 (y0.2.2.1 + (4 : Int))) then
((i_ReadNumber k ((ByteArray.extract y0.1 (Int.toNat y0.2.2.1) (Int.toNat (wi64 (y0.2.2.1 + (4 : Int))))), ())).bind fun p1 =>
(if List.length y0.2.1 + List.length ([p1.1.1] : List (Int)) ≤ capMax then
(rec0 (y0.1, ((y0.2.1 ++ ([p1.1.1] : List (Int))), ((wi64 (y0.2.2.1 + (4 : Int))), ()))))
else none))
else none)
else none)
else
((fun (z1 : List (Int) × Unit) =>
some (z1.1, ((), ()))) (y0.2.1, ())))) k (x.1, (([] : List (Int)), ((0 : Int), ()))))
theorem t_i_wordsOf (k : Nat) (x) : evF TTab k [⟨131, 0, (.cons .str .nil), (.tup (.cons (.int .i64) (.cons .bool .nil))), i_ReadNumber k⟩] [(0, ⟨[0, 3, 4], (.cons .str (.cons (.own false 3 (.int .i64)) (.cons (.int .i64) .nil)))⟩, ⟨[3], (.cons (.own false 3 (.int .i64)) .nil)⟩)] Try.f114 (.cons .str .nil) (.own false 3 (.int .i64)) x = i_wordsOf k x := by kernel_rfl
theorem e_i_wordsOf (k : Nat) : EntryOk Try.prog ⟨114, 0, (.cons .str .nil), (.own false 3 (.int .i64)), i_wordsOf k⟩ := entry_ok tok (by intro e he; simp only [List.mem_cons, List.not_mem_nil, or_false] at he; rcases he with rfl <;> first | exact e_i_ReadNumber k) (by kernel_rfl) (fn := Try.f114) (k := k) (es := [⟨131, 0, (.cons .str .nil), (.tup (.cons (.int .i64) (.cons .bool .nil))), i_ReadNumber k⟩]) (loops := [(0, ⟨[0, 3, 4], (.cons .str (.cons (.own false 3 (.int .i64)) (.cons (.int .i64) .nil)))⟩, ⟨[3], (.cons (.own false 3 (.int .i64)) .nil)⟩)]) (by kernel_rfl) (by kernel_rfl) (fun x r h => (t_i_wordsOf k x).trans h)
def i_turnRight (k : Nat) (x : Int × Int × Unit) : Option (Int × Unit × Unit × Unit) :=
(if x.2.1 < 0 then
none
else
(if (wi64 ((32 : Int) - x.2.1)) < 0 then
none
else
some ((bitsI .and .i64 (bitsI .or .i64 (Int.fdiv x.1 (2 ^ (min (Int.toNat x.2.1) (IntKind.bits .i64)))) (wi64 (x.1 * 2 ^ (min (Int.toNat (wi64 ((32 : Int) - x.2.1))) (IntKind.bits .i64))))) (4294967295 : Int)), ((), ((), ())))))
theorem t_i_turnRight (k : Nat) (x) : evF TTab k [] [] Try.f115 (.cons (.int .i64) (.cons (.int .i64) .nil)) (.int .i64) x = i_turnRight k x := by kernel_rfl
theorem e_i_turnRight (k : Nat) : EntryOk Try.prog ⟨115, 0, (.cons (.int .i64) (.cons (.int .i64) .nil)), (.int .i64), i_turnRight k⟩ := entry_ok tok (by simp) (by kernel_rfl) (fn := Try.f115) (k := k) (es := []) (loops := []) (by kernel_rfl) (by kernel_rfl) (fun x r h => (t_i_turnRight k x).trans h)
def i_expanded (k : Nat) (x : ByteArray × Unit) : Option (List (Int) × Unit × Unit) :=
((i_wordsOf k (x.1, ())).bind fun p1 =>
(whileK (fun (rec0 : (List (Int) × Int × Unit) → Option _) (y0 : List (Int) × Int × Unit) =>
(if (decide (y0.2.1 < (64 : Int))) = true then
(if 0 ≤ (wi64 (y0.2.1 - (15 : Int))) ∧ (wi64 (y0.2.1 - (15 : Int))) < (List.length y0.1 : Int) then
(if 0 ≤ (wi64 (y0.2.1 - (2 : Int))) ∧ (wi64 (y0.2.1 - (2 : Int))) < (List.length y0.1 : Int) then
((i_turnRight k ((Ty.rd (t := (.int .i64)) y0.1 (wi64 (y0.2.1 - (15 : Int)))), ((7 : Int), ()))).bind fun p2 =>
((i_turnRight k ((Ty.rd (t := (.int .i64)) y0.1 (wi64 (y0.2.1 - (15 : Int)))), ((18 : Int), ()))).bind fun p3 =>
((i_turnRight k ((Ty.rd (t := (.int .i64)) y0.1 (wi64 (y0.2.1 - (2 : Int)))), ((17 : Int), ()))).bind fun p4 =>
((i_turnRight k ((Ty.rd (t := (.int .i64)) y0.1 (wi64 (y0.2.1 - (2 : Int)))), ((19 : Int), ()))).bind fun p5 =>
(if 0 ≤ (wi64 (y0.2.1 - (7 : Int))) ∧ (wi64 (y0.2.1 - (7 : Int))) < (List.length y0.1 : Int) then
(if 0 ≤ (wi64 (y0.2.1 - (16 : Int))) ∧ (wi64 (y0.2.1 - (16 : Int))) < (List.length y0.1 : Int) then
(if List.length y0.1 + List.length ([(bitsI .and .i64 (wi64 ((wi64 ((wi64 ((bitsI .xor .i64 (bitsI .xor .i64 p4.1 p5.1) (Int.fdiv (Ty.rd (t := (.int .i64)) y0.1 (wi64 (y0.2.1 - (2 : Int)))) (2 ^ (min (Int.toNat (10 : Int)) (IntKind.bits .i64))))) + (Ty.rd (t := (.int .i64)) y0.1 (wi64 (y0.2.1 - (7 : Int)))))) + (bitsI .xor .i64 (bitsI .xor .i64 p2.1 p3.1) (Int.fdiv (Ty.rd (t := (.int .i64)) y0.1 (wi64 (y0.2.1 - (15 : Int)))) (2 ^ (min (Int.toNat (3 : Int)) (IntKind.bits .i64))))))) + (Ty.rd (t := (.int .i64)) y0.1 (wi64 (y0.2.1 - (16 : Int)))))) (4294967295 : Int))] : List (Int)) ≤ capMax then
(rec0 ((y0.1 ++ ([(bitsI .and .i64 (wi64 ((wi64 ((wi64 ((bitsI .xor .i64 (bitsI .xor .i64 p4.1 p5.1) (Int.fdiv (Ty.rd (t := (.int .i64)) y0.1 (wi64 (y0.2.1 - (2 : Int)))) (2 ^ (min (Int.toNat (10 : Int)) (IntKind.bits .i64))))) + (Ty.rd (t := (.int .i64)) y0.1 (wi64 (y0.2.1 - (7 : Int)))))) + (bitsI .xor .i64 (bitsI .xor .i64 p2.1 p3.1) (Int.fdiv (Ty.rd (t := (.int .i64)) y0.1 (wi64 (y0.2.1 - (15 : Int)))) (2 ^ (min (Int.toNat (3 : Int)) (IntKind.bits .i64))))))) + (Ty.rd (t := (.int .i64)) y0.1 (wi64 (y0.2.1 - (16 : Int)))))) (4294967295 : Int))] : List (Int))), ((wi64 (y0.2.1 + (1 : Int))), ())))
else none)
else none)
else none)))))
else none)
else none)
else
((fun (z1 : List (Int) × Unit) =>
some (z1.1, ((), ()))) (y0.1, ())))) k (p1.1, ((16 : Int), ()))))
theorem t_i_expanded (k : Nat) (x) : evF TTab k [⟨114, 0, (.cons .str .nil), (.own false 3 (.int .i64)), i_wordsOf k⟩, ⟨115, 0, (.cons (.int .i64) (.cons (.int .i64) .nil)), (.int .i64), i_turnRight k⟩] [(0, ⟨[3, 4], (.cons (.own false 3 (.int .i64)) (.cons (.int .i64) .nil))⟩, ⟨[3], (.cons (.own false 3 (.int .i64)) .nil)⟩)] Try.f113 (.cons .str .nil) (.own false 3 (.int .i64)) x = i_expanded k x := by kernel_rfl
theorem e_i_expanded (k : Nat) : EntryOk Try.prog ⟨113, 0, (.cons .str .nil), (.own false 3 (.int .i64)), i_expanded k⟩ := entry_ok tok (by intro e he; simp only [List.mem_cons, List.not_mem_nil, or_false] at he; rcases he with rfl | rfl <;> first | exact e_i_wordsOf k | exact e_i_turnRight k) (by kernel_rfl) (fn := Try.f113) (k := k) (es := [⟨114, 0, (.cons .str .nil), (.own false 3 (.int .i64)), i_wordsOf k⟩, ⟨115, 0, (.cons (.int .i64) (.cons (.int .i64) .nil)), (.int .i64), i_turnRight k⟩]) (loops := [(0, ⟨[3, 4], (.cons (.own false 3 (.int .i64)) (.cons (.int .i64) .nil))⟩, ⟨[3], (.cons (.own false 3 (.int .i64)) .nil)⟩)]) (by kernel_rfl) (by kernel_rfl) (fun x r h => (t_i_expanded k x).trans h)
def i_round (k : Nat) (x : ByteArray × ByteArray × Unit) : Option (ByteArray × Unit × Unit × Unit) :=
((i_constants k ()).bind fun p1 =>
((i_expanded k (x.2.1, ())).bind fun p2 =>
((i_wordsOf k (x.1, ())).bind fun p3 =>
(if 0 ≤ (0 : Int) ∧ (0 : Int) < (List.length p3.1 : Int) then
(if 0 ≤ (1 : Int) ∧ (1 : Int) < (List.length p3.1 : Int) then
(if 0 ≤ (2 : Int) ∧ (2 : Int) < (List.length p3.1 : Int) then
(if 0 ≤ (3 : Int) ∧ (3 : Int) < (List.length p3.1 : Int) then
(if 0 ≤ (4 : Int) ∧ (4 : Int) < (List.length p3.1 : Int) then
(if 0 ≤ (5 : Int) ∧ (5 : Int) < (List.length p3.1 : Int) then
(if 0 ≤ (6 : Int) ∧ (6 : Int) < (List.length p3.1 : Int) then
(if 0 ≤ (7 : Int) ∧ (7 : Int) < (List.length p3.1 : Int) then
(whileK (fun (rec0 : ((Int × Int × Int × Int × Int × Int × Int × Int × Int × Int × Int × Int × Int × Int × Int × Int × Int × Int × Int × Int × Int × Int × Int × Int × Int × Int × Int × Int × Int × Int × Int × Int × Int × Int × Int × Int × Int × Int × Int × Int × Int × Int × Int × Int × Int × Int × Int × Int × Int × Int × Int × Int × Int × Int × Int × Int × Int × Int × Int × Int × Int × Int × Int × Int × Unit) × List (Int) × List (Int) × Int × Int × Int × Int × Int × Int × Int × Int × Int × Unit) → Option _) (y0 : (Int × Int × Int × Int × Int × Int × Int × Int × Int × Int × Int × Int × Int × Int × Int × Int × Int × Int × Int × Int × Int × Int × Int × Int × Int × Int × Int × Int × Int × Int × Int × Int × Int × Int × Int × Int × Int × Int × Int × Int × Int × Int × Int × Int × Int × Int × Int × Int × Int × Int × Int × Int × Int × Int × Int × Int × Int × Int × Int × Int × Int × Int × Int × Int × Unit) × List (Int) × List (Int) × Int × Int × Int × Int × Int × Int × Int × Int × Int × Unit) =>
(if (decide (y0.2.2.2.2.2.2.2.2.2.2.2.1 < (64 : Int))) = true then
((i_turnRight k (y0.2.2.2.2.2.2.2.1, ((6 : Int), ()))).bind fun p4 =>
((i_turnRight k (y0.2.2.2.2.2.2.2.1, ((11 : Int), ()))).bind fun p5 =>
((i_turnRight k (y0.2.2.2.2.2.2.2.1, ((25 : Int), ()))).bind fun p6 =>
(if 0 ≤ y0.2.2.2.2.2.2.2.2.2.2.2.1 ∧ y0.2.2.2.2.2.2.2.2.2.2.2.1 < (64 : Int) then
(if y0.2.2.2.2.2.2.2.2.2.2.2.1 < (List.length ([y0.1.1, y0.1.2.1, y0.1.2.2.1, y0.1.2.2.2.1, y0.1.2.2.2.2.1, y0.1.2.2.2.2.2.1, y0.1.2.2.2.2.2.2.1, y0.1.2.2.2.2.2.2.2.1, y0.1.2.2.2.2.2.2.2.2.1, y0.1.2.2.2.2.2.2.2.2.2.1, y0.1.2.2.2.2.2.2.2.2.2.2.1, y0.1.2.2.2.2.2.2.2.2.2.2.2.1, y0.1.2.2.2.2.2.2.2.2.2.2.2.2.1, y0.1.2.2.2.2.2.2.2.2.2.2.2.2.2.1, y0.1.2.2.2.2.2.2.2.2.2.2.2.2.2.2.1, y0.1.2.2.2.2.2.2.2.2.2.2.2.2.2.2.2.1, y0.1.2.2.2.2.2.2.2.2.2.2.2.2.2.2.2.2.1, y0.1.2.2.2.2.2.2.2.2.2.2.2.2.2.2.2.2.2.1, y0.1.2.2.2.2.2.2.2.2.2.2.2.2.2.2.2.2.2.2.1, y0.1.2.2.2.2.2.2.2.2.2.2.2.2.2.2.2.2.2.2.2.1, y0.1.2.2.2.2.2.2.2.2.2.2.2.2.2.2.2.2.2.2.2.2.1, y0.1.2.2.2.2.2.2.2.2.2.2.2.2.2.2.2.2.2.2.2.2.2.1, y0.1.2.2.2.2.2.2.2.2.2.2.2.2.2.2.2.2.2.2.2.2.2.2.1, y0.1.2.2.2.2.2.2.2.2.2.2.2.2.2.2.2.2.2.2.2.2.2.2.2.1, y0.1.2.2.2.2.2.2.2.2.2.2.2.2.2.2.2.2.2.2.2.2.2.2.2.2.1, y0.1.2.2.2.2.2.2.2.2.2.2.2.2.2.2.2.2.2.2.2.2.2.2.2.2.2.1, y0.1.2.2.2.2.2.2.2.2.2.2.2.2.2.2.2.2.2.2.2.2.2.2.2.2.2.2.1, y0.1.2.2.2.2.2.2.2.2.2.2.2.2.2.2.2.2.2.2.2.2.2.2.2.2.2.2.2.1, y0.1.2.2.2.2.2.2.2.2.2.2.2.2.2.2.2.2.2.2.2.2.2.2.2.2.2.2.2.2.1, y0.1.2.2.2.2.2.2.2.2.2.2.2.2.2.2.2.2.2.2.2.2.2.2.2.2.2.2.2.2.2.1, y0.1.2.2.2.2.2.2.2.2.2.2.2.2.2.2.2.2.2.2.2.2.2.2.2.2.2.2.2.2.2.2.1, y0.1.2.2.2.2.2.2.2.2.2.2.2.2.2.2.2.2.2.2.2.2.2.2.2.2.2.2.2.2.2.2.2.1, y0.1.2.2.2.2.2.2.2.2.2.2.2.2.2.2.2.2.2.2.2.2.2.2.2.2.2.2.2.2.2.2.2.2.1, y0.1.2.2.2.2.2.2.2.2.2.2.2.2.2.2.2.2.2.2.2.2.2.2.2.2.2.2.2.2.2.2.2.2.2.1, y0.1.2.2.2.2.2.2.2.2.2.2.2.2.2.2.2.2.2.2.2.2.2.2.2.2.2.2.2.2.2.2.2.2.2.2.1, y0.1.2.2.2.2.2.2.2.2.2.2.2.2.2.2.2.2.2.2.2.2.2.2.2.2.2.2.2.2.2.2.2.2.2.2.2.1, y0.1.2.2.2.2.2.2.2.2.2.2.2.2.2.2.2.2.2.2.2.2.2.2.2.2.2.2.2.2.2.2.2.2.2.2.2.2.1, y0.1.2.2.2.2.2.2.2.2.2.2.2.2.2.2.2.2.2.2.2.2.2.2.2.2.2.2.2.2.2.2.2.2.2.2.2.2.2.1, y0.1.2.2.2.2.2.2.2.2.2.2.2.2.2.2.2.2.2.2.2.2.2.2.2.2.2.2.2.2.2.2.2.2.2.2.2.2.2.2.1, y0.1.2.2.2.2.2.2.2.2.2.2.2.2.2.2.2.2.2.2.2.2.2.2.2.2.2.2.2.2.2.2.2.2.2.2.2.2.2.2.2.1, y0.1.2.2.2.2.2.2.2.2.2.2.2.2.2.2.2.2.2.2.2.2.2.2.2.2.2.2.2.2.2.2.2.2.2.2.2.2.2.2.2.2.1, y0.1.2.2.2.2.2.2.2.2.2.2.2.2.2.2.2.2.2.2.2.2.2.2.2.2.2.2.2.2.2.2.2.2.2.2.2.2.2.2.2.2.2.1, y0.1.2.2.2.2.2.2.2.2.2.2.2.2.2.2.2.2.2.2.2.2.2.2.2.2.2.2.2.2.2.2.2.2.2.2.2.2.2.2.2.2.2.2.1, y0.1.2.2.2.2.2.2.2.2.2.2.2.2.2.2.2.2.2.2.2.2.2.2.2.2.2.2.2.2.2.2.2.2.2.2.2.2.2.2.2.2.2.2.2.1, y0.1.2.2.2.2.2.2.2.2.2.2.2.2.2.2.2.2.2.2.2.2.2.2.2.2.2.2.2.2.2.2.2.2.2.2.2.2.2.2.2.2.2.2.2.2.1, y0.1.2.2.2.2.2.2.2.2.2.2.2.2.2.2.2.2.2.2.2.2.2.2.2.2.2.2.2.2.2.2.2.2.2.2.2.2.2.2.2.2.2.2.2.2.2.1, y0.1.2.2.2.2.2.2.2.2.2.2.2.2.2.2.2.2.2.2.2.2.2.2.2.2.2.2.2.2.2.2.2.2.2.2.2.2.2.2.2.2.2.2.2.2.2.2.1, y0.1.2.2.2.2.2.2.2.2.2.2.2.2.2.2.2.2.2.2.2.2.2.2.2.2.2.2.2.2.2.2.2.2.2.2.2.2.2.2.2.2.2.2.2.2.2.2.2.1, y0.1.2.2.2.2.2.2.2.2.2.2.2.2.2.2.2.2.2.2.2.2.2.2.2.2.2.2.2.2.2.2.2.2.2.2.2.2.2.2.2.2.2.2.2.2.2.2.2.2.1, y0.1.2.2.2.2.2.2.2.2.2.2.2.2.2.2.2.2.2.2.2.2.2.2.2.2.2.2.2.2.2.2.2.2.2.2.2.2.2.2.2.2.2.2.2.2.2.2.2.2.2.1, y0.1.2.2.2.2.2.2.2.2.2.2.2.2.2.2.2.2.2.2.2.2.2.2.2.2.2.2.2.2.2.2.2.2.2.2.2.2.2.2.2.2.2.2.2.2.2.2.2.2.2.2.1, y0.1.2.2.2.2.2.2.2.2.2.2.2.2.2.2.2.2.2.2.2.2.2.2.2.2.2.2.2.2.2.2.2.2.2.2.2.2.2.2.2.2.2.2.2.2.2.2.2.2.2.2.2.1, y0.1.2.2.2.2.2.2.2.2.2.2.2.2.2.2.2.2.2.2.2.2.2.2.2.2.2.2.2.2.2.2.2.2.2.2.2.2.2.2.2.2.2.2.2.2.2.2.2.2.2.2.2.2.1, y0.1.2.2.2.2.2.2.2.2.2.2.2.2.2.2.2.2.2.2.2.2.2.2.2.2.2.2.2.2.2.2.2.2.2.2.2.2.2.2.2.2.2.2.2.2.2.2.2.2.2.2.2.2.2.1, y0.1.2.2.2.2.2.2.2.2.2.2.2.2.2.2.2.2.2.2.2.2.2.2.2.2.2.2.2.2.2.2.2.2.2.2.2.2.2.2.2.2.2.2.2.2.2.2.2.2.2.2.2.2.2.2.1, y0.1.2.2.2.2.2.2.2.2.2.2.2.2.2.2.2.2.2.2.2.2.2.2.2.2.2.2.2.2.2.2.2.2.2.2.2.2.2.2.2.2.2.2.2.2.2.2.2.2.2.2.2.2.2.2.2.1, y0.1.2.2.2.2.2.2.2.2.2.2.2.2.2.2.2.2.2.2.2.2.2.2.2.2.2.2.2.2.2.2.2.2.2.2.2.2.2.2.2.2.2.2.2.2.2.2.2.2.2.2.2.2.2.2.2.2.1, y0.1.2.2.2.2.2.2.2.2.2.2.2.2.2.2.2.2.2.2.2.2.2.2.2.2.2.2.2.2.2.2.2.2.2.2.2.2.2.2.2.2.2.2.2.2.2.2.2.2.2.2.2.2.2.2.2.2.2.1, y0.1.2.2.2.2.2.2.2.2.2.2.2.2.2.2.2.2.2.2.2.2.2.2.2.2.2.2.2.2.2.2.2.2.2.2.2.2.2.2.2.2.2.2.2.2.2.2.2.2.2.2.2.2.2.2.2.2.2.2.1, y0.1.2.2.2.2.2.2.2.2.2.2.2.2.2.2.2.2.2.2.2.2.2.2.2.2.2.2.2.2.2.2.2.2.2.2.2.2.2.2.2.2.2.2.2.2.2.2.2.2.2.2.2.2.2.2.2.2.2.2.2.1, y0.1.2.2.2.2.2.2.2.2.2.2.2.2.2.2.2.2.2.2.2.2.2.2.2.2.2.2.2.2.2.2.2.2.2.2.2.2.2.2.2.2.2.2.2.2.2.2.2.2.2.2.2.2.2.2.2.2.2.2.2.2.1, y0.1.2.2.2.2.2.2.2.2.2.2.2.2.2.2.2.2.2.2.2.2.2.2.2.2.2.2.2.2.2.2.2.2.2.2.2.2.2.2.2.2.2.2.2.2.2.2.2.2.2.2.2.2.2.2.2.2.2.2.2.2.2.1, y0.1.2.2.2.2.2.2.2.2.2.2.2.2.2.2.2.2.2.2.2.2.2.2.2.2.2.2.2.2.2.2.2.2.2.2.2.2.2.2.2.2.2.2.2.2.2.2.2.2.2.2.2.2.2.2.2.2.2.2.2.2.2.2.1, y0.1.2.2.2.2.2.2.2.2.2.2.2.2.2.2.2.2.2.2.2.2.2.2.2.2.2.2.2.2.2.2.2.2.2.2.2.2.2.2.2.2.2.2.2.2.2.2.2.2.2.2.2.2.2.2.2.2.2.2.2.2.2.2.2.1] : List Int) : Int) then
(if 0 ≤ y0.2.2.2.2.2.2.2.2.2.2.2.1 ∧ y0.2.2.2.2.2.2.2.2.2.2.2.1 < (List.length y0.2.1 : Int) then
((i_turnRight k (y0.2.2.2.1, ((2 : Int), ()))).bind fun p7 =>
((i_turnRight k (y0.2.2.2.1, ((13 : Int), ()))).bind fun p8 =>
((i_turnRight k (y0.2.2.2.1, ((22 : Int), ()))).bind fun p9 =>
(rec0 (y0.1, (y0.2.1, (y0.2.2.1, ((bitsI .and .i64 (wi64 ((wi64 ((wi64 ((wi64 ((wi64 (y0.2.2.2.2.2.2.2.2.2.2.1 + (bitsI .xor .i64 (bitsI .xor .i64 p4.1 p5.1) p6.1))) + (bitsI .xor .i64 (bitsI .and .i64 y0.2.2.2.2.2.2.2.1 y0.2.2.2.2.2.2.2.2.1) (bitsI .and .i64 (bitsI .xor .i64 (4294967295 : Int) y0.2.2.2.2.2.2.2.1) y0.2.2.2.2.2.2.2.2.2.1)))) + (Ty.rd (t := .int .i64) ([y0.1.1, y0.1.2.1, y0.1.2.2.1, y0.1.2.2.2.1, y0.1.2.2.2.2.1, y0.1.2.2.2.2.2.1, y0.1.2.2.2.2.2.2.1, y0.1.2.2.2.2.2.2.2.1, y0.1.2.2.2.2.2.2.2.2.1, y0.1.2.2.2.2.2.2.2.2.2.1, y0.1.2.2.2.2.2.2.2.2.2.2.1, y0.1.2.2.2.2.2.2.2.2.2.2.2.1, y0.1.2.2.2.2.2.2.2.2.2.2.2.2.1, y0.1.2.2.2.2.2.2.2.2.2.2.2.2.2.1, y0.1.2.2.2.2.2.2.2.2.2.2.2.2.2.2.1, y0.1.2.2.2.2.2.2.2.2.2.2.2.2.2.2.2.1, y0.1.2.2.2.2.2.2.2.2.2.2.2.2.2.2.2.2.1, y0.1.2.2.2.2.2.2.2.2.2.2.2.2.2.2.2.2.2.1, y0.1.2.2.2.2.2.2.2.2.2.2.2.2.2.2.2.2.2.2.1, y0.1.2.2.2.2.2.2.2.2.2.2.2.2.2.2.2.2.2.2.2.1, y0.1.2.2.2.2.2.2.2.2.2.2.2.2.2.2.2.2.2.2.2.2.1, y0.1.2.2.2.2.2.2.2.2.2.2.2.2.2.2.2.2.2.2.2.2.2.1, y0.1.2.2.2.2.2.2.2.2.2.2.2.2.2.2.2.2.2.2.2.2.2.2.1, y0.1.2.2.2.2.2.2.2.2.2.2.2.2.2.2.2.2.2.2.2.2.2.2.2.1, y0.1.2.2.2.2.2.2.2.2.2.2.2.2.2.2.2.2.2.2.2.2.2.2.2.2.1, y0.1.2.2.2.2.2.2.2.2.2.2.2.2.2.2.2.2.2.2.2.2.2.2.2.2.2.1, y0.1.2.2.2.2.2.2.2.2.2.2.2.2.2.2.2.2.2.2.2.2.2.2.2.2.2.2.1, y0.1.2.2.2.2.2.2.2.2.2.2.2.2.2.2.2.2.2.2.2.2.2.2.2.2.2.2.2.1, y0.1.2.2.2.2.2.2.2.2.2.2.2.2.2.2.2.2.2.2.2.2.2.2.2.2.2.2.2.2.1, y0.1.2.2.2.2.2.2.2.2.2.2.2.2.2.2.2.2.2.2.2.2.2.2.2.2.2.2.2.2.2.1, y0.1.2.2.2.2.2.2.2.2.2.2.2.2.2.2.2.2.2.2.2.2.2.2.2.2.2.2.2.2.2.2.1, y0.1.2.2.2.2.2.2.2.2.2.2.2.2.2.2.2.2.2.2.2.2.2.2.2.2.2.2.2.2.2.2.2.1, y0.1.2.2.2.2.2.2.2.2.2.2.2.2.2.2.2.2.2.2.2.2.2.2.2.2.2.2.2.2.2.2.2.2.1, y0.1.2.2.2.2.2.2.2.2.2.2.2.2.2.2.2.2.2.2.2.2.2.2.2.2.2.2.2.2.2.2.2.2.2.1, y0.1.2.2.2.2.2.2.2.2.2.2.2.2.2.2.2.2.2.2.2.2.2.2.2.2.2.2.2.2.2.2.2.2.2.2.1, y0.1.2.2.2.2.2.2.2.2.2.2.2.2.2.2.2.2.2.2.2.2.2.2.2.2.2.2.2.2.2.2.2.2.2.2.2.1, y0.1.2.2.2.2.2.2.2.2.2.2.2.2.2.2.2.2.2.2.2.2.2.2.2.2.2.2.2.2.2.2.2.2.2.2.2.2.1, y0.1.2.2.2.2.2.2.2.2.2.2.2.2.2.2.2.2.2.2.2.2.2.2.2.2.2.2.2.2.2.2.2.2.2.2.2.2.2.1, y0.1.2.2.2.2.2.2.2.2.2.2.2.2.2.2.2.2.2.2.2.2.2.2.2.2.2.2.2.2.2.2.2.2.2.2.2.2.2.2.1, y0.1.2.2.2.2.2.2.2.2.2.2.2.2.2.2.2.2.2.2.2.2.2.2.2.2.2.2.2.2.2.2.2.2.2.2.2.2.2.2.2.1, y0.1.2.2.2.2.2.2.2.2.2.2.2.2.2.2.2.2.2.2.2.2.2.2.2.2.2.2.2.2.2.2.2.2.2.2.2.2.2.2.2.2.1, y0.1.2.2.2.2.2.2.2.2.2.2.2.2.2.2.2.2.2.2.2.2.2.2.2.2.2.2.2.2.2.2.2.2.2.2.2.2.2.2.2.2.2.1, y0.1.2.2.2.2.2.2.2.2.2.2.2.2.2.2.2.2.2.2.2.2.2.2.2.2.2.2.2.2.2.2.2.2.2.2.2.2.2.2.2.2.2.2.1, y0.1.2.2.2.2.2.2.2.2.2.2.2.2.2.2.2.2.2.2.2.2.2.2.2.2.2.2.2.2.2.2.2.2.2.2.2.2.2.2.2.2.2.2.2.1, y0.1.2.2.2.2.2.2.2.2.2.2.2.2.2.2.2.2.2.2.2.2.2.2.2.2.2.2.2.2.2.2.2.2.2.2.2.2.2.2.2.2.2.2.2.2.1, y0.1.2.2.2.2.2.2.2.2.2.2.2.2.2.2.2.2.2.2.2.2.2.2.2.2.2.2.2.2.2.2.2.2.2.2.2.2.2.2.2.2.2.2.2.2.2.1, y0.1.2.2.2.2.2.2.2.2.2.2.2.2.2.2.2.2.2.2.2.2.2.2.2.2.2.2.2.2.2.2.2.2.2.2.2.2.2.2.2.2.2.2.2.2.2.2.1, y0.1.2.2.2.2.2.2.2.2.2.2.2.2.2.2.2.2.2.2.2.2.2.2.2.2.2.2.2.2.2.2.2.2.2.2.2.2.2.2.2.2.2.2.2.2.2.2.2.1, y0.1.2.2.2.2.2.2.2.2.2.2.2.2.2.2.2.2.2.2.2.2.2.2.2.2.2.2.2.2.2.2.2.2.2.2.2.2.2.2.2.2.2.2.2.2.2.2.2.2.1, y0.1.2.2.2.2.2.2.2.2.2.2.2.2.2.2.2.2.2.2.2.2.2.2.2.2.2.2.2.2.2.2.2.2.2.2.2.2.2.2.2.2.2.2.2.2.2.2.2.2.2.1, y0.1.2.2.2.2.2.2.2.2.2.2.2.2.2.2.2.2.2.2.2.2.2.2.2.2.2.2.2.2.2.2.2.2.2.2.2.2.2.2.2.2.2.2.2.2.2.2.2.2.2.2.1, y0.1.2.2.2.2.2.2.2.2.2.2.2.2.2.2.2.2.2.2.2.2.2.2.2.2.2.2.2.2.2.2.2.2.2.2.2.2.2.2.2.2.2.2.2.2.2.2.2.2.2.2.2.1, y0.1.2.2.2.2.2.2.2.2.2.2.2.2.2.2.2.2.2.2.2.2.2.2.2.2.2.2.2.2.2.2.2.2.2.2.2.2.2.2.2.2.2.2.2.2.2.2.2.2.2.2.2.2.1, y0.1.2.2.2.2.2.2.2.2.2.2.2.2.2.2.2.2.2.2.2.2.2.2.2.2.2.2.2.2.2.2.2.2.2.2.2.2.2.2.2.2.2.2.2.2.2.2.2.2.2.2.2.2.2.1, y0.1.2.2.2.2.2.2.2.2.2.2.2.2.2.2.2.2.2.2.2.2.2.2.2.2.2.2.2.2.2.2.2.2.2.2.2.2.2.2.2.2.2.2.2.2.2.2.2.2.2.2.2.2.2.2.1, y0.1.2.2.2.2.2.2.2.2.2.2.2.2.2.2.2.2.2.2.2.2.2.2.2.2.2.2.2.2.2.2.2.2.2.2.2.2.2.2.2.2.2.2.2.2.2.2.2.2.2.2.2.2.2.2.2.1, y0.1.2.2.2.2.2.2.2.2.2.2.2.2.2.2.2.2.2.2.2.2.2.2.2.2.2.2.2.2.2.2.2.2.2.2.2.2.2.2.2.2.2.2.2.2.2.2.2.2.2.2.2.2.2.2.2.2.1, y0.1.2.2.2.2.2.2.2.2.2.2.2.2.2.2.2.2.2.2.2.2.2.2.2.2.2.2.2.2.2.2.2.2.2.2.2.2.2.2.2.2.2.2.2.2.2.2.2.2.2.2.2.2.2.2.2.2.2.1, y0.1.2.2.2.2.2.2.2.2.2.2.2.2.2.2.2.2.2.2.2.2.2.2.2.2.2.2.2.2.2.2.2.2.2.2.2.2.2.2.2.2.2.2.2.2.2.2.2.2.2.2.2.2.2.2.2.2.2.2.1, y0.1.2.2.2.2.2.2.2.2.2.2.2.2.2.2.2.2.2.2.2.2.2.2.2.2.2.2.2.2.2.2.2.2.2.2.2.2.2.2.2.2.2.2.2.2.2.2.2.2.2.2.2.2.2.2.2.2.2.2.2.1, y0.1.2.2.2.2.2.2.2.2.2.2.2.2.2.2.2.2.2.2.2.2.2.2.2.2.2.2.2.2.2.2.2.2.2.2.2.2.2.2.2.2.2.2.2.2.2.2.2.2.2.2.2.2.2.2.2.2.2.2.2.2.1, y0.1.2.2.2.2.2.2.2.2.2.2.2.2.2.2.2.2.2.2.2.2.2.2.2.2.2.2.2.2.2.2.2.2.2.2.2.2.2.2.2.2.2.2.2.2.2.2.2.2.2.2.2.2.2.2.2.2.2.2.2.2.2.1, y0.1.2.2.2.2.2.2.2.2.2.2.2.2.2.2.2.2.2.2.2.2.2.2.2.2.2.2.2.2.2.2.2.2.2.2.2.2.2.2.2.2.2.2.2.2.2.2.2.2.2.2.2.2.2.2.2.2.2.2.2.2.2.2.1, y0.1.2.2.2.2.2.2.2.2.2.2.2.2.2.2.2.2.2.2.2.2.2.2.2.2.2.2.2.2.2.2.2.2.2.2.2.2.2.2.2.2.2.2.2.2.2.2.2.2.2.2.2.2.2.2.2.2.2.2.2.2.2.2.2.1] : List Int) y0.2.2.2.2.2.2.2.2.2.2.2.1))) + (Ty.rd (t := (.int .i64)) y0.2.1 y0.2.2.2.2.2.2.2.2.2.2.2.1))) + (wi64 ((bitsI .xor .i64 (bitsI .xor .i64 p7.1 p8.1) p9.1) + (bitsI .xor .i64 (bitsI .xor .i64 (bitsI .and .i64 y0.2.2.2.1 y0.2.2.2.2.1) (bitsI .and .i64 y0.2.2.2.1 y0.2.2.2.2.2.1)) (bitsI .and .i64 y0.2.2.2.2.1 y0.2.2.2.2.2.1)))))) (4294967295 : Int)), (y0.2.2.2.1, (y0.2.2.2.2.1, (y0.2.2.2.2.2.1, ((bitsI .and .i64 (wi64 (y0.2.2.2.2.2.2.1 + (wi64 ((wi64 ((wi64 ((wi64 (y0.2.2.2.2.2.2.2.2.2.2.1 + (bitsI .xor .i64 (bitsI .xor .i64 p4.1 p5.1) p6.1))) + (bitsI .xor .i64 (bitsI .and .i64 y0.2.2.2.2.2.2.2.1 y0.2.2.2.2.2.2.2.2.1) (bitsI .and .i64 (bitsI .xor .i64 (4294967295 : Int) y0.2.2.2.2.2.2.2.1) y0.2.2.2.2.2.2.2.2.2.1)))) + (Ty.rd (t := .int .i64) ([y0.1.1, y0.1.2.1, y0.1.2.2.1, y0.1.2.2.2.1, y0.1.2.2.2.2.1, y0.1.2.2.2.2.2.1, y0.1.2.2.2.2.2.2.1, y0.1.2.2.2.2.2.2.2.1, y0.1.2.2.2.2.2.2.2.2.1, y0.1.2.2.2.2.2.2.2.2.2.1, y0.1.2.2.2.2.2.2.2.2.2.2.1, y0.1.2.2.2.2.2.2.2.2.2.2.2.1, y0.1.2.2.2.2.2.2.2.2.2.2.2.2.1, y0.1.2.2.2.2.2.2.2.2.2.2.2.2.2.1, y0.1.2.2.2.2.2.2.2.2.2.2.2.2.2.2.1, y0.1.2.2.2.2.2.2.2.2.2.2.2.2.2.2.2.1, y0.1.2.2.2.2.2.2.2.2.2.2.2.2.2.2.2.2.1, y0.1.2.2.2.2.2.2.2.2.2.2.2.2.2.2.2.2.2.1, y0.1.2.2.2.2.2.2.2.2.2.2.2.2.2.2.2.2.2.2.1, y0.1.2.2.2.2.2.2.2.2.2.2.2.2.2.2.2.2.2.2.2.1, y0.1.2.2.2.2.2.2.2.2.2.2.2.2.2.2.2.2.2.2.2.2.1, y0.1.2.2.2.2.2.2.2.2.2.2.2.2.2.2.2.2.2.2.2.2.2.1, y0.1.2.2.2.2.2.2.2.2.2.2.2.2.2.2.2.2.2.2.2.2.2.2.1, y0.1.2.2.2.2.2.2.2.2.2.2.2.2.2.2.2.2.2.2.2.2.2.2.2.1, y0.1.2.2.2.2.2.2.2.2.2.2.2.2.2.2.2.2.2.2.2.2.2.2.2.2.1, y0.1.2.2.2.2.2.2.2.2.2.2.2.2.2.2.2.2.2.2.2.2.2.2.2.2.2.1, y0.1.2.2.2.2.2.2.2.2.2.2.2.2.2.2.2.2.2.2.2.2.2.2.2.2.2.2.1, y0.1.2.2.2.2.2.2.2.2.2.2.2.2.2.2.2.2.2.2.2.2.2.2.2.2.2.2.2.1, y0.1.2.2.2.2.2.2.2.2.2.2.2.2.2.2.2.2.2.2.2.2.2.2.2.2.2.2.2.2.1, y0.1.2.2.2.2.2.2.2.2.2.2.2.2.2.2.2.2.2.2.2.2.2.2.2.2.2.2.2.2.2.1, y0.1.2.2.2.2.2.2.2.2.2.2.2.2.2.2.2.2.2.2.2.2.2.2.2.2.2.2.2.2.2.2.1, y0.1.2.2.2.2.2.2.2.2.2.2.2.2.2.2.2.2.2.2.2.2.2.2.2.2.2.2.2.2.2.2.2.1, y0.1.2.2.2.2.2.2.2.2.2.2.2.2.2.2.2.2.2.2.2.2.2.2.2.2.2.2.2.2.2.2.2.2.1, y0.1.2.2.2.2.2.2.2.2.2.2.2.2.2.2.2.2.2.2.2.2.2.2.2.2.2.2.2.2.2.2.2.2.2.1, y0.1.2.2.2.2.2.2.2.2.2.2.2.2.2.2.2.2.2.2.2.2.2.2.2.2.2.2.2.2.2.2.2.2.2.2.1, y0.1.2.2.2.2.2.2.2.2.2.2.2.2.2.2.2.2.2.2.2.2.2.2.2.2.2.2.2.2.2.2.2.2.2.2.2.1, y0.1.2.2.2.2.2.2.2.2.2.2.2.2.2.2.2.2.2.2.2.2.2.2.2.2.2.2.2.2.2.2.2.2.2.2.2.2.1, y0.1.2.2.2.2.2.2.2.2.2.2.2.2.2.2.2.2.2.2.2.2.2.2.2.2.2.2.2.2.2.2.2.2.2.2.2.2.2.1, y0.1.2.2.2.2.2.2.2.2.2.2.2.2.2.2.2.2.2.2.2.2.2.2.2.2.2.2.2.2.2.2.2.2.2.2.2.2.2.2.1, y0.1.2.2.2.2.2.2.2.2.2.2.2.2.2.2.2.2.2.2.2.2.2.2.2.2.2.2.2.2.2.2.2.2.2.2.2.2.2.2.2.1, y0.1.2.2.2.2.2.2.2.2.2.2.2.2.2.2.2.2.2.2.2.2.2.2.2.2.2.2.2.2.2.2.2.2.2.2.2.2.2.2.2.2.1, y0.1.2.2.2.2.2.2.2.2.2.2.2.2.2.2.2.2.2.2.2.2.2.2.2.2.2.2.2.2.2.2.2.2.2.2.2.2.2.2.2.2.2.1, y0.1.2.2.2.2.2.2.2.2.2.2.2.2.2.2.2.2.2.2.2.2.2.2.2.2.2.2.2.2.2.2.2.2.2.2.2.2.2.2.2.2.2.2.1, y0.1.2.2.2.2.2.2.2.2.2.2.2.2.2.2.2.2.2.2.2.2.2.2.2.2.2.2.2.2.2.2.2.2.2.2.2.2.2.2.2.2.2.2.2.1, y0.1.2.2.2.2.2.2.2.2.2.2.2.2.2.2.2.2.2.2.2.2.2.2.2.2.2.2.2.2.2.2.2.2.2.2.2.2.2.2.2.2.2.2.2.2.1, y0.1.2.2.2.2.2.2.2.2.2.2.2.2.2.2.2.2.2.2.2.2.2.2.2.2.2.2.2.2.2.2.2.2.2.2.2.2.2.2.2.2.2.2.2.2.2.1, y0.1.2.2.2.2.2.2.2.2.2.2.2.2.2.2.2.2.2.2.2.2.2.2.2.2.2.2.2.2.2.2.2.2.2.2.2.2.2.2.2.2.2.2.2.2.2.2.1, y0.1.2.2.2.2.2.2.2.2.2.2.2.2.2.2.2.2.2.2.2.2.2.2.2.2.2.2.2.2.2.2.2.2.2.2.2.2.2.2.2.2.2.2.2.2.2.2.2.1, y0.1.2.2.2.2.2.2.2.2.2.2.2.2.2.2.2.2.2.2.2.2.2.2.2.2.2.2.2.2.2.2.2.2.2.2.2.2.2.2.2.2.2.2.2.2.2.2.2.2.1, y0.1.2.2.2.2.2.2.2.2.2.2.2.2.2.2.2.2.2.2.2.2.2.2.2.2.2.2.2.2.2.2.2.2.2.2.2.2.2.2.2.2.2.2.2.2.2.2.2.2.2.1, y0.1.2.2.2.2.2.2.2.2.2.2.2.2.2.2.2.2.2.2.2.2.2.2.2.2.2.2.2.2.2.2.2.2.2.2.2.2.2.2.2.2.2.2.2.2.2.2.2.2.2.2.1, y0.1.2.2.2.2.2.2.2.2.2.2.2.2.2.2.2.2.2.2.2.2.2.2.2.2.2.2.2.2.2.2.2.2.2.2.2.2.2.2.2.2.2.2.2.2.2.2.2.2.2.2.2.1, y0.1.2.2.2.2.2.2.2.2.2.2.2.2.2.2.2.2.2.2.2.2.2.2.2.2.2.2.2.2.2.2.2.2.2.2.2.2.2.2.2.2.2.2.2.2.2.2.2.2.2.2.2.2.1, y0.1.2.2.2.2.2.2.2.2.2.2.2.2.2.2.2.2.2.2.2.2.2.2.2.2.2.2.2.2.2.2.2.2.2.2.2.2.2.2.2.2.2.2.2.2.2.2.2.2.2.2.2.2.2.1, y0.1.2.2.2.2.2.2.2.2.2.2.2.2.2.2.2.2.2.2.2.2.2.2.2.2.2.2.2.2.2.2.2.2.2.2.2.2.2.2.2.2.2.2.2.2.2.2.2.2.2.2.2.2.2.2.1, y0.1.2.2.2.2.2.2.2.2.2.2.2.2.2.2.2.2.2.2.2.2.2.2.2.2.2.2.2.2.2.2.2.2.2.2.2.2.2.2.2.2.2.2.2.2.2.2.2.2.2.2.2.2.2.2.2.1, y0.1.2.2.2.2.2.2.2.2.2.2.2.2.2.2.2.2.2.2.2.2.2.2.2.2.2.2.2.2.2.2.2.2.2.2.2.2.2.2.2.2.2.2.2.2.2.2.2.2.2.2.2.2.2.2.2.2.1, y0.1.2.2.2.2.2.2.2.2.2.2.2.2.2.2.2.2.2.2.2.2.2.2.2.2.2.2.2.2.2.2.2.2.2.2.2.2.2.2.2.2.2.2.2.2.2.2.2.2.2.2.2.2.2.2.2.2.2.1, y0.1.2.2.2.2.2.2.2.2.2.2.2.2.2.2.2.2.2.2.2.2.2.2.2.2.2.2.2.2.2.2.2.2.2.2.2.2.2.2.2.2.2.2.2.2.2.2.2.2.2.2.2.2.2.2.2.2.2.2.1, y0.1.2.2.2.2.2.2.2.2.2.2.2.2.2.2.2.2.2.2.2.2.2.2.2.2.2.2.2.2.2.2.2.2.2.2.2.2.2.2.2.2.2.2.2.2.2.2.2.2.2.2.2.2.2.2.2.2.2.2.2.1, y0.1.2.2.2.2.2.2.2.2.2.2.2.2.2.2.2.2.2.2.2.2.2.2.2.2.2.2.2.2.2.2.2.2.2.2.2.2.2.2.2.2.2.2.2.2.2.2.2.2.2.2.2.2.2.2.2.2.2.2.2.2.1, y0.1.2.2.2.2.2.2.2.2.2.2.2.2.2.2.2.2.2.2.2.2.2.2.2.2.2.2.2.2.2.2.2.2.2.2.2.2.2.2.2.2.2.2.2.2.2.2.2.2.2.2.2.2.2.2.2.2.2.2.2.2.2.1, y0.1.2.2.2.2.2.2.2.2.2.2.2.2.2.2.2.2.2.2.2.2.2.2.2.2.2.2.2.2.2.2.2.2.2.2.2.2.2.2.2.2.2.2.2.2.2.2.2.2.2.2.2.2.2.2.2.2.2.2.2.2.2.2.1, y0.1.2.2.2.2.2.2.2.2.2.2.2.2.2.2.2.2.2.2.2.2.2.2.2.2.2.2.2.2.2.2.2.2.2.2.2.2.2.2.2.2.2.2.2.2.2.2.2.2.2.2.2.2.2.2.2.2.2.2.2.2.2.2.2.1] : List Int) y0.2.2.2.2.2.2.2.2.2.2.2.1))) + (Ty.rd (t := (.int .i64)) y0.2.1 y0.2.2.2.2.2.2.2.2.2.2.2.1))))) (4294967295 : Int)), (y0.2.2.2.2.2.2.2.1, (y0.2.2.2.2.2.2.2.2.1, (y0.2.2.2.2.2.2.2.2.2.1, ((wi64 (y0.2.2.2.2.2.2.2.2.2.2.2.1 + (1 : Int))), ()))))))))))))))))
else none)
else none)
else none))))
else
((fun (z1 : List (Int) × Int × Int × Int × Int × Int × Int × Int × Int × Unit) =>
(whileK (fun (rec2 : (List (Int) × List (Int) × Int × Int × Unit) → Option _) (y2 : List (Int) × List (Int) × Int × Int × Unit) =>
(if (decide (y2.2.2.2.1 < y2.2.2.1)) = true then
(if 0 ≤ y2.2.2.2.1 ∧ y2.2.2.2.1 < (List.length y2.2.1 : Int) then
(if 0 ≤ y2.2.2.2.1 ∧ y2.2.2.2.1 < (List.length y2.1 : Int) then
(if 0 ≤ y2.2.2.2.1 ∧ y2.2.2.2.1 < (List.length y2.1 : Int) then
(rec2 ((List.set y2.1 (Int.toNat y2.2.2.2.1) (bitsI .and .i64 (wi64 ((Ty.rd (t := (.int .i64)) y2.1 y2.2.2.2.1) + (Ty.rd (t := (.int .i64)) y2.2.1 y2.2.2.2.1))) (4294967295 : Int))), (y2.2.1, (y2.2.2.1, ((wi64 (y2.2.2.2.1 + (1 : Int))), ())))))
else none)
else none)
else none)
else
((fun (z2 : List (Int) × Unit) =>
((i_wordsText k (z2.1, ())).bind fun p10 =>
some (p10.1, ((), ((), ()))))) (y2.1, ())))) k (z1.1, (([z1.2.1, z1.2.2.1, z1.2.2.2.1, z1.2.2.2.2.1, z1.2.2.2.2.2.1, z1.2.2.2.2.2.2.1, z1.2.2.2.2.2.2.2.1, z1.2.2.2.2.2.2.2.2.1] : List (Int)), ((List.length ([z1.2.1, z1.2.2.1, z1.2.2.2.1, z1.2.2.2.2.1, z1.2.2.2.2.2.1, z1.2.2.2.2.2.2.1, z1.2.2.2.2.2.2.2.1, z1.2.2.2.2.2.2.2.2.1] : List (Int)) : Int), ((0 : Int), ())))))) (y0.2.2.1, (y0.2.2.2.1, (y0.2.2.2.2.1, (y0.2.2.2.2.2.1, (y0.2.2.2.2.2.2.1, (y0.2.2.2.2.2.2.2.1, (y0.2.2.2.2.2.2.2.2.1, (y0.2.2.2.2.2.2.2.2.2.1, (y0.2.2.2.2.2.2.2.2.2.2.1, ())))))))))))) k (p1.1, (p2.1, (p3.1, ((Ty.rd (t := (.int .i64)) p3.1 (0 : Int)), ((Ty.rd (t := (.int .i64)) p3.1 (1 : Int)), ((Ty.rd (t := (.int .i64)) p3.1 (2 : Int)), ((Ty.rd (t := (.int .i64)) p3.1 (3 : Int)), ((Ty.rd (t := (.int .i64)) p3.1 (4 : Int)), ((Ty.rd (t := (.int .i64)) p3.1 (5 : Int)), ((Ty.rd (t := (.int .i64)) p3.1 (6 : Int)), ((Ty.rd (t := (.int .i64)) p3.1 (7 : Int)), ((0 : Int), ())))))))))))))
else none)
else none)
else none)
else none)
else none)
else none)
else none)
else none))))
theorem t_i_round (k : Nat) (x) : evF TTab k [⟨93, 0, (.cons (.il true (.int .i64)) .nil), .str, i_wordsText k⟩, ⟨112, 0, .nil, (.agg (.cons (.int .i64) (.cons (.int .i64) (.cons (.int .i64) (.cons (.int .i64) (.cons (.int .i64) (.cons (.int .i64) (.cons (.int .i64) (.cons (.int .i64) (.cons (.int .i64) (.cons (.int .i64) (.cons (.int .i64) (.cons (.int .i64) (.cons (.int .i64) (.cons (.int .i64) (.cons (.int .i64) (.cons (.int .i64) (.cons (.int .i64) (.cons (.int .i64) (.cons (.int .i64) (.cons (.int .i64) (.cons (.int .i64) (.cons (.int .i64) (.cons (.int .i64) (.cons (.int .i64) (.cons (.int .i64) (.cons (.int .i64) (.cons (.int .i64) (.cons (.int .i64) (.cons (.int .i64) (.cons (.int .i64) (.cons (.int .i64) (.cons (.int .i64) (.cons (.int .i64) (.cons (.int .i64) (.cons (.int .i64) (.cons (.int .i64) (.cons (.int .i64) (.cons (.int .i64) (.cons (.int .i64) (.cons (.int .i64) (.cons (.int .i64) (.cons (.int .i64) (.cons (.int .i64) (.cons (.int .i64) (.cons (.int .i64) (.cons (.int .i64) (.cons (.int .i64) (.cons (.int .i64) (.cons (.int .i64) (.cons (.int .i64) (.cons (.int .i64) (.cons (.int .i64) (.cons (.int .i64) (.cons (.int .i64) (.cons (.int .i64) (.cons (.int .i64) (.cons (.int .i64) (.cons (.int .i64) (.cons (.int .i64) (.cons (.int .i64) (.cons (.int .i64) (.cons (.int .i64) (.cons (.int .i64) (.cons (.int .i64) .nil))))))))))))))))))))))))))))))))))))))))))))))))))))))))))))))))), i_constants k⟩, ⟨113, 0, (.cons .str .nil), (.own false 3 (.int .i64)), i_expanded k⟩, ⟨114, 0, (.cons .str .nil), (.own false 3 (.int .i64)), i_wordsOf k⟩, ⟨115, 0, (.cons (.int .i64) (.cons (.int .i64) .nil)), (.int .i64), i_turnRight k⟩] [(0, ⟨[5, 6, 7, 8, 9, 10, 11, 12, 13, 14, 15, 52], (.cons (.ptr 0 (.cons (.int .i64) (.cons (.int .i64) (.cons (.int .i64) (.cons (.int .i64) (.cons (.int .i64) (.cons (.int .i64) (.cons (.int .i64) (.cons (.int .i64) (.cons (.int .i64) (.cons (.int .i64) (.cons (.int .i64) (.cons (.int .i64) (.cons (.int .i64) (.cons (.int .i64) (.cons (.int .i64) (.cons (.int .i64) (.cons (.int .i64) (.cons (.int .i64) (.cons (.int .i64) (.cons (.int .i64) (.cons (.int .i64) (.cons (.int .i64) (.cons (.int .i64) (.cons (.int .i64) (.cons (.int .i64) (.cons (.int .i64) (.cons (.int .i64) (.cons (.int .i64) (.cons (.int .i64) (.cons (.int .i64) (.cons (.int .i64) (.cons (.int .i64) (.cons (.int .i64) (.cons (.int .i64) (.cons (.int .i64) (.cons (.int .i64) (.cons (.int .i64) (.cons (.int .i64) (.cons (.int .i64) (.cons (.int .i64) (.cons (.int .i64) (.cons (.int .i64) (.cons (.int .i64) (.cons (.int .i64) (.cons (.int .i64) (.cons (.int .i64) (.cons (.int .i64) (.cons (.int .i64) (.cons (.int .i64) (.cons (.int .i64) (.cons (.int .i64) (.cons (.int .i64) (.cons (.int .i64) (.cons (.int .i64) (.cons (.int .i64) (.cons (.int .i64) (.cons (.int .i64) (.cons (.int .i64) (.cons (.int .i64) (.cons (.int .i64) (.cons (.int .i64) (.cons (.int .i64) (.cons (.int .i64) (.cons (.int .i64) .nil))))))))))))))))))))))))))))))))))))))))))))))))))))))))))))))))) (.cons (.own false 3 (.int .i64)) (.cons (.own false 3 (.int .i64)) (.cons (.int .i64) (.cons (.int .i64) (.cons (.int .i64) (.cons (.int .i64) (.cons (.int .i64) (.cons (.int .i64) (.cons (.int .i64) (.cons (.int .i64) (.cons (.int .i64) .nil))))))))))))⟩, ⟨[7, 8, 9, 10, 11, 12, 13, 14, 15], (.cons (.own false 3 (.int .i64)) (.cons (.int .i64) (.cons (.int .i64) (.cons (.int .i64) (.cons (.int .i64) (.cons (.int .i64) (.cons (.int .i64) (.cons (.int .i64) (.cons (.int .i64) .nil)))))))))⟩), (2, ⟨[7, 128, 129, 130], (.cons (.own false 3 (.int .i64)) (.cons (.own false 3 (.int .i64)) (.cons (.int .i64) (.cons (.int .i64) .nil))))⟩, ⟨[7], (.cons (.own false 3 (.int .i64)) .nil)⟩)] Try.f92 (.cons .str (.cons .str .nil)) .str x = i_round k x := by kernel_rfl
theorem e_i_round (k : Nat) : EntryOk Try.prog ⟨92, 0, (.cons .str (.cons .str .nil)), .str, i_round k⟩ := entry_ok tok (by intro e he; simp only [List.mem_cons, List.not_mem_nil, or_false] at he; rcases he with rfl | rfl | rfl | rfl | rfl <;> first | exact e_i_wordsText k | exact e_i_constants k | exact e_i_expanded k | exact e_i_wordsOf k | exact e_i_turnRight k) (by kernel_rfl) (fn := Try.f92) (k := k) (es := [⟨93, 0, (.cons (.il true (.int .i64)) .nil), .str, i_wordsText k⟩, ⟨112, 0, .nil, (.agg (.cons (.int .i64) (.cons (.int .i64) (.cons (.int .i64) (.cons (.int .i64) (.cons (.int .i64) (.cons (.int .i64) (.cons (.int .i64) (.cons (.int .i64) (.cons (.int .i64) (.cons (.int .i64) (.cons (.int .i64) (.cons (.int .i64) (.cons (.int .i64) (.cons (.int .i64) (.cons (.int .i64) (.cons (.int .i64) (.cons (.int .i64) (.cons (.int .i64) (.cons (.int .i64) (.cons (.int .i64) (.cons (.int .i64) (.cons (.int .i64) (.cons (.int .i64) (.cons (.int .i64) (.cons (.int .i64) (.cons (.int .i64) (.cons (.int .i64) (.cons (.int .i64) (.cons (.int .i64) (.cons (.int .i64) (.cons (.int .i64) (.cons (.int .i64) (.cons (.int .i64) (.cons (.int .i64) (.cons (.int .i64) (.cons (.int .i64) (.cons (.int .i64) (.cons (.int .i64) (.cons (.int .i64) (.cons (.int .i64) (.cons (.int .i64) (.cons (.int .i64) (.cons (.int .i64) (.cons (.int .i64) (.cons (.int .i64) (.cons (.int .i64) (.cons (.int .i64) (.cons (.int .i64) (.cons (.int .i64) (.cons (.int .i64) (.cons (.int .i64) (.cons (.int .i64) (.cons (.int .i64) (.cons (.int .i64) (.cons (.int .i64) (.cons (.int .i64) (.cons (.int .i64) (.cons (.int .i64) (.cons (.int .i64) (.cons (.int .i64) (.cons (.int .i64) (.cons (.int .i64) (.cons (.int .i64) (.cons (.int .i64) .nil))))))))))))))))))))))))))))))))))))))))))))))))))))))))))))))))), i_constants k⟩, ⟨113, 0, (.cons .str .nil), (.own false 3 (.int .i64)), i_expanded k⟩, ⟨114, 0, (.cons .str .nil), (.own false 3 (.int .i64)), i_wordsOf k⟩, ⟨115, 0, (.cons (.int .i64) (.cons (.int .i64) .nil)), (.int .i64), i_turnRight k⟩]) (loops := [(0, ⟨[5, 6, 7, 8, 9, 10, 11, 12, 13, 14, 15, 52], (.cons (.ptr 0 (.cons (.int .i64) (.cons (.int .i64) (.cons (.int .i64) (.cons (.int .i64) (.cons (.int .i64) (.cons (.int .i64) (.cons (.int .i64) (.cons (.int .i64) (.cons (.int .i64) (.cons (.int .i64) (.cons (.int .i64) (.cons (.int .i64) (.cons (.int .i64) (.cons (.int .i64) (.cons (.int .i64) (.cons (.int .i64) (.cons (.int .i64) (.cons (.int .i64) (.cons (.int .i64) (.cons (.int .i64) (.cons (.int .i64) (.cons (.int .i64) (.cons (.int .i64) (.cons (.int .i64) (.cons (.int .i64) (.cons (.int .i64) (.cons (.int .i64) (.cons (.int .i64) (.cons (.int .i64) (.cons (.int .i64) (.cons (.int .i64) (.cons (.int .i64) (.cons (.int .i64) (.cons (.int .i64) (.cons (.int .i64) (.cons (.int .i64) (.cons (.int .i64) (.cons (.int .i64) (.cons (.int .i64) (.cons (.int .i64) (.cons (.int .i64) (.cons (.int .i64) (.cons (.int .i64) (.cons (.int .i64) (.cons (.int .i64) (.cons (.int .i64) (.cons (.int .i64) (.cons (.int .i64) (.cons (.int .i64) (.cons (.int .i64) (.cons (.int .i64) (.cons (.int .i64) (.cons (.int .i64) (.cons (.int .i64) (.cons (.int .i64) (.cons (.int .i64) (.cons (.int .i64) (.cons (.int .i64) (.cons (.int .i64) (.cons (.int .i64) (.cons (.int .i64) (.cons (.int .i64) (.cons (.int .i64) (.cons (.int .i64) .nil))))))))))))))))))))))))))))))))))))))))))))))))))))))))))))))))) (.cons (.own false 3 (.int .i64)) (.cons (.own false 3 (.int .i64)) (.cons (.int .i64) (.cons (.int .i64) (.cons (.int .i64) (.cons (.int .i64) (.cons (.int .i64) (.cons (.int .i64) (.cons (.int .i64) (.cons (.int .i64) (.cons (.int .i64) .nil))))))))))))⟩, ⟨[7, 8, 9, 10, 11, 12, 13, 14, 15], (.cons (.own false 3 (.int .i64)) (.cons (.int .i64) (.cons (.int .i64) (.cons (.int .i64) (.cons (.int .i64) (.cons (.int .i64) (.cons (.int .i64) (.cons (.int .i64) (.cons (.int .i64) .nil)))))))))⟩), (2, ⟨[7, 128, 129, 130], (.cons (.own false 3 (.int .i64)) (.cons (.own false 3 (.int .i64)) (.cons (.int .i64) (.cons (.int .i64) .nil))))⟩, ⟨[7], (.cons (.own false 3 (.int .i64)) .nil)⟩)]) (by kernel_rfl) (by kernel_rfl) (fun x r h => (t_i_round k x).trans h)
def i_rounds (k : Nat) (x : ByteArray × ByteArray × Unit) : Option ((ByteArray × ByteArray × Unit) × Unit × Unit × Unit) :=
(whileK (fun (rec0 : (ByteArray × ByteArray × Unit) → Option _) (y0 : ByteArray × ByteArray × Unit) =>
(if (decide ((64 : Int) ≤ (ByteArray.size y0.2.1 : Int))) = true then
(if 0 ≤ (64 : Int) ∧ (64 : Int) ≤ (ByteArray.size y0.2.1 : Int) then
((i_round k (y0.1, ((ByteArray.extract y0.2.1 (Int.toNat (0 : Int)) (Int.toNat (64 : Int))), ()))).bind fun p1 =>
(if 0 ≤ (64 : Int) ∧ (64 : Int) ≤ (ByteArray.size y0.2.1 : Int) then
(rec0 (p1.1, ((ByteArray.extract y0.2.1 (Int.toNat (64 : Int)) (Int.toNat (ByteArray.size y0.2.1 : Int))), ())))
else none))
else none)
else
((fun (z1 : ByteArray × ByteArray × Unit) =>
some ((z1.1, (z1.2.1, ())), ((), ((), ())))) (y0.1, (y0.2.1, ()))))) k (x.1, (x.2.1, ())))
theorem t_i_rounds (k : Nat) (x) : evF TTab k [⟨92, 0, (.cons .str (.cons .str .nil)), .str, i_round k⟩] [(0, ⟨[0, 1], (.cons .str (.cons .str .nil))⟩, ⟨[0, 1], (.cons .str (.cons .str .nil))⟩)] Try.f68 (.cons .str (.cons .str .nil)) (.tup (.cons .str (.cons .str .nil))) x = i_rounds k x := by kernel_rfl
theorem e_i_rounds (k : Nat) : EntryOk Try.prog ⟨68, 0, (.cons .str (.cons .str .nil)), (.tup (.cons .str (.cons .str .nil))), i_rounds k⟩ := entry_ok tok (by intro e he; simp only [List.mem_cons, List.not_mem_nil, or_false] at he; rcases he with rfl <;> first | exact e_i_round k) (by kernel_rfl) (fn := Try.f68) (k := k) (es := [⟨92, 0, (.cons .str (.cons .str .nil)), .str, i_round k⟩]) (loops := [(0, ⟨[0, 1], (.cons .str (.cons .str .nil))⟩, ⟨[0, 1], (.cons .str (.cons .str .nil))⟩)]) (by kernel_rfl) (by kernel_rfl) (fun x r h => (t_i_rounds k x).trans h)
def i_firstState (k : Nat) (x : Unit) : Option (ByteArray × Unit) :=
((i_wordsText k (([(1779033703 : Int), (3144134277 : Int), (1013904242 : Int), (2773480762 : Int), (1359893119 : Int), (2600822924 : Int), (528734635 : Int), (1541459225 : Int)] : List (Int)), ())).bind fun p1 =>
some (p1.1, ()))
theorem t_i_firstState (k : Nat) (x) : evF TTab k [⟨93, 0, (.cons (.il true (.int .i64)) .nil), .str, i_wordsText k⟩] [] Try.f69 .nil .str x = i_firstState k x := by kernel_rfl
theorem e_i_firstState (k : Nat) : EntryOk Try.prog ⟨69, 0, .nil, .str, i_firstState k⟩ := entry_ok tok (by intro e he; simp only [List.mem_cons, List.not_mem_nil, or_false] at he; rcases he with rfl <;> first | exact e_i_wordsText k) (by kernel_rfl) (fn := Try.f69) (k := k) (es := [⟨93, 0, (.cons (.il true (.int .i64)) .nil), .str, i_wordsText k⟩]) (loops := []) (by kernel_rfl) (by kernel_rfl) (fun x r h => (t_i_firstState k x).trans h)
def x_strings_Repeat (k : Nat) (x : ByteArray × Int × Unit) : Option (ByteArray × Unit × Unit × Unit) := repF x
theorem e_x_strings_Repeat (k : Nat) : EntryOk Try.prog ⟨94, 0, (.cons .str (.cons (.int .i64) .nil)), .str, x_strings_Repeat k⟩ := entry_repeat Try.func94 (by kernel_rfl) Try.strings_Repeat
def i_padding (k : Nat) (x : Int × Unit) : Option (ByteArray × Unit × Unit) :=
((x_strings_Repeat k ((⟨#[0]⟩ : ByteArray), ((Int.tmod (wi64 ((119 : Int) - (Int.tmod x.1 (64 : Int)))) (64 : Int)), ()))).bind fun p1 =>
(if ByteArray.size (⟨#[128]⟩ : ByteArray) + ByteArray.size p1.1 ≤ maxStr then
((i_NumberText k ((Int.fdiv (wi64 ((8 : Int) * x.1)) (2 ^ (min (Int.toNat (32 : Int)) (IntKind.bits .i64)))), ())).bind fun p2 =>
(if ByteArray.size ((⟨#[128]⟩ : ByteArray) ++ p1.1) + ByteArray.size p2.1 ≤ maxStr then
((i_NumberText k ((bitsI .and .i64 (wi64 ((8 : Int) * x.1)) (4294967295 : Int)), ())).bind fun p3 =>
(if ByteArray.size (((⟨#[128]⟩ : ByteArray) ++ p1.1) ++ p2.1) + ByteArray.size p3.1 ≤ maxStr then
some (((((⟨#[128]⟩ : ByteArray) ++ p1.1) ++ p2.1) ++ p3.1), ((), ()))
else none))
else none))
else none))
theorem t_i_padding (k : Nat) (x) : evF TTab k [⟨94, 0, (.cons .str (.cons (.int .i64) .nil)), .str, x_strings_Repeat k⟩, ⟨95, 0, (.cons (.int .i64) .nil), .str, i_NumberText k⟩] [] Try.f70 (.cons (.int .i64) .nil) .str x = i_padding k x := by kernel_rfl
theorem e_i_padding (k : Nat) : EntryOk Try.prog ⟨70, 0, (.cons (.int .i64) .nil), .str, i_padding k⟩ := entry_ok tok (by intro e he; simp only [List.mem_cons, List.not_mem_nil, or_false] at he; rcases he with rfl | rfl <;> first | exact e_x_strings_Repeat k | exact e_i_NumberText k) (by kernel_rfl) (fn := Try.f70) (k := k) (es := [⟨94, 0, (.cons .str (.cons (.int .i64) .nil)), .str, x_strings_Repeat k⟩, ⟨95, 0, (.cons (.int .i64) .nil), .str, i_NumberText k⟩]) (loops := []) (by kernel_rfl) (by kernel_rfl) (fun x r h => (t_i_padding k x).trans h)
def i_DigestOf (k : Nat) (x : ByteArray × Unit) : Option (ByteArray × Unit × Unit) :=
((i_firstState k ()).bind fun p1 =>
((i_padding k ((ByteArray.size x.1 : Int), ())).bind fun p2 =>
(if ByteArray.size x.1 + ByteArray.size p2.1 ≤ maxStr then
((i_rounds k (p1.1, ((x.1 ++ p2.1), ()))).bind fun p3 =>
some (p3.1.1, ((), ())))
else none)))
theorem t_i_DigestOf (k : Nat) (x) : evF TTab k [⟨68, 0, (.cons .str (.cons .str .nil)), (.tup (.cons .str (.cons .str .nil))), i_rounds k⟩, ⟨69, 0, .nil, .str, i_firstState k⟩, ⟨70, 0, (.cons (.int .i64) .nil), .str, i_padding k⟩] [] Try.f36 (.cons .str .nil) .str x = i_DigestOf k x := by kernel_rfl
theorem e_i_DigestOf (k : Nat) : EntryOk Try.prog ⟨36, 0, (.cons .str .nil), .str, i_DigestOf k⟩ := entry_ok tok (by intro e he; simp only [List.mem_cons, List.not_mem_nil, or_false] at he; rcases he with rfl | rfl | rfl <;> first | exact e_i_rounds k | exact e_i_firstState k | exact e_i_padding k) (by kernel_rfl) (fn := Try.f36) (k := k) (es := [⟨68, 0, (.cons .str (.cons .str .nil)), (.tup (.cons .str (.cons .str .nil))), i_rounds k⟩, ⟨69, 0, .nil, .str, i_firstState k⟩, ⟨70, 0, (.cons (.int .i64) .nil), .str, i_padding k⟩]) (loops := []) (by kernel_rfl) (by kernel_rfl) (fun x r h => (t_i_DigestOf k x).trans h)
def i_PairSlots (k : Nat) (x : ByteArray × Unit) : Option (((Int × ByteArray × ByteArray × Int × List (Int) × Int × Int × ByteArray × ByteArray × Int × List (Int) × Int × Unit) × (Int × ByteArray × ByteArray × Int × List (Int) × Int × Int × ByteArray × ByteArray × Int × List (Int) × Int × Unit) × Unit) × Unit × Unit) :=
(if ByteArray.size x.1 + ByteArray.size (⟨#[97]⟩ : ByteArray) ≤ maxStr then
((i_DigestOf k ((x.1 ++ (⟨#[97]⟩ : ByteArray)), ())).bind fun p1 =>
(if ByteArray.size x.1 + ByteArray.size (⟨#[98]⟩ : ByteArray) ≤ maxStr then
((i_DigestOf k ((x.1 ++ (⟨#[98]⟩ : ByteArray)), ())).bind fun p2 =>
((i_Install k (((0 : Int), ((⟨#[]⟩ : ByteArray), ((⟨#[]⟩ : ByteArray), ((0 : Int), ([], ((0 : Int), ((0 : Int), ((⟨#[]⟩ : ByteArray), ((⟨#[]⟩ : ByteArray), ((0 : Int), ([], ((0 : Int), ())))))))))))), (p1.1, (p2.1, ((0 : Int), ()))))).bind fun p3 =>
((i_Install k (((0 : Int), ((⟨#[]⟩ : ByteArray), ((⟨#[]⟩ : ByteArray), ((0 : Int), ([], ((0 : Int), ((0 : Int), ((⟨#[]⟩ : ByteArray), ((⟨#[]⟩ : ByteArray), ((0 : Int), ([], ((0 : Int), ())))))))))))), (p2.1, (p1.1, ((0 : Int), ()))))).bind fun p4 =>
some (((p3.1.1.1, (p3.1.1.2.1, (p3.1.1.2.2.1, (p3.1.1.2.2.2.1, (p3.1.1.2.2.2.2.1, (p3.1.1.2.2.2.2.2.1, (p3.1.1.2.2.2.2.2.2.1, (p3.1.1.2.2.2.2.2.2.2.1, (p3.1.1.2.2.2.2.2.2.2.2.1, (p3.1.1.2.2.2.2.2.2.2.2.2.1, (p3.1.1.2.2.2.2.2.2.2.2.2.2.1, (p3.1.1.2.2.2.2.2.2.2.2.2.2.2.1, ())))))))))))), ((p4.1.1.1, (p4.1.1.2.1, (p4.1.1.2.2.1, (p4.1.1.2.2.2.1, (p4.1.1.2.2.2.2.1, (p4.1.1.2.2.2.2.2.1, (p4.1.1.2.2.2.2.2.2.1, (p4.1.1.2.2.2.2.2.2.2.1, (p4.1.1.2.2.2.2.2.2.2.2.1, (p4.1.1.2.2.2.2.2.2.2.2.2.1, (p4.1.1.2.2.2.2.2.2.2.2.2.2.1, (p4.1.1.2.2.2.2.2.2.2.2.2.2.2.1, ())))))))))))), ())), ((), ())))))
else none))
else none)
theorem t_i_PairSlots (k : Nat) (x) : evF TTab k [⟨25, 0, (.cons (.agg (.cons (.int .i64) (.cons .str (.cons .str (.cons (.int .i64) (.cons (.il true (.int .i64)) (.cons (.int .i64) (.cons (.int .i64) (.cons .str (.cons .str (.cons (.int .i64) (.cons (.il true (.int .i64)) (.cons (.int .i64) .nil))))))))))))) (.cons .str (.cons .str (.cons (.int .i64) .nil)))), (.tup (.cons (.agg (.cons (.int .i64) (.cons .str (.cons .str (.cons (.int .i64) (.cons (.own false 3 (.int .i64)) (.cons (.int .i64) (.cons (.int .i64) (.cons .str (.cons .str (.cons (.int .i64) (.cons (.own false 3 (.int .i64)) (.cons (.int .i64) .nil))))))))))))) (.cons .bool .nil))), i_Install k⟩, ⟨36, 0, (.cons .str .nil), .str, i_DigestOf k⟩] [] Try.f9 (.cons .str .nil) (.tup (.cons (.agg (.cons (.int .i64) (.cons .str (.cons .str (.cons (.int .i64) (.cons (.own false 3 (.int .i64)) (.cons (.int .i64) (.cons (.int .i64) (.cons .str (.cons .str (.cons (.int .i64) (.cons (.own false 3 (.int .i64)) (.cons (.int .i64) .nil))))))))))))) (.cons (.agg (.cons (.int .i64) (.cons .str (.cons .str (.cons (.int .i64) (.cons (.own false 3 (.int .i64)) (.cons (.int .i64) (.cons (.int .i64) (.cons .str (.cons .str (.cons (.int .i64) (.cons (.own false 3 (.int .i64)) (.cons (.int .i64) .nil))))))))))))) .nil))) x = i_PairSlots k x := by kernel_rfl
theorem e_i_PairSlots (k : Nat) : EntryOk Try.prog ⟨9, 0, (.cons .str .nil), (.tup (.cons (.agg (.cons (.int .i64) (.cons .str (.cons .str (.cons (.int .i64) (.cons (.own false 3 (.int .i64)) (.cons (.int .i64) (.cons (.int .i64) (.cons .str (.cons .str (.cons (.int .i64) (.cons (.own false 3 (.int .i64)) (.cons (.int .i64) .nil))))))))))))) (.cons (.agg (.cons (.int .i64) (.cons .str (.cons .str (.cons (.int .i64) (.cons (.own false 3 (.int .i64)) (.cons (.int .i64) (.cons (.int .i64) (.cons .str (.cons .str (.cons (.int .i64) (.cons (.own false 3 (.int .i64)) (.cons (.int .i64) .nil))))))))))))) .nil))), i_PairSlots k⟩ := entry_ok tok (by intro e he; simp only [List.mem_cons, List.not_mem_nil, or_false] at he; rcases he with rfl | rfl <;> first | exact e_i_Install k | exact e_i_DigestOf k) (by kernel_rfl) (fn := Try.f9) (k := k) (es := [⟨25, 0, (.cons (.agg (.cons (.int .i64) (.cons .str (.cons .str (.cons (.int .i64) (.cons (.il true (.int .i64)) (.cons (.int .i64) (.cons (.int .i64) (.cons .str (.cons .str (.cons (.int .i64) (.cons (.il true (.int .i64)) (.cons (.int .i64) .nil))))))))))))) (.cons .str (.cons .str (.cons (.int .i64) .nil)))), (.tup (.cons (.agg (.cons (.int .i64) (.cons .str (.cons .str (.cons (.int .i64) (.cons (.own false 3 (.int .i64)) (.cons (.int .i64) (.cons (.int .i64) (.cons .str (.cons .str (.cons (.int .i64) (.cons (.own false 3 (.int .i64)) (.cons (.int .i64) .nil))))))))))))) (.cons .bool .nil))), i_Install k⟩, ⟨36, 0, (.cons .str .nil), .str, i_DigestOf k⟩]) (loops := []) (by kernel_rfl) (by kernel_rfl) (fun x r h => (t_i_PairSlots k x).trans h)
def i_NextKeys (k : Nat) (x : ByteArray × ByteArray × Unit) : Option ((ByteArray × ByteArray × Unit) × Unit × Unit × Unit) :=
(if ByteArray.size x.1 + ByteArray.size (⟨#[107]⟩ : ByteArray) ≤ maxStr then
((i_DigestOf k ((x.1 ++ (⟨#[107]⟩ : ByteArray)), ())).bind fun p1 =>
(if ByteArray.size x.2.1 + ByteArray.size (⟨#[107]⟩ : ByteArray) ≤ maxStr then
((i_DigestOf k ((x.2.1 ++ (⟨#[107]⟩ : ByteArray)), ())).bind fun p2 =>
some ((p1.1, (p2.1, ())), ((), ((), ()))))
else none))
else none)
theorem t_i_NextKeys (k : Nat) (x) : evF TTab k [⟨36, 0, (.cons .str .nil), .str, i_DigestOf k⟩] [] Try.f28 (.cons .str (.cons .str .nil)) (.tup (.cons .str (.cons .str .nil))) x = i_NextKeys k x := by kernel_rfl
theorem e_i_NextKeys (k : Nat) : EntryOk Try.prog ⟨28, 0, (.cons .str (.cons .str .nil)), (.tup (.cons .str (.cons .str .nil))), i_NextKeys k⟩ := entry_ok tok (by intro e he; simp only [List.mem_cons, List.not_mem_nil, or_false] at he; rcases he with rfl <;> first | exact e_i_DigestOf k) (by kernel_rfl) (fn := Try.f28) (k := k) (es := [⟨36, 0, (.cons .str .nil), .str, i_DigestOf k⟩]) (loops := []) (by kernel_rfl) (by kernel_rfl) (fun x r h => (t_i_NextKeys k x).trans h)
def i_StepBoth (k : Nat) (x : (Int × ByteArray × ByteArray × Int × List (Int) × Int × Int × ByteArray × ByteArray × Int × List (Int) × Int × Unit) × Int × Unit) : Option (((Int × ByteArray × ByteArray × Int × List (Int) × Int × Int × ByteArray × ByteArray × Int × List (Int) × Int × Unit) × Bool × Unit) × Unit × Unit × Unit) :=
((i_NextKeys k (x.1.2.1, (x.1.2.2.1, ()))).bind fun p1 =>
((i_Install k ((x.1.1, (x.1.2.1, (x.1.2.2.1, (x.1.2.2.2.1, (x.1.2.2.2.2.1, (x.1.2.2.2.2.2.1, (x.1.2.2.2.2.2.2.1, (x.1.2.2.2.2.2.2.2.1, (x.1.2.2.2.2.2.2.2.2.1, (x.1.2.2.2.2.2.2.2.2.2.1, (x.1.2.2.2.2.2.2.2.2.2.2.1, (x.1.2.2.2.2.2.2.2.2.2.2.2.1, ())))))))))))), (p1.1.1, (p1.1.2.1, (x.2.1, ()))))).bind fun p2 =>
some (((p2.1.1.1, (p2.1.1.2.1, (p2.1.1.2.2.1, (p2.1.1.2.2.2.1, (p2.1.1.2.2.2.2.1, (p2.1.1.2.2.2.2.2.1, (p2.1.1.2.2.2.2.2.2.1, (p2.1.1.2.2.2.2.2.2.2.1, (p2.1.1.2.2.2.2.2.2.2.2.1, (p2.1.1.2.2.2.2.2.2.2.2.2.1, (p2.1.1.2.2.2.2.2.2.2.2.2.2.1, (p2.1.1.2.2.2.2.2.2.2.2.2.2.2.1, ())))))))))))), (p2.1.2.1, ())), ((), ((), ())))))
theorem t_i_StepBoth (k : Nat) (x) : evF TTab k [⟨25, 0, (.cons (.agg (.cons (.int .i64) (.cons .str (.cons .str (.cons (.int .i64) (.cons (.il true (.int .i64)) (.cons (.int .i64) (.cons (.int .i64) (.cons .str (.cons .str (.cons (.int .i64) (.cons (.il true (.int .i64)) (.cons (.int .i64) .nil))))))))))))) (.cons .str (.cons .str (.cons (.int .i64) .nil)))), (.tup (.cons (.agg (.cons (.int .i64) (.cons .str (.cons .str (.cons (.int .i64) (.cons (.own false 3 (.int .i64)) (.cons (.int .i64) (.cons (.int .i64) (.cons .str (.cons .str (.cons (.int .i64) (.cons (.own false 3 (.int .i64)) (.cons (.int .i64) .nil))))))))))))) (.cons .bool .nil))), i_Install k⟩, ⟨28, 0, (.cons .str (.cons .str .nil)), (.tup (.cons .str (.cons .str .nil))), i_NextKeys k⟩] [] Try.f16 (.cons (.agg (.cons (.int .i64) (.cons .str (.cons .str (.cons (.int .i64) (.cons (.il true (.int .i64)) (.cons (.int .i64) (.cons (.int .i64) (.cons .str (.cons .str (.cons (.int .i64) (.cons (.il true (.int .i64)) (.cons (.int .i64) .nil))))))))))))) (.cons (.int .i64) .nil)) (.tup (.cons (.agg (.cons (.int .i64) (.cons .str (.cons .str (.cons (.int .i64) (.cons (.own false 3 (.int .i64)) (.cons (.int .i64) (.cons (.int .i64) (.cons .str (.cons .str (.cons (.int .i64) (.cons (.own false 3 (.int .i64)) (.cons (.int .i64) .nil))))))))))))) (.cons .bool .nil))) x = i_StepBoth k x := by kernel_rfl
theorem e_i_StepBoth (k : Nat) : EntryOk Try.prog ⟨16, 0, (.cons (.agg (.cons (.int .i64) (.cons .str (.cons .str (.cons (.int .i64) (.cons (.il true (.int .i64)) (.cons (.int .i64) (.cons (.int .i64) (.cons .str (.cons .str (.cons (.int .i64) (.cons (.il true (.int .i64)) (.cons (.int .i64) .nil))))))))))))) (.cons (.int .i64) .nil)), (.tup (.cons (.agg (.cons (.int .i64) (.cons .str (.cons .str (.cons (.int .i64) (.cons (.own false 3 (.int .i64)) (.cons (.int .i64) (.cons (.int .i64) (.cons .str (.cons .str (.cons (.int .i64) (.cons (.own false 3 (.int .i64)) (.cons (.int .i64) .nil))))))))))))) (.cons .bool .nil))), i_StepBoth k⟩ := entry_ok tok (by intro e he; simp only [List.mem_cons, List.not_mem_nil, or_false] at he; rcases he with rfl | rfl <;> first | exact e_i_Install k | exact e_i_NextKeys k) (by kernel_rfl) (fn := Try.f16) (k := k) (es := [⟨25, 0, (.cons (.agg (.cons (.int .i64) (.cons .str (.cons .str (.cons (.int .i64) (.cons (.il true (.int .i64)) (.cons (.int .i64) (.cons (.int .i64) (.cons .str (.cons .str (.cons (.int .i64) (.cons (.il true (.int .i64)) (.cons (.int .i64) .nil))))))))))))) (.cons .str (.cons .str (.cons (.int .i64) .nil)))), (.tup (.cons (.agg (.cons (.int .i64) (.cons .str (.cons .str (.cons (.int .i64) (.cons (.own false 3 (.int .i64)) (.cons (.int .i64) (.cons (.int .i64) (.cons .str (.cons .str (.cons (.int .i64) (.cons (.own false 3 (.int .i64)) (.cons (.int .i64) .nil))))))))))))) (.cons .bool .nil))), i_Install k⟩, ⟨28, 0, (.cons .str (.cons .str .nil)), (.tup (.cons .str (.cons .str .nil))), i_NextKeys k⟩]) (loops := []) (by kernel_rfl) (by kernel_rfl) (fun x r h => (t_i_StepBoth k x).trans h)
def i_noSlot (k : Nat) (x : (Int × ByteArray × ByteArray × Int × List (Int) × Int × Unit) × Unit) : Option (Bool × Unit × Unit) :=
(if (decide (x.1.1 = (0 : Int))) = true then
(if (decide (x.1.2.1 = (⟨#[]⟩ : ByteArray))) = true then
(if (decide (x.1.2.2.1 = (⟨#[]⟩ : ByteArray))) = true then
(if (decide (x.1.2.2.2.1 = (0 : Int))) = true then
(if (decide ((List.length x.1.2.2.2.2.1 : Int) = (0 : Int))) = true then
some ((decide (x.1.2.2.2.2.2.1 = (0 : Int))), ((), ()))
else
some (false, ((), ())))
else
some (false, ((), ())))
else
some (false, ((), ())))
else
some (false, ((), ())))
else
some (false, ((), ())))
theorem t_i_noSlot (k : Nat) (x) : evF TTab k [] [] Try.f62 (.cons (.agg (.cons (.int .i64) (.cons .str (.cons .str (.cons (.int .i64) (.cons (.il true (.int .i64)) (.cons (.int .i64) .nil))))))) .nil) .bool x = i_noSlot k x := by kernel_rfl
theorem e_i_noSlot (k : Nat) : EntryOk Try.prog ⟨62, 0, (.cons (.agg (.cons (.int .i64) (.cons .str (.cons .str (.cons (.int .i64) (.cons (.il true (.int .i64)) (.cons (.int .i64) .nil))))))) .nil), .bool, i_noSlot k⟩ := entry_ok tok (by simp) (by kernel_rfl) (fn := Try.f62) (k := k) (es := []) (loops := []) (by kernel_rfl) (by kernel_rfl) (fun x r h => (t_i_noSlot k x).trans h)
def i_Spent (k : Nat) (x : (Int × ByteArray × ByteArray × Int × List (Int) × Int × Int × ByteArray × ByteArray × Int × List (Int) × Int × Unit) × Unit) : Option (Bool × Unit × Unit) :=
((i_noSlot k ((x.1.1, (x.1.2.1, (x.1.2.2.1, (x.1.2.2.2.1, (x.1.2.2.2.2.1, (x.1.2.2.2.2.2.1, ())))))), ())).bind fun p1 =>
(if p1.1 = false then
some ((decide (x.1.2.2.2.1 = (12 : Int))), ((), ()))
else
some (true, ((), ()))))
theorem t_i_Spent (k : Nat) (x) : evF TTab k [⟨62, 0, (.cons (.agg (.cons (.int .i64) (.cons .str (.cons .str (.cons (.int .i64) (.cons (.il true (.int .i64)) (.cons (.int .i64) .nil))))))) .nil), .bool, i_noSlot k⟩] [] Try.f32 (.cons (.agg (.cons (.int .i64) (.cons .str (.cons .str (.cons (.int .i64) (.cons (.il true (.int .i64)) (.cons (.int .i64) (.cons (.int .i64) (.cons .str (.cons .str (.cons (.int .i64) (.cons (.il true (.int .i64)) (.cons (.int .i64) .nil))))))))))))) .nil) .bool x = i_Spent k x := by kernel_rfl
theorem e_i_Spent (k : Nat) : EntryOk Try.prog ⟨32, 0, (.cons (.agg (.cons (.int .i64) (.cons .str (.cons .str (.cons (.int .i64) (.cons (.il true (.int .i64)) (.cons (.int .i64) (.cons (.int .i64) (.cons .str (.cons .str (.cons (.int .i64) (.cons (.il true (.int .i64)) (.cons (.int .i64) .nil))))))))))))) .nil), .bool, i_Spent k⟩ := entry_ok tok (by intro e he; simp only [List.mem_cons, List.not_mem_nil, or_false] at he; rcases he with rfl <;> first | exact e_i_noSlot k) (by kernel_rfl) (fn := Try.f32) (k := k) (es := [⟨62, 0, (.cons (.agg (.cons (.int .i64) (.cons .str (.cons .str (.cons (.int .i64) (.cons (.il true (.int .i64)) (.cons (.int .i64) .nil))))))) .nil), .bool, i_noSlot k⟩]) (loops := []) (by kernel_rfl) (by kernel_rfl) (fun x r h => (t_i_Spent k x).trans h)
def i_isId (k : Nat) (x : Int × Unit) : Option (Bool × Unit × Unit) :=
((i_within k (x.1, ((1 : Int), ((99 : Int), ())))).bind fun p1 =>
some (p1.1, ((), ())))
theorem t_i_isId (k : Nat) (x) : evF TTab k [⟨57, 0, (.cons (.int .i64) (.cons (.int .i64) (.cons (.int .i64) .nil))), .bool, i_within k⟩] [] Try.f48 (.cons (.int .i64) .nil) .bool x = i_isId k x := by kernel_rfl
theorem e_i_isId (k : Nat) : EntryOk Try.prog ⟨48, 0, (.cons (.int .i64) .nil), .bool, i_isId k⟩ := entry_ok tok (by intro e he; simp only [List.mem_cons, List.not_mem_nil, or_false] at he; rcases he with rfl <;> first | exact e_i_within k) (by kernel_rfl) (fn := Try.f48) (k := k) (es := [⟨57, 0, (.cons (.int .i64) (.cons (.int .i64) (.cons (.int .i64) .nil))), .bool, i_within k⟩]) (loops := []) (by kernel_rfl) (by kernel_rfl) (fun x r h => (t_i_isId k x).trans h)
def i_VarText (k : Nat) (x : Int × Unit) : Option ((ByteArray × Bool × Unit) × Unit × Unit) :=
((i_within k (x.1, ((0 : Int), ((1000000000 : Int), ())))).bind fun p1 =>
(if (!p1.1) = true then
some (((⟨#[]⟩ : ByteArray), (false, ())), ((), ()))
else
(whileK (fun (rec0 : (Int × List (Int) × Unit) → Option _) (y0 : Int × List (Int) × Unit) =>
(if (decide ((127 : Int) < y0.1)) = true then
(if List.length y0.2.1 + List.length ([(wu8 ((wi64 ((Int.tmod y0.1 (128 : Int)) + (128 : Int)))))] : List (Int)) ≤ capMax then
(rec0 ((wi64 (Int.tdiv y0.1 (128 : Int))), ((y0.2.1 ++ ([(wu8 ((wi64 ((Int.tmod y0.1 (128 : Int)) + (128 : Int)))))] : List (Int))), ())))
else none)
else
((fun (z1 : Int × List (Int) × Unit) =>
(if List.length z1.2.1 + List.length ([(wu8 (z1.1))] : List (Int)) ≤ capMax then
some (((strOf (z1.2.1 ++ ([(wu8 (z1.1))] : List (Int)))), (true, ())), ((), ()))
else none)) (y0.1, (y0.2.1, ()))))) k (x.1, (([] : List (Int)), ())))))
theorem t_i_VarText (k : Nat) (x) : evF TTab k [⟨57, 0, (.cons (.int .i64) (.cons (.int .i64) (.cons (.int .i64) .nil))), .bool, i_within k⟩] [(0, ⟨[0, 4], (.cons (.int .i64) (.cons (.own false 5 (.int .u8)) .nil))⟩, ⟨[0, 4], (.cons (.int .i64) (.cons (.own false 5 (.int .u8)) .nil))⟩)] Try.f101 (.cons (.int .i64) .nil) (.tup (.cons .str (.cons .bool .nil))) x = i_VarText k x := by kernel_rfl
theorem e_i_VarText (k : Nat) : EntryOk Try.prog ⟨101, 0, (.cons (.int .i64) .nil), (.tup (.cons .str (.cons .bool .nil))), i_VarText k⟩ := entry_ok tok (by intro e he; simp only [List.mem_cons, List.not_mem_nil, or_false] at he; rcases he with rfl <;> first | exact e_i_within k) (by kernel_rfl) (fn := Try.f101) (k := k) (es := [⟨57, 0, (.cons (.int .i64) (.cons (.int .i64) (.cons (.int .i64) .nil))), .bool, i_within k⟩]) (loops := [(0, ⟨[0, 4], (.cons (.int .i64) (.cons (.own false 5 (.int .u8)) .nil))⟩, ⟨[0, 4], (.cons (.int .i64) (.cons (.own false 5 (.int .u8)) .nil))⟩)]) (by kernel_rfl) (by kernel_rfl) (fun x r h => (t_i_VarText k x).trans h)
def i_masked (k : Nat) (x : ByteArray × Int × Unit) : Option (ByteArray × Unit × Unit × Unit) :=
(if ByteArray.size x.1 ≤ maxStr then
(whileK (fun (rec0 : (Int × List (Int) × Int × Int × Unit) → Option _) (y0 : Int × List (Int) × Int × Int × Unit) =>
(if (decide (y0.2.2.2.1 < y0.2.2.1)) = true then
(if 0 ≤ y0.2.2.2.1 ∧ y0.2.2.2.1 < (List.length y0.2.1 : Int) then
(if 0 ≤ y0.2.2.2.1 ∧ y0.2.2.2.1 < (List.length y0.2.1 : Int) then
(rec0 (y0.1, ((List.set y0.2.1 (Int.toNat y0.2.2.2.1) (bitsI .xor .u8 (Ty.rd (t := (.int .u8)) y0.2.1 y0.2.2.2.1) y0.1)), (y0.2.2.1, ((wi64 (y0.2.2.2.1 + (1 : Int))), ())))))
else none)
else none)
else
((fun (z1 : List (Int) × Unit) =>
some ((strOf z1.1), ((), ((), ())))) (y0.2.1, ())))) k (x.2.1, ((bytesOf x.1), ((List.length (bytesOf x.1) : Int), ((0 : Int), ())))))
else none)
theorem t_i_masked (k : Nat) (x) : evF TTab k [] [(0, ⟨[1, 5, 10, 11], (.cons (.int .u8) (.cons (.own true 5 (.int .u8)) (.cons (.int .i64) (.cons (.int .i64) .nil))))⟩, ⟨[5], (.cons (.own true 5 (.int .u8)) .nil)⟩)] Try.f124 (.cons .str (.cons (.int .u8) .nil)) .str x = i_masked k x := by kernel_rfl
theorem e_i_masked (k : Nat) : EntryOk Try.prog ⟨124, 0, (.cons .str (.cons (.int .u8) .nil)), .str, i_masked k⟩ := entry_ok tok (by simp) (by kernel_rfl) (fn := Try.f124) (k := k) (es := []) (loops := [(0, ⟨[1, 5, 10, 11], (.cons (.int .u8) (.cons (.own true 5 (.int .u8)) (.cons (.int .i64) (.cons (.int .i64) .nil))))⟩, ⟨[5], (.cons (.own true 5 (.int .u8)) .nil)⟩)]) (by kernel_rfl) (by kernel_rfl) (fun x r h => (t_i_masked k x).trans h)
def i_MacOf (k : Nat) (x : ByteArray × ByteArray × Unit) : Option (ByteArray × Unit × Unit × Unit) :=
(if (decide ((64 : Int) < (ByteArray.size x.1 : Int))) = true then
((i_DigestOf k (x.1, ())).bind fun p1 =>
((x_strings_Repeat k ((⟨#[0]⟩ : ByteArray), ((wi64 ((64 : Int) - (ByteArray.size p1.1 : Int))), ()))).bind fun p7 =>
(if ByteArray.size p1.1 + ByteArray.size p7.1 ≤ maxStr then
((i_masked k ((p1.1 ++ p7.1), ((92 : Int), ()))).bind fun p8 =>
((i_masked k ((p1.1 ++ p7.1), ((54 : Int), ()))).bind fun p9 =>
(if ByteArray.size p9.1 + ByteArray.size x.2.1 ≤ maxStr then
((i_DigestOf k ((p9.1 ++ x.2.1), ())).bind fun p10 =>
(if ByteArray.size p8.1 + ByteArray.size p10.1 ≤ maxStr then
((i_DigestOf k ((p8.1 ++ p10.1), ())).bind fun p11 =>
some (p11.1, ((), ((), ()))))
else none))
else none)))
else none)))
else
((x_strings_Repeat k ((⟨#[0]⟩ : ByteArray), ((wi64 ((64 : Int) - (ByteArray.size x.1 : Int))), ()))).bind fun p12 =>
(if ByteArray.size x.1 + ByteArray.size p12.1 ≤ maxStr then
((i_masked k ((x.1 ++ p12.1), ((92 : Int), ()))).bind fun p13 =>
((i_masked k ((x.1 ++ p12.1), ((54 : Int), ()))).bind fun p14 =>
(if ByteArray.size p14.1 + ByteArray.size x.2.1 ≤ maxStr then
((i_DigestOf k ((p14.1 ++ x.2.1), ())).bind fun p15 =>
(if ByteArray.size p13.1 + ByteArray.size p15.1 ≤ maxStr then
((i_DigestOf k ((p13.1 ++ p15.1), ())).bind fun p16 =>
some (p16.1, ((), ((), ()))))
else none))
else none)))
else none)))
theorem t_i_MacOf (k : Nat) (x) : evF TTab k [⟨36, 0, (.cons .str .nil), .str, i_DigestOf k⟩, ⟨94, 0, (.cons .str (.cons (.int .i64) .nil)), .str, x_strings_Repeat k⟩, ⟨124, 0, (.cons .str (.cons (.int .u8) .nil)), .str, i_masked k⟩] [] Try.f102 (.cons .str (.cons .str .nil)) .str x = i_MacOf k x := by kernel_rfl
theorem e_i_MacOf (k : Nat) : EntryOk Try.prog ⟨102, 0, (.cons .str (.cons .str .nil)), .str, i_MacOf k⟩ := entry_ok tok (by intro e he; simp only [List.mem_cons, List.not_mem_nil, or_false] at he; rcases he with rfl | rfl | rfl <;> first | exact e_i_DigestOf k | exact e_x_strings_Repeat k | exact e_i_masked k) (by kernel_rfl) (fn := Try.f102) (k := k) (es := [⟨36, 0, (.cons .str .nil), .str, i_DigestOf k⟩, ⟨94, 0, (.cons .str (.cons (.int .i64) .nil)), .str, x_strings_Repeat k⟩, ⟨124, 0, (.cons .str (.cons (.int .u8) .nil)), .str, i_masked k⟩]) (loops := []) (by kernel_rfl) (by kernel_rfl) (fun x r h => (t_i_MacOf k x).trans h)
def i_byteText (k : Nat) (x : Int × Unit) : Option (ByteArray × Unit × Unit) :=
some ((strOf ([(wu8 (x.1))] : List (Int))), ((), ()))
theorem t_i_byteText (k : Nat) (x) : evF TTab k [] [] Try.f123 (.cons (.int .i64) .nil) .str x = i_byteText k x := by kernel_rfl
theorem e_i_byteText (k : Nat) : EntryOk Try.prog ⟨123, 0, (.cons (.int .i64) .nil), .str, i_byteText k⟩ := entry_ok tok (by simp) (by kernel_rfl) (fn := Try.f123) (k := k) (es := []) (loops := []) (by kernel_rfl) (by kernel_rfl) (fun x r h => (t_i_byteText k x).trans h)
def i_Mask (k : Nat) (x : ByteArray × Int × Int × Unit) : Option ((ByteArray × Bool × Unit) × Unit × Unit × Unit × Unit) :=
((i_VarText k (x.2.1, ())).bind fun p1 =>
(if (!p1.1.2.1) = false then
((i_within k (x.2.2.1, ((0 : Int), ((8000 : Int), ())))).bind fun p2 =>
(if (!p2.1) = true then
some (((⟨#[]⟩ : ByteArray), (false, ())), ((), ((), ((), ()))))
else
(whileK (fun (rec0 : (ByteArray × Int × ByteArray × List (Int) × Int × Unit) → Option _) (y0 : ByteArray × Int × ByteArray × List (Int) × Int × Unit) =>
(if (decide ((List.length y0.2.2.2.1 : Int) < y0.2.1)) = true then
(if ByteArray.size (⟨#[109]⟩ : ByteArray) + ByteArray.size y0.2.2.1 ≤ maxStr then
((i_byteText k (y0.2.2.2.2.1, ())).bind fun p3 =>
(if ByteArray.size ((⟨#[109]⟩ : ByteArray) ++ y0.2.2.1) + ByteArray.size p3.1 ≤ maxStr then
((i_MacOf k (y0.1, ((((⟨#[109]⟩ : ByteArray) ++ y0.2.2.1) ++ p3.1), ()))).bind fun p4 =>
(if List.length y0.2.2.2.1 + List.length (bytesOf p4.1) ≤ capMax then
(rec0 (y0.1, (y0.2.1, (y0.2.2.1, ((y0.2.2.2.1 ++ (bytesOf p4.1)), ((wi64 (y0.2.2.2.2.1 + (1 : Int))), ()))))))
else none))
else none))
else none)
else
((fun (z1 : Int × List (Int) × Unit) =>
(if 0 ≤ z1.1 ∧ z1.1 ≤ (List.length z1.2.1 : Int) then
some (((strOf (List.drop (Int.toNat (0 : Int)) (List.take (Int.toNat z1.1) z1.2.1))), (true, ())), ((), ((), ((), ()))))
else none)) (y0.2.1, (y0.2.2.2.1, ()))))) k (x.1, (x.2.2.1, (p1.1.1, (([] : List (Int)), ((0 : Int), ()))))))))
else
some (((⟨#[]⟩ : ByteArray), (false, ())), ((), ((), ((), ()))))))
theorem t_i_Mask (k : Nat) (x) : evF TTab k [⟨57, 0, (.cons (.int .i64) (.cons (.int .i64) (.cons (.int .i64) .nil))), .bool, i_within k⟩, ⟨101, 0, (.cons (.int .i64) .nil), (.tup (.cons .str (.cons .bool .nil))), i_VarText k⟩, ⟨102, 0, (.cons .str (.cons .str .nil)), .str, i_MacOf k⟩, ⟨123, 0, (.cons (.int .i64) .nil), .str, i_byteText k⟩] [(0, ⟨[0, 2, 8, 10, 11], (.cons .str (.cons (.int .i64) (.cons .str (.cons (.own false 5 (.int .u8)) (.cons (.int .i64) .nil)))))⟩, ⟨[2, 10], (.cons (.int .i64) (.cons (.own false 5 (.int .u8)) .nil))⟩)] Try.f100 (.cons .str (.cons (.int .i64) (.cons (.int .i64) .nil))) (.tup (.cons .str (.cons .bool .nil))) x = i_Mask k x := by kernel_rfl
theorem e_i_Mask (k : Nat) : EntryOk Try.prog ⟨100, 0, (.cons .str (.cons (.int .i64) (.cons (.int .i64) .nil))), (.tup (.cons .str (.cons .bool .nil))), i_Mask k⟩ := entry_ok tok (by intro e he; simp only [List.mem_cons, List.not_mem_nil, or_false] at he; rcases he with rfl | rfl | rfl | rfl <;> first | exact e_i_within k | exact e_i_VarText k | exact e_i_MacOf k | exact e_i_byteText k) (by kernel_rfl) (fn := Try.f100) (k := k) (es := [⟨57, 0, (.cons (.int .i64) (.cons (.int .i64) (.cons (.int .i64) .nil))), .bool, i_within k⟩, ⟨101, 0, (.cons (.int .i64) .nil), (.tup (.cons .str (.cons .bool .nil))), i_VarText k⟩, ⟨102, 0, (.cons .str (.cons .str .nil)), .str, i_MacOf k⟩, ⟨123, 0, (.cons (.int .i64) .nil), .str, i_byteText k⟩]) (loops := [(0, ⟨[0, 2, 8, 10, 11], (.cons .str (.cons (.int .i64) (.cons .str (.cons (.own false 5 (.int .u8)) (.cons (.int .i64) .nil)))))⟩, ⟨[2, 10], (.cons (.int .i64) (.cons (.own false 5 (.int .u8)) .nil))⟩)]) (by kernel_rfl) (by kernel_rfl) (fun x r h => (t_i_Mask k x).trans h)
def i_hidden (k : Nat) (x : ByteArray × Int × ByteArray × Unit) : Option ((ByteArray × Bool × Unit) × Unit × Unit × Unit × Unit) :=
((i_Mask k (x.1, (x.2.1, ((ByteArray.size x.2.2.1 : Int), ())))).bind fun p1 =>
(if (!p1.1.2.1) = true then
some (((⟨#[]⟩ : ByteArray), (false, ())), ((), ((), ((), ()))))
else
(if ByteArray.size x.2.2.1 ≤ maxStr then
(whileK (fun (rec0 : (ByteArray × List (Int) × Int × Int × Unit) → Option _) (y0 : ByteArray × List (Int) × Int × Int × Unit) =>
(if (decide (y0.2.2.2.1 < y0.2.2.1)) = true then
(if 0 ≤ y0.2.2.2.1 ∧ y0.2.2.2.1 < (List.length y0.2.1 : Int) then
(if 0 ≤ y0.2.2.2.1 ∧ y0.2.2.2.1 < (ByteArray.size y0.1 : Int) then
(if 0 ≤ y0.2.2.2.1 ∧ y0.2.2.2.1 < (List.length y0.2.1 : Int) then
(rec0 (y0.1, ((List.set y0.2.1 (Int.toNat y0.2.2.2.1) (bitsI .xor .u8 (Ty.rd (t := (.int .u8)) y0.2.1 y0.2.2.2.1) (bt y0.1 y0.2.2.2.1))), (y0.2.2.1, ((wi64 (y0.2.2.2.1 + (1 : Int))), ())))))
else none)
else none)
else none)
else
((fun (z1 : List (Int) × Unit) =>
some (((strOf z1.1), (true, ())), ((), ((), ((), ()))))) (y0.2.1, ())))) k (p1.1.1, ((bytesOf x.2.2.1), ((List.length (bytesOf x.2.2.1) : Int), ((0 : Int), ())))))
else none)))
theorem t_i_hidden (k : Nat) (x) : evF TTab k [⟨100, 0, (.cons .str (.cons (.int .i64) (.cons (.int .i64) .nil))), (.tup (.cons .str (.cons .bool .nil))), i_Mask k⟩] [(0, ⟨[8, 10, 25, 26], (.cons .str (.cons (.own true 5 (.int .u8)) (.cons (.int .i64) (.cons (.int .i64) .nil))))⟩, ⟨[10], (.cons (.own true 5 (.int .u8)) .nil)⟩)] Try.f79 (.cons .str (.cons (.int .i64) (.cons .str .nil))) (.tup (.cons .str (.cons .bool .nil))) x = i_hidden k x := by kernel_rfl
theorem e_i_hidden (k : Nat) : EntryOk Try.prog ⟨79, 0, (.cons .str (.cons (.int .i64) (.cons .str .nil))), (.tup (.cons .str (.cons .bool .nil))), i_hidden k⟩ := entry_ok tok (by intro e he; simp only [List.mem_cons, List.not_mem_nil, or_false] at he; rcases he with rfl <;> first | exact e_i_Mask k) (by kernel_rfl) (fn := Try.f79) (k := k) (es := [⟨100, 0, (.cons .str (.cons (.int .i64) (.cons (.int .i64) .nil))), (.tup (.cons .str (.cons .bool .nil))), i_Mask k⟩]) (loops := [(0, ⟨[8, 10, 25, 26], (.cons .str (.cons (.own true 5 (.int .u8)) (.cons (.int .i64) (.cons (.int .i64) .nil))))⟩, ⟨[10], (.cons (.own true 5 (.int .u8)) .nil)⟩)]) (by kernel_rfl) (by kernel_rfl) (fun x r h => (t_i_hidden k x).trans h)
def i_macText (k : Nat) (x : ByteArray × Int × ByteArray × Unit) : Option (ByteArray × Unit × Unit × Unit × Unit) :=
((i_VarText k (x.2.1, ())).bind fun p1 =>
(if ByteArray.size (⟨#[116]⟩ : ByteArray) + ByteArray.size p1.1.1 ≤ maxStr then
(if ByteArray.size ((⟨#[116]⟩ : ByteArray) ++ p1.1.1) + ByteArray.size x.2.2.1 ≤ maxStr then
((i_MacOf k (x.1, ((((⟨#[116]⟩ : ByteArray) ++ p1.1.1) ++ x.2.2.1), ()))).bind fun p2 =>
(if 0 ≤ (16 : Int) ∧ (16 : Int) ≤ (ByteArray.size p2.1 : Int) then
some ((ByteArray.extract p2.1 (Int.toNat (0 : Int)) (Int.toNat (16 : Int))), ((), ((), ((), ()))))
else none))
else none)
else none))
theorem t_i_macText (k : Nat) (x) : evF TTab k [⟨101, 0, (.cons (.int .i64) .nil), (.tup (.cons .str (.cons .bool .nil))), i_VarText k⟩, ⟨102, 0, (.cons .str (.cons .str .nil)), .str, i_MacOf k⟩] [] Try.f80 (.cons .str (.cons (.int .i64) (.cons .str .nil))) .str x = i_macText k x := by kernel_rfl
theorem e_i_macText (k : Nat) : EntryOk Try.prog ⟨80, 0, (.cons .str (.cons (.int .i64) (.cons .str .nil))), .str, i_macText k⟩ := entry_ok tok (by intro e he; simp only [List.mem_cons, List.not_mem_nil, or_false] at he; rcases he with rfl | rfl <;> first | exact e_i_VarText k | exact e_i_MacOf k) (by kernel_rfl) (fn := Try.f80) (k := k) (es := [⟨101, 0, (.cons (.int .i64) .nil), (.tup (.cons .str (.cons .bool .nil))), i_VarText k⟩, ⟨102, 0, (.cons .str (.cons .str .nil)), .str, i_MacOf k⟩]) (loops := []) (by kernel_rfl) (by kernel_rfl) (fun x r h => (t_i_macText k x).trans h)
def i_LockText (k : Nat) (x : ByteArray × Int × ByteArray × Unit) : Option ((ByteArray × Bool × Unit) × Unit × Unit × Unit × Unit) :=
((i_hidden k (x.1, (x.2.1, (x.2.2.1, ())))).bind fun p1 =>
(if (!p1.1.2.1) = true then
some (((⟨#[]⟩ : ByteArray), (false, ())), ((), ((), ((), ()))))
else
((i_macText k (x.1, (x.2.1, (p1.1.1, ())))).bind fun p2 =>
(if ByteArray.size p1.1.1 + ByteArray.size p2.1 ≤ maxStr then
some (((p1.1.1 ++ p2.1), (true, ())), ((), ((), ((), ()))))
else none))))
theorem t_i_LockText (k : Nat) (x) : evF TTab k [⟨79, 0, (.cons .str (.cons (.int .i64) (.cons .str .nil))), (.tup (.cons .str (.cons .bool .nil))), i_hidden k⟩, ⟨80, 0, (.cons .str (.cons (.int .i64) (.cons .str .nil))), .str, i_macText k⟩] [] Try.f49 (.cons .str (.cons (.int .i64) (.cons .str .nil))) (.tup (.cons .str (.cons .bool .nil))) x = i_LockText k x := by kernel_rfl
theorem e_i_LockText (k : Nat) : EntryOk Try.prog ⟨49, 0, (.cons .str (.cons (.int .i64) (.cons .str .nil))), (.tup (.cons .str (.cons .bool .nil))), i_LockText k⟩ := entry_ok tok (by intro e he; simp only [List.mem_cons, List.not_mem_nil, or_false] at he; rcases he with rfl | rfl <;> first | exact e_i_hidden k | exact e_i_macText k) (by kernel_rfl) (fn := Try.f49) (k := k) (es := [⟨79, 0, (.cons .str (.cons (.int .i64) (.cons .str .nil))), (.tup (.cons .str (.cons .bool .nil))), i_hidden k⟩, ⟨80, 0, (.cons .str (.cons (.int .i64) (.cons .str .nil))), .str, i_macText k⟩]) (loops := []) (by kernel_rfl) (by kernel_rfl) (fun x r h => (t_i_LockText k x).trans h)
def i_SealData (k : Nat) (x : (Int × ByteArray × ByteArray × Int × List (Int) × Int × Int × ByteArray × ByteArray × Int × List (Int) × Int × Unit) × Int × Int × ByteArray × Unit) : Option (((Int × ByteArray × ByteArray × Int × List (Int) × Int × Int × ByteArray × ByteArray × Int × List (Int) × Int × Unit) × (Int × Int × Int × Int × Int × List (Int) × ByteArray × Unit) × Bool × Unit) × Unit × Unit × Unit × Unit × Unit) :=
((i_copySlots k ((x.1.1, (x.1.2.1, (x.1.2.2.1, (x.1.2.2.2.1, (x.1.2.2.2.2.1, (x.1.2.2.2.2.2.1, (x.1.2.2.2.2.2.2.1, (x.1.2.2.2.2.2.2.2.1, (x.1.2.2.2.2.2.2.2.2.1, (x.1.2.2.2.2.2.2.2.2.2.1, (x.1.2.2.2.2.2.2.2.2.2.2.1, (x.1.2.2.2.2.2.2.2.2.2.2.2.1, ())))))))))))), ())).bind fun p1 =>
((i_SlotsOk k ((x.1.1, (x.1.2.1, (x.1.2.2.1, (x.1.2.2.2.1, (x.1.2.2.2.2.1, (x.1.2.2.2.2.2.1, (x.1.2.2.2.2.2.2.1, (x.1.2.2.2.2.2.2.2.1, (x.1.2.2.2.2.2.2.2.2.1, (x.1.2.2.2.2.2.2.2.2.2.1, (x.1.2.2.2.2.2.2.2.2.2.2.1, (x.1.2.2.2.2.2.2.2.2.2.2.2.1, ())))))))))))), ())).bind fun p2 =>
(if (!p2.1) = false then
((i_Spent k ((x.1.1, (x.1.2.1, (x.1.2.2.1, (x.1.2.2.2.1, (x.1.2.2.2.2.1, (x.1.2.2.2.2.2.1, (x.1.2.2.2.2.2.2.1, (x.1.2.2.2.2.2.2.2.1, (x.1.2.2.2.2.2.2.2.2.1, (x.1.2.2.2.2.2.2.2.2.2.1, (x.1.2.2.2.2.2.2.2.2.2.2.1, (x.1.2.2.2.2.2.2.2.2.2.2.2.1, ())))))))))))), ())).bind fun p3 =>
(if p3.1 = false then
((i_isId k (x.2.1, ())).bind fun p4 =>
(if (!p4.1) = false then
((i_isId k (x.2.2.1, ())).bind fun p5 =>
(if (!p5.1) = false then
(if (decide ((104 : Int) < (ByteArray.size x.2.2.2.1 : Int))) = true then
some (((p1.1.1, (p1.1.2.1, (p1.1.2.2.1, (p1.1.2.2.2.1, (p1.1.2.2.2.2.1, (p1.1.2.2.2.2.2.1, (p1.1.2.2.2.2.2.2.1, (p1.1.2.2.2.2.2.2.2.1, (p1.1.2.2.2.2.2.2.2.2.1, (p1.1.2.2.2.2.2.2.2.2.2.1, (p1.1.2.2.2.2.2.2.2.2.2.2.1, (p1.1.2.2.2.2.2.2.2.2.2.2.2.1, ())))))))))))), (((0 : Int), ((0 : Int), ((0 : Int), ((0 : Int), ((0 : Int), ([], ((⟨#[]⟩ : ByteArray), ()))))))), (false, ()))), ((), ((), ((), ((), ())))))
else
((i_LockText k (x.1.2.1, ((wi64 (p1.1.2.2.2.1 + (1 : Int))), (x.2.2.2.1, ())))).bind fun p6 =>
some (((p1.1.1, (p1.1.2.1, (p1.1.2.2.1, ((wi64 (p1.1.2.2.2.1 + (1 : Int))), (p1.1.2.2.2.2.1, (p1.1.2.2.2.2.2.1, (p1.1.2.2.2.2.2.2.1, (p1.1.2.2.2.2.2.2.2.1, (p1.1.2.2.2.2.2.2.2.2.1, (p1.1.2.2.2.2.2.2.2.2.2.1, (p1.1.2.2.2.2.2.2.2.2.2.2.1, (p1.1.2.2.2.2.2.2.2.2.2.2.2.1, ())))))))))))), (((3 : Int), ((Int.tmod x.1.1 (8 : Int)), (x.2.1, (x.2.2.1, ((wi64 (p1.1.2.2.2.1 + (1 : Int))), ([], (p6.1.1, ()))))))), (true, ()))), ((), ((), ((), ((), ())))))))
else
some (((p1.1.1, (p1.1.2.1, (p1.1.2.2.1, (p1.1.2.2.2.1, (p1.1.2.2.2.2.1, (p1.1.2.2.2.2.2.1, (p1.1.2.2.2.2.2.2.1, (p1.1.2.2.2.2.2.2.2.1, (p1.1.2.2.2.2.2.2.2.2.1, (p1.1.2.2.2.2.2.2.2.2.2.1, (p1.1.2.2.2.2.2.2.2.2.2.2.1, (p1.1.2.2.2.2.2.2.2.2.2.2.2.1, ())))))))))))), (((0 : Int), ((0 : Int), ((0 : Int), ((0 : Int), ((0 : Int), ([], ((⟨#[]⟩ : ByteArray), ()))))))), (false, ()))), ((), ((), ((), ((), ())))))))
else
some (((p1.1.1, (p1.1.2.1, (p1.1.2.2.1, (p1.1.2.2.2.1, (p1.1.2.2.2.2.1, (p1.1.2.2.2.2.2.1, (p1.1.2.2.2.2.2.2.1, (p1.1.2.2.2.2.2.2.2.1, (p1.1.2.2.2.2.2.2.2.2.1, (p1.1.2.2.2.2.2.2.2.2.2.1, (p1.1.2.2.2.2.2.2.2.2.2.2.1, (p1.1.2.2.2.2.2.2.2.2.2.2.2.1, ())))))))))))), (((0 : Int), ((0 : Int), ((0 : Int), ((0 : Int), ((0 : Int), ([], ((⟨#[]⟩ : ByteArray), ()))))))), (false, ()))), ((), ((), ((), ((), ())))))))
else
some (((p1.1.1, (p1.1.2.1, (p1.1.2.2.1, (p1.1.2.2.2.1, (p1.1.2.2.2.2.1, (p1.1.2.2.2.2.2.1, (p1.1.2.2.2.2.2.2.1, (p1.1.2.2.2.2.2.2.2.1, (p1.1.2.2.2.2.2.2.2.2.1, (p1.1.2.2.2.2.2.2.2.2.2.1, (p1.1.2.2.2.2.2.2.2.2.2.2.1, (p1.1.2.2.2.2.2.2.2.2.2.2.2.1, ())))))))))))), (((0 : Int), ((0 : Int), ((0 : Int), ((0 : Int), ((0 : Int), ([], ((⟨#[]⟩ : ByteArray), ()))))))), (false, ()))), ((), ((), ((), ((), ())))))))
else
some (((p1.1.1, (p1.1.2.1, (p1.1.2.2.1, (p1.1.2.2.2.1, (p1.1.2.2.2.2.1, (p1.1.2.2.2.2.2.1, (p1.1.2.2.2.2.2.2.1, (p1.1.2.2.2.2.2.2.2.1, (p1.1.2.2.2.2.2.2.2.2.1, (p1.1.2.2.2.2.2.2.2.2.2.1, (p1.1.2.2.2.2.2.2.2.2.2.2.1, (p1.1.2.2.2.2.2.2.2.2.2.2.2.1, ())))))))))))), (((0 : Int), ((0 : Int), ((0 : Int), ((0 : Int), ((0 : Int), ([], ((⟨#[]⟩ : ByteArray), ()))))))), (false, ()))), ((), ((), ((), ((), ()))))))))
theorem t_i_SealData (k : Nat) (x) : evF TTab k [⟨30, 0, (.cons (.agg (.cons (.int .i64) (.cons .str (.cons .str (.cons (.int .i64) (.cons (.il true (.int .i64)) (.cons (.int .i64) (.cons (.int .i64) (.cons .str (.cons .str (.cons (.int .i64) (.cons (.il true (.int .i64)) (.cons (.int .i64) .nil))))))))))))) .nil), .bool, i_SlotsOk k⟩, ⟨32, 0, (.cons (.agg (.cons (.int .i64) (.cons .str (.cons .str (.cons (.int .i64) (.cons (.il true (.int .i64)) (.cons (.int .i64) (.cons (.int .i64) (.cons .str (.cons .str (.cons (.int .i64) (.cons (.il true (.int .i64)) (.cons (.int .i64) .nil))))))))))))) .nil), .bool, i_Spent k⟩, ⟨47, 0, (.cons (.agg (.cons (.int .i64) (.cons .str (.cons .str (.cons (.int .i64) (.cons (.il true (.int .i64)) (.cons (.int .i64) (.cons (.int .i64) (.cons .str (.cons .str (.cons (.int .i64) (.cons (.il true (.int .i64)) (.cons (.int .i64) .nil))))))))))))) .nil), (.agg (.cons (.int .i64) (.cons .str (.cons .str (.cons (.int .i64) (.cons (.own false 3 (.int .i64)) (.cons (.int .i64) (.cons (.int .i64) (.cons .str (.cons .str (.cons (.int .i64) (.cons (.own false 3 (.int .i64)) (.cons (.int .i64) .nil))))))))))))), i_copySlots k⟩, ⟨48, 0, (.cons (.int .i64) .nil), .bool, i_isId k⟩, ⟨49, 0, (.cons .str (.cons (.int .i64) (.cons .str .nil))), (.tup (.cons .str (.cons .bool .nil))), i_LockText k⟩] [] Try.f18 (.cons (.agg (.cons (.int .i64) (.cons .str (.cons .str (.cons (.int .i64) (.cons (.il true (.int .i64)) (.cons (.int .i64) (.cons (.int .i64) (.cons .str (.cons .str (.cons (.int .i64) (.cons (.il true (.int .i64)) (.cons (.int .i64) .nil))))))))))))) (.cons (.int .i64) (.cons (.int .i64) (.cons .str .nil)))) (.tup (.cons (.agg (.cons (.int .i64) (.cons .str (.cons .str (.cons (.int .i64) (.cons (.own false 3 (.int .i64)) (.cons (.int .i64) (.cons (.int .i64) (.cons .str (.cons .str (.cons (.int .i64) (.cons (.own false 3 (.int .i64)) (.cons (.int .i64) .nil))))))))))))) (.cons (.agg (.cons (.int .i64) (.cons (.int .i64) (.cons (.int .i64) (.cons (.int .i64) (.cons (.int .i64) (.cons (.own false 3 (.int .i64)) (.cons .str .nil)))))))) (.cons .bool .nil)))) x = i_SealData k x := by kernel_rfl
theorem e_i_SealData (k : Nat) : EntryOk Try.prog ⟨18, 0, (.cons (.agg (.cons (.int .i64) (.cons .str (.cons .str (.cons (.int .i64) (.cons (.il true (.int .i64)) (.cons (.int .i64) (.cons (.int .i64) (.cons .str (.cons .str (.cons (.int .i64) (.cons (.il true (.int .i64)) (.cons (.int .i64) .nil))))))))))))) (.cons (.int .i64) (.cons (.int .i64) (.cons .str .nil)))), (.tup (.cons (.agg (.cons (.int .i64) (.cons .str (.cons .str (.cons (.int .i64) (.cons (.own false 3 (.int .i64)) (.cons (.int .i64) (.cons (.int .i64) (.cons .str (.cons .str (.cons (.int .i64) (.cons (.own false 3 (.int .i64)) (.cons (.int .i64) .nil))))))))))))) (.cons (.agg (.cons (.int .i64) (.cons (.int .i64) (.cons (.int .i64) (.cons (.int .i64) (.cons (.int .i64) (.cons (.own false 3 (.int .i64)) (.cons .str .nil)))))))) (.cons .bool .nil)))), i_SealData k⟩ := entry_ok tok (by intro e he; simp only [List.mem_cons, List.not_mem_nil, or_false] at he; rcases he with rfl | rfl | rfl | rfl | rfl <;> first | exact e_i_SlotsOk k | exact e_i_Spent k | exact e_i_copySlots k | exact e_i_isId k | exact e_i_LockText k) (by kernel_rfl) (fn := Try.f18) (k := k) (es := [⟨30, 0, (.cons (.agg (.cons (.int .i64) (.cons .str (.cons .str (.cons (.int .i64) (.cons (.il true (.int .i64)) (.cons (.int .i64) (.cons (.int .i64) (.cons .str (.cons .str (.cons (.int .i64) (.cons (.il true (.int .i64)) (.cons (.int .i64) .nil))))))))))))) .nil), .bool, i_SlotsOk k⟩, ⟨32, 0, (.cons (.agg (.cons (.int .i64) (.cons .str (.cons .str (.cons (.int .i64) (.cons (.il true (.int .i64)) (.cons (.int .i64) (.cons (.int .i64) (.cons .str (.cons .str (.cons (.int .i64) (.cons (.il true (.int .i64)) (.cons (.int .i64) .nil))))))))))))) .nil), .bool, i_Spent k⟩, ⟨47, 0, (.cons (.agg (.cons (.int .i64) (.cons .str (.cons .str (.cons (.int .i64) (.cons (.il true (.int .i64)) (.cons (.int .i64) (.cons (.int .i64) (.cons .str (.cons .str (.cons (.int .i64) (.cons (.il true (.int .i64)) (.cons (.int .i64) .nil))))))))))))) .nil), (.agg (.cons (.int .i64) (.cons .str (.cons .str (.cons (.int .i64) (.cons (.own false 3 (.int .i64)) (.cons (.int .i64) (.cons (.int .i64) (.cons .str (.cons .str (.cons (.int .i64) (.cons (.own false 3 (.int .i64)) (.cons (.int .i64) .nil))))))))))))), i_copySlots k⟩, ⟨48, 0, (.cons (.int .i64) .nil), .bool, i_isId k⟩, ⟨49, 0, (.cons .str (.cons (.int .i64) (.cons .str .nil))), (.tup (.cons .str (.cons .bool .nil))), i_LockText k⟩]) (loops := []) (by kernel_rfl) (by kernel_rfl) (fun x r h => (t_i_SealData k x).trans h)
def w_big (k : Nat) (x : List (Int) × Unit) : Option (Bool × Unit × Unit) :=
some ((decide ((1048576 : Int) < (List.length x.1 : Int))), ((), ()))
theorem t_w_big (k : Nat) (x) : evF TTab k [] [] Try.f22 (.cons (.il true (.int .u8)) .nil) .bool x = w_big k x := by kernel_rfl
theorem e_w_big (k : Nat) : EntryOk Try.prog ⟨22, 0, (.cons (.il true (.int .u8)) .nil), .bool, w_big k⟩ := entry_ok tok (by simp) (by kernel_rfl) (fn := Try.f22) (k := k) (es := []) (loops := []) (by kernel_rfl) (by kernel_rfl) (fun x r h => (t_w_big k x).trans h)
def s_l01Byte (k : Nat) (x : (List (Int) × Int × Int × Unit) × Unit) : Option (Int × (List (Int) × Int × Int × Unit) × Unit) :=
(if (decide (x.1.2.1 < (List.length x.1.1 : Int))) = true then
(if 0 ≤ x.1.2.1 ∧ x.1.2.1 < (List.length x.1.1 : Int) then
some ((bitsI .and .i64 (wi64 ((bitsI .and .i64 (bitsI .xor .i64 (Int.fdiv (wi64 ((wi64 (x.1.2.2.1 * (6364136223846793005 : Int))) + (1442695040888963407 : Int))) (2 ^ (min (Int.toNat (33 : Int)) (IntKind.bits .i64)))) (Int.fdiv (wi64 ((wi64 (x.1.2.2.1 * (6364136223846793005 : Int))) + (1442695040888963407 : Int))) (2 ^ (min (Int.toNat (45 : Int)) (IntKind.bits .i64))))) (255 : Int)) + (wi64 ((Ty.rd (t := (.int .u8)) x.1.1 x.1.2.1))))) (255 : Int)), ((x.1.1, ((wi64 (x.1.2.1 + (1 : Int))), ((wi64 ((wi64 (x.1.2.2.1 * (6364136223846793005 : Int))) + (1442695040888963407 : Int))), ()))), ()))
else none)
else
some ((bitsI .and .i64 (bitsI .xor .i64 (Int.fdiv (wi64 ((wi64 (x.1.2.2.1 * (6364136223846793005 : Int))) + (1442695040888963407 : Int))) (2 ^ (min (Int.toNat (33 : Int)) (IntKind.bits .i64)))) (Int.fdiv (wi64 ((wi64 (x.1.2.2.1 * (6364136223846793005 : Int))) + (1442695040888963407 : Int))) (2 ^ (min (Int.toNat (45 : Int)) (IntKind.bits .i64))))) (255 : Int)), ((x.1.1, (x.1.2.1, ((wi64 ((wi64 (x.1.2.2.1 * (6364136223846793005 : Int))) + (1442695040888963407 : Int))), ()))), ())))
theorem t_s_l01Byte (k : Nat) (x) : evF TTab k [] [] Try.f55 (.cons (.ptr 0 (.cons (.il true (.int .u8)) (.cons (.int .i64) (.cons (.int .i64) .nil)))) .nil) (.int .i64) x = s_l01Byte k x := by kernel_rfl
theorem e_s_l01Byte (k : Nat) : EntryOk Try.prog ⟨55, 0, (.cons (.ptr 0 (.cons (.il true (.int .u8)) (.cons (.int .i64) (.cons (.int .i64) .nil)))) .nil), (.int .i64), s_l01Byte k⟩ := entry_ok tok (by simp) (by kernel_rfl) (fn := Try.f55) (k := k) (es := []) (loops := []) (by kernel_rfl) (by kernel_rfl) (fun x r h => (t_s_l01Byte k x).trans h)
def s_l01Below (k : Nat) (x : (List (Int) × Int × Int × Unit) × Int × Unit) : Option (Int × (List (Int) × Int × Int × Unit) × Unit × Unit) :=
(if (decide (x.2.1 ≤ (0 : Int))) = true then
some ((0 : Int), ((x.1.1, (x.1.2.1, (x.1.2.2.1, ()))), ((), ())))
else
(if (decide (x.2.1 ≤ (256 : Int))) = true then
((s_l01Byte k ((x.1.1, (x.1.2.1, (x.1.2.2.1, ()))), ())).bind fun p1 =>
(if x.2.1 = 0 then
none
else
some ((Int.tmod p1.1 x.2.1), ((p1.2.1.1, (p1.2.1.2.1, (p1.2.1.2.2.1, ()))), ((), ())))))
else
((s_l01Byte k ((x.1.1, (x.1.2.1, (x.1.2.2.1, ()))), ())).bind fun p2 =>
((s_l01Byte k ((p2.2.1.1, (p2.2.1.2.1, (p2.2.1.2.2.1, ()))), ())).bind fun p3 =>
((s_l01Byte k ((p3.2.1.1, (p3.2.1.2.1, (p3.2.1.2.2.1, ()))), ())).bind fun p4 =>
((s_l01Byte k ((p4.2.1.1, (p4.2.1.2.1, (p4.2.1.2.2.1, ()))), ())).bind fun p5 =>
(if x.2.1 = 0 then
none
else
some ((Int.tmod (wi64 ((wi64 ((wi64 ((wi64 (p2.1 * (16777216 : Int))) + (wi64 (p3.1 * (65536 : Int))))) + (wi64 (p4.1 * (256 : Int))))) + p5.1)) x.2.1), ((p5.2.1.1, (p5.2.1.2.1, (p5.2.1.2.2.1, ()))), ((), ()))))))))))
theorem t_s_l01Below (k : Nat) (x) : evF TTab k [⟨55, 0, (.cons (.ptr 0 (.cons (.il true (.int .u8)) (.cons (.int .i64) (.cons (.int .i64) .nil)))) .nil), (.int .i64), s_l01Byte k⟩] [] Try.f56 (.cons (.ptr 0 (.cons (.il true (.int .u8)) (.cons (.int .i64) (.cons (.int .i64) .nil)))) (.cons (.int .i64) .nil)) (.int .i64) x = s_l01Below k x := by kernel_rfl
theorem e_s_l01Below (k : Nat) : EntryOk Try.prog ⟨56, 0, (.cons (.ptr 0 (.cons (.il true (.int .u8)) (.cons (.int .i64) (.cons (.int .i64) .nil)))) (.cons (.int .i64) .nil)), (.int .i64), s_l01Below k⟩ := entry_ok tok (by intro e he; simp only [List.mem_cons, List.not_mem_nil, or_false] at he; rcases he with rfl <;> first | exact e_s_l01Byte k) (by kernel_rfl) (fn := Try.f56) (k := k) (es := [⟨55, 0, (.cons (.ptr 0 (.cons (.il true (.int .u8)) (.cons (.int .i64) (.cons (.int .i64) .nil)))) .nil), (.int .i64), s_l01Byte k⟩]) (loops := []) (by kernel_rfl) (by kernel_rfl) (fun x r h => (t_s_l01Below k x).trans h)
def s_l01Text (k : Nat) (x : (List (Int) × Int × Int × Unit) × Int × Unit) : Option (ByteArray × (List (Int) × Int × Int × Unit) × Unit × Unit) :=
(jn (fun (j1v0 : Int) =>
(whileK (fun (rec0 : ((List (Int) × Int × Int × Unit) × Int × List (Int) × Int × Unit) → Option _) (y0 : (List (Int) × Int × Int × Unit) × Int × List (Int) × Int × Unit) =>
(if (decide (y0.2.2.2.1 < y0.2.1)) = true then
((s_l01Byte k ((y0.1.1, (y0.1.2.1, (y0.1.2.2.1, ()))), ())).bind fun p2 =>
(if List.length y0.2.2.1 + List.length ([(wu8 (p2.1))] : List (Int)) ≤ capMax then
(rec0 ((p2.2.1.1, (p2.2.1.2.1, (p2.2.1.2.2.1, ()))), (y0.2.1, ((y0.2.2.1 ++ ([(wu8 (p2.1))] : List (Int))), ((wi64 (y0.2.2.2.1 + (1 : Int))), ())))))
else none))
else
((fun (z2 : (List (Int) × Int × Int × Unit) × List (Int) × Unit) =>
some ((strOf z2.2.1), ((z2.1.1, (z2.1.2.1, (z2.1.2.2.1, ()))), ((), ())))) ((y0.1.1, (y0.1.2.1, (y0.1.2.2.1, ()))), (y0.2.2.1, ()))))) k ((x.1.1, (x.1.2.1, (x.1.2.2.1, ()))), (j1v0, (([] : List (Int)), ((0 : Int), ())))))) (fun (j1 : Int → Option _) =>
(if (decide ((5000 : Int) < x.2.1)) = true then
(j1 (5000 : Int))
else
(j1 x.2.1))))
theorem t_s_l01Text (k : Nat) (x) : evF TTab k [⟨55, 0, (.cons (.ptr 0 (.cons (.il true (.int .u8)) (.cons (.int .i64) (.cons (.int .i64) .nil)))) .nil), (.int .i64), s_l01Byte k⟩] [(0, ⟨[0, 1, 5, 6], (.cons (.ptr 0 (.cons (.il true (.int .u8)) (.cons (.int .i64) (.cons (.int .i64) .nil)))) (.cons (.int .i64) (.cons (.own false 5 (.int .u8)) (.cons (.int .i64) .nil))))⟩, ⟨[0, 5], (.cons (.ptr 0 (.cons (.il true (.int .u8)) (.cons (.int .i64) (.cons (.int .i64) .nil)))) (.cons (.own false 5 (.int .u8)) .nil))⟩)] Try.f63 (.cons (.ptr 0 (.cons (.il true (.int .u8)) (.cons (.int .i64) (.cons (.int .i64) .nil)))) (.cons (.int .i64) .nil)) .str x = s_l01Text k x := by kernel_rfl
theorem e_s_l01Text (k : Nat) : EntryOk Try.prog ⟨63, 0, (.cons (.ptr 0 (.cons (.il true (.int .u8)) (.cons (.int .i64) (.cons (.int .i64) .nil)))) (.cons (.int .i64) .nil)), .str, s_l01Text k⟩ := entry_ok tok (by intro e he; simp only [List.mem_cons, List.not_mem_nil, or_false] at he; rcases he with rfl <;> first | exact e_s_l01Byte k) (by kernel_rfl) (fn := Try.f63) (k := k) (es := [⟨55, 0, (.cons (.ptr 0 (.cons (.il true (.int .u8)) (.cons (.int .i64) (.cons (.int .i64) .nil)))) .nil), (.int .i64), s_l01Byte k⟩]) (loops := [(0, ⟨[0, 1, 5, 6], (.cons (.ptr 0 (.cons (.il true (.int .u8)) (.cons (.int .i64) (.cons (.int .i64) .nil)))) (.cons (.int .i64) (.cons (.own false 5 (.int .u8)) (.cons (.int .i64) .nil))))⟩, ⟨[0, 5], (.cons (.ptr 0 (.cons (.il true (.int .u8)) (.cons (.int .i64) (.cons (.int .i64) .nil)))) (.cons (.own false 5 (.int .u8)) .nil))⟩)]) (by kernel_rfl) (by kernel_rfl) (fun x r h => (t_s_l01Text k x).trans h)
def s_l01New (k : Nat) (x : List (Int) × Unit) : Option ((List (Int) × Int × Int × Unit) × Unit × Unit) :=
(whileK (fun (rec0 : (List (Int) × Int × Int × Unit) → Option _) (y0 : List (Int) × Int × Int × Unit) =>
(if (decide (y0.2.2.1 < (List.length y0.1 : Int))) = true then
(if (decide (y0.2.2.1 < (4000 : Int))) = true then
(if 0 ≤ y0.2.2.1 ∧ y0.2.2.1 < (List.length y0.1 : Int) then
(rec0 (y0.1, ((bitsI .and .i64 (wi64 ((wi64 ((wi64 (y0.2.1 * (131 : Int))) + (wi64 ((Ty.rd (t := (.int .u8)) y0.1 y0.2.2.1))))) + (7 : Int))) (1073741823 : Int)), ((wi64 (y0.2.2.1 + (1 : Int))), ()))))
else none)
else
((fun (z1 : List (Int) × Int × Unit) =>
some ((z1.1, ((0 : Int), (z1.2.1, ()))), ((), ()))) (y0.1, (y0.2.1, ()))))
else
((fun (z1 : List (Int) × Int × Unit) =>
some ((z1.1, ((0 : Int), (z1.2.1, ()))), ((), ()))) (y0.1, (y0.2.1, ()))))) k (x.1, ((wi64 ((36201 : Int) + (List.length x.1 : Int))), ((0 : Int), ()))))
theorem t_s_l01New (k : Nat) (x) : evF TTab k [] [(0, ⟨[0, 3, 4], (.cons (.il true (.int .u8)) (.cons (.int .i64) (.cons (.int .i64) .nil)))⟩, ⟨[0, 3], (.cons (.il true (.int .u8)) (.cons (.int .i64) .nil))⟩)] Try.f54 (.cons (.il true (.int .u8)) .nil) (.ptr 0 (.cons (.il true (.int .u8)) (.cons (.int .i64) (.cons (.int .i64) .nil)))) x = s_l01New k x := by kernel_rfl
theorem e_s_l01New (k : Nat) : EntryOk Try.prog ⟨54, 0, (.cons (.il true (.int .u8)) .nil), (.ptr 0 (.cons (.il true (.int .u8)) (.cons (.int .i64) (.cons (.int .i64) .nil)))), s_l01New k⟩ := entry_ok tok (by simp) (by kernel_rfl) (fn := Try.f54) (k := k) (es := []) (loops := [(0, ⟨[0, 3, 4], (.cons (.il true (.int .u8)) (.cons (.int .i64) (.cons (.int .i64) .nil)))⟩, ⟨[0, 3], (.cons (.il true (.int .u8)) (.cons (.int .i64) .nil))⟩)]) (by kernel_rfl) (by kernel_rfl) (fun x r h => (t_s_l01New k x).trans h)
def s_DrawPlaces (k : Nat) (x : List (Int) × Unit) : Option (List (Int) × Unit × Unit) :=
((s_l01New k (x.1, ())).bind fun p1 =>
((s_l01Byte k ((p1.1.1, (p1.1.2.1, (p1.1.2.2.1, ()))), ())).bind fun p2 =>
(whileK (fun (rec0 : ((List (Int) × Int × Int × Unit) × List (Int) × Int × Unit) → Option _) (y0 : (List (Int) × Int × Int × Unit) × List (Int) × Int × Unit) =>
(if (decide (y0.2.2.1 < (12 : Int))) = true then
((s_l01Below k ((y0.1.1, (y0.1.2.1, (y0.1.2.2.1, ()))), ((10000 : Int), ()))).bind fun p3 =>
(if List.length y0.2.1 + List.length ([p3.1] : List (Int)) ≤ capMax then
(rec0 ((p3.2.1.1, (p3.2.1.2.1, (p3.2.1.2.2.1, ()))), ((y0.2.1 ++ ([p3.1] : List (Int))), ((wi64 (y0.2.2.1 + (1 : Int))), ()))))
else none))
else
((fun (z1 : List (Int) × Unit) =>
some (z1.1, ((), ()))) (y0.2.1, ())))) k ((p2.2.1.1, (p2.2.1.2.1, (p2.2.1.2.2.1, ()))), (([] : List (Int)), ((0 : Int), ()))))))
theorem t_s_DrawPlaces (k : Nat) (x) : evF TTab k [⟨54, 0, (.cons (.il true (.int .u8)) .nil), (.ptr 0 (.cons (.il true (.int .u8)) (.cons (.int .i64) (.cons (.int .i64) .nil)))), s_l01New k⟩, ⟨55, 0, (.cons (.ptr 0 (.cons (.il true (.int .u8)) (.cons (.int .i64) (.cons (.int .i64) .nil)))) .nil), (.int .i64), s_l01Byte k⟩, ⟨56, 0, (.cons (.ptr 0 (.cons (.il true (.int .u8)) (.cons (.int .i64) (.cons (.int .i64) .nil)))) (.cons (.int .i64) .nil)), (.int .i64), s_l01Below k⟩] [(0, ⟨[3, 4, 5], (.cons (.ptr 0 (.cons (.il true (.int .u8)) (.cons (.int .i64) (.cons (.int .i64) .nil)))) (.cons (.own false 3 (.int .i64)) (.cons (.int .i64) .nil)))⟩, ⟨[4], (.cons (.own false 3 (.int .i64)) .nil)⟩)] Try.f24 (.cons (.il true (.int .u8)) .nil) (.own false 3 (.int .i64)) x = s_DrawPlaces k x := by kernel_rfl
theorem e_s_DrawPlaces (k : Nat) : EntryOk Try.prog ⟨24, 0, (.cons (.il true (.int .u8)) .nil), (.own false 3 (.int .i64)), s_DrawPlaces k⟩ := entry_ok tok (by intro e he; simp only [List.mem_cons, List.not_mem_nil, or_false] at he; rcases he with rfl | rfl | rfl <;> first | exact e_s_l01New k | exact e_s_l01Byte k | exact e_s_l01Below k) (by kernel_rfl) (fn := Try.f24) (k := k) (es := [⟨54, 0, (.cons (.il true (.int .u8)) .nil), (.ptr 0 (.cons (.il true (.int .u8)) (.cons (.int .i64) (.cons (.int .i64) .nil)))), s_l01New k⟩, ⟨55, 0, (.cons (.ptr 0 (.cons (.il true (.int .u8)) (.cons (.int .i64) (.cons (.int .i64) .nil)))) .nil), (.int .i64), s_l01Byte k⟩, ⟨56, 0, (.cons (.ptr 0 (.cons (.il true (.int .u8)) (.cons (.int .i64) (.cons (.int .i64) .nil)))) (.cons (.int .i64) .nil)), (.int .i64), s_l01Below k⟩]) (loops := [(0, ⟨[3, 4, 5], (.cons (.ptr 0 (.cons (.il true (.int .u8)) (.cons (.int .i64) (.cons (.int .i64) .nil)))) (.cons (.own false 3 (.int .i64)) (.cons (.int .i64) .nil)))⟩, ⟨[4], (.cons (.own false 3 (.int .i64)) .nil)⟩)]) (by kernel_rfl) (by kernel_rfl) (fun x r h => (t_s_DrawPlaces k x).trans h)
def i_TidySlots (k : Nat) (x : (Int × ByteArray × ByteArray × Int × List (Int) × Int × Int × ByteArray × ByteArray × Int × List (Int) × Int × Unit) × Int × Unit) : Option ((Int × ByteArray × ByteArray × Int × List (Int) × Int × Int × ByteArray × ByteArray × Int × List (Int) × Int × Unit) × Unit × Unit × Unit) :=
((i_copySlots k ((x.1.1, (x.1.2.1, (x.1.2.2.1, (x.1.2.2.2.1, (x.1.2.2.2.2.1, (x.1.2.2.2.2.2.1, (x.1.2.2.2.2.2.2.1, (x.1.2.2.2.2.2.2.2.1, (x.1.2.2.2.2.2.2.2.2.1, (x.1.2.2.2.2.2.2.2.2.2.1, (x.1.2.2.2.2.2.2.2.2.2.2.1, (x.1.2.2.2.2.2.2.2.2.2.2.2.1, ())))))))))))), ())).bind fun p1 =>
(if (decide (x.1.2.2.2.2.2.2.2.2.2.2.2.1 ≤ x.2.1)) = true then
some ((p1.1.1, (p1.1.2.1, (p1.1.2.2.1, (p1.1.2.2.2.1, (p1.1.2.2.2.2.1, (p1.1.2.2.2.2.2.1, ((0 : Int), ((⟨#[]⟩ : ByteArray), ((⟨#[]⟩ : ByteArray), ((0 : Int), ([], ((0 : Int), ())))))))))))), ((), ((), ())))
else
some ((p1.1.1, (p1.1.2.1, (p1.1.2.2.1, (p1.1.2.2.2.1, (p1.1.2.2.2.2.1, (p1.1.2.2.2.2.2.1, (p1.1.2.2.2.2.2.2.1, (p1.1.2.2.2.2.2.2.2.1, (p1.1.2.2.2.2.2.2.2.2.1, (p1.1.2.2.2.2.2.2.2.2.2.1, (p1.1.2.2.2.2.2.2.2.2.2.2.1, (p1.1.2.2.2.2.2.2.2.2.2.2.2.1, ())))))))))))), ((), ((), ())))))
theorem t_i_TidySlots (k : Nat) (x) : evF TTab k [⟨47, 0, (.cons (.agg (.cons (.int .i64) (.cons .str (.cons .str (.cons (.int .i64) (.cons (.il true (.int .i64)) (.cons (.int .i64) (.cons (.int .i64) (.cons .str (.cons .str (.cons (.int .i64) (.cons (.il true (.int .i64)) (.cons (.int .i64) .nil))))))))))))) .nil), (.agg (.cons (.int .i64) (.cons .str (.cons .str (.cons (.int .i64) (.cons (.own false 3 (.int .i64)) (.cons (.int .i64) (.cons (.int .i64) (.cons .str (.cons .str (.cons (.int .i64) (.cons (.own false 3 (.int .i64)) (.cons (.int .i64) .nil))))))))))))), i_copySlots k⟩] [] Try.f27 (.cons (.agg (.cons (.int .i64) (.cons .str (.cons .str (.cons (.int .i64) (.cons (.il true (.int .i64)) (.cons (.int .i64) (.cons (.int .i64) (.cons .str (.cons .str (.cons (.int .i64) (.cons (.il true (.int .i64)) (.cons (.int .i64) .nil))))))))))))) (.cons (.int .i64) .nil)) (.agg (.cons (.int .i64) (.cons .str (.cons .str (.cons (.int .i64) (.cons (.own false 3 (.int .i64)) (.cons (.int .i64) (.cons (.int .i64) (.cons .str (.cons .str (.cons (.int .i64) (.cons (.own false 3 (.int .i64)) (.cons (.int .i64) .nil))))))))))))) x = i_TidySlots k x := by kernel_rfl
theorem e_i_TidySlots (k : Nat) : EntryOk Try.prog ⟨27, 0, (.cons (.agg (.cons (.int .i64) (.cons .str (.cons .str (.cons (.int .i64) (.cons (.il true (.int .i64)) (.cons (.int .i64) (.cons (.int .i64) (.cons .str (.cons .str (.cons (.int .i64) (.cons (.il true (.int .i64)) (.cons (.int .i64) .nil))))))))))))) (.cons (.int .i64) .nil)), (.agg (.cons (.int .i64) (.cons .str (.cons .str (.cons (.int .i64) (.cons (.own false 3 (.int .i64)) (.cons (.int .i64) (.cons (.int .i64) (.cons .str (.cons .str (.cons (.int .i64) (.cons (.own false 3 (.int .i64)) (.cons (.int .i64) .nil))))))))))))), i_TidySlots k⟩ := entry_ok tok (by intro e he; simp only [List.mem_cons, List.not_mem_nil, or_false] at he; rcases he with rfl <;> first | exact e_i_copySlots k) (by kernel_rfl) (fn := Try.f27) (k := k) (es := [⟨47, 0, (.cons (.agg (.cons (.int .i64) (.cons .str (.cons .str (.cons (.int .i64) (.cons (.il true (.int .i64)) (.cons (.int .i64) (.cons (.int .i64) (.cons .str (.cons .str (.cons (.int .i64) (.cons (.il true (.int .i64)) (.cons (.int .i64) .nil))))))))))))) .nil), (.agg (.cons (.int .i64) (.cons .str (.cons .str (.cons (.int .i64) (.cons (.own false 3 (.int .i64)) (.cons (.int .i64) (.cons (.int .i64) (.cons .str (.cons .str (.cons (.int .i64) (.cons (.own false 3 (.int .i64)) (.cons (.int .i64) .nil))))))))))))), i_copySlots k⟩]) (loops := []) (by kernel_rfl) (by kernel_rfl) (fun x r h => (t_i_TidySlots k x).trans h)
def s_l14Texts (k : Nat) (x : (List (Int) × Int × Int × Unit) × Unit) : Option (List (ByteArray) × (List (Int) × Int × Int × Unit) × Unit) :=
(whileK (fun (rec0 : ((List (Int) × Int × Int × Unit) × List (ByteArray) × Int × Unit) → Option _) (y0 : (List (Int) × Int × Int × Unit) × List (ByteArray) × Int × Unit) =>
((s_l01Below k ((y0.1.1, (y0.1.2.1, (y0.1.2.2.1, ()))), ((9 : Int), ()))).bind fun p1 =>
(if (decide (y0.2.2.1 < p1.1)) = true then
((s_l01Below k ((p1.2.1.1, (p1.2.1.2.1, (p1.2.1.2.2.1, ()))), ((3 : Int), ()))).bind fun p2 =>
((s_l01Text k ((p2.2.1.1, (p2.2.1.2.1, (p2.2.1.2.2.1, ()))), (p2.1, ()))).bind fun p3 =>
(if List.length y0.2.1 + List.length ([p3.1] : List (ByteArray)) ≤ capMax then
(rec0 ((p3.2.1.1, (p3.2.1.2.1, (p3.2.1.2.2.1, ()))), ((y0.2.1 ++ ([p3.1] : List (ByteArray))), ((wi64 (y0.2.2.1 + (1 : Int))), ()))))
else none)))
else
((fun (z1 : (List (Int) × Int × Int × Unit) × List (ByteArray) × Unit) =>
some (z1.2.1, ((z1.1.1, (z1.1.2.1, (z1.1.2.2.1, ()))), ()))) ((p1.2.1.1, (p1.2.1.2.1, (p1.2.1.2.2.1, ()))), (y0.2.1, ())))))) k ((x.1.1, (x.1.2.1, (x.1.2.2.1, ()))), (([] : List (ByteArray)), ((0 : Int), ()))))
theorem t_s_l14Texts (k : Nat) (x) : evF TTab k [⟨56, 0, (.cons (.ptr 0 (.cons (.il true (.int .u8)) (.cons (.int .i64) (.cons (.int .i64) .nil)))) (.cons (.int .i64) .nil)), (.int .i64), s_l01Below k⟩, ⟨63, 0, (.cons (.ptr 0 (.cons (.il true (.int .u8)) (.cons (.int .i64) (.cons (.int .i64) .nil)))) (.cons (.int .i64) .nil)), .str, s_l01Text k⟩] [(0, ⟨[0, 3, 4], (.cons (.ptr 0 (.cons (.il true (.int .u8)) (.cons (.int .i64) (.cons (.int .i64) .nil)))) (.cons (.own false 9 .str) (.cons (.int .i64) .nil)))⟩, ⟨[0, 3], (.cons (.ptr 0 (.cons (.il true (.int .u8)) (.cons (.int .i64) (.cons (.int .i64) .nil)))) (.cons (.own false 9 .str) .nil))⟩)] Try.f64 (.cons (.ptr 0 (.cons (.il true (.int .u8)) (.cons (.int .i64) (.cons (.int .i64) .nil)))) .nil) (.own false 9 .str) x = s_l14Texts k x := by kernel_rfl
theorem e_s_l14Texts (k : Nat) : EntryOk Try.prog ⟨64, 0, (.cons (.ptr 0 (.cons (.il true (.int .u8)) (.cons (.int .i64) (.cons (.int .i64) .nil)))) .nil), (.own false 9 .str), s_l14Texts k⟩ := entry_ok tok (by intro e he; simp only [List.mem_cons, List.not_mem_nil, or_false] at he; rcases he with rfl | rfl <;> first | exact e_s_l01Below k | exact e_s_l01Text k) (by kernel_rfl) (fn := Try.f64) (k := k) (es := [⟨56, 0, (.cons (.ptr 0 (.cons (.il true (.int .u8)) (.cons (.int .i64) (.cons (.int .i64) .nil)))) (.cons (.int .i64) .nil)), (.int .i64), s_l01Below k⟩, ⟨63, 0, (.cons (.ptr 0 (.cons (.il true (.int .u8)) (.cons (.int .i64) (.cons (.int .i64) .nil)))) (.cons (.int .i64) .nil)), .str, s_l01Text k⟩]) (loops := [(0, ⟨[0, 3, 4], (.cons (.ptr 0 (.cons (.il true (.int .u8)) (.cons (.int .i64) (.cons (.int .i64) .nil)))) (.cons (.own false 9 .str) (.cons (.int .i64) .nil)))⟩, ⟨[0, 3], (.cons (.ptr 0 (.cons (.il true (.int .u8)) (.cons (.int .i64) (.cons (.int .i64) .nil)))) (.cons (.own false 9 .str) .nil))⟩)]) (by kernel_rfl) (by kernel_rfl) (fun x r h => (t_s_l14Texts k x).trans h)
def s_DrawBodies (k : Nat) (x : List (Int) × Unit) : Option ((ByteArray × List (ByteArray) × Unit) × Unit × Unit) :=
((s_l01New k (x.1, ())).bind fun p1 =>
((s_l01Text k ((p1.1.1, (p1.1.2.1, (p1.1.2.2.1, ()))), ((2 : Int), ()))).bind fun p2 =>
((s_l14Texts k ((p2.2.1.1, (p2.2.1.2.1, (p2.2.1.2.2.1, ()))), ())).bind fun p3 =>
some ((p2.1, (p3.1, ())), ((), ())))))
theorem t_s_DrawBodies (k : Nat) (x) : evF TTab k [⟨54, 0, (.cons (.il true (.int .u8)) .nil), (.ptr 0 (.cons (.il true (.int .u8)) (.cons (.int .i64) (.cons (.int .i64) .nil)))), s_l01New k⟩, ⟨63, 0, (.cons (.ptr 0 (.cons (.il true (.int .u8)) (.cons (.int .i64) (.cons (.int .i64) .nil)))) (.cons (.int .i64) .nil)), .str, s_l01Text k⟩, ⟨64, 0, (.cons (.ptr 0 (.cons (.il true (.int .u8)) (.cons (.int .i64) (.cons (.int .i64) .nil)))) .nil), (.own false 9 .str), s_l14Texts k⟩] [] Try.f33 (.cons (.il true (.int .u8)) .nil) (.tup (.cons .str (.cons (.own false 9 .str) .nil))) x = s_DrawBodies k x := by kernel_rfl
theorem e_s_DrawBodies (k : Nat) : EntryOk Try.prog ⟨33, 0, (.cons (.il true (.int .u8)) .nil), (.tup (.cons .str (.cons (.own false 9 .str) .nil))), s_DrawBodies k⟩ := entry_ok tok (by intro e he; simp only [List.mem_cons, List.not_mem_nil, or_false] at he; rcases he with rfl | rfl | rfl <;> first | exact e_s_l01New k | exact e_s_l01Text k | exact e_s_l14Texts k) (by kernel_rfl) (fn := Try.f33) (k := k) (es := [⟨54, 0, (.cons (.il true (.int .u8)) .nil), (.ptr 0 (.cons (.il true (.int .u8)) (.cons (.int .i64) (.cons (.int .i64) .nil)))), s_l01New k⟩, ⟨63, 0, (.cons (.ptr 0 (.cons (.il true (.int .u8)) (.cons (.int .i64) (.cons (.int .i64) .nil)))) (.cons (.int .i64) .nil)), .str, s_l01Text k⟩, ⟨64, 0, (.cons (.ptr 0 (.cons (.il true (.int .u8)) (.cons (.int .i64) (.cons (.int .i64) .nil)))) .nil), (.own false 9 .str), s_l14Texts k⟩]) (loops := []) (by kernel_rfl) (by kernel_rfl) (fun x r h => (t_s_DrawBodies k x).trans h)
def i_PacketOk (k : Nat) (x : (Int × Int × Int × Int × Int × List (Int) × ByteArray × Unit) × Unit) : Option (Bool × Unit × Unit) :=
(whileK (fun (rec0 : ((Int × Int × Int × Int × Int × List (Int) × ByteArray × Unit) × List (Int) × Int × Int × Unit) → Option _) (y0 : (Int × Int × Int × Int × Int × List (Int) × ByteArray × Unit) × List (Int) × Int × Int × Unit) =>
(if (decide (y0.2.2.2.1 < y0.2.2.1)) = true then
(if 0 ≤ y0.2.2.2.1 ∧ y0.2.2.2.1 < (List.length y0.2.1 : Int) then
((i_within k ((Ty.rd (t := (.int .i64)) y0.2.1 y0.2.2.2.1), ((1 : Int), ((1000000000 : Int), ())))).bind fun p1 =>
(if (!p1.1) = true then
some (false, ((), ()))
else
(rec0 ((y0.1.1, (y0.1.2.1, (y0.1.2.2.1, (y0.1.2.2.2.1, (y0.1.2.2.2.2.1, (y0.1.2.2.2.2.2.1, (y0.1.2.2.2.2.2.2.1, ()))))))), (y0.2.1, (y0.2.2.1, ((wi64 (y0.2.2.2.1 + (1 : Int))), ())))))))
else none)
else
((fun (z1 : (Int × Int × Int × Int × Int × List (Int) × ByteArray × Unit) × Unit) =>
((i_within k (z1.1.1, ((1 : Int), ((3 : Int), ())))).bind fun p2 =>
(if (!p2.1) = false then
((i_within k (z1.1.2.1, ((0 : Int), ((7 : Int), ())))).bind fun p3 =>
(if (!p3.1) = false then
((i_isId k (z1.1.2.2.1, ())).bind fun p4 =>
(if (!p4.1) = false then
((i_isId k (z1.1.2.2.2.1, ())).bind fun p5 =>
(if (!p5.1) = false then
((i_within k (z1.1.2.2.2.2.1, ((0 : Int), ((1000000000 : Int), ())))).bind fun p6 =>
(if (!p6.1) = true then
some (false, ((), ()))
else
(if (decide ((List.length z1.1.2.2.2.2.2.1 : Int) = (0 : Int))) = false then
(if (!decide (z1.1.1 = (3 : Int))) = true then
(if (decide ((List.length z1.1.2.2.2.2.2.1 : Int) ≤ (4 : Int))) = true then
(if (decide ((ByteArray.size z1.1.2.2.2.2.2.2.1 : Int) ≤ (120 : Int))) = true then
(if (!decide (z1.1.1 = (2 : Int))) = false then
(if (decide (z1.1.2.2.2.2.2.2.1 = (⟨#[]⟩ : ByteArray))) = true then
some ((decide (z1.1.2.2.2.2.1 = (0 : Int))), ((), ()))
else
some (false, ((), ())))
else
some (true, ((), ())))
else
some (false, ((), ())))
else
some (false, ((), ())))
else
some (false, ((), ())))
else
(if (decide ((ByteArray.size z1.1.2.2.2.2.2.2.1 : Int) ≤ (120 : Int))) = true then
(if (!decide (z1.1.1 = (2 : Int))) = false then
(if (decide (z1.1.2.2.2.2.2.2.1 = (⟨#[]⟩ : ByteArray))) = true then
some ((decide (z1.1.2.2.2.2.1 = (0 : Int))), ((), ()))
else
some (false, ((), ())))
else
some (true, ((), ())))
else
some (false, ((), ()))))))
else
some (false, ((), ()))))
else
some (false, ((), ()))))
else
some (false, ((), ()))))
else
some (false, ((), ()))))) ((y0.1.1, (y0.1.2.1, (y0.1.2.2.1, (y0.1.2.2.2.1, (y0.1.2.2.2.2.1, (y0.1.2.2.2.2.2.1, (y0.1.2.2.2.2.2.2.1, ()))))))), ())))) k ((x.1.1, (x.1.2.1, (x.1.2.2.1, (x.1.2.2.2.1, (x.1.2.2.2.2.1, (x.1.2.2.2.2.2.1, (x.1.2.2.2.2.2.2.1, ()))))))), (x.1.2.2.2.2.2.1, ((List.length x.1.2.2.2.2.2.1 : Int), ((0 : Int), ())))))
theorem t_i_PacketOk (k : Nat) (x) : evF TTab k [⟨48, 0, (.cons (.int .i64) .nil), .bool, i_isId k⟩, ⟨57, 0, (.cons (.int .i64) (.cons (.int .i64) (.cons (.int .i64) .nil))), .bool, i_within k⟩] [(0, ⟨[1, 7, 8, 9], (.cons (.ptr 0 (.cons (.int .i64) (.cons (.int .i64) (.cons (.int .i64) (.cons (.int .i64) (.cons (.int .i64) (.cons (.il true (.int .i64)) (.cons .str .nil)))))))) (.cons (.il true (.int .i64)) (.cons (.int .i64) (.cons (.int .i64) .nil))))⟩, ⟨[1], (.cons (.ptr 0 (.cons (.int .i64) (.cons (.int .i64) (.cons (.int .i64) (.cons (.int .i64) (.cons (.int .i64) (.cons (.il true (.int .i64)) (.cons .str .nil)))))))) .nil)⟩)] Try.f65 (.cons (.agg (.cons (.int .i64) (.cons (.int .i64) (.cons (.int .i64) (.cons (.int .i64) (.cons (.int .i64) (.cons (.il true (.int .i64)) (.cons .str .nil)))))))) .nil) .bool x = i_PacketOk k x := by kernel_rfl
theorem e_i_PacketOk (k : Nat) : EntryOk Try.prog ⟨65, 0, (.cons (.agg (.cons (.int .i64) (.cons (.int .i64) (.cons (.int .i64) (.cons (.int .i64) (.cons (.int .i64) (.cons (.il true (.int .i64)) (.cons .str .nil)))))))) .nil), .bool, i_PacketOk k⟩ := entry_ok tok (by intro e he; simp only [List.mem_cons, List.not_mem_nil, or_false] at he; rcases he with rfl | rfl <;> first | exact e_i_isId k | exact e_i_within k) (by kernel_rfl) (fn := Try.f65) (k := k) (es := [⟨48, 0, (.cons (.int .i64) .nil), .bool, i_isId k⟩, ⟨57, 0, (.cons (.int .i64) (.cons (.int .i64) (.cons (.int .i64) .nil))), .bool, i_within k⟩]) (loops := [(0, ⟨[1, 7, 8, 9], (.cons (.ptr 0 (.cons (.int .i64) (.cons (.int .i64) (.cons (.int .i64) (.cons (.int .i64) (.cons (.int .i64) (.cons (.il true (.int .i64)) (.cons .str .nil)))))))) (.cons (.il true (.int .i64)) (.cons (.int .i64) (.cons (.int .i64) .nil))))⟩, ⟨[1], (.cons (.ptr 0 (.cons (.int .i64) (.cons (.int .i64) (.cons (.int .i64) (.cons (.int .i64) (.cons (.int .i64) (.cons (.il true (.int .i64)) (.cons .str .nil)))))))) .nil)⟩)]) (by kernel_rfl) (by kernel_rfl) (fun x r h => (t_i_PacketOk k x).trans h)
def i_SameMac (k : Nat) (x : ByteArray × ByteArray × Unit) : Option (Bool × Unit × Unit × Unit) :=
some ((decide (x.1 = x.2.1)), ((), ((), ())))
theorem t_i_SameMac (k : Nat) (x) : evF TTab k [] [] Try.f106 (.cons .str (.cons .str .nil)) .bool x = i_SameMac k x := by kernel_rfl
theorem e_i_SameMac (k : Nat) : EntryOk Try.prog ⟨106, 0, (.cons .str (.cons .str .nil)), .bool, i_SameMac k⟩ := entry_ok tok (by simp) (by kernel_rfl) (fn := Try.f106) (k := k) (es := []) (loops := []) (by kernel_rfl) (by kernel_rfl) (fun x r h => (t_i_SameMac k x).trans h)
def i_OpenText (k : Nat) (x : ByteArray × Int × ByteArray × Unit) : Option ((ByteArray × Bool × Unit) × Unit × Unit × Unit × Unit) :=
(if (decide ((wi64 ((ByteArray.size x.2.2.1 : Int) - (16 : Int))) < (0 : Int))) = true then
some (((⟨#[]⟩ : ByteArray), (false, ())), ((), ((), ((), ()))))
else
(if 0 ≤ (wi64 ((ByteArray.size x.2.2.1 : Int) - (16 : Int))) ∧ (wi64 ((ByteArray.size x.2.2.1 : Int) - (16 : Int))) ≤ (ByteArray.size x.2.2.1 : Int) then
((i_hidden k (x.1, (x.2.1, ((ByteArray.extract x.2.2.1 (Int.toNat (0 : Int)) (Int.toNat (wi64 ((ByteArray.size x.2.2.1 : Int) - (16 : Int))))), ())))).bind fun p1 =>
(if (!p1.1.2.1) = false then
(if 0 ≤ (wi64 ((ByteArray.size x.2.2.1 : Int) - (16 : Int))) ∧ (wi64 ((ByteArray.size x.2.2.1 : Int) - (16 : Int))) ≤ (ByteArray.size x.2.2.1 : Int) then
((i_macText k (x.1, (x.2.1, ((ByteArray.extract x.2.2.1 (Int.toNat (0 : Int)) (Int.toNat (wi64 ((ByteArray.size x.2.2.1 : Int) - (16 : Int))))), ())))).bind fun p2 =>
(if 0 ≤ (wi64 ((ByteArray.size x.2.2.1 : Int) - (16 : Int))) ∧ (wi64 ((ByteArray.size x.2.2.1 : Int) - (16 : Int))) ≤ (ByteArray.size x.2.2.1 : Int) then
((i_SameMac k (p2.1, ((ByteArray.extract x.2.2.1 (Int.toNat (wi64 ((ByteArray.size x.2.2.1 : Int) - (16 : Int)))) (Int.toNat (ByteArray.size x.2.2.1 : Int))), ()))).bind fun p3 =>
(if (!p3.1) = true then
some (((⟨#[]⟩ : ByteArray), (false, ())), ((), ((), ((), ()))))
else
some ((p1.1.1, (true, ())), ((), ((), ((), ()))))))
else none))
else none)
else
some (((⟨#[]⟩ : ByteArray), (false, ())), ((), ((), ((), ()))))))
else none))
theorem t_i_OpenText (k : Nat) (x) : evF TTab k [⟨79, 0, (.cons .str (.cons (.int .i64) (.cons .str .nil))), (.tup (.cons .str (.cons .bool .nil))), i_hidden k⟩, ⟨80, 0, (.cons .str (.cons (.int .i64) (.cons .str .nil))), .str, i_macText k⟩, ⟨106, 0, (.cons .str (.cons .str .nil)), .bool, i_SameMac k⟩] [] Try.f89 (.cons .str (.cons (.int .i64) (.cons .str .nil))) (.tup (.cons .str (.cons .bool .nil))) x = i_OpenText k x := by kernel_rfl
theorem e_i_OpenText (k : Nat) : EntryOk Try.prog ⟨89, 0, (.cons .str (.cons (.int .i64) (.cons .str .nil))), (.tup (.cons .str (.cons .bool .nil))), i_OpenText k⟩ := entry_ok tok (by intro e he; simp only [List.mem_cons, List.not_mem_nil, or_false] at he; rcases he with rfl | rfl | rfl <;> first | exact e_i_hidden k | exact e_i_macText k | exact e_i_SameMac k) (by kernel_rfl) (fn := Try.f89) (k := k) (es := [⟨79, 0, (.cons .str (.cons (.int .i64) (.cons .str .nil))), (.tup (.cons .str (.cons .bool .nil))), i_hidden k⟩, ⟨80, 0, (.cons .str (.cons (.int .i64) (.cons .str .nil))), .str, i_macText k⟩, ⟨106, 0, (.cons .str (.cons .str .nil)), .bool, i_SameMac k⟩]) (loops := []) (by kernel_rfl) (by kernel_rfl) (fun x r h => (t_i_OpenText k x).trans h)
def x_slices_Index_int_int (k : Nat) (x : List (Int) × Int × Unit) : Option (Int × Unit × Unit × Unit) :=
(whileK (fun (rec0 : (List (Int) × Int × Int × Int × Unit) → Option _) (y0 : List (Int) × Int × Int × Int × Unit) =>
(if (decide (y0.2.2.2.1 < y0.2.2.1)) = true then
(if 0 ≤ y0.2.2.2.1 ∧ y0.2.2.2.1 < (List.length y0.1 : Int) then
(if (decide (y0.2.1 = (Ty.rd (t := (.int .i64)) y0.1 y0.2.2.2.1))) = true then
some (y0.2.2.2.1, ((), ((), ())))
else
(rec0 (y0.1, (y0.2.1, (y0.2.2.1, ((wi64 (y0.2.2.2.1 + (1 : Int))), ()))))))
else none)
else
((fun (z1 : Unit) =>
some ((-1 : Int), ((), ((), ())))) ()))) k (x.1, (x.2.1, ((List.length x.1 : Int), ((0 : Int), ())))))
theorem t_x_slices_Index_int_int (k : Nat) (x) : evF TTab k [] [(0, ⟨[0, 1, 7, 8], (.cons (.il true (.int .i64)) (.cons (.int .i64) (.cons (.int .i64) (.cons (.int .i64) .nil))))⟩, ⟨[], .nil⟩)] Try.f127 (.cons (.il true (.int .i64)) (.cons (.int .i64) .nil)) (.int .i64) x = x_slices_Index_int_int k x := by kernel_rfl
theorem e_x_slices_Index_int_int (k : Nat) : EntryOk Try.prog ⟨127, 0, (.cons (.il true (.int .i64)) (.cons (.int .i64) .nil)), (.int .i64), x_slices_Index_int_int k⟩ := entry_ok tok (by simp) (by kernel_rfl) (fn := Try.f127) (k := k) (es := []) (loops := [(0, ⟨[0, 1, 7, 8], (.cons (.il true (.int .i64)) (.cons (.int .i64) (.cons (.int .i64) (.cons (.int .i64) .nil))))⟩, ⟨[], .nil⟩)]) (by kernel_rfl) (by kernel_rfl) (fun x r h => (t_x_slices_Index_int_int k x).trans h)
def x_slices_Contains_int_int (k : Nat) (x : List (Int) × Int × Unit) : Option (Bool × Unit × Unit × Unit) :=
((x_slices_Index_int_int k (x.1, (x.2.1, ()))).bind fun p1 =>
some ((decide ((0 : Int) ≤ p1.1)), ((), ((), ()))))
theorem t_x_slices_Contains_int_int (k : Nat) (x) : evF TTab k [⟨127, 0, (.cons (.il true (.int .i64)) (.cons (.int .i64) .nil)), (.int .i64), x_slices_Index_int_int k⟩] [] Try.f107 (.cons (.il true (.int .i64)) (.cons (.int .i64) .nil)) .bool x = x_slices_Contains_int_int k x := by kernel_rfl
theorem e_x_slices_Contains_int_int (k : Nat) : EntryOk Try.prog ⟨107, 0, (.cons (.il true (.int .i64)) (.cons (.int .i64) .nil)), .bool, x_slices_Contains_int_int k⟩ := entry_ok tok (by intro e he; simp only [List.mem_cons, List.not_mem_nil, or_false] at he; rcases he with rfl <;> first | exact e_x_slices_Index_int_int k) (by kernel_rfl) (fn := Try.f107) (k := k) (es := [⟨127, 0, (.cons (.il true (.int .i64)) (.cons (.int .i64) .nil)), (.int .i64), x_slices_Index_int_int k⟩]) (loops := []) (by kernel_rfl) (by kernel_rfl) (fun x r h => (t_x_slices_Contains_int_int k x).trans h)
def i_IsFresh (k : Nat) (x : List (Int) × Int × Unit) : Option (Bool × Unit × Unit × Unit) :=
((i_SeenOk k (x.1, ())).bind fun p1 =>
(if (!p1.1) = false then
((i_within k (x.2.1, ((1 : Int), ((1000000000 : Int), ())))).bind fun p2 =>
(if (!p2.1) = false then
((x_slices_Contains_int_int k (x.1, (x.2.1, ()))).bind fun p3 =>
(if p3.1 = true then
some (false, ((), ((), ())))
else
(if (decide ((List.length x.1 : Int) = (0 : Int))) = false then
(if 0 ≤ (0 : Int) ∧ (0 : Int) < (List.length x.1 : Int) then
some ((decide ((wi64 ((Ty.rd (t := (.int .i64)) x.1 (0 : Int)) - (6 : Int))) < x.2.1)), ((), ((), ())))
else none)
else
some (true, ((), ((), ()))))))
else
some (false, ((), ((), ())))))
else
some (false, ((), ((), ())))))
theorem t_i_IsFresh (k : Nat) (x) : evF TTab k [⟨57, 0, (.cons (.int .i64) (.cons (.int .i64) (.cons (.int .i64) .nil))), .bool, i_within k⟩, ⟨61, 0, (.cons (.il true (.int .i64)) .nil), .bool, i_SeenOk k⟩, ⟨107, 0, (.cons (.il true (.int .i64)) (.cons (.int .i64) .nil)), .bool, x_slices_Contains_int_int k⟩] [] Try.f90 (.cons (.il true (.int .i64)) (.cons (.int .i64) .nil)) .bool x = i_IsFresh k x := by kernel_rfl
theorem e_i_IsFresh (k : Nat) : EntryOk Try.prog ⟨90, 0, (.cons (.il true (.int .i64)) (.cons (.int .i64) .nil)), .bool, i_IsFresh k⟩ := entry_ok tok (by intro e he; simp only [List.mem_cons, List.not_mem_nil, or_false] at he; rcases he with rfl | rfl | rfl <;> first | exact e_i_within k | exact e_i_SeenOk k | exact e_x_slices_Contains_int_int k) (by kernel_rfl) (fn := Try.f90) (k := k) (es := [⟨57, 0, (.cons (.int .i64) (.cons (.int .i64) (.cons (.int .i64) .nil))), .bool, i_within k⟩, ⟨61, 0, (.cons (.il true (.int .i64)) .nil), .bool, i_SeenOk k⟩, ⟨107, 0, (.cons (.il true (.int .i64)) (.cons (.int .i64) .nil)), .bool, x_slices_Contains_int_int k⟩]) (loops := []) (by kernel_rfl) (by kernel_rfl) (fun x r h => (t_i_IsFresh k x).trans h)
def x_cmp_isNaN_int (k : Nat) (x : Int × Unit) : Option (Bool × Unit × Unit) :=
some ((!decide (x.1 = x.1)), ((), ()))
theorem t_x_cmp_isNaN_int (k : Nat) (x) : evF TTab k [] [] Try.f155 (.cons (.int .i64) .nil) .bool x = x_cmp_isNaN_int k x := by kernel_rfl
theorem e_x_cmp_isNaN_int (k : Nat) : EntryOk Try.prog ⟨155, 0, (.cons (.int .i64) .nil), .bool, x_cmp_isNaN_int k⟩ := entry_ok tok (by simp) (by kernel_rfl) (fn := Try.f155) (k := k) (es := []) (loops := []) (by kernel_rfl) (by kernel_rfl) (fun x r h => (t_x_cmp_isNaN_int k x).trans h)
def x_cmp_Less_int (k : Nat) (x : Int × Int × Unit) : Option (Bool × Unit × Unit × Unit) :=
((x_cmp_isNaN_int k (x.1, ())).bind fun p1 =>
(if p1.1 = true then
((x_cmp_isNaN_int k (x.2.1, ())).bind fun p2 =>
(if (!p2.1) = false then
some ((decide (x.1 < x.2.1)), ((), ((), ())))
else
some (true, ((), ((), ())))))
else
some ((decide (x.1 < x.2.1)), ((), ((), ())))))
theorem t_x_cmp_Less_int (k : Nat) (x) : evF TTab k [⟨155, 0, (.cons (.int .i64) .nil), .bool, x_cmp_isNaN_int k⟩] [] Try.f143 (.cons (.int .i64) (.cons (.int .i64) .nil)) .bool x = x_cmp_Less_int k x := by kernel_rfl
theorem e_x_cmp_Less_int (k : Nat) : EntryOk Try.prog ⟨143, 0, (.cons (.int .i64) (.cons (.int .i64) .nil)), .bool, x_cmp_Less_int k⟩ := entry_ok tok (by intro e he; simp only [List.mem_cons, List.not_mem_nil, or_false] at he; rcases he with rfl <;> first | exact e_x_cmp_isNaN_int k) (by kernel_rfl) (fn := Try.f143) (k := k) (es := [⟨155, 0, (.cons (.int .i64) .nil), .bool, x_cmp_isNaN_int k⟩]) (loops := []) (by kernel_rfl) (by kernel_rfl) (fun x r h => (t_x_cmp_Less_int k x).trans h)
def x_slices_insertionSortOrdered_int (k : Nat) (x : List (Int) × Int × Int × Unit) : Option (Unit × List (Int) × Unit × Unit × Unit) :=
(whileK (fun (rec0 : (List (Int) × Int × Int × Int × Unit) → Option _) (y0 : List (Int) × Int × Int × Int × Unit) =>
(if (decide (y0.2.2.2.1 < y0.2.2.1)) = true then
(whileK (fun (rec2 : (List (Int) × Int × Int × Int × Int × Unit) → Option _) (y2 : List (Int) × Int × Int × Int × Int × Unit) =>
(if (decide (y2.2.1 < y2.2.2.2.2.1)) = true then
(if 0 ≤ y2.2.2.2.2.1 ∧ y2.2.2.2.2.1 < (List.length y2.1 : Int) then
(if 0 ≤ (wi64 (y2.2.2.2.2.1 - (1 : Int))) ∧ (wi64 (y2.2.2.2.2.1 - (1 : Int))) < (List.length y2.1 : Int) then
((x_cmp_Less_int k ((Ty.rd (t := (.int .i64)) y2.1 y2.2.2.2.2.1), ((Ty.rd (t := (.int .i64)) y2.1 (wi64 (y2.2.2.2.2.1 - (1 : Int)))), ()))).bind fun p1 =>
(if p1.1 = true then
(if 0 ≤ (wi64 (y2.2.2.2.2.1 - (1 : Int))) ∧ (wi64 (y2.2.2.2.2.1 - (1 : Int))) < (List.length y2.1 : Int) then
(if 0 ≤ y2.2.2.2.2.1 ∧ y2.2.2.2.2.1 < (List.length y2.1 : Int) then
(if 0 ≤ y2.2.2.2.2.1 ∧ y2.2.2.2.2.1 < (List.length y2.1 : Int) then
(if 0 ≤ (wi64 (y2.2.2.2.2.1 - (1 : Int))) ∧ (wi64 (y2.2.2.2.2.1 - (1 : Int))) < (List.length (List.set y2.1 (Int.toNat y2.2.2.2.2.1) (Ty.rd (t := (.int .i64)) y2.1 (wi64 (y2.2.2.2.2.1 - (1 : Int))))) : Int) then
(rec2 ((List.set (List.set y2.1 (Int.toNat y2.2.2.2.2.1) (Ty.rd (t := (.int .i64)) y2.1 (wi64 (y2.2.2.2.2.1 - (1 : Int))))) (Int.toNat (wi64 (y2.2.2.2.2.1 - (1 : Int)))) (Ty.rd (t := (.int .i64)) y2.1 y2.2.2.2.2.1)), (y2.2.1, (y2.2.2.1, (y2.2.2.2.1, ((wi64 (y2.2.2.2.2.1 - (1 : Int))), ()))))))
else none)
else none)
else none)
else none)
else
((fun (z1 : List (Int) × Int × Int × Int × Unit) =>
(rec0 (z1.1, (z1.2.1, (z1.2.2.1, ((wi64 (z1.2.2.2.1 + (1 : Int))), ())))))) (y2.1, (y2.2.1, (y2.2.2.1, (y2.2.2.2.1, ())))))))
else none)
else none)
else
((fun (z1 : List (Int) × Int × Int × Int × Unit) =>
(rec0 (z1.1, (z1.2.1, (z1.2.2.1, ((wi64 (z1.2.2.2.1 + (1 : Int))), ())))))) (y2.1, (y2.2.1, (y2.2.2.1, (y2.2.2.2.1, ()))))))) k (y0.1, (y0.2.1, (y0.2.2.1, (y0.2.2.2.1, (y0.2.2.2.1, ()))))))
else
((fun (z2 : List (Int) × Unit) =>
some ((), (z2.1, ((), ((), ()))))) (y0.1, ())))) k (x.1, (x.2.1, (x.2.2.1, ((wi64 (x.2.1 + (1 : Int))), ())))))
theorem t_x_slices_insertionSortOrdered_int (k : Nat) (x) : evF TTab k [⟨143, 0, (.cons (.int .i64) (.cons (.int .i64) .nil)), .bool, x_cmp_Less_int k⟩] [(0, ⟨[0, 1, 2, 6], (.cons (.own false 3 (.int .i64)) (.cons (.int .i64) (.cons (.int .i64) (.cons (.int .i64) .nil))))⟩, ⟨[0], (.cons (.own false 3 (.int .i64)) .nil)⟩), (2, ⟨[0, 1, 2, 6, 7], (.cons (.own false 3 (.int .i64)) (.cons (.int .i64) (.cons (.int .i64) (.cons (.int .i64) (.cons (.int .i64) .nil)))))⟩, ⟨[0, 1, 2, 6], (.cons (.own false 3 (.int .i64)) (.cons (.int .i64) (.cons (.int .i64) (.cons (.int .i64) .nil))))⟩)] Try.f137 (.cons (.mut false 3 (.int .i64)) (.cons (.int .i64) (.cons (.int .i64) .nil))) (.tup .nil) x = x_slices_insertionSortOrdered_int k x := by kernel_rfl
theorem e_x_slices_insertionSortOrdered_int (k : Nat) : EntryOk Try.prog ⟨137, 0, (.cons (.mut false 3 (.int .i64)) (.cons (.int .i64) (.cons (.int .i64) .nil))), (.tup .nil), x_slices_insertionSortOrdered_int k⟩ := entry_ok tok (by intro e he; simp only [List.mem_cons, List.not_mem_nil, or_false] at he; rcases he with rfl <;> first | exact e_x_cmp_Less_int k) (by kernel_rfl) (fn := Try.f137) (k := k) (es := [⟨143, 0, (.cons (.int .i64) (.cons (.int .i64) .nil)), .bool, x_cmp_Less_int k⟩]) (loops := [(0, ⟨[0, 1, 2, 6], (.cons (.own false 3 (.int .i64)) (.cons (.int .i64) (.cons (.int .i64) (.cons (.int .i64) .nil))))⟩, ⟨[0], (.cons (.own false 3 (.int .i64)) .nil)⟩), (2, ⟨[0, 1, 2, 6, 7], (.cons (.own false 3 (.int .i64)) (.cons (.int .i64) (.cons (.int .i64) (.cons (.int .i64) (.cons (.int .i64) .nil)))))⟩, ⟨[0, 1, 2, 6], (.cons (.own false 3 (.int .i64)) (.cons (.int .i64) (.cons (.int .i64) (.cons (.int .i64) .nil))))⟩)]) (by kernel_rfl) (by kernel_rfl) (fun x r h => (t_x_slices_insertionSortOrdered_int k x).trans h)
end Go.Proofs.Ytfgdejabocealaa
