import Derived.Test.YtodnoiblplnpcaaFun0
/- What functions of the program compute, as plain functions, and that their calls do so (part 1). Conditions: the plain function answers. -/
set_option linter.unusedVariables false
namespace Go.Proofs.Ytodnoiblplnpcaa
open Go Go.Eng Go.Proofs
def s_l01In (k : Nat) (x : Int × Int × Int × Unit) : Option (Bool × Unit × Unit × Unit × Unit) :=
(if (decide (x.2.1 ≤ x.1)) = true then
some ((decide (x.1 ≤ x.2.2.1)), ((), ((), ((), ()))))
else
some (false, ((), ((), ((), ())))))
theorem t_s_l01In (k : Nat) (x) : evF TTab k [] [] Try.f64 (.cons (.int .i64) (.cons (.int .i64) (.cons (.int .i64) .nil))) .bool x = s_l01In k x := by kernel_rfl
theorem e_s_l01In (k : Nat) : EntryOk Try.prog ⟨64, 0, (.cons (.int .i64) (.cons (.int .i64) (.cons (.int .i64) .nil))), .bool, s_l01In k⟩ := entry_ok tok (by simp) (by kernel_rfl) (fn := Try.f64) (k := k) (es := []) (loops := []) (by kernel_rfl) (by kernel_rfl) (fun x r h => (t_s_l01In k x).trans h)
def s_ReadPart (k : Nat) (x : ByteArray × Unit) : Option ((Int × Int × Int × ByteArray × Bool × Unit) × Unit × Unit) :=
(if (decide ((ByteArray.size x.1 : Int) < (3 : Int))) = false then
(if 0 ≤ (2 : Int) ∧ (2 : Int) < (ByteArray.size x.1 : Int) then
((s_l01In k ((wi64 ((bt x.1 (2 : Int)))), ((1 : Int), ((15 : Int), ())))).bind fun p1 =>
(if (!p1.1) = false then
(if 0 ≤ (1 : Int) ∧ (1 : Int) < (ByteArray.size x.1 : Int) then
(if 0 ≤ (2 : Int) ∧ (2 : Int) < (ByteArray.size x.1 : Int) then
(if (decide ((bt x.1 (2 : Int)) ≤ (bt x.1 (1 : Int)))) = true then
some (((0 : Int), ((0 : Int), ((0 : Int), ((⟨#[]⟩ : ByteArray), (false, ()))))), ((), ()))
else
(if 0 ≤ (0 : Int) ∧ (0 : Int) < (ByteArray.size x.1 : Int) then
(if 0 ≤ (1 : Int) ∧ (1 : Int) < (ByteArray.size x.1 : Int) then
(if 0 ≤ (2 : Int) ∧ (2 : Int) < (ByteArray.size x.1 : Int) then
(if 0 ≤ (3 : Int) ∧ (3 : Int) ≤ (ByteArray.size x.1 : Int) then
some (((wi64 ((bt x.1 (0 : Int)))), ((wi64 ((bt x.1 (1 : Int)))), ((wi64 ((bt x.1 (2 : Int)))), ((ByteArray.extract x.1 (Int.toNat (3 : Int)) (Int.toNat (ByteArray.size x.1 : Int))), (true, ()))))), ((), ()))
else none)
else none)
else none)
else none))
else none)
else none)
else
some (((0 : Int), ((0 : Int), ((0 : Int), ((⟨#[]⟩ : ByteArray), (false, ()))))), ((), ()))))
else none)
else
some (((0 : Int), ((0 : Int), ((0 : Int), ((⟨#[]⟩ : ByteArray), (false, ()))))), ((), ())))
theorem t_s_ReadPart (k : Nat) (x) : evF TTab k [⟨64, 0, (.cons (.int .i64) (.cons (.int .i64) (.cons (.int .i64) .nil))), .bool, s_l01In k⟩] [] Try.f15 (.cons .str .nil) (.tup (.cons (.int .i64) (.cons (.int .i64) (.cons (.int .i64) (.cons .str (.cons .bool .nil)))))) x = s_ReadPart k x := by kernel_rfl
theorem e_s_ReadPart (k : Nat) : EntryOk Try.prog ⟨15, 0, (.cons .str .nil), (.tup (.cons (.int .i64) (.cons (.int .i64) (.cons (.int .i64) (.cons .str (.cons .bool .nil)))))), s_ReadPart k⟩ := entry_ok tok (by intro e he; simp only [List.mem_cons, List.not_mem_nil, or_false] at he; rcases he with rfl <;> first | exact e_s_l01In k) (by kernel_rfl) (fn := Try.f15) (k := k) (es := [⟨64, 0, (.cons (.int .i64) (.cons (.int .i64) (.cons (.int .i64) .nil))), .bool, s_l01In k⟩]) (loops := []) (by kernel_rfl) (by kernel_rfl) (fun x r h => (t_s_ReadPart k x).trans h)
def i_within (k : Nat) (x : Int × Int × Int × Unit) : Option (Bool × Unit × Unit × Unit × Unit) :=
(if (decide (x.2.1 ≤ x.1)) = true then
some ((decide (x.1 ≤ x.2.2.1)), ((), ((), ((), ()))))
else
some (false, ((), ((), ((), ())))))
theorem t_i_within (k : Nat) (x) : evF TTab k [] [] Try.f65 (.cons (.int .i64) (.cons (.int .i64) (.cons (.int .i64) .nil))) .bool x = i_within k x := by kernel_rfl
theorem e_i_within (k : Nat) : EntryOk Try.prog ⟨65, 0, (.cons (.int .i64) (.cons (.int .i64) (.cons (.int .i64) .nil))), .bool, i_within k⟩ := entry_ok tok (by simp) (by kernel_rfl) (fn := Try.f65) (k := k) (es := []) (loops := []) (by kernel_rfl) (by kernel_rfl) (fun x r h => (t_i_within k x).trans h)
def i_ReadPart (k : Nat) (x : ByteArray × Unit) : Option ((Int × Int × Int × ByteArray × Bool × Unit) × Unit × Unit) :=
(if (decide ((ByteArray.size x.1 : Int) < (3 : Int))) = false then
(if 0 ≤ (2 : Int) ∧ (2 : Int) < (ByteArray.size x.1 : Int) then
((i_within k ((wi64 ((bt x.1 (2 : Int)))), ((1 : Int), ((15 : Int), ())))).bind fun p1 =>
(if (!p1.1) = false then
(if 0 ≤ (1 : Int) ∧ (1 : Int) < (ByteArray.size x.1 : Int) then
(if 0 ≤ (2 : Int) ∧ (2 : Int) < (ByteArray.size x.1 : Int) then
(if (decide ((bt x.1 (2 : Int)) ≤ (bt x.1 (1 : Int)))) = true then
some (((0 : Int), ((0 : Int), ((0 : Int), ((⟨#[]⟩ : ByteArray), (false, ()))))), ((), ()))
else
(if 0 ≤ (0 : Int) ∧ (0 : Int) < (ByteArray.size x.1 : Int) then
(if 0 ≤ (1 : Int) ∧ (1 : Int) < (ByteArray.size x.1 : Int) then
(if 0 ≤ (2 : Int) ∧ (2 : Int) < (ByteArray.size x.1 : Int) then
(if 0 ≤ (3 : Int) ∧ (3 : Int) ≤ (ByteArray.size x.1 : Int) then
some (((wi64 ((bt x.1 (0 : Int)))), ((wi64 ((bt x.1 (1 : Int)))), ((wi64 ((bt x.1 (2 : Int)))), ((ByteArray.extract x.1 (Int.toNat (3 : Int)) (Int.toNat (ByteArray.size x.1 : Int))), (true, ()))))), ((), ()))
else none)
else none)
else none)
else none))
else none)
else none)
else
some (((0 : Int), ((0 : Int), ((0 : Int), ((⟨#[]⟩ : ByteArray), (false, ()))))), ((), ()))))
else none)
else
some (((0 : Int), ((0 : Int), ((0 : Int), ((⟨#[]⟩ : ByteArray), (false, ()))))), ((), ())))
theorem t_i_ReadPart (k : Nat) (x) : evF TTab k [⟨65, 0, (.cons (.int .i64) (.cons (.int .i64) (.cons (.int .i64) .nil))), .bool, i_within k⟩] [] Try.f16 (.cons .str .nil) (.tup (.cons (.int .i64) (.cons (.int .i64) (.cons (.int .i64) (.cons .str (.cons .bool .nil)))))) x = i_ReadPart k x := by kernel_rfl
theorem e_i_ReadPart (k : Nat) : EntryOk Try.prog ⟨16, 0, (.cons .str .nil), (.tup (.cons (.int .i64) (.cons (.int .i64) (.cons (.int .i64) (.cons .str (.cons .bool .nil)))))), i_ReadPart k⟩ := entry_ok tok (by intro e he; simp only [List.mem_cons, List.not_mem_nil, or_false] at he; rcases he with rfl <;> first | exact e_i_within k) (by kernel_rfl) (fn := Try.f16) (k := k) (es := [⟨65, 0, (.cons (.int .i64) (.cons (.int .i64) (.cons (.int .i64) .nil))), .bool, i_within k⟩]) (loops := []) (by kernel_rfl) (by kernel_rfl) (fun x r h => (t_i_ReadPart k x).trans h)
def w_FnExactReadPart (k : Nat) (x : ByteArray × Unit) : Option (Bool × Unit × Unit) :=
(if (decide ((1048576 : Int) < (ByteArray.size x.1 : Int))) = true then
some (true, ((), ()))
else
((s_ReadPart k (x.1, ())).bind fun p1 =>
((i_ReadPart k (x.1, ())).bind fun p2 =>
(if (!decide (p2.1.1 = p1.1.1)) = false then
(if (!decide (p2.1.2.1 = p1.1.2.1)) = false then
(if (!decide (p2.1.2.2.1 = p1.1.2.2.1)) = false then
(if (!decide (p2.1.2.2.2.1 = p1.1.2.2.2.1)) = false then
(if (!decide (p2.1.2.2.2.2.1 = p1.1.2.2.2.2.1)) = true then
some (false, ((), ()))
else
some (true, ((), ())))
else
some (false, ((), ())))
else
some (false, ((), ())))
else
some (false, ((), ())))
else
some (false, ((), ()))))))
theorem t_w_FnExactReadPart (k : Nat) (x) : evF TTab k [⟨15, 0, (.cons .str .nil), (.tup (.cons (.int .i64) (.cons (.int .i64) (.cons (.int .i64) (.cons .str (.cons .bool .nil)))))), s_ReadPart k⟩, ⟨16, 0, (.cons .str .nil), (.tup (.cons (.int .i64) (.cons (.int .i64) (.cons (.int .i64) (.cons .str (.cons .bool .nil)))))), i_ReadPart k⟩] [] Try.f3 (.cons .str .nil) .bool x = w_FnExactReadPart k x := by kernel_rfl
theorem e_w_FnExactReadPart (k : Nat) : EntryOk Try.prog ⟨3, 0, (.cons .str .nil), .bool, w_FnExactReadPart k⟩ := entry_ok tok (by intro e he; simp only [List.mem_cons, List.not_mem_nil, or_false] at he; rcases he with rfl | rfl <;> first | exact e_s_ReadPart k | exact e_i_ReadPart k) (by kernel_rfl) (fn := Try.f3) (k := k) (es := [⟨15, 0, (.cons .str .nil), (.tup (.cons (.int .i64) (.cons (.int .i64) (.cons (.int .i64) (.cons .str (.cons .bool .nil)))))), s_ReadPart k⟩, ⟨16, 0, (.cons .str .nil), (.tup (.cons (.int .i64) (.cons (.int .i64) (.cons (.int .i64) (.cons .str (.cons .bool .nil)))))), i_ReadPart k⟩]) (loops := []) (by kernel_rfl) (by kernel_rfl) (fun x r h => (t_w_FnExactReadPart k x).trans h)
def w_szInner (k : Nat) (x : (Int × Int × ByteArray × Unit) × Int × Unit) : Option (Int × Unit × Unit × Unit) :=
(if (decide ((wi64 (x.2.1 - (ByteArray.size x.1.2.2.1 : Int))) < (0 : Int))) = true then
some ((-1 : Int), ((), ((), ())))
else
some ((wi64 (x.2.1 - (ByteArray.size x.1.2.2.1 : Int))), ((), ((), ()))))
theorem t_w_szInner (k : Nat) (x) : evF TTab k [] [] Try.f17 (.cons (.agg (.cons (.int .i64) (.cons (.int .i64) (.cons .str .nil)))) (.cons (.int .i64) .nil)) (.int .i64) x = w_szInner k x := by kernel_rfl
theorem e_w_szInner (k : Nat) : EntryOk Try.prog ⟨17, 0, (.cons (.agg (.cons (.int .i64) (.cons (.int .i64) (.cons .str .nil)))) (.cons (.int .i64) .nil)), (.int .i64), w_szInner k⟩ := entry_ok tok (by simp) (by kernel_rfl) (fn := Try.f17) (k := k) (es := []) (loops := []) (by kernel_rfl) (by kernel_rfl) (fun x r h => (t_w_szInner k x).trans h)
def s_AddrOk (k : Nat) (x : Int × Unit) : Option (Bool × Unit × Unit) :=
((s_l01In k (x.1, ((0 : Int), ((4294967295 : Int), ())))).bind fun p1 =>
some (p1.1, ((), ())))
theorem t_s_AddrOk (k : Nat) (x) : evF TTab k [⟨64, 0, (.cons (.int .i64) (.cons (.int .i64) (.cons (.int .i64) .nil))), .bool, s_l01In k⟩] [] Try.f66 (.cons (.int .i64) .nil) .bool x = s_AddrOk k x := by kernel_rfl
theorem e_s_AddrOk (k : Nat) : EntryOk Try.prog ⟨66, 0, (.cons (.int .i64) .nil), .bool, s_AddrOk k⟩ := entry_ok tok (by intro e he; simp only [List.mem_cons, List.not_mem_nil, or_false] at he; rcases he with rfl <;> first | exact e_s_l01In k) (by kernel_rfl) (fn := Try.f66) (k := k) (es := [⟨64, 0, (.cons (.int .i64) (.cons (.int .i64) (.cons (.int .i64) .nil))), .bool, s_l01In k⟩]) (loops := []) (by kernel_rfl) (by kernel_rfl) (fun x r h => (t_s_AddrOk k x).trans h)
def s_InnerOk (k : Nat) (x : (Int × Int × ByteArray × Unit) × Unit) : Option (Bool × Unit × Unit) :=
((s_AddrOk k (x.1.1, ())).bind fun p1 =>
(if p1.1 = true then
((s_AddrOk k (x.1.2.1, ())).bind fun p2 =>
(if p2.1 = true then
some ((decide ((ByteArray.size x.1.2.2.1 : Int) ≤ (100 : Int))), ((), ()))
else
some (false, ((), ()))))
else
some (false, ((), ()))))
theorem t_s_InnerOk (k : Nat) (x) : evF TTab k [⟨66, 0, (.cons (.int .i64) .nil), .bool, s_AddrOk k⟩] [] Try.f18 (.cons (.agg (.cons (.int .i64) (.cons (.int .i64) (.cons .str .nil)))) .nil) .bool x = s_InnerOk k x := by kernel_rfl
theorem e_s_InnerOk (k : Nat) : EntryOk Try.prog ⟨18, 0, (.cons (.agg (.cons (.int .i64) (.cons (.int .i64) (.cons .str .nil)))) .nil), .bool, s_InnerOk k⟩ := entry_ok tok (by intro e he; simp only [List.mem_cons, List.not_mem_nil, or_false] at he; rcases he with rfl <;> first | exact e_s_AddrOk k) (by kernel_rfl) (fn := Try.f18) (k := k) (es := [⟨66, 0, (.cons (.int .i64) .nil), .bool, s_AddrOk k⟩]) (loops := []) (by kernel_rfl) (by kernel_rfl) (fun x r h => (t_s_InnerOk k x).trans h)
def w_toInner (k : Nat) (x : (Int × Int × ByteArray × Unit) × Unit) : Option ((Int × Int × ByteArray × Unit) × Unit × Unit) :=
some ((x.1.1, (x.1.2.1, (x.1.2.2.1, ()))), ((), ()))
theorem t_w_toInner (k : Nat) (x) : evF TTab k [] [] Try.f19 (.cons (.agg (.cons (.int .i64) (.cons (.int .i64) (.cons .str .nil)))) .nil) (.agg (.cons (.int .i64) (.cons (.int .i64) (.cons .str .nil)))) x = w_toInner k x := by kernel_rfl
theorem e_w_toInner (k : Nat) : EntryOk Try.prog ⟨19, 0, (.cons (.agg (.cons (.int .i64) (.cons (.int .i64) (.cons .str .nil)))) .nil), (.agg (.cons (.int .i64) (.cons (.int .i64) (.cons .str .nil)))), w_toInner k⟩ := entry_ok tok (by simp) (by kernel_rfl) (fn := Try.f19) (k := k) (es := []) (loops := []) (by kernel_rfl) (by kernel_rfl) (fun x r h => (t_w_toInner k x).trans h)
def i_AddrOk (k : Nat) (x : Int × Unit) : Option (Bool × Unit × Unit) :=
((i_within k (x.1, ((0 : Int), ((4294967295 : Int), ())))).bind fun p1 =>
some (p1.1, ((), ())))
theorem t_i_AddrOk (k : Nat) (x) : evF TTab k [⟨65, 0, (.cons (.int .i64) (.cons (.int .i64) (.cons (.int .i64) .nil))), .bool, i_within k⟩] [] Try.f67 (.cons (.int .i64) .nil) .bool x = i_AddrOk k x := by kernel_rfl
theorem e_i_AddrOk (k : Nat) : EntryOk Try.prog ⟨67, 0, (.cons (.int .i64) .nil), .bool, i_AddrOk k⟩ := entry_ok tok (by intro e he; simp only [List.mem_cons, List.not_mem_nil, or_false] at he; rcases he with rfl <;> first | exact e_i_within k) (by kernel_rfl) (fn := Try.f67) (k := k) (es := [⟨65, 0, (.cons (.int .i64) (.cons (.int .i64) (.cons (.int .i64) .nil))), .bool, i_within k⟩]) (loops := []) (by kernel_rfl) (by kernel_rfl) (fun x r h => (t_i_AddrOk k x).trans h)
def i_InnerOk (k : Nat) (x : (Int × Int × ByteArray × Unit) × Unit) : Option (Bool × Unit × Unit) :=
((i_AddrOk k (x.1.1, ())).bind fun p1 =>
(if p1.1 = true then
((i_AddrOk k (x.1.2.1, ())).bind fun p2 =>
(if p2.1 = true then
some ((decide ((ByteArray.size x.1.2.2.1 : Int) ≤ (100 : Int))), ((), ()))
else
some (false, ((), ()))))
else
some (false, ((), ()))))
theorem t_i_InnerOk (k : Nat) (x) : evF TTab k [⟨67, 0, (.cons (.int .i64) .nil), .bool, i_AddrOk k⟩] [] Try.f20 (.cons (.agg (.cons (.int .i64) (.cons (.int .i64) (.cons .str .nil)))) .nil) .bool x = i_InnerOk k x := by kernel_rfl
theorem e_i_InnerOk (k : Nat) : EntryOk Try.prog ⟨20, 0, (.cons (.agg (.cons (.int .i64) (.cons (.int .i64) (.cons .str .nil)))) .nil), .bool, i_InnerOk k⟩ := entry_ok tok (by intro e he; simp only [List.mem_cons, List.not_mem_nil, or_false] at he; rcases he with rfl <;> first | exact e_i_AddrOk k) (by kernel_rfl) (fn := Try.f20) (k := k) (es := [⟨67, 0, (.cons (.int .i64) .nil), .bool, i_AddrOk k⟩]) (loops := []) (by kernel_rfl) (by kernel_rfl) (fun x r h => (t_i_InnerOk k x).trans h)
def w_FnExactInnerOk (k : Nat) (x : (Int × Int × ByteArray × Unit) × Unit) : Option (Bool × Unit × Unit) :=
((w_szInner k ((x.1.1, (x.1.2.1, (x.1.2.2.1, ()))), ((1048576 : Int), ()))).bind fun p1 =>
(if (decide (p1.1 < (0 : Int))) = true then
some (true, ((), ()))
else
((w_toInner k ((x.1.1, (x.1.2.1, (x.1.2.2.1, ()))), ())).bind fun p2 =>
((s_InnerOk k ((p2.1.1, (p2.1.2.1, (p2.1.2.2.1, ()))), ())).bind fun p3 =>
((w_toInner k ((x.1.1, (x.1.2.1, (x.1.2.2.1, ()))), ())).bind fun p4 =>
((i_InnerOk k ((p4.1.1, (p4.1.2.1, (p4.1.2.2.1, ()))), ())).bind fun p5 =>
(if (!decide (p5.1 = p3.1)) = true then
some (false, ((), ()))
else
some (true, ((), ())))))))))
theorem t_w_FnExactInnerOk (k : Nat) (x) : evF TTab k [⟨17, 0, (.cons (.agg (.cons (.int .i64) (.cons (.int .i64) (.cons .str .nil)))) (.cons (.int .i64) .nil)), (.int .i64), w_szInner k⟩, ⟨18, 0, (.cons (.agg (.cons (.int .i64) (.cons (.int .i64) (.cons .str .nil)))) .nil), .bool, s_InnerOk k⟩, ⟨19, 0, (.cons (.agg (.cons (.int .i64) (.cons (.int .i64) (.cons .str .nil)))) .nil), (.agg (.cons (.int .i64) (.cons (.int .i64) (.cons .str .nil)))), w_toInner k⟩, ⟨20, 0, (.cons (.agg (.cons (.int .i64) (.cons (.int .i64) (.cons .str .nil)))) .nil), .bool, i_InnerOk k⟩] [] Try.f4 (.cons (.agg (.cons (.int .i64) (.cons (.int .i64) (.cons .str .nil)))) .nil) .bool x = w_FnExactInnerOk k x := by kernel_rfl
theorem e_w_FnExactInnerOk (k : Nat) : EntryOk Try.prog ⟨4, 0, (.cons (.agg (.cons (.int .i64) (.cons (.int .i64) (.cons .str .nil)))) .nil), .bool, w_FnExactInnerOk k⟩ := entry_ok tok (by intro e he; simp only [List.mem_cons, List.not_mem_nil, or_false] at he; rcases he with rfl | rfl | rfl | rfl <;> first | exact e_w_szInner k | exact e_s_InnerOk k | exact e_w_toInner k | exact e_i_InnerOk k) (by kernel_rfl) (fn := Try.f4) (k := k) (es := [⟨17, 0, (.cons (.agg (.cons (.int .i64) (.cons (.int .i64) (.cons .str .nil)))) (.cons (.int .i64) .nil)), (.int .i64), w_szInner k⟩, ⟨18, 0, (.cons (.agg (.cons (.int .i64) (.cons (.int .i64) (.cons .str .nil)))) .nil), .bool, s_InnerOk k⟩, ⟨19, 0, (.cons (.agg (.cons (.int .i64) (.cons (.int .i64) (.cons .str .nil)))) .nil), (.agg (.cons (.int .i64) (.cons (.int .i64) (.cons .str .nil)))), w_toInner k⟩, ⟨20, 0, (.cons (.agg (.cons (.int .i64) (.cons (.int .i64) (.cons .str .nil)))) .nil), .bool, i_InnerOk k⟩]) (loops := []) (by kernel_rfl) (by kernel_rfl) (fun x r h => (t_w_FnExactInnerOk k x).trans h)
def s_ReadNumber (k : Nat) (x : ByteArray × Unit) : Option ((Int × Bool × Unit) × Unit × Unit) :=
(if (!decide ((ByteArray.size x.1 : Int) = (4 : Int))) = true then
some (((0 : Int), (false, ())), ((), ()))
else
(if 0 ≤ (0 : Int) ∧ (0 : Int) < (ByteArray.size x.1 : Int) then
(if 0 ≤ (1 : Int) ∧ (1 : Int) < (ByteArray.size x.1 : Int) then
(if 0 ≤ (2 : Int) ∧ (2 : Int) < (ByteArray.size x.1 : Int) then
(if 0 ≤ (3 : Int) ∧ (3 : Int) < (ByteArray.size x.1 : Int) then
some (((wi64 ((wi64 ((wi64 ((wi64 ((wi64 ((bt x.1 (0 : Int)))) * (16777216 : Int))) + (wi64 ((wi64 ((bt x.1 (1 : Int)))) * (65536 : Int))))) + (wi64 ((wi64 ((bt x.1 (2 : Int)))) * (256 : Int))))) + (wi64 ((bt x.1 (3 : Int)))))), (true, ())), ((), ()))
else none)
else none)
else none)
else none))
theorem t_s_ReadNumber (k : Nat) (x) : evF TTab k [] [] Try.f68 (.cons .str .nil) (.tup (.cons (.int .i64) (.cons .bool .nil))) x = s_ReadNumber k x := by kernel_rfl
theorem e_s_ReadNumber (k : Nat) : EntryOk Try.prog ⟨68, 0, (.cons .str .nil), (.tup (.cons (.int .i64) (.cons .bool .nil))), s_ReadNumber k⟩ := entry_ok tok (by simp) (by kernel_rfl) (fn := Try.f68) (k := k) (es := []) (loops := []) (by kernel_rfl) (by kernel_rfl) (fun x r h => (t_s_ReadNumber k x).trans h)
def s_ReadInner (k : Nat) (x : ByteArray × Unit) : Option (((Int × Int × ByteArray × Unit) × Bool × Unit) × Unit × Unit) :=
((s_l01In k ((ByteArray.size x.1 : Int), ((8 : Int), ((108 : Int), ())))).bind fun p1 =>
(if (!p1.1) = true then
some ((((0 : Int), ((0 : Int), ((⟨#[]⟩ : ByteArray), ()))), (false, ())), ((), ()))
else
(if 0 ≤ (8 : Int) ∧ (8 : Int) ≤ (ByteArray.size x.1 : Int) then
(if 0 ≤ (4 : Int) ∧ (4 : Int) ≤ (ByteArray.size x.1 : Int) then
((s_ReadNumber k ((ByteArray.extract x.1 (Int.toNat (0 : Int)) (Int.toNat (4 : Int))), ())).bind fun p2 =>
(if 0 ≤ (8 : Int) ∧ (8 : Int) ≤ (ByteArray.size x.1 : Int) then
(if 0 ≤ (4 : Int) ∧ (4 : Int) ≤ (8 : Int) then
((s_ReadNumber k ((ByteArray.extract x.1 (Int.toNat (4 : Int)) (Int.toNat (8 : Int))), ())).bind fun p3 =>
some (((p2.1.1, (p3.1.1, ((ByteArray.extract x.1 (Int.toNat (8 : Int)) (Int.toNat (ByteArray.size x.1 : Int))), ()))), (true, ())), ((), ())))
else none)
else none))
else none)
else none)))
theorem t_s_ReadInner (k : Nat) (x) : evF TTab k [⟨64, 0, (.cons (.int .i64) (.cons (.int .i64) (.cons (.int .i64) .nil))), .bool, s_l01In k⟩, ⟨68, 0, (.cons .str .nil), (.tup (.cons (.int .i64) (.cons .bool .nil))), s_ReadNumber k⟩] [] Try.f21 (.cons .str .nil) (.tup (.cons (.agg (.cons (.int .i64) (.cons (.int .i64) (.cons .str .nil)))) (.cons .bool .nil))) x = s_ReadInner k x := by kernel_rfl
theorem e_s_ReadInner (k : Nat) : EntryOk Try.prog ⟨21, 0, (.cons .str .nil), (.tup (.cons (.agg (.cons (.int .i64) (.cons (.int .i64) (.cons .str .nil)))) (.cons .bool .nil))), s_ReadInner k⟩ := entry_ok tok (by intro e he; simp only [List.mem_cons, List.not_mem_nil, or_false] at he; rcases he with rfl | rfl <;> first | exact e_s_l01In k | exact e_s_ReadNumber k) (by kernel_rfl) (fn := Try.f21) (k := k) (es := [⟨64, 0, (.cons (.int .i64) (.cons (.int .i64) (.cons (.int .i64) .nil))), .bool, s_l01In k⟩, ⟨68, 0, (.cons .str .nil), (.tup (.cons (.int .i64) (.cons .bool .nil))), s_ReadNumber k⟩]) (loops := []) (by kernel_rfl) (by kernel_rfl) (fun x r h => (t_s_ReadInner k x).trans h)
def i_ReadNumber (k : Nat) (x : ByteArray × Unit) : Option ((Int × Bool × Unit) × Unit × Unit) :=
(if (!decide ((ByteArray.size x.1 : Int) = (4 : Int))) = true then
some (((0 : Int), (false, ())), ((), ()))
else
(if 0 ≤ (0 : Int) ∧ (0 : Int) < (ByteArray.size x.1 : Int) then
(if 0 ≤ (1 : Int) ∧ (1 : Int) < (ByteArray.size x.1 : Int) then
(if 0 ≤ (2 : Int) ∧ (2 : Int) < (ByteArray.size x.1 : Int) then
(if 0 ≤ (3 : Int) ∧ (3 : Int) < (ByteArray.size x.1 : Int) then
some (((bitsI .or .i64 (bitsI .or .i64 (bitsI .or .i64 (wi64 ((wi64 ((bt x.1 (0 : Int)))) * 2 ^ (min (Int.toNat (24 : Int)) (IntKind.bits .i64)))) (wi64 ((wi64 ((bt x.1 (1 : Int)))) * 2 ^ (min (Int.toNat (16 : Int)) (IntKind.bits .i64))))) (wi64 ((wi64 ((bt x.1 (2 : Int)))) * 2 ^ (min (Int.toNat (8 : Int)) (IntKind.bits .i64))))) (wi64 ((bt x.1 (3 : Int))))), (true, ())), ((), ()))
else none)
else none)
else none)
else none))
theorem t_i_ReadNumber (k : Nat) (x) : evF TTab k [] [] Try.f69 (.cons .str .nil) (.tup (.cons (.int .i64) (.cons .bool .nil))) x = i_ReadNumber k x := by kernel_rfl
theorem e_i_ReadNumber (k : Nat) : EntryOk Try.prog ⟨69, 0, (.cons .str .nil), (.tup (.cons (.int .i64) (.cons .bool .nil))), i_ReadNumber k⟩ := entry_ok tok (by simp) (by kernel_rfl) (fn := Try.f69) (k := k) (es := []) (loops := []) (by kernel_rfl) (by kernel_rfl) (fun x r h => (t_i_ReadNumber k x).trans h)
def i_ReadInner (k : Nat) (x : ByteArray × Unit) : Option (((Int × Int × ByteArray × Unit) × Bool × Unit) × Unit × Unit) :=
((i_within k ((ByteArray.size x.1 : Int), ((8 : Int), ((108 : Int), ())))).bind fun p1 =>
(if (!p1.1) = true then
some ((((0 : Int), ((0 : Int), ((⟨#[]⟩ : ByteArray), ()))), (false, ())), ((), ()))
else
(if 0 ≤ (8 : Int) ∧ (8 : Int) ≤ (ByteArray.size x.1 : Int) then
(if 0 ≤ (4 : Int) ∧ (4 : Int) ≤ (ByteArray.size x.1 : Int) then
((i_ReadNumber k ((ByteArray.extract x.1 (Int.toNat (0 : Int)) (Int.toNat (4 : Int))), ())).bind fun p2 =>
(if 0 ≤ (8 : Int) ∧ (8 : Int) ≤ (ByteArray.size x.1 : Int) then
(if 0 ≤ (4 : Int) ∧ (4 : Int) ≤ (8 : Int) then
((i_ReadNumber k ((ByteArray.extract x.1 (Int.toNat (4 : Int)) (Int.toNat (8 : Int))), ())).bind fun p3 =>
some (((p2.1.1, (p3.1.1, ((ByteArray.extract x.1 (Int.toNat (8 : Int)) (Int.toNat (ByteArray.size x.1 : Int))), ()))), (true, ())), ((), ())))
else none)
else none))
else none)
else none)))
theorem t_i_ReadInner (k : Nat) (x) : evF TTab k [⟨65, 0, (.cons (.int .i64) (.cons (.int .i64) (.cons (.int .i64) .nil))), .bool, i_within k⟩, ⟨69, 0, (.cons .str .nil), (.tup (.cons (.int .i64) (.cons .bool .nil))), i_ReadNumber k⟩] [] Try.f22 (.cons .str .nil) (.tup (.cons (.agg (.cons (.int .i64) (.cons (.int .i64) (.cons .str .nil)))) (.cons .bool .nil))) x = i_ReadInner k x := by kernel_rfl
theorem e_i_ReadInner (k : Nat) : EntryOk Try.prog ⟨22, 0, (.cons .str .nil), (.tup (.cons (.agg (.cons (.int .i64) (.cons (.int .i64) (.cons .str .nil)))) (.cons .bool .nil))), i_ReadInner k⟩ := entry_ok tok (by intro e he; simp only [List.mem_cons, List.not_mem_nil, or_false] at he; rcases he with rfl | rfl <;> first | exact e_i_within k | exact e_i_ReadNumber k) (by kernel_rfl) (fn := Try.f22) (k := k) (es := [⟨65, 0, (.cons (.int .i64) (.cons (.int .i64) (.cons (.int .i64) .nil))), .bool, i_within k⟩, ⟨69, 0, (.cons .str .nil), (.tup (.cons (.int .i64) (.cons .bool .nil))), i_ReadNumber k⟩]) (loops := []) (by kernel_rfl) (by kernel_rfl) (fun x r h => (t_i_ReadInner k x).trans h)
def w_eqInner (k : Nat) (x : (Int × Int × ByteArray × Unit) × (Int × Int × ByteArray × Unit) × Unit) : Option (Bool × Unit × Unit × Unit) :=
(if (!decide (x.1.1 = x.2.1.1)) = true then
some (false, ((), ((), ())))
else
(if (!decide (x.1.2.1 = x.2.1.2.1)) = true then
some (false, ((), ((), ())))
else
(if (!decide (x.1.2.2.1 = x.2.1.2.2.1)) = true then
some (false, ((), ((), ())))
else
some (true, ((), ((), ()))))))
theorem t_w_eqInner (k : Nat) (x) : evF TTab k [] [] Try.f23 (.cons (.agg (.cons (.int .i64) (.cons (.int .i64) (.cons .str .nil)))) (.cons (.agg (.cons (.int .i64) (.cons (.int .i64) (.cons .str .nil)))) .nil)) .bool x = w_eqInner k x := by kernel_rfl
theorem e_w_eqInner (k : Nat) : EntryOk Try.prog ⟨23, 0, (.cons (.agg (.cons (.int .i64) (.cons (.int .i64) (.cons .str .nil)))) (.cons (.agg (.cons (.int .i64) (.cons (.int .i64) (.cons .str .nil)))) .nil)), .bool, w_eqInner k⟩ := entry_ok tok (by simp) (by kernel_rfl) (fn := Try.f23) (k := k) (es := []) (loops := []) (by kernel_rfl) (by kernel_rfl) (fun x r h => (t_w_eqInner k x).trans h)
def w_FnExactReadInner (k : Nat) (x : ByteArray × Unit) : Option (Bool × Unit × Unit) :=
(if (decide ((1048576 : Int) < (ByteArray.size x.1 : Int))) = true then
some (true, ((), ()))
else
((s_ReadInner k (x.1, ())).bind fun p1 =>
((i_ReadInner k (x.1, ())).bind fun p2 =>
((w_eqInner k ((p2.1.1.1, (p2.1.1.2.1, (p2.1.1.2.2.1, ()))), ((p1.1.1.1, (p1.1.1.2.1, (p1.1.1.2.2.1, ()))), ()))).bind fun p3 =>
(if (!p3.1) = false then
(if (!decide (p2.1.2.1 = p1.1.2.1)) = true then
some (false, ((), ()))
else
some (true, ((), ())))
else
some (false, ((), ())))))))
theorem t_w_FnExactReadInner (k : Nat) (x) : evF TTab k [⟨21, 0, (.cons .str .nil), (.tup (.cons (.agg (.cons (.int .i64) (.cons (.int .i64) (.cons .str .nil)))) (.cons .bool .nil))), s_ReadInner k⟩, ⟨22, 0, (.cons .str .nil), (.tup (.cons (.agg (.cons (.int .i64) (.cons (.int .i64) (.cons .str .nil)))) (.cons .bool .nil))), i_ReadInner k⟩, ⟨23, 0, (.cons (.agg (.cons (.int .i64) (.cons (.int .i64) (.cons .str .nil)))) (.cons (.agg (.cons (.int .i64) (.cons (.int .i64) (.cons .str .nil)))) .nil)), .bool, w_eqInner k⟩] [] Try.f5 (.cons .str .nil) .bool x = w_FnExactReadInner k x := by kernel_rfl
theorem e_w_FnExactReadInner (k : Nat) : EntryOk Try.prog ⟨5, 0, (.cons .str .nil), .bool, w_FnExactReadInner k⟩ := entry_ok tok (by intro e he; simp only [List.mem_cons, List.not_mem_nil, or_false] at he; rcases he with rfl | rfl | rfl <;> first | exact e_s_ReadInner k | exact e_i_ReadInner k | exact e_w_eqInner k) (by kernel_rfl) (fn := Try.f5) (k := k) (es := [⟨21, 0, (.cons .str .nil), (.tup (.cons (.agg (.cons (.int .i64) (.cons (.int .i64) (.cons .str .nil)))) (.cons .bool .nil))), s_ReadInner k⟩, ⟨22, 0, (.cons .str .nil), (.tup (.cons (.agg (.cons (.int .i64) (.cons (.int .i64) (.cons .str .nil)))) (.cons .bool .nil))), i_ReadInner k⟩, ⟨23, 0, (.cons (.agg (.cons (.int .i64) (.cons (.int .i64) (.cons .str .nil)))) (.cons (.agg (.cons (.int .i64) (.cons (.int .i64) (.cons .str .nil)))) .nil)), .bool, w_eqInner k⟩]) (loops := []) (by kernel_rfl) (by kernel_rfl) (fun x r h => (t_w_FnExactReadInner k x).trans h)
def s_NumberText (k : Nat) (x : Int × Unit) : Option (ByteArray × Unit × Unit) :=
((s_l01In k (x.1, ((0 : Int), ((4294967295 : Int), ())))).bind fun p1 =>
(if (!p1.1) = true then
some ((⟨#[]⟩ : ByteArray), ((), ()))
else
some ((strOf ([(wu8 ((wi64 (Int.tdiv x.1 (16777216 : Int))))), (wu8 ((Int.tmod (wi64 (Int.tdiv x.1 (65536 : Int))) (256 : Int)))), (wu8 ((Int.tmod (wi64 (Int.tdiv x.1 (256 : Int))) (256 : Int)))), (wu8 ((Int.tmod x.1 (256 : Int))))] : List (Int))), ((), ()))))
theorem t_s_NumberText (k : Nat) (x) : evF TTab k [⟨64, 0, (.cons (.int .i64) (.cons (.int .i64) (.cons (.int .i64) .nil))), .bool, s_l01In k⟩] [] Try.f70 (.cons (.int .i64) .nil) .str x = s_NumberText k x := by kernel_rfl
theorem e_s_NumberText (k : Nat) : EntryOk Try.prog ⟨70, 0, (.cons (.int .i64) .nil), .str, s_NumberText k⟩ := entry_ok tok (by intro e he; simp only [List.mem_cons, List.not_mem_nil, or_false] at he; rcases he with rfl <;> first | exact e_s_l01In k) (by kernel_rfl) (fn := Try.f70) (k := k) (es := [⟨64, 0, (.cons (.int .i64) (.cons (.int .i64) (.cons (.int .i64) .nil))), .bool, s_l01In k⟩]) (loops := []) (by kernel_rfl) (by kernel_rfl) (fun x r h => (t_s_NumberText k x).trans h)
def s_InnerText (k : Nat) (x : (Int × Int × ByteArray × Unit) × Unit) : Option ((ByteArray × Bool × Unit) × Unit × Unit) :=
((s_InnerOk k ((x.1.1, (x.1.2.1, (x.1.2.2.1, ()))), ())).bind fun p1 =>
(if (!p1.1) = true then
some (((⟨#[]⟩ : ByteArray), (false, ())), ((), ()))
else
((s_NumberText k (x.1.1, ())).bind fun p2 =>
((s_NumberText k (x.1.2.1, ())).bind fun p3 =>
(if ByteArray.size p2.1 + ByteArray.size p3.1 ≤ maxStr then
(if ByteArray.size (p2.1 ++ p3.1) + ByteArray.size x.1.2.2.1 ≤ maxStr then
some ((((p2.1 ++ p3.1) ++ x.1.2.2.1), (true, ())), ((), ()))
else none)
else none)))))
theorem t_s_InnerText (k : Nat) (x) : evF TTab k [⟨18, 0, (.cons (.agg (.cons (.int .i64) (.cons (.int .i64) (.cons .str .nil)))) .nil), .bool, s_InnerOk k⟩, ⟨70, 0, (.cons (.int .i64) .nil), .str, s_NumberText k⟩] [] Try.f24 (.cons (.agg (.cons (.int .i64) (.cons (.int .i64) (.cons .str .nil)))) .nil) (.tup (.cons .str (.cons .bool .nil))) x = s_InnerText k x := by kernel_rfl
theorem e_s_InnerText (k : Nat) : EntryOk Try.prog ⟨24, 0, (.cons (.agg (.cons (.int .i64) (.cons (.int .i64) (.cons .str .nil)))) .nil), (.tup (.cons .str (.cons .bool .nil))), s_InnerText k⟩ := entry_ok tok (by intro e he; simp only [List.mem_cons, List.not_mem_nil, or_false] at he; rcases he with rfl | rfl <;> first | exact e_s_InnerOk k | exact e_s_NumberText k) (by kernel_rfl) (fn := Try.f24) (k := k) (es := [⟨18, 0, (.cons (.agg (.cons (.int .i64) (.cons (.int .i64) (.cons .str .nil)))) .nil), .bool, s_InnerOk k⟩, ⟨70, 0, (.cons (.int .i64) .nil), .str, s_NumberText k⟩]) (loops := []) (by kernel_rfl) (by kernel_rfl) (fun x r h => (t_s_InnerText k x).trans h)
def i_NumberText (k : Nat) (x : Int × Unit) : Option (ByteArray × Unit × Unit) :=
((i_within k (x.1, ((0 : Int), ((4294967295 : Int), ())))).bind fun p1 =>
(if (!p1.1) = true then
some ((⟨#[]⟩ : ByteArray), ((), ()))
else
some ((strOf ([(wu8 ((bitsI .and .i64 (Int.fdiv x.1 (2 ^ (min (Int.toNat (24 : Int)) (IntKind.bits .i64)))) (255 : Int)))), (wu8 ((bitsI .and .i64 (Int.fdiv x.1 (2 ^ (min (Int.toNat (16 : Int)) (IntKind.bits .i64)))) (255 : Int)))), (wu8 ((bitsI .and .i64 (Int.fdiv x.1 (2 ^ (min (Int.toNat (8 : Int)) (IntKind.bits .i64)))) (255 : Int)))), (wu8 ((bitsI .and .i64 x.1 (255 : Int))))] : List (Int))), ((), ()))))
theorem t_i_NumberText (k : Nat) (x) : evF TTab k [⟨65, 0, (.cons (.int .i64) (.cons (.int .i64) (.cons (.int .i64) .nil))), .bool, i_within k⟩] [] Try.f71 (.cons (.int .i64) .nil) .str x = i_NumberText k x := by kernel_rfl
theorem e_i_NumberText (k : Nat) : EntryOk Try.prog ⟨71, 0, (.cons (.int .i64) .nil), .str, i_NumberText k⟩ := entry_ok tok (by intro e he; simp only [List.mem_cons, List.not_mem_nil, or_false] at he; rcases he with rfl <;> first | exact e_i_within k) (by kernel_rfl) (fn := Try.f71) (k := k) (es := [⟨65, 0, (.cons (.int .i64) (.cons (.int .i64) (.cons (.int .i64) .nil))), .bool, i_within k⟩]) (loops := []) (by kernel_rfl) (by kernel_rfl) (fun x r h => (t_i_NumberText k x).trans h)
def i_InnerText (k : Nat) (x : (Int × Int × ByteArray × Unit) × Unit) : Option ((ByteArray × Bool × Unit) × Unit × Unit) :=
((i_InnerOk k ((x.1.1, (x.1.2.1, (x.1.2.2.1, ()))), ())).bind fun p1 =>
(if (!p1.1) = true then
some (((⟨#[]⟩ : ByteArray), (false, ())), ((), ()))
else
((i_NumberText k (x.1.1, ())).bind fun p2 =>
((i_NumberText k (x.1.2.1, ())).bind fun p3 =>
(if ByteArray.size p2.1 + ByteArray.size p3.1 ≤ maxStr then
(if ByteArray.size (p2.1 ++ p3.1) + ByteArray.size x.1.2.2.1 ≤ maxStr then
some ((((p2.1 ++ p3.1) ++ x.1.2.2.1), (true, ())), ((), ()))
else none)
else none)))))
theorem t_i_InnerText (k : Nat) (x) : evF TTab k [⟨20, 0, (.cons (.agg (.cons (.int .i64) (.cons (.int .i64) (.cons .str .nil)))) .nil), .bool, i_InnerOk k⟩, ⟨71, 0, (.cons (.int .i64) .nil), .str, i_NumberText k⟩] [] Try.f25 (.cons (.agg (.cons (.int .i64) (.cons (.int .i64) (.cons .str .nil)))) .nil) (.tup (.cons .str (.cons .bool .nil))) x = i_InnerText k x := by kernel_rfl
theorem e_i_InnerText (k : Nat) : EntryOk Try.prog ⟨25, 0, (.cons (.agg (.cons (.int .i64) (.cons (.int .i64) (.cons .str .nil)))) .nil), (.tup (.cons .str (.cons .bool .nil))), i_InnerText k⟩ := entry_ok tok (by intro e he; simp only [List.mem_cons, List.not_mem_nil, or_false] at he; rcases he with rfl | rfl <;> first | exact e_i_InnerOk k | exact e_i_NumberText k) (by kernel_rfl) (fn := Try.f25) (k := k) (es := [⟨20, 0, (.cons (.agg (.cons (.int .i64) (.cons (.int .i64) (.cons .str .nil)))) .nil), .bool, i_InnerOk k⟩, ⟨71, 0, (.cons (.int .i64) .nil), .str, i_NumberText k⟩]) (loops := []) (by kernel_rfl) (by kernel_rfl) (fun x r h => (t_i_InnerText k x).trans h)
def w_FnExactInnerText (k : Nat) (x : (Int × Int × ByteArray × Unit) × Unit) : Option (Bool × Unit × Unit) :=
((w_szInner k ((x.1.1, (x.1.2.1, (x.1.2.2.1, ()))), ((1048576 : Int), ()))).bind fun p1 =>
(if (decide (p1.1 < (0 : Int))) = true then
some (true, ((), ()))
else
((w_toInner k ((x.1.1, (x.1.2.1, (x.1.2.2.1, ()))), ())).bind fun p2 =>
((s_InnerText k ((p2.1.1, (p2.1.2.1, (p2.1.2.2.1, ()))), ())).bind fun p3 =>
((w_toInner k ((x.1.1, (x.1.2.1, (x.1.2.2.1, ()))), ())).bind fun p4 =>
((i_InnerText k ((p4.1.1, (p4.1.2.1, (p4.1.2.2.1, ()))), ())).bind fun p5 =>
(if (!decide (p5.1.1 = p3.1.1)) = false then
(if (!decide (p5.1.2.1 = p3.1.2.1)) = true then
some (false, ((), ()))
else
some (true, ((), ())))
else
some (false, ((), ())))))))))
theorem t_w_FnExactInnerText (k : Nat) (x) : evF TTab k [⟨17, 0, (.cons (.agg (.cons (.int .i64) (.cons (.int .i64) (.cons .str .nil)))) (.cons (.int .i64) .nil)), (.int .i64), w_szInner k⟩, ⟨19, 0, (.cons (.agg (.cons (.int .i64) (.cons (.int .i64) (.cons .str .nil)))) .nil), (.agg (.cons (.int .i64) (.cons (.int .i64) (.cons .str .nil)))), w_toInner k⟩, ⟨24, 0, (.cons (.agg (.cons (.int .i64) (.cons (.int .i64) (.cons .str .nil)))) .nil), (.tup (.cons .str (.cons .bool .nil))), s_InnerText k⟩, ⟨25, 0, (.cons (.agg (.cons (.int .i64) (.cons (.int .i64) (.cons .str .nil)))) .nil), (.tup (.cons .str (.cons .bool .nil))), i_InnerText k⟩] [] Try.f6 (.cons (.agg (.cons (.int .i64) (.cons (.int .i64) (.cons .str .nil)))) .nil) .bool x = w_FnExactInnerText k x := by kernel_rfl
theorem e_w_FnExactInnerText (k : Nat) : EntryOk Try.prog ⟨6, 0, (.cons (.agg (.cons (.int .i64) (.cons (.int .i64) (.cons .str .nil)))) .nil), .bool, w_FnExactInnerText k⟩ := entry_ok tok (by intro e he; simp only [List.mem_cons, List.not_mem_nil, or_false] at he; rcases he with rfl | rfl | rfl | rfl <;> first | exact e_w_szInner k | exact e_w_toInner k | exact e_s_InnerText k | exact e_i_InnerText k) (by kernel_rfl) (fn := Try.f6) (k := k) (es := [⟨17, 0, (.cons (.agg (.cons (.int .i64) (.cons (.int .i64) (.cons .str .nil)))) (.cons (.int .i64) .nil)), (.int .i64), w_szInner k⟩, ⟨19, 0, (.cons (.agg (.cons (.int .i64) (.cons (.int .i64) (.cons .str .nil)))) .nil), (.agg (.cons (.int .i64) (.cons (.int .i64) (.cons .str .nil)))), w_toInner k⟩, ⟨24, 0, (.cons (.agg (.cons (.int .i64) (.cons (.int .i64) (.cons .str .nil)))) .nil), (.tup (.cons .str (.cons .bool .nil))), s_InnerText k⟩, ⟨25, 0, (.cons (.agg (.cons (.int .i64) (.cons (.int .i64) (.cons .str .nil)))) .nil), (.tup (.cons .str (.cons .bool .nil))), i_InnerText k⟩]) (loops := []) (by kernel_rfl) (by kernel_rfl) (fun x r h => (t_w_FnExactInnerText k x).trans h)
def w_szHappen (k : Nat) (x : (Int × Int × Int × Int × ByteArray × Int × Int × Unit) × Int × Unit) : Option (Int × Unit × Unit × Unit) :=
(if (decide ((wi64 (x.2.1 - (ByteArray.size x.1.2.2.2.2.1 : Int))) < (0 : Int))) = true then
some ((-1 : Int), ((), ((), ())))
else
some ((wi64 (x.2.1 - (ByteArray.size x.1.2.2.2.2.1 : Int))), ((), ((), ()))))
theorem t_w_szHappen (k : Nat) (x) : evF TTab k [] [] Try.f26 (.cons (.agg (.cons (.int .i64) (.cons (.int .i64) (.cons (.int .i64) (.cons (.int .i64) (.cons .str (.cons (.int .i64) (.cons (.int .i64) .nil)))))))) (.cons (.int .i64) .nil)) (.int .i64) x = w_szHappen k x := by kernel_rfl
theorem e_w_szHappen (k : Nat) : EntryOk Try.prog ⟨26, 0, (.cons (.agg (.cons (.int .i64) (.cons (.int .i64) (.cons (.int .i64) (.cons (.int .i64) (.cons .str (.cons (.int .i64) (.cons (.int .i64) .nil)))))))) (.cons (.int .i64) .nil)), (.int .i64), w_szHappen k⟩ := entry_ok tok (by simp) (by kernel_rfl) (fn := Try.f26) (k := k) (es := []) (loops := []) (by kernel_rfl) (by kernel_rfl) (fun x r h => (t_w_szHappen k x).trans h)
def s_l08Size (k : Nat) (x : Int × Unit) : Option (Int × Unit × Unit) :=
(whileK (fun (rec0 : (Int × Int × Unit) → Option _) (y0 : Int × Int × Unit) =>
(if (decide (y0.2.1 < (32 : Int))) = true then
(rec0 ((wi64 ((2 : Int) * y0.1)), ((wi64 (y0.2.1 + (1 : Int))), ())))
else
((fun (z1 : Int × Unit) =>
some (z1.1, ((), ()))) (y0.1, ())))) k ((1 : Int), (x.1, ())))
theorem t_s_l08Size (k : Nat) (x) : evF TTab k [] [(0, ⟨[3, 4], (.cons (.int .i64) (.cons (.int .i64) .nil))⟩, ⟨[3], (.cons (.int .i64) .nil)⟩)] Try.f120 (.cons (.int .i64) .nil) (.int .i64) x = s_l08Size k x := by kernel_rfl
theorem e_s_l08Size (k : Nat) : EntryOk Try.prog ⟨120, 0, (.cons (.int .i64) .nil), (.int .i64), s_l08Size k⟩ := entry_ok tok (by simp) (by kernel_rfl) (fn := Try.f120) (k := k) (es := []) (loops := [(0, ⟨[3, 4], (.cons (.int .i64) (.cons (.int .i64) .nil))⟩, ⟨[3], (.cons (.int .i64) .nil)⟩)]) (by kernel_rfl) (by kernel_rfl) (fun x r h => (t_s_l08Size k x).trans h)
def s_PrefixOk (k : Nat) (x : (Int × Int × Unit) × Unit) : Option (Bool × Unit × Unit) :=
((s_AddrOk k (x.1.1, ())).bind fun p1 =>
(if p1.1 = true then
((s_l01In k (x.1.2.1, ((0 : Int), ((32 : Int), ())))).bind fun p2 =>
(if p2.1 = true then
((s_l08Size k (x.1.2.1, ())).bind fun p3 =>
(if p3.1 = 0 then
none
else
some ((decide ((Int.tmod x.1.1 p3.1) = (0 : Int))), ((), ()))))
else
some (false, ((), ()))))
else
some (false, ((), ()))))
theorem t_s_PrefixOk (k : Nat) (x) : evF TTab k [⟨64, 0, (.cons (.int .i64) (.cons (.int .i64) (.cons (.int .i64) .nil))), .bool, s_l01In k⟩, ⟨66, 0, (.cons (.int .i64) .nil), .bool, s_AddrOk k⟩, ⟨120, 0, (.cons (.int .i64) .nil), (.int .i64), s_l08Size k⟩] [] Try.f72 (.cons (.agg (.cons (.int .i64) (.cons (.int .i64) .nil))) .nil) .bool x = s_PrefixOk k x := by kernel_rfl
theorem e_s_PrefixOk (k : Nat) : EntryOk Try.prog ⟨72, 0, (.cons (.agg (.cons (.int .i64) (.cons (.int .i64) .nil))) .nil), .bool, s_PrefixOk k⟩ := entry_ok tok (by intro e he; simp only [List.mem_cons, List.not_mem_nil, or_false] at he; rcases he with rfl | rfl | rfl <;> first | exact e_s_l01In k | exact e_s_AddrOk k | exact e_s_l08Size k) (by kernel_rfl) (fn := Try.f72) (k := k) (es := [⟨64, 0, (.cons (.int .i64) (.cons (.int .i64) (.cons (.int .i64) .nil))), .bool, s_l01In k⟩, ⟨66, 0, (.cons (.int .i64) .nil), .bool, s_AddrOk k⟩, ⟨120, 0, (.cons (.int .i64) .nil), (.int .i64), s_l08Size k⟩]) (loops := []) (by kernel_rfl) (by kernel_rfl) (fun x r h => (t_s_PrefixOk k x).trans h)
def s_HappenOk (k : Nat) (x : (Int × Int × Int × Int × ByteArray × Int × Int × Unit) × Unit) : Option (Bool × Unit × Unit) :=
((s_l01In k (x.1.1, ((1 : Int), ((9 : Int), ())))).bind fun p1 =>
(if (!p1.1) = false then
((s_l01In k (x.1.2.1, ((1 : Int), ((98 : Int), ())))).bind fun p2 =>
(if (!p2.1) = false then
(if (decide (x.1.2.2.1 < (0 : Int))) = true then
some (false, ((), ()))
else
(if (decide (x.1.1 = (3 : Int))) = true then
((s_AddrOk k (x.1.2.2.2.1, ())).bind fun p3 =>
(if p3.1 = true then
(if (decide ((ByteArray.size x.1.2.2.2.2.1 : Int) ≤ (100 : Int))) = true then
some ((decide (x.1.2.2.2.2.2.1 = (0 : Int)) && decide (x.1.2.2.2.2.2.2.1 = (0 : Int))), ((), ()))
else
some (false, ((), ())))
else
some (false, ((), ()))))
else
(if (decide (x.1.1 = (9 : Int))) = true then
((s_PrefixOk k ((x.1.2.2.2.2.2.1, (x.1.2.2.2.2.2.2.1, ())), ())).bind fun p4 =>
(if p4.1 = true then
(if (decide (x.1.2.2.2.1 = (0 : Int))) = true then
some ((decide (x.1.2.2.2.2.1 = (⟨#[]⟩ : ByteArray))), ((), ()))
else
some (false, ((), ())))
else
some (false, ((), ()))))
else
(if (decide (x.1.2.2.2.1 = (0 : Int))) = true then
(if (decide (x.1.2.2.2.2.1 = (⟨#[]⟩ : ByteArray))) = true then
some ((decide (x.1.2.2.2.2.2.1 = (0 : Int)) && decide (x.1.2.2.2.2.2.2.1 = (0 : Int))), ((), ()))
else
some (false, ((), ())))
else
some (false, ((), ()))))))
else
some (false, ((), ()))))
else
some (false, ((), ()))))
theorem t_s_HappenOk (k : Nat) (x) : evF TTab k [⟨64, 0, (.cons (.int .i64) (.cons (.int .i64) (.cons (.int .i64) .nil))), .bool, s_l01In k⟩, ⟨66, 0, (.cons (.int .i64) .nil), .bool, s_AddrOk k⟩, ⟨72, 0, (.cons (.agg (.cons (.int .i64) (.cons (.int .i64) .nil))) .nil), .bool, s_PrefixOk k⟩] [] Try.f27 (.cons (.agg (.cons (.int .i64) (.cons (.int .i64) (.cons (.int .i64) (.cons (.int .i64) (.cons .str (.cons (.int .i64) (.cons (.int .i64) .nil)))))))) .nil) .bool x = s_HappenOk k x := by kernel_rfl
theorem e_s_HappenOk (k : Nat) : EntryOk Try.prog ⟨27, 0, (.cons (.agg (.cons (.int .i64) (.cons (.int .i64) (.cons (.int .i64) (.cons (.int .i64) (.cons .str (.cons (.int .i64) (.cons (.int .i64) .nil)))))))) .nil), .bool, s_HappenOk k⟩ := entry_ok tok (by intro e he; simp only [List.mem_cons, List.not_mem_nil, or_false] at he; rcases he with rfl | rfl | rfl <;> first | exact e_s_l01In k | exact e_s_AddrOk k | exact e_s_PrefixOk k) (by kernel_rfl) (fn := Try.f27) (k := k) (es := [⟨64, 0, (.cons (.int .i64) (.cons (.int .i64) (.cons (.int .i64) .nil))), .bool, s_l01In k⟩, ⟨66, 0, (.cons (.int .i64) .nil), .bool, s_AddrOk k⟩, ⟨72, 0, (.cons (.agg (.cons (.int .i64) (.cons (.int .i64) .nil))) .nil), .bool, s_PrefixOk k⟩]) (loops := []) (by kernel_rfl) (by kernel_rfl) (fun x r h => (t_s_HappenOk k x).trans h)
def w_toPrefix (k : Nat) (x : (Int × Int × Unit) × Unit) : Option ((Int × Int × Unit) × Unit × Unit) :=
some ((x.1.1, (x.1.2.1, ())), ((), ()))
theorem t_w_toPrefix (k : Nat) (x) : evF TTab k [] [] Try.f73 (.cons (.agg (.cons (.int .i64) (.cons (.int .i64) .nil))) .nil) (.agg (.cons (.int .i64) (.cons (.int .i64) .nil))) x = w_toPrefix k x := by kernel_rfl
theorem e_w_toPrefix (k : Nat) : EntryOk Try.prog ⟨73, 0, (.cons (.agg (.cons (.int .i64) (.cons (.int .i64) .nil))) .nil), (.agg (.cons (.int .i64) (.cons (.int .i64) .nil))), w_toPrefix k⟩ := entry_ok tok (by simp) (by kernel_rfl) (fn := Try.f73) (k := k) (es := []) (loops := []) (by kernel_rfl) (by kernel_rfl) (fun x r h => (t_w_toPrefix k x).trans h)
def w_toHappen (k : Nat) (x : (Int × Int × Int × Int × ByteArray × Int × Int × Unit) × Unit) : Option ((Int × Int × Int × Int × ByteArray × Int × Int × Unit) × Unit × Unit) :=
((w_toPrefix k ((x.1.2.2.2.2.2.1, (x.1.2.2.2.2.2.2.1, ())), ())).bind fun p1 =>
some ((x.1.1, (x.1.2.1, (x.1.2.2.1, (x.1.2.2.2.1, (x.1.2.2.2.2.1, (p1.1.1, (p1.1.2.1, ()))))))), ((), ())))
theorem t_w_toHappen (k : Nat) (x) : evF TTab k [⟨73, 0, (.cons (.agg (.cons (.int .i64) (.cons (.int .i64) .nil))) .nil), (.agg (.cons (.int .i64) (.cons (.int .i64) .nil))), w_toPrefix k⟩] [] Try.f28 (.cons (.agg (.cons (.int .i64) (.cons (.int .i64) (.cons (.int .i64) (.cons (.int .i64) (.cons .str (.cons (.int .i64) (.cons (.int .i64) .nil)))))))) .nil) (.agg (.cons (.int .i64) (.cons (.int .i64) (.cons (.int .i64) (.cons (.int .i64) (.cons .str (.cons (.int .i64) (.cons (.int .i64) .nil)))))))) x = w_toHappen k x := by kernel_rfl
theorem e_w_toHappen (k : Nat) : EntryOk Try.prog ⟨28, 0, (.cons (.agg (.cons (.int .i64) (.cons (.int .i64) (.cons (.int .i64) (.cons (.int .i64) (.cons .str (.cons (.int .i64) (.cons (.int .i64) .nil)))))))) .nil), (.agg (.cons (.int .i64) (.cons (.int .i64) (.cons (.int .i64) (.cons (.int .i64) (.cons .str (.cons (.int .i64) (.cons (.int .i64) .nil)))))))), w_toHappen k⟩ := entry_ok tok (by intro e he; simp only [List.mem_cons, List.not_mem_nil, or_false] at he; rcases he with rfl <;> first | exact e_w_toPrefix k) (by kernel_rfl) (fn := Try.f28) (k := k) (es := [⟨73, 0, (.cons (.agg (.cons (.int .i64) (.cons (.int .i64) .nil))) .nil), (.agg (.cons (.int .i64) (.cons (.int .i64) .nil))), w_toPrefix k⟩]) (loops := []) (by kernel_rfl) (by kernel_rfl) (fun x r h => (t_w_toHappen k x).trans h)
def i_lastBits (k : Nat) (x : Int × Unit) : Option (Int × Unit × Unit) :=
(if (wi64 ((32 : Int) - x.1)) < 0 then
none
else
some ((wi64 ((wi64 ((1 : Int) * 2 ^ (min (Int.toNat (wi64 ((32 : Int) - x.1))) (IntKind.bits .i64)))) - (1 : Int))), ((), ())))
theorem t_i_lastBits (k : Nat) (x) : evF TTab k [] [] Try.f121 (.cons (.int .i64) .nil) (.int .i64) x = i_lastBits k x := by kernel_rfl
theorem e_i_lastBits (k : Nat) : EntryOk Try.prog ⟨121, 0, (.cons (.int .i64) .nil), (.int .i64), i_lastBits k⟩ := entry_ok tok (by simp) (by kernel_rfl) (fn := Try.f121) (k := k) (es := []) (loops := []) (by kernel_rfl) (by kernel_rfl) (fun x r h => (t_i_lastBits k x).trans h)
def i_PrefixOk (k : Nat) (x : (Int × Int × Unit) × Unit) : Option (Bool × Unit × Unit) :=
((i_AddrOk k (x.1.1, ())).bind fun p1 =>
(if p1.1 = true then
((i_within k (x.1.2.1, ((0 : Int), ((32 : Int), ())))).bind fun p2 =>
(if p2.1 = true then
((i_lastBits k (x.1.2.1, ())).bind fun p3 =>
some ((decide ((bitsI .and .i64 x.1.1 p3.1) = (0 : Int))), ((), ())))
else
some (false, ((), ()))))
else
some (false, ((), ()))))
theorem t_i_PrefixOk (k : Nat) (x) : evF TTab k [⟨65, 0, (.cons (.int .i64) (.cons (.int .i64) (.cons (.int .i64) .nil))), .bool, i_within k⟩, ⟨67, 0, (.cons (.int .i64) .nil), .bool, i_AddrOk k⟩, ⟨121, 0, (.cons (.int .i64) .nil), (.int .i64), i_lastBits k⟩] [] Try.f74 (.cons (.agg (.cons (.int .i64) (.cons (.int .i64) .nil))) .nil) .bool x = i_PrefixOk k x := by kernel_rfl
theorem e_i_PrefixOk (k : Nat) : EntryOk Try.prog ⟨74, 0, (.cons (.agg (.cons (.int .i64) (.cons (.int .i64) .nil))) .nil), .bool, i_PrefixOk k⟩ := entry_ok tok (by intro e he; simp only [List.mem_cons, List.not_mem_nil, or_false] at he; rcases he with rfl | rfl | rfl <;> first | exact e_i_within k | exact e_i_AddrOk k | exact e_i_lastBits k) (by kernel_rfl) (fn := Try.f74) (k := k) (es := [⟨65, 0, (.cons (.int .i64) (.cons (.int .i64) (.cons (.int .i64) .nil))), .bool, i_within k⟩, ⟨67, 0, (.cons (.int .i64) .nil), .bool, i_AddrOk k⟩, ⟨121, 0, (.cons (.int .i64) .nil), (.int .i64), i_lastBits k⟩]) (loops := []) (by kernel_rfl) (by kernel_rfl) (fun x r h => (t_i_PrefixOk k x).trans h)
def i_HappenOk (k : Nat) (x : (Int × Int × Int × Int × ByteArray × Int × Int × Unit) × Unit) : Option (Bool × Unit × Unit) :=
((i_within k (x.1.1, ((1 : Int), ((9 : Int), ())))).bind fun p1 =>
(if (!p1.1) = false then
((i_within k (x.1.2.1, ((1 : Int), ((98 : Int), ())))).bind fun p2 =>
(if (!p2.1) = false then
(if (decide (x.1.2.2.1 < (0 : Int))) = true then
some (false, ((), ()))
else
(if (decide (x.1.2.2.2.1 = (0 : Int))) = true then
(if (decide (x.1.1 = (3 : Int))) = true then
((i_AddrOk k (x.1.2.2.2.1, ())).bind fun p3 =>
(if p3.1 = true then
(if (decide (x.1.1 = (9 : Int))) = true then
(if (decide ((ByteArray.size x.1.2.2.2.2.1 : Int) ≤ (100 : Int))) = true then
((i_PrefixOk k ((x.1.2.2.2.2.2.1, (x.1.2.2.2.2.2.2.1, ())), ())).bind fun p4 =>
some (p4.1, ((), ())))
else
some (false, ((), ())))
else
(if (decide ((ByteArray.size x.1.2.2.2.2.1 : Int) ≤ (100 : Int))) = true then
some ((decide (x.1.2.2.2.2.2.1 = (0 : Int)) && decide (x.1.2.2.2.2.2.2.1 = (0 : Int))), ((), ()))
else
some (false, ((), ()))))
else
(if (decide (x.1.1 = (9 : Int))) = true then
some (false, ((), ()))
else
some (false, ((), ())))))
else
(if (decide (x.1.1 = (9 : Int))) = true then
(if (decide (x.1.2.2.2.2.1 = (⟨#[]⟩ : ByteArray))) = true then
((i_PrefixOk k ((x.1.2.2.2.2.2.1, (x.1.2.2.2.2.2.2.1, ())), ())).bind fun p5 =>
some (p5.1, ((), ())))
else
some (false, ((), ())))
else
(if (decide (x.1.2.2.2.2.1 = (⟨#[]⟩ : ByteArray))) = true then
some ((decide (x.1.2.2.2.2.2.1 = (0 : Int)) && decide (x.1.2.2.2.2.2.2.1 = (0 : Int))), ((), ()))
else
some (false, ((), ())))))
else
(if (decide (x.1.1 = (3 : Int))) = true then
((i_AddrOk k (x.1.2.2.2.1, ())).bind fun p6 =>
(if p6.1 = true then
(if (decide (x.1.1 = (9 : Int))) = true then
(if (decide ((ByteArray.size x.1.2.2.2.2.1 : Int) ≤ (100 : Int))) = true then
((i_PrefixOk k ((x.1.2.2.2.2.2.1, (x.1.2.2.2.2.2.2.1, ())), ())).bind fun p7 =>
some (p7.1, ((), ())))
else
some (false, ((), ())))
else
(if (decide ((ByteArray.size x.1.2.2.2.2.1 : Int) ≤ (100 : Int))) = true then
some ((decide (x.1.2.2.2.2.2.1 = (0 : Int)) && decide (x.1.2.2.2.2.2.2.1 = (0 : Int))), ((), ()))
else
some (false, ((), ()))))
else
(if (decide (x.1.1 = (9 : Int))) = true then
some (false, ((), ()))
else
some (false, ((), ())))))
else
(if (decide (x.1.1 = (9 : Int))) = true then
some (false, ((), ()))
else
some (false, ((), ()))))))
else
some (false, ((), ()))))
else
some (false, ((), ()))))
theorem t_i_HappenOk (k : Nat) (x) : evF TTab k [⟨65, 0, (.cons (.int .i64) (.cons (.int .i64) (.cons (.int .i64) .nil))), .bool, i_within k⟩, ⟨67, 0, (.cons (.int .i64) .nil), .bool, i_AddrOk k⟩, ⟨74, 0, (.cons (.agg (.cons (.int .i64) (.cons (.int .i64) .nil))) .nil), .bool, i_PrefixOk k⟩] [] Try.f29 (.cons (.agg (.cons (.int .i64) (.cons (.int .i64) (.cons (.int .i64) (.cons (.int .i64) (.cons .str (.cons (.int .i64) (.cons (.int .i64) .nil)))))))) .nil) .bool x = i_HappenOk k x := by kernel_rfl
theorem e_i_HappenOk (k : Nat) : EntryOk Try.prog ⟨29, 0, (.cons (.agg (.cons (.int .i64) (.cons (.int .i64) (.cons (.int .i64) (.cons (.int .i64) (.cons .str (.cons (.int .i64) (.cons (.int .i64) .nil)))))))) .nil), .bool, i_HappenOk k⟩ := entry_ok tok (by intro e he; simp only [List.mem_cons, List.not_mem_nil, or_false] at he; rcases he with rfl | rfl | rfl <;> first | exact e_i_within k | exact e_i_AddrOk k | exact e_i_PrefixOk k) (by kernel_rfl) (fn := Try.f29) (k := k) (es := [⟨65, 0, (.cons (.int .i64) (.cons (.int .i64) (.cons (.int .i64) .nil))), .bool, i_within k⟩, ⟨67, 0, (.cons (.int .i64) .nil), .bool, i_AddrOk k⟩, ⟨74, 0, (.cons (.agg (.cons (.int .i64) (.cons (.int .i64) .nil))) .nil), .bool, i_PrefixOk k⟩]) (loops := []) (by kernel_rfl) (by kernel_rfl) (fun x r h => (t_i_HappenOk k x).trans h)
def w_FnExactHappenOk (k : Nat) (x : (Int × Int × Int × Int × ByteArray × Int × Int × Unit) × Unit) : Option (Bool × Unit × Unit) :=
((w_szHappen k ((x.1.1, (x.1.2.1, (x.1.2.2.1, (x.1.2.2.2.1, (x.1.2.2.2.2.1, (x.1.2.2.2.2.2.1, (x.1.2.2.2.2.2.2.1, ()))))))), ((1048576 : Int), ()))).bind fun p1 =>
(if (decide (p1.1 < (0 : Int))) = true then
some (true, ((), ()))
else
((w_toHappen k ((x.1.1, (x.1.2.1, (x.1.2.2.1, (x.1.2.2.2.1, (x.1.2.2.2.2.1, (x.1.2.2.2.2.2.1, (x.1.2.2.2.2.2.2.1, ()))))))), ())).bind fun p2 =>
((s_HappenOk k ((p2.1.1, (p2.1.2.1, (p2.1.2.2.1, (p2.1.2.2.2.1, (p2.1.2.2.2.2.1, (p2.1.2.2.2.2.2.1, (p2.1.2.2.2.2.2.2.1, ()))))))), ())).bind fun p3 =>
((w_toHappen k ((x.1.1, (x.1.2.1, (x.1.2.2.1, (x.1.2.2.2.1, (x.1.2.2.2.2.1, (x.1.2.2.2.2.2.1, (x.1.2.2.2.2.2.2.1, ()))))))), ())).bind fun p4 =>
((i_HappenOk k ((p4.1.1, (p4.1.2.1, (p4.1.2.2.1, (p4.1.2.2.2.1, (p4.1.2.2.2.2.1, (p4.1.2.2.2.2.2.1, (p4.1.2.2.2.2.2.2.1, ()))))))), ())).bind fun p5 =>
(if (!decide (p5.1 = p3.1)) = true then
some (false, ((), ()))
else
some (true, ((), ())))))))))
theorem t_w_FnExactHappenOk (k : Nat) (x) : evF TTab k [⟨26, 0, (.cons (.agg (.cons (.int .i64) (.cons (.int .i64) (.cons (.int .i64) (.cons (.int .i64) (.cons .str (.cons (.int .i64) (.cons (.int .i64) .nil)))))))) (.cons (.int .i64) .nil)), (.int .i64), w_szHappen k⟩, ⟨27, 0, (.cons (.agg (.cons (.int .i64) (.cons (.int .i64) (.cons (.int .i64) (.cons (.int .i64) (.cons .str (.cons (.int .i64) (.cons (.int .i64) .nil)))))))) .nil), .bool, s_HappenOk k⟩, ⟨28, 0, (.cons (.agg (.cons (.int .i64) (.cons (.int .i64) (.cons (.int .i64) (.cons (.int .i64) (.cons .str (.cons (.int .i64) (.cons (.int .i64) .nil)))))))) .nil), (.agg (.cons (.int .i64) (.cons (.int .i64) (.cons (.int .i64) (.cons (.int .i64) (.cons .str (.cons (.int .i64) (.cons (.int .i64) .nil)))))))), w_toHappen k⟩, ⟨29, 0, (.cons (.agg (.cons (.int .i64) (.cons (.int .i64) (.cons (.int .i64) (.cons (.int .i64) (.cons .str (.cons (.int .i64) (.cons (.int .i64) .nil)))))))) .nil), .bool, i_HappenOk k⟩] [] Try.f7 (.cons (.agg (.cons (.int .i64) (.cons (.int .i64) (.cons (.int .i64) (.cons (.int .i64) (.cons .str (.cons (.int .i64) (.cons (.int .i64) .nil)))))))) .nil) .bool x = w_FnExactHappenOk k x := by kernel_rfl
theorem e_w_FnExactHappenOk (k : Nat) : EntryOk Try.prog ⟨7, 0, (.cons (.agg (.cons (.int .i64) (.cons (.int .i64) (.cons (.int .i64) (.cons (.int .i64) (.cons .str (.cons (.int .i64) (.cons (.int .i64) .nil)))))))) .nil), .bool, w_FnExactHappenOk k⟩ := entry_ok tok (by intro e he; simp only [List.mem_cons, List.not_mem_nil, or_false] at he; rcases he with rfl | rfl | rfl | rfl <;> first | exact e_w_szHappen k | exact e_s_HappenOk k | exact e_w_toHappen k | exact e_i_HappenOk k) (by kernel_rfl) (fn := Try.f7) (k := k) (es := [⟨26, 0, (.cons (.agg (.cons (.int .i64) (.cons (.int .i64) (.cons (.int .i64) (.cons (.int .i64) (.cons .str (.cons (.int .i64) (.cons (.int .i64) .nil)))))))) (.cons (.int .i64) .nil)), (.int .i64), w_szHappen k⟩, ⟨27, 0, (.cons (.agg (.cons (.int .i64) (.cons (.int .i64) (.cons (.int .i64) (.cons (.int .i64) (.cons .str (.cons (.int .i64) (.cons (.int .i64) .nil)))))))) .nil), .bool, s_HappenOk k⟩, ⟨28, 0, (.cons (.agg (.cons (.int .i64) (.cons (.int .i64) (.cons (.int .i64) (.cons (.int .i64) (.cons .str (.cons (.int .i64) (.cons (.int .i64) .nil)))))))) .nil), (.agg (.cons (.int .i64) (.cons (.int .i64) (.cons (.int .i64) (.cons (.int .i64) (.cons .str (.cons (.int .i64) (.cons (.int .i64) .nil)))))))), w_toHappen k⟩, ⟨29, 0, (.cons (.agg (.cons (.int .i64) (.cons (.int .i64) (.cons (.int .i64) (.cons (.int .i64) (.cons .str (.cons (.int .i64) (.cons (.int .i64) .nil)))))))) .nil), .bool, i_HappenOk k⟩]) (loops := []) (by kernel_rfl) (by kernel_rfl) (fun x r h => (t_w_FnExactHappenOk k x).trans h)
def s_l05Byte (k : Nat) (x : Int × Unit) : Option (ByteArray × Unit × Unit) :=
(if (decide ((Int.tmod x.1 (256 : Int)) < (0 : Int))) = true then
some ((strOf ([(wu8 ((wi64 ((Int.tmod x.1 (256 : Int)) + (256 : Int)))))] : List (Int))), ((), ()))
else
some ((strOf ([(wu8 ((Int.tmod x.1 (256 : Int))))] : List (Int))), ((), ())))
theorem t_s_l05Byte (k : Nat) (x) : evF TTab k [] [] Try.f75 (.cons (.int .i64) .nil) .str x = s_l05Byte k x := by kernel_rfl
theorem e_s_l05Byte (k : Nat) : EntryOk Try.prog ⟨75, 0, (.cons (.int .i64) .nil), .str, s_l05Byte k⟩ := entry_ok tok (by simp) (by kernel_rfl) (fn := Try.f75) (k := k) (es := []) (loops := []) (by kernel_rfl) (by kernel_rfl) (fun x r h => (t_s_l05Byte k x).trans h)
def s_Split (k : Nat) (x : Int × ByteArray × Int × Unit) : Option ((List (ByteArray) × Bool × Unit) × Unit × Unit × Unit × Unit) :=
((s_l01In k (x.1, ((0 : Int), ((255 : Int), ())))).bind fun p1 =>
(if (!p1.1) = false then
((s_l01In k (x.2.2.1, ((20 : Int), ((120 : Int), ())))).bind fun p2 =>
(if (!p2.1) = false then
(if (decide ((300 : Int) < (ByteArray.size x.2.1 : Int))) = true then
some ((([] : List (ByteArray)), (false, ())), ((), ((), ((), ()))))
else
(if x.2.2.1 = 0 then
none
else
(if (decide ((wi64 (Int.tdiv (wi64 ((wi64 ((ByteArray.size x.2.1 : Int) + x.2.2.1)) - (1 : Int))) x.2.2.1)) = (0 : Int))) = true then
(if (decide ((15 : Int) < (1 : Int))) = true then
some ((([] : List (ByteArray)), (false, ())), ((), ((), ((), ()))))
else
(whileK (fun (rec0 : (Int × ByteArray × Int × Int × List (ByteArray) × Int × Unit) → Option _) (y0 : Int × ByteArray × Int × Int × List (ByteArray) × Int × Unit) =>
(if (decide (y0.2.2.2.2.2.1 < y0.2.2.2.1)) = true then
(if (decide ((ByteArray.size y0.2.1 : Int) < (wi64 ((wi64 (y0.2.2.2.2.2.1 + (1 : Int))) * y0.2.2.1)))) = true then
((s_l05Byte k (y0.1, ())).bind fun p3 =>
((s_l05Byte k (y0.2.2.2.2.2.1, ())).bind fun p4 =>
(if ByteArray.size p3.1 + ByteArray.size p4.1 ≤ maxStr then
((s_l05Byte k (y0.2.2.2.1, ())).bind fun p5 =>
(if ByteArray.size (p3.1 ++ p4.1) + ByteArray.size p5.1 ≤ maxStr then
(if 0 ≤ (ByteArray.size y0.2.1 : Int) ∧ (ByteArray.size y0.2.1 : Int) ≤ (ByteArray.size y0.2.1 : Int) then
(if 0 ≤ (wi64 (y0.2.2.2.2.2.1 * y0.2.2.1)) ∧ (wi64 (y0.2.2.2.2.2.1 * y0.2.2.1)) ≤ (ByteArray.size y0.2.1 : Int) then
(if ByteArray.size ((p3.1 ++ p4.1) ++ p5.1) + ByteArray.size (ByteArray.extract y0.2.1 (Int.toNat (wi64 (y0.2.2.2.2.2.1 * y0.2.2.1))) (Int.toNat (ByteArray.size y0.2.1 : Int))) ≤ maxStr then
(if List.length y0.2.2.2.2.1 + List.length ([(((p3.1 ++ p4.1) ++ p5.1) ++ (ByteArray.extract y0.2.1 (Int.toNat (wi64 (y0.2.2.2.2.2.1 * y0.2.2.1))) (Int.toNat (ByteArray.size y0.2.1 : Int))))] : List (ByteArray)) ≤ capMax then
(rec0 (y0.1, (y0.2.1, (y0.2.2.1, (y0.2.2.2.1, ((y0.2.2.2.2.1 ++ ([(((p3.1 ++ p4.1) ++ p5.1) ++ (ByteArray.extract y0.2.1 (Int.toNat (wi64 (y0.2.2.2.2.2.1 * y0.2.2.1))) (Int.toNat (ByteArray.size y0.2.1 : Int))))] : List (ByteArray))), ((wi64 (y0.2.2.2.2.2.1 + (1 : Int))), ())))))))
else none)
else none)
else none)
else none)
else none))
else none)))
else
((s_l05Byte k (y0.1, ())).bind fun p6 =>
((s_l05Byte k (y0.2.2.2.2.2.1, ())).bind fun p7 =>
(if ByteArray.size p6.1 + ByteArray.size p7.1 ≤ maxStr then
((s_l05Byte k (y0.2.2.2.1, ())).bind fun p8 =>
(if ByteArray.size (p6.1 ++ p7.1) + ByteArray.size p8.1 ≤ maxStr then
(if 0 ≤ (wi64 ((wi64 (y0.2.2.2.2.2.1 + (1 : Int))) * y0.2.2.1)) ∧ (wi64 ((wi64 (y0.2.2.2.2.2.1 + (1 : Int))) * y0.2.2.1)) ≤ (ByteArray.size y0.2.1 : Int) then
(if 0 ≤ (wi64 (y0.2.2.2.2.2.1 * y0.2.2.1)) ∧ (wi64 (y0.2.2.2.2.2.1 * y0.2.2.1)) ≤ (wi64 ((wi64 (y0.2.2.2.2.2.1 + (1 : Int))) * y0.2.2.1)) then
(if ByteArray.size ((p6.1 ++ p7.1) ++ p8.1) + ByteArray.size (ByteArray.extract y0.2.1 (Int.toNat (wi64 (y0.2.2.2.2.2.1 * y0.2.2.1))) (Int.toNat (wi64 ((wi64 (y0.2.2.2.2.2.1 + (1 : Int))) * y0.2.2.1)))) ≤ maxStr then
(if List.length y0.2.2.2.2.1 + List.length ([(((p6.1 ++ p7.1) ++ p8.1) ++ (ByteArray.extract y0.2.1 (Int.toNat (wi64 (y0.2.2.2.2.2.1 * y0.2.2.1))) (Int.toNat (wi64 ((wi64 (y0.2.2.2.2.2.1 + (1 : Int))) * y0.2.2.1)))))] : List (ByteArray)) ≤ capMax then
(rec0 (y0.1, (y0.2.1, (y0.2.2.1, (y0.2.2.2.1, ((y0.2.2.2.2.1 ++ ([(((p6.1 ++ p7.1) ++ p8.1) ++ (ByteArray.extract y0.2.1 (Int.toNat (wi64 (y0.2.2.2.2.2.1 * y0.2.2.1))) (Int.toNat (wi64 ((wi64 (y0.2.2.2.2.2.1 + (1 : Int))) * y0.2.2.1)))))] : List (ByteArray))), ((wi64 (y0.2.2.2.2.2.1 + (1 : Int))), ())))))))
else none)
else none)
else none)
else none)
else none))
else none))))
else
((fun (z1 : List (ByteArray) × Unit) =>
some ((z1.1, (true, ())), ((), ((), ((), ()))))) (y0.2.2.2.2.1, ())))) k (x.1, (x.2.1, (x.2.2.1, ((1 : Int), (([] : List (ByteArray)), ((0 : Int), ()))))))))
else
(if (decide ((15 : Int) < (wi64 (Int.tdiv (wi64 ((wi64 ((ByteArray.size x.2.1 : Int) + x.2.2.1)) - (1 : Int))) x.2.2.1)))) = true then
some ((([] : List (ByteArray)), (false, ())), ((), ((), ((), ()))))
else
(whileK (fun (rec0 : (Int × ByteArray × Int × Int × List (ByteArray) × Int × Unit) → Option _) (y0 : Int × ByteArray × Int × Int × List (ByteArray) × Int × Unit) =>
(if (decide (y0.2.2.2.2.2.1 < y0.2.2.2.1)) = true then
(if (decide ((ByteArray.size y0.2.1 : Int) < (wi64 ((wi64 (y0.2.2.2.2.2.1 + (1 : Int))) * y0.2.2.1)))) = true then
((s_l05Byte k (y0.1, ())).bind fun p9 =>
((s_l05Byte k (y0.2.2.2.2.2.1, ())).bind fun p10 =>
(if ByteArray.size p9.1 + ByteArray.size p10.1 ≤ maxStr then
((s_l05Byte k (y0.2.2.2.1, ())).bind fun p11 =>
(if ByteArray.size (p9.1 ++ p10.1) + ByteArray.size p11.1 ≤ maxStr then
(if 0 ≤ (ByteArray.size y0.2.1 : Int) ∧ (ByteArray.size y0.2.1 : Int) ≤ (ByteArray.size y0.2.1 : Int) then
(if 0 ≤ (wi64 (y0.2.2.2.2.2.1 * y0.2.2.1)) ∧ (wi64 (y0.2.2.2.2.2.1 * y0.2.2.1)) ≤ (ByteArray.size y0.2.1 : Int) then
(if ByteArray.size ((p9.1 ++ p10.1) ++ p11.1) + ByteArray.size (ByteArray.extract y0.2.1 (Int.toNat (wi64 (y0.2.2.2.2.2.1 * y0.2.2.1))) (Int.toNat (ByteArray.size y0.2.1 : Int))) ≤ maxStr then
(if List.length y0.2.2.2.2.1 + List.length ([(((p9.1 ++ p10.1) ++ p11.1) ++ (ByteArray.extract y0.2.1 (Int.toNat (wi64 (y0.2.2.2.2.2.1 * y0.2.2.1))) (Int.toNat (ByteArray.size y0.2.1 : Int))))] : List (ByteArray)) ≤ capMax then
(rec0 (y0.1, (y0.2.1, (y0.2.2.1, (y0.2.2.2.1, ((y0.2.2.2.2.1 ++ ([(((p9.1 ++ p10.1) ++ p11.1) ++ (ByteArray.extract y0.2.1 (Int.toNat (wi64 (y0.2.2.2.2.2.1 * y0.2.2.1))) (Int.toNat (ByteArray.size y0.2.1 : Int))))] : List (ByteArray))), ((wi64 (y0.2.2.2.2.2.1 + (1 : Int))), ())))))))
else none)
else none)
else none)
else none)
else none))
else none)))
else
((s_l05Byte k (y0.1, ())).bind fun p12 =>
((s_l05Byte k (y0.2.2.2.2.2.1, ())).bind fun p13 =>
(if ByteArray.size p12.1 + ByteArray.size p13.1 ≤ maxStr then
((s_l05Byte k (y0.2.2.2.1, ())).bind fun p14 =>
(if ByteArray.size (p12.1 ++ p13.1) + ByteArray.size p14.1 ≤ maxStr then
(if 0 ≤ (wi64 ((wi64 (y0.2.2.2.2.2.1 + (1 : Int))) * y0.2.2.1)) ∧ (wi64 ((wi64 (y0.2.2.2.2.2.1 + (1 : Int))) * y0.2.2.1)) ≤ (ByteArray.size y0.2.1 : Int) then
(if 0 ≤ (wi64 (y0.2.2.2.2.2.1 * y0.2.2.1)) ∧ (wi64 (y0.2.2.2.2.2.1 * y0.2.2.1)) ≤ (wi64 ((wi64 (y0.2.2.2.2.2.1 + (1 : Int))) * y0.2.2.1)) then
(if ByteArray.size ((p12.1 ++ p13.1) ++ p14.1) + ByteArray.size (ByteArray.extract y0.2.1 (Int.toNat (wi64 (y0.2.2.2.2.2.1 * y0.2.2.1))) (Int.toNat (wi64 ((wi64 (y0.2.2.2.2.2.1 + (1 : Int))) * y0.2.2.1)))) ≤ maxStr then
(if List.length y0.2.2.2.2.1 + List.length ([(((p12.1 ++ p13.1) ++ p14.1) ++ (ByteArray.extract y0.2.1 (Int.toNat (wi64 (y0.2.2.2.2.2.1 * y0.2.2.1))) (Int.toNat (wi64 ((wi64 (y0.2.2.2.2.2.1 + (1 : Int))) * y0.2.2.1)))))] : List (ByteArray)) ≤ capMax then
(rec0 (y0.1, (y0.2.1, (y0.2.2.1, (y0.2.2.2.1, ((y0.2.2.2.2.1 ++ ([(((p12.1 ++ p13.1) ++ p14.1) ++ (ByteArray.extract y0.2.1 (Int.toNat (wi64 (y0.2.2.2.2.2.1 * y0.2.2.1))) (Int.toNat (wi64 ((wi64 (y0.2.2.2.2.2.1 + (1 : Int))) * y0.2.2.1)))))] : List (ByteArray))), ((wi64 (y0.2.2.2.2.2.1 + (1 : Int))), ())))))))
else none)
else none)
else none)
else none)
else none))
else none))))
else
((fun (z2 : List (ByteArray) × Unit) =>
some ((z2.1, (true, ())), ((), ((), ((), ()))))) (y0.2.2.2.2.1, ())))) k (x.1, (x.2.1, (x.2.2.1, ((wi64 (Int.tdiv (wi64 ((wi64 ((ByteArray.size x.2.1 : Int) + x.2.2.1)) - (1 : Int))) x.2.2.1)), (([] : List (ByteArray)), ((0 : Int), ())))))))))))
else
some ((([] : List (ByteArray)), (false, ())), ((), ((), ((), ()))))))
else
some ((([] : List (ByteArray)), (false, ())), ((), ((), ((), ()))))))
theorem t_s_Split (k : Nat) (x) : evF TTab k [⟨64, 0, (.cons (.int .i64) (.cons (.int .i64) (.cons (.int .i64) .nil))), .bool, s_l01In k⟩, ⟨75, 0, (.cons (.int .i64) .nil), .str, s_l05Byte k⟩] [(0, ⟨[0, 1, 2, 8, 9, 10], (.cons (.int .i64) (.cons .str (.cons (.int .i64) (.cons (.int .i64) (.cons (.own false 9 .str) (.cons (.int .i64) .nil))))))⟩, ⟨[9], (.cons (.own false 9 .str) .nil)⟩)] Try.f30 (.cons (.int .i64) (.cons .str (.cons (.int .i64) .nil))) (.tup (.cons (.own false 9 .str) (.cons .bool .nil))) x = s_Split k x := by kernel_rfl
theorem e_s_Split (k : Nat) : EntryOk Try.prog ⟨30, 0, (.cons (.int .i64) (.cons .str (.cons (.int .i64) .nil))), (.tup (.cons (.own false 9 .str) (.cons .bool .nil))), s_Split k⟩ := entry_ok tok (by intro e he; simp only [List.mem_cons, List.not_mem_nil, or_false] at he; rcases he with rfl | rfl <;> first | exact e_s_l01In k | exact e_s_l05Byte k) (by kernel_rfl) (fn := Try.f30) (k := k) (es := [⟨64, 0, (.cons (.int .i64) (.cons (.int .i64) (.cons (.int .i64) .nil))), .bool, s_l01In k⟩, ⟨75, 0, (.cons (.int .i64) .nil), .str, s_l05Byte k⟩]) (loops := [(0, ⟨[0, 1, 2, 8, 9, 10], (.cons (.int .i64) (.cons .str (.cons (.int .i64) (.cons (.int .i64) (.cons (.own false 9 .str) (.cons (.int .i64) .nil))))))⟩, ⟨[9], (.cons (.own false 9 .str) .nil)⟩)]) (by kernel_rfl) (by kernel_rfl) (fun x r h => (t_s_Split k x).trans h)
def i_byteText (k : Nat) (x : Int × Unit) : Option (ByteArray × Unit × Unit) :=
some ((strOf ([(wu8 (x.1))] : List (Int))), ((), ()))
theorem t_i_byteText (k : Nat) (x) : evF TTab k [] [] Try.f76 (.cons (.int .i64) .nil) .str x = i_byteText k x := by kernel_rfl
theorem e_i_byteText (k : Nat) : EntryOk Try.prog ⟨76, 0, (.cons (.int .i64) .nil), .str, i_byteText k⟩ := entry_ok tok (by simp) (by kernel_rfl) (fn := Try.f76) (k := k) (es := []) (loops := []) (by kernel_rfl) (by kernel_rfl) (fun x r h => (t_i_byteText k x).trans h)
def i_Split (k : Nat) (x : Int × ByteArray × Int × Unit) : Option ((List (ByteArray) × Bool × Unit) × Unit × Unit × Unit × Unit) :=
((i_within k (x.1, ((0 : Int), ((255 : Int), ())))).bind fun p1 =>
(if (!p1.1) = false then
((i_within k (x.2.2.1, ((20 : Int), ((120 : Int), ())))).bind fun p2 =>
(if (!p2.1) = false then
(if (decide ((300 : Int) < (ByteArray.size x.2.1 : Int))) = true then
some (([], (false, ())), ((), ((), ((), ()))))
else
(if x.2.2.1 = 0 then
none
else
(if (decide ((15 : Int) < (if (1 : Int) < (wi64 (Int.tdiv (wi64 ((wi64 ((ByteArray.size x.2.1 : Int) + x.2.2.1)) - (1 : Int))) x.2.2.1)) then (wi64 (Int.tdiv (wi64 ((wi64 ((ByteArray.size x.2.1 : Int) + x.2.2.1)) - (1 : Int))) x.2.2.1)) else (1 : Int)))) = true then
some (([], (false, ())), ((), ((), ((), ()))))
else
(whileK (fun (rec0 : (Int × ByteArray × Int × Int × List (ByteArray) × Int × Int × Unit) → Option _) (y0 : Int × ByteArray × Int × Int × List (ByteArray) × Int × Int × Unit) =>
(if (decide (y0.2.2.2.2.2.2.1 < y0.2.2.2.2.2.1)) = true then
(if 0 ≤ (if (ByteArray.size y0.2.1 : Int) < (wi64 ((wi64 (y0.2.2.2.2.2.2.1 + (1 : Int))) * y0.2.2.1)) then (ByteArray.size y0.2.1 : Int) else (wi64 ((wi64 (y0.2.2.2.2.2.2.1 + (1 : Int))) * y0.2.2.1))) ∧ (if (ByteArray.size y0.2.1 : Int) < (wi64 ((wi64 (y0.2.2.2.2.2.2.1 + (1 : Int))) * y0.2.2.1)) then (ByteArray.size y0.2.1 : Int) else (wi64 ((wi64 (y0.2.2.2.2.2.2.1 + (1 : Int))) * y0.2.2.1))) ≤ (ByteArray.size y0.2.1 : Int) then
(if 0 ≤ (wi64 (y0.2.2.2.2.2.2.1 * y0.2.2.1)) ∧ (wi64 (y0.2.2.2.2.2.2.1 * y0.2.2.1)) ≤ (if (ByteArray.size y0.2.1 : Int) < (wi64 ((wi64 (y0.2.2.2.2.2.2.1 + (1 : Int))) * y0.2.2.1)) then (ByteArray.size y0.2.1 : Int) else (wi64 ((wi64 (y0.2.2.2.2.2.2.1 + (1 : Int))) * y0.2.2.1))) then
((i_byteText k (y0.1, ())).bind fun p3 =>
((i_byteText k (y0.2.2.2.2.2.2.1, ())).bind fun p4 =>
(if ByteArray.size p3.1 + ByteArray.size p4.1 ≤ maxStr then
((i_byteText k (y0.2.2.2.1, ())).bind fun p5 =>
(if ByteArray.size (p3.1 ++ p4.1) + ByteArray.size p5.1 ≤ maxStr then
(if ByteArray.size ((p3.1 ++ p4.1) ++ p5.1) + ByteArray.size (ByteArray.extract y0.2.1 (Int.toNat (wi64 (y0.2.2.2.2.2.2.1 * y0.2.2.1))) (Int.toNat (if (ByteArray.size y0.2.1 : Int) < (wi64 ((wi64 (y0.2.2.2.2.2.2.1 + (1 : Int))) * y0.2.2.1)) then (ByteArray.size y0.2.1 : Int) else (wi64 ((wi64 (y0.2.2.2.2.2.2.1 + (1 : Int))) * y0.2.2.1))))) ≤ maxStr then
(if List.length y0.2.2.2.2.1 + List.length ([(((p3.1 ++ p4.1) ++ p5.1) ++ (ByteArray.extract y0.2.1 (Int.toNat (wi64 (y0.2.2.2.2.2.2.1 * y0.2.2.1))) (Int.toNat (if (ByteArray.size y0.2.1 : Int) < (wi64 ((wi64 (y0.2.2.2.2.2.2.1 + (1 : Int))) * y0.2.2.1)) then (ByteArray.size y0.2.1 : Int) else (wi64 ((wi64 (y0.2.2.2.2.2.2.1 + (1 : Int))) * y0.2.2.1))))))] : List (ByteArray)) ≤ capMax then
(rec0 (y0.1, (y0.2.1, (y0.2.2.1, (y0.2.2.2.1, ((y0.2.2.2.2.1 ++ ([(((p3.1 ++ p4.1) ++ p5.1) ++ (ByteArray.extract y0.2.1 (Int.toNat (wi64 (y0.2.2.2.2.2.2.1 * y0.2.2.1))) (Int.toNat (if (ByteArray.size y0.2.1 : Int) < (wi64 ((wi64 (y0.2.2.2.2.2.2.1 + (1 : Int))) * y0.2.2.1)) then (ByteArray.size y0.2.1 : Int) else (wi64 ((wi64 (y0.2.2.2.2.2.2.1 + (1 : Int))) * y0.2.2.1))))))] : List (ByteArray))), (y0.2.2.2.2.2.1, ((wi64 (y0.2.2.2.2.2.2.1 + (1 : Int))), ()))))))))
else none)
else none)
else none))
else none)))
else none)
else none)
else
((fun (z1 : List (ByteArray) × Unit) =>
some ((z1.1, (true, ())), ((), ((), ((), ()))))) (y0.2.2.2.2.1, ())))) k (x.1, (x.2.1, (x.2.2.1, ((if (1 : Int) < (wi64 (Int.tdiv (wi64 ((wi64 ((ByteArray.size x.2.1 : Int) + x.2.2.1)) - (1 : Int))) x.2.2.1)) then (wi64 (Int.tdiv (wi64 ((wi64 ((ByteArray.size x.2.1 : Int) + x.2.2.1)) - (1 : Int))) x.2.2.1)) else (1 : Int)), (([] : List (ByteArray)), ((if (1 : Int) < (wi64 (Int.tdiv (wi64 ((wi64 ((ByteArray.size x.2.1 : Int) + x.2.2.1)) - (1 : Int))) x.2.2.1)) then (wi64 (Int.tdiv (wi64 ((wi64 ((ByteArray.size x.2.1 : Int) + x.2.2.1)) - (1 : Int))) x.2.2.1)) else (1 : Int)), ((0 : Int), ())))))))))))
else
some (([], (false, ())), ((), ((), ((), ()))))))
else
some (([], (false, ())), ((), ((), ((), ()))))))
theorem t_i_Split (k : Nat) (x) : evF TTab k [⟨65, 0, (.cons (.int .i64) (.cons (.int .i64) (.cons (.int .i64) .nil))), .bool, i_within k⟩, ⟨76, 0, (.cons (.int .i64) .nil), .str, i_byteText k⟩] [(0, ⟨[0, 1, 2, 8, 9, 36, 37], (.cons (.int .i64) (.cons .str (.cons (.int .i64) (.cons (.int .i64) (.cons (.own false 9 .str) (.cons (.int .i64) (.cons (.int .i64) .nil)))))))⟩, ⟨[9], (.cons (.own false 9 .str) .nil)⟩)] Try.f31 (.cons (.int .i64) (.cons .str (.cons (.int .i64) .nil))) (.tup (.cons (.own false 9 .str) (.cons .bool .nil))) x = i_Split k x := by kernel_rfl
theorem e_i_Split (k : Nat) : EntryOk Try.prog ⟨31, 0, (.cons (.int .i64) (.cons .str (.cons (.int .i64) .nil))), (.tup (.cons (.own false 9 .str) (.cons .bool .nil))), i_Split k⟩ := entry_ok tok (by intro e he; simp only [List.mem_cons, List.not_mem_nil, or_false] at he; rcases he with rfl | rfl <;> first | exact e_i_within k | exact e_i_byteText k) (by kernel_rfl) (fn := Try.f31) (k := k) (es := [⟨65, 0, (.cons (.int .i64) (.cons (.int .i64) (.cons (.int .i64) .nil))), .bool, i_within k⟩, ⟨76, 0, (.cons (.int .i64) .nil), .str, i_byteText k⟩]) (loops := [(0, ⟨[0, 1, 2, 8, 9, 36, 37], (.cons (.int .i64) (.cons .str (.cons (.int .i64) (.cons (.int .i64) (.cons (.own false 9 .str) (.cons (.int .i64) (.cons (.int .i64) .nil)))))))⟩, ⟨[9], (.cons (.own false 9 .str) .nil)⟩)]) (by kernel_rfl) (by kernel_rfl) (fun x r h => (t_i_Split k x).trans h)
def w_eqStringS (k : Nat) (x : List (ByteArray) × List (ByteArray) × Unit) : Option (Bool × Unit × Unit × Unit) :=
(if (!decide ((List.length x.1 : Int) = (List.length x.2.1 : Int))) = true then
some (false, ((), ((), ())))
else
(whileK (fun (rec0 : (List (ByteArray) × List (ByteArray) × Int × Unit) → Option _) (y0 : List (ByteArray) × List (ByteArray) × Int × Unit) =>
(if (decide (y0.2.2.1 < (List.length y0.1 : Int))) = true then
(if 0 ≤ y0.2.2.1 ∧ y0.2.2.1 < (List.length y0.1 : Int) then
(if 0 ≤ y0.2.2.1 ∧ y0.2.2.1 < (List.length y0.2.1 : Int) then
(if (!decide ((Ty.rd (t := .str) y0.1 y0.2.2.1) = (Ty.rd (t := .str) y0.2.1 y0.2.2.1))) = true then
some (false, ((), ((), ())))
else
(rec0 (y0.1, (y0.2.1, ((wi64 (y0.2.2.1 + (1 : Int))), ())))))
else none)
else none)
else
((fun (z1 : Unit) =>
some (true, ((), ((), ())))) ()))) k (x.1, (x.2.1, ((0 : Int), ())))))
theorem t_w_eqStringS (k : Nat) (x) : evF TTab k [] [(0, ⟨[0, 1, 5], (.cons (.il true .str) (.cons (.il true .str) (.cons (.int .i64) .nil)))⟩, ⟨[], .nil⟩)] Try.f32 (.cons (.il true .str) (.cons (.il true .str) .nil)) .bool x = w_eqStringS k x := by kernel_rfl
theorem e_w_eqStringS (k : Nat) : EntryOk Try.prog ⟨32, 0, (.cons (.il true .str) (.cons (.il true .str) .nil)), .bool, w_eqStringS k⟩ := entry_ok tok (by simp) (by kernel_rfl) (fn := Try.f32) (k := k) (es := []) (loops := [(0, ⟨[0, 1, 5], (.cons (.il true .str) (.cons (.il true .str) (.cons (.int .i64) .nil)))⟩, ⟨[], .nil⟩)]) (by kernel_rfl) (by kernel_rfl) (fun x r h => (t_w_eqStringS k x).trans h)
def w_markText (k : Nat) (x : Int × Unit) : Option (ByteArray × Unit × Unit) :=
(if (decide (x.1 ≤ (0 : Int))) = true then
some ((⟨#[109, 48]⟩ : ByteArray), ((), ()))
else
(whileK (fun (rec0 : (Int × ByteArray × Unit) → Option _) (y0 : Int × ByteArray × Unit) =>
(if (decide ((0 : Int) < y0.1)) = true then
(if ByteArray.size (strOf ([(wu8 ((wi64 ((48 : Int) + (Int.tmod y0.1 (10 : Int))))))] : List (Int))) + ByteArray.size y0.2.1 ≤ maxStr then
(rec0 ((wi64 (Int.tdiv y0.1 (10 : Int))), (((strOf ([(wu8 ((wi64 ((48 : Int) + (Int.tmod y0.1 (10 : Int))))))] : List (Int))) ++ y0.2.1), ())))
else none)
else
((fun (z1 : ByteArray × Unit) =>
(if ByteArray.size (⟨#[109]⟩ : ByteArray) + ByteArray.size z1.1 ≤ maxStr then
some (((⟨#[109]⟩ : ByteArray) ++ z1.1), ((), ()))
else none)) (y0.2.1, ())))) k (x.1, ((⟨#[]⟩ : ByteArray), ()))))
theorem t_w_markText (k : Nat) (x) : evF TTab k [] [(0, ⟨[0, 3], (.cons (.int .i64) (.cons .str .nil))⟩, ⟨[3], (.cons .str .nil)⟩)] Try.f77 (.cons (.int .i64) .nil) .str x = w_markText k x := by kernel_rfl
theorem e_w_markText (k : Nat) : EntryOk Try.prog ⟨77, 0, (.cons (.int .i64) .nil), .str, w_markText k⟩ := entry_ok tok (by simp) (by kernel_rfl) (fn := Try.f77) (k := k) (es := []) (loops := [(0, ⟨[0, 3], (.cons (.int .i64) (.cons .str .nil))⟩, ⟨[3], (.cons .str .nil)⟩)]) (by kernel_rfl) (by kernel_rfl) (fun x r h => (t_w_markText k x).trans h)
def w_markStringS (k : Nat) (x : List (ByteArray) × Int × Unit) : Option (Int × List (ByteArray) × Unit × Unit) :=
(whileK (fun (rec0 : (List (ByteArray) × Int × Int × Unit) → Option _) (y0 : List (ByteArray) × Int × Int × Unit) =>
(if (decide (y0.2.2.1 < (List.length y0.1 : Int))) = true then
((w_markText k (y0.2.1, ())).bind fun p1 =>
(if 0 ≤ y0.2.2.1 ∧ y0.2.2.1 < (List.length y0.1 : Int) then
(rec0 ((List.set y0.1 (Int.toNat y0.2.2.1) p1.1), ((wi64 (y0.2.1 + (1 : Int))), ((wi64 (y0.2.2.1 + (1 : Int))), ()))))
else none))
else
((fun (z1 : List (ByteArray) × Int × Unit) =>
some (z1.2.1, (z1.1, ((), ())))) (y0.1, (y0.2.1, ()))))) k (x.1, (x.2.1, ((0 : Int), ()))))
theorem t_w_markStringS (k : Nat) (x) : evF TTab k [⟨77, 0, (.cons (.int .i64) .nil), .str, w_markText k⟩] [(0, ⟨[0, 1, 5], (.cons (.own false 9 .str) (.cons (.int .i64) (.cons (.int .i64) .nil)))⟩, ⟨[0, 1], (.cons (.own false 9 .str) (.cons (.int .i64) .nil))⟩)] Try.f33 (.cons (.mut false 9 .str) (.cons (.int .i64) .nil)) (.int .i64) x = w_markStringS k x := by kernel_rfl
theorem e_w_markStringS (k : Nat) : EntryOk Try.prog ⟨33, 0, (.cons (.mut false 9 .str) (.cons (.int .i64) .nil)), (.int .i64), w_markStringS k⟩ := entry_ok tok (by intro e he; simp only [List.mem_cons, List.not_mem_nil, or_false] at he; rcases he with rfl <;> first | exact e_w_markText k) (by kernel_rfl) (fn := Try.f33) (k := k) (es := [⟨77, 0, (.cons (.int .i64) .nil), .str, w_markText k⟩]) (loops := [(0, ⟨[0, 1, 5], (.cons (.own false 9 .str) (.cons (.int .i64) (.cons (.int .i64) .nil)))⟩, ⟨[0, 1], (.cons (.own false 9 .str) (.cons (.int .i64) .nil))⟩)]) (by kernel_rfl) (by kernel_rfl) (fun x r h => (t_w_markStringS k x).trans h)
def w_heldStringS (k : Nat) (x : List (ByteArray) × Int × Unit) : Option (Int × Unit × Unit × Unit) :=
(whileK (fun (rec0 : (List (ByteArray) × Int × Int × Unit) → Option _) (y0 : List (ByteArray) × Int × Int × Unit) =>
(if (decide (y0.2.2.1 < (List.length y0.1 : Int))) = true then
(if 0 ≤ y0.2.2.1 ∧ y0.2.2.1 < (List.length y0.1 : Int) then
((w_markText k (y0.2.1, ())).bind fun p1 =>
(if (!decide ((Ty.rd (t := .str) y0.1 y0.2.2.1) = p1.1)) = true then
some ((-1 : Int), ((), ((), ())))
else
(rec0 (y0.1, ((wi64 (y0.2.1 + (1 : Int))), ((wi64 (y0.2.2.1 + (1 : Int))), ()))))))
else none)
else
((fun (z1 : Int × Unit) =>
some (z1.1, ((), ((), ())))) (y0.2.1, ())))) k (x.1, (x.2.1, ((0 : Int), ()))))
theorem t_w_heldStringS (k : Nat) (x) : evF TTab k [⟨77, 0, (.cons (.int .i64) .nil), .str, w_markText k⟩] [(0, ⟨[0, 1, 5], (.cons (.il true .str) (.cons (.int .i64) (.cons (.int .i64) .nil)))⟩, ⟨[1], (.cons (.int .i64) .nil)⟩)] Try.f34 (.cons (.il true .str) (.cons (.int .i64) .nil)) (.int .i64) x = w_heldStringS k x := by kernel_rfl
theorem e_w_heldStringS (k : Nat) : EntryOk Try.prog ⟨34, 0, (.cons (.il true .str) (.cons (.int .i64) .nil)), (.int .i64), w_heldStringS k⟩ := entry_ok tok (by intro e he; simp only [List.mem_cons, List.not_mem_nil, or_false] at he; rcases he with rfl <;> first | exact e_w_markText k) (by kernel_rfl) (fn := Try.f34) (k := k) (es := [⟨77, 0, (.cons (.int .i64) .nil), .str, w_markText k⟩]) (loops := [(0, ⟨[0, 1, 5], (.cons (.il true .str) (.cons (.int .i64) (.cons (.int .i64) .nil)))⟩, ⟨[1], (.cons (.int .i64) .nil)⟩)]) (by kernel_rfl) (by kernel_rfl) (fun x r h => (t_w_heldStringS k x).trans h)
def w_FnExactSplit (k : Nat) (x : Int × ByteArray × Int × Unit) : Option (Bool × Unit × Unit × Unit × Unit) :=
(if (decide ((1048576 : Int) < (ByteArray.size x.2.1 : Int))) = true then
some (true, ((), ((), ((), ()))))
else
((s_Split k (x.1, (x.2.1, (x.2.2.1, ())))).bind fun p1 =>
((i_Split k (x.1, (x.2.1, (x.2.2.1, ())))).bind fun p2 =>
((w_eqStringS k (p2.1.1, (p1.1.1, ()))).bind fun p3 =>
(if (!p3.1) = false then
(if (!decide (p2.1.2.1 = p1.1.2.1)) = true then
some (false, ((), ((), ((), ()))))
else
((w_markStringS k (p2.1.1, ((1 : Int), ()))).bind fun p4 =>
((w_heldStringS k (p4.2.1, ((1 : Int), ()))).bind fun p5 =>
(if (decide (p5.1 < (0 : Int))) = true then
some (false, ((), ((), ((), ()))))
else
(if (!decide (p5.1 = p4.1)) = true then
some (false, ((), ((), ((), ()))))
else
((i_Split k (x.1, (x.2.1, (x.2.2.1, ())))).bind fun p6 =>
((w_eqStringS k (p6.1.1, (p1.1.1, ()))).bind fun p7 =>
(if (!p7.1) = false then
(if (!decide (p6.1.2.1 = p1.1.2.1)) = true then
some (false, ((), ((), ((), ()))))
else
((w_heldStringS k (p4.2.1, ((1 : Int), ()))).bind fun p8 =>
(if (decide (p8.1 < (0 : Int))) = true then
some (false, ((), ((), ((), ()))))
else
(if (!decide (p8.1 = p4.1)) = true then
some (false, ((), ((), ((), ()))))
else
some (true, ((), ((), ((), ()))))))))
else
some (false, ((), ((), ((), ()))))))))))))
else
some (false, ((), ((), ((), ())))))))))
theorem t_w_FnExactSplit (k : Nat) (x) : evF TTab k [⟨30, 0, (.cons (.int .i64) (.cons .str (.cons (.int .i64) .nil))), (.tup (.cons (.own false 9 .str) (.cons .bool .nil))), s_Split k⟩, ⟨31, 0, (.cons (.int .i64) (.cons .str (.cons (.int .i64) .nil))), (.tup (.cons (.own false 9 .str) (.cons .bool .nil))), i_Split k⟩, ⟨32, 0, (.cons (.il true .str) (.cons (.il true .str) .nil)), .bool, w_eqStringS k⟩, ⟨33, 0, (.cons (.mut false 9 .str) (.cons (.int .i64) .nil)), (.int .i64), w_markStringS k⟩, ⟨34, 0, (.cons (.il true .str) (.cons (.int .i64) .nil)), (.int .i64), w_heldStringS k⟩] [] Try.f8 (.cons (.int .i64) (.cons .str (.cons (.int .i64) .nil))) .bool x = w_FnExactSplit k x := by kernel_rfl
theorem e_w_FnExactSplit (k : Nat) : EntryOk Try.prog ⟨8, 0, (.cons (.int .i64) (.cons .str (.cons (.int .i64) .nil))), .bool, w_FnExactSplit k⟩ := entry_ok tok (by intro e he; simp only [List.mem_cons, List.not_mem_nil, or_false] at he; rcases he with rfl | rfl | rfl | rfl | rfl <;> first | exact e_s_Split k | exact e_i_Split k | exact e_w_eqStringS k | exact e_w_markStringS k | exact e_w_heldStringS k) (by kernel_rfl) (fn := Try.f8) (k := k) (es := [⟨30, 0, (.cons (.int .i64) (.cons .str (.cons (.int .i64) .nil))), (.tup (.cons (.own false 9 .str) (.cons .bool .nil))), s_Split k⟩, ⟨31, 0, (.cons (.int .i64) (.cons .str (.cons (.int .i64) .nil))), (.tup (.cons (.own false 9 .str) (.cons .bool .nil))), i_Split k⟩, ⟨32, 0, (.cons (.il true .str) (.cons (.il true .str) .nil)), .bool, w_eqStringS k⟩, ⟨33, 0, (.cons (.mut false 9 .str) (.cons (.int .i64) .nil)), (.int .i64), w_markStringS k⟩, ⟨34, 0, (.cons (.il true .str) (.cons (.int .i64) .nil)), (.int .i64), w_heldStringS k⟩]) (loops := []) (by kernel_rfl) (by kernel_rfl) (fun x r h => (t_w_FnExactSplit k x).trans h)
def w_szCarried (k : Nat) (x : (Int × Int × Int × ByteArray × Unit) × Int × Unit) : Option (Int × Unit × Unit × Unit) :=
((w_szInner k ((x.1.2.1, (x.1.2.2.1, (x.1.2.2.2.1, ()))), (x.2.1, ()))).bind fun p1 =>
(if (decide (p1.1 < (0 : Int))) = true then
some ((-1 : Int), ((), ((), ())))
else
some (p1.1, ((), ((), ())))))
theorem t_w_szCarried (k : Nat) (x) : evF TTab k [⟨17, 0, (.cons (.agg (.cons (.int .i64) (.cons (.int .i64) (.cons .str .nil)))) (.cons (.int .i64) .nil)), (.int .i64), w_szInner k⟩] [] Try.f78 (.cons (.agg (.cons (.int .i64) (.cons (.int .i64) (.cons (.int .i64) (.cons .str .nil))))) (.cons (.int .i64) .nil)) (.int .i64) x = w_szCarried k x := by kernel_rfl
theorem e_w_szCarried (k : Nat) : EntryOk Try.prog ⟨78, 0, (.cons (.agg (.cons (.int .i64) (.cons (.int .i64) (.cons (.int .i64) (.cons .str .nil))))) (.cons (.int .i64) .nil)), (.int .i64), w_szCarried k⟩ := entry_ok tok (by intro e he; simp only [List.mem_cons, List.not_mem_nil, or_false] at he; rcases he with rfl <;> first | exact e_w_szInner k) (by kernel_rfl) (fn := Try.f78) (k := k) (es := [⟨17, 0, (.cons (.agg (.cons (.int .i64) (.cons (.int .i64) (.cons .str .nil)))) (.cons (.int .i64) .nil)), (.int .i64), w_szInner k⟩]) (loops := []) (by kernel_rfl) (by kernel_rfl) (fun x r h => (t_w_szCarried k x).trans h)
def w_szCarriedS (k : Nat) (x : (List (Int × Int × Int × ByteArray)) × Int × Unit) : Option (Int × Unit × Unit × Unit) :=
(if (decide ((wi64 (x.2.1 - (List.length x.1 : Int))) < (0 : Int))) = true then
some ((-1 : Int), ((), ((), ())))
else
(whileK (fun (rec0 : ((List (Int × Int × Int × ByteArray)) × Int × Int × Unit) → Option _) (y0 : (List (Int × Int × Int × ByteArray)) × Int × Int × Unit) =>
(if (decide (y0.2.2.1 < (List.length y0.1 : Int))) = true then
(if 0 ≤ y0.2.2.1 ∧ y0.2.2.1 < (List.length y0.1 : Int) then
((w_szCarried k (((Ty.rd (t := (.pair (.int .i64) (.pair (.int .i64) (.pair (.int .i64) .str)))) y0.1 y0.2.2.1).1, ((Ty.rd (t := (.pair (.int .i64) (.pair (.int .i64) (.pair (.int .i64) .str)))) y0.1 y0.2.2.1).2.1, ((Ty.rd (t := (.pair (.int .i64) (.pair (.int .i64) (.pair (.int .i64) .str)))) y0.1 y0.2.2.1).2.2.1, ((Ty.rd (t := (.pair (.int .i64) (.pair (.int .i64) (.pair (.int .i64) .str)))) y0.1 y0.2.2.1).2.2.2, ())))), (y0.2.1, ()))).bind fun p1 =>
(if (decide (p1.1 < (0 : Int))) = true then
some ((-1 : Int), ((), ((), ())))
else
(rec0 (y0.1, (p1.1, ((wi64 (y0.2.2.1 + (1 : Int))), ()))))))
else none)
else
((fun (z1 : Int × Unit) =>
some (z1.1, ((), ((), ())))) (y0.2.1, ())))) k (x.1, ((wi64 (x.2.1 - (List.length x.1 : Int))), ((0 : Int), ())))))
theorem t_w_szCarriedS (k : Nat) (x) : evF TTab k [⟨78, 0, (.cons (.agg (.cons (.int .i64) (.cons (.int .i64) (.cons (.int .i64) (.cons .str .nil))))) (.cons (.int .i64) .nil)), (.int .i64), w_szCarried k⟩] [(0, ⟨[0, 1, 5], (.cons (.il true (.pair (.int .i64) (.pair (.int .i64) (.pair (.int .i64) .str)))) (.cons (.int .i64) (.cons (.int .i64) .nil)))⟩, ⟨[1], (.cons (.int .i64) .nil)⟩)] Try.f35 (.cons (.il true (.pair (.int .i64) (.pair (.int .i64) (.pair (.int .i64) .str)))) (.cons (.int .i64) .nil)) (.int .i64) x = w_szCarriedS k x := by kernel_rfl
theorem e_w_szCarriedS (k : Nat) : EntryOk Try.prog ⟨35, 0, (.cons (.il true (.pair (.int .i64) (.pair (.int .i64) (.pair (.int .i64) .str)))) (.cons (.int .i64) .nil)), (.int .i64), w_szCarriedS k⟩ := entry_ok tok (by intro e he; simp only [List.mem_cons, List.not_mem_nil, or_false] at he; rcases he with rfl <;> first | exact e_w_szCarried k) (by kernel_rfl) (fn := Try.f35) (k := k) (es := [⟨78, 0, (.cons (.agg (.cons (.int .i64) (.cons (.int .i64) (.cons (.int .i64) (.cons .str .nil))))) (.cons (.int .i64) .nil)), (.int .i64), w_szCarried k⟩]) (loops := [(0, ⟨[0, 1, 5], (.cons (.il true (.pair (.int .i64) (.pair (.int .i64) (.pair (.int .i64) .str)))) (.cons (.int .i64) (.cons (.int .i64) .nil)))⟩, ⟨[1], (.cons (.int .i64) .nil)⟩)]) (by kernel_rfl) (by kernel_rfl) (fun x r h => (t_w_szCarriedS k x).trans h)
def s_CountOf (k : Nat) (x : (List (Int × Int × Int × ByteArray)) × (Int × Int × ByteArray × Unit) × Unit) : Option (Int × Unit × Unit × Unit) :=
(whileK (fun (rec0 : ((List (Int × Int × Int × ByteArray)) × (Int × Int × ByteArray × Unit) × Int × Int × Unit) → Option _) (y0 : (List (Int × Int × Int × ByteArray)) × (Int × Int × ByteArray × Unit) × Int × Int × Unit) =>
(if (decide (y0.2.2.2.1 < (List.length y0.1 : Int))) = true then
(if 0 ≤ y0.2.2.2.1 ∧ y0.2.2.2.1 < (List.length y0.1 : Int) then
(if (decide ((Ty.rd (t := (.pair (.int .i64) (.pair (.int .i64) (.pair (.int .i64) .str)))) y0.1 y0.2.2.2.1).2.1 = y0.2.1.1) && (decide ((Ty.rd (t := (.pair (.int .i64) (.pair (.int .i64) (.pair (.int .i64) .str)))) y0.1 y0.2.2.2.1).2.2.1 = y0.2.1.2.1) && decide ((Ty.rd (t := (.pair (.int .i64) (.pair (.int .i64) (.pair (.int .i64) .str)))) y0.1 y0.2.2.2.1).2.2.2 = y0.2.1.2.2.1))) = true then
(rec0 (y0.1, ((y0.2.1.1, (y0.2.1.2.1, (y0.2.1.2.2.1, ()))), ((wi64 (y0.2.2.1 + (1 : Int))), ((wi64 (y0.2.2.2.1 + (1 : Int))), ())))))
else
(rec0 (y0.1, ((y0.2.1.1, (y0.2.1.2.1, (y0.2.1.2.2.1, ()))), (y0.2.2.1, ((wi64 (y0.2.2.2.1 + (1 : Int))), ()))))))
else none)
else
((fun (z1 : Int × Unit) =>
some (z1.1, ((), ((), ())))) (y0.2.2.1, ())))) k (x.1, ((x.2.1.1, (x.2.1.2.1, (x.2.1.2.2.1, ()))), ((0 : Int), ((0 : Int), ())))))
theorem t_s_CountOf (k : Nat) (x) : evF TTab k [] [(0, ⟨[0, 3, 5, 6], (.cons (.il true (.pair (.int .i64) (.pair (.int .i64) (.pair (.int .i64) .str)))) (.cons (.ptr (.cons (.int .i64) (.cons (.int .i64) (.cons .str .nil)))) (.cons (.int .i64) (.cons (.int .i64) .nil))))⟩, ⟨[5], (.cons (.int .i64) .nil)⟩)] Try.f36 (.cons (.il true (.pair (.int .i64) (.pair (.int .i64) (.pair (.int .i64) .str)))) (.cons (.agg (.cons (.int .i64) (.cons (.int .i64) (.cons .str .nil)))) .nil)) (.int .i64) x = s_CountOf k x := by kernel_rfl
theorem e_s_CountOf (k : Nat) : EntryOk Try.prog ⟨36, 0, (.cons (.il true (.pair (.int .i64) (.pair (.int .i64) (.pair (.int .i64) .str)))) (.cons (.agg (.cons (.int .i64) (.cons (.int .i64) (.cons .str .nil)))) .nil)), (.int .i64), s_CountOf k⟩ := entry_ok tok (by simp) (by kernel_rfl) (fn := Try.f36) (k := k) (es := []) (loops := [(0, ⟨[0, 3, 5, 6], (.cons (.il true (.pair (.int .i64) (.pair (.int .i64) (.pair (.int .i64) .str)))) (.cons (.ptr (.cons (.int .i64) (.cons (.int .i64) (.cons .str .nil)))) (.cons (.int .i64) (.cons (.int .i64) .nil))))⟩, ⟨[5], (.cons (.int .i64) .nil)⟩)]) (by kernel_rfl) (by kernel_rfl) (fun x r h => (t_s_CountOf k x).trans h)
def w_toCarried (k : Nat) (x : (Int × Int × Int × ByteArray × Unit) × Unit) : Option ((Int × Int × Int × ByteArray × Unit) × Unit × Unit) :=
((w_toInner k ((x.1.2.1, (x.1.2.2.1, (x.1.2.2.2.1, ()))), ())).bind fun p1 =>
some ((x.1.1, (p1.1.1, (p1.1.2.1, (p1.1.2.2.1, ())))), ((), ())))
theorem t_w_toCarried (k : Nat) (x) : evF TTab k [⟨19, 0, (.cons (.agg (.cons (.int .i64) (.cons (.int .i64) (.cons .str .nil)))) .nil), (.agg (.cons (.int .i64) (.cons (.int .i64) (.cons .str .nil)))), w_toInner k⟩] [] Try.f79 (.cons (.agg (.cons (.int .i64) (.cons (.int .i64) (.cons (.int .i64) (.cons .str .nil))))) .nil) (.agg (.cons (.int .i64) (.cons (.int .i64) (.cons (.int .i64) (.cons .str .nil))))) x = w_toCarried k x := by kernel_rfl
theorem e_w_toCarried (k : Nat) : EntryOk Try.prog ⟨79, 0, (.cons (.agg (.cons (.int .i64) (.cons (.int .i64) (.cons (.int .i64) (.cons .str .nil))))) .nil), (.agg (.cons (.int .i64) (.cons (.int .i64) (.cons (.int .i64) (.cons .str .nil))))), w_toCarried k⟩ := entry_ok tok (by intro e he; simp only [List.mem_cons, List.not_mem_nil, or_false] at he; rcases he with rfl <;> first | exact e_w_toInner k) (by kernel_rfl) (fn := Try.f79) (k := k) (es := [⟨19, 0, (.cons (.agg (.cons (.int .i64) (.cons (.int .i64) (.cons .str .nil)))) .nil), (.agg (.cons (.int .i64) (.cons (.int .i64) (.cons .str .nil)))), w_toInner k⟩]) (loops := []) (by kernel_rfl) (by kernel_rfl) (fun x r h => (t_w_toCarried k x).trans h)
def w_toCarriedS (k : Nat) (x : (List (Int × Int × Int × ByteArray)) × Unit) : Option ((List (Int × Int × Int × ByteArray)) × Unit × Unit) :=
(if (List.length x.1 : Int) = (List.length x.1 : Int) then
(if 0 ≤ (List.length x.1 : Int) ∧ (List.length x.1 : Int) ≤ (capMax : Int) then
(whileK (fun (rec0 : ((List (Int × Int × Int × ByteArray)) × (List (Int × Int × Int × ByteArray)) × Int × Unit) → Option _) (y0 : (List (Int × Int × Int × ByteArray)) × (List (Int × Int × Int × ByteArray)) × Int × Unit) =>
(if (decide (y0.2.2.1 < (List.length y0.1 : Int))) = true then
(if 0 ≤ y0.2.2.1 ∧ y0.2.2.1 < (List.length y0.1 : Int) then
((w_toCarried k (((Ty.rd (t := (.pair (.int .i64) (.pair (.int .i64) (.pair (.int .i64) .str)))) y0.1 y0.2.2.1).1, ((Ty.rd (t := (.pair (.int .i64) (.pair (.int .i64) (.pair (.int .i64) .str)))) y0.1 y0.2.2.1).2.1, ((Ty.rd (t := (.pair (.int .i64) (.pair (.int .i64) (.pair (.int .i64) .str)))) y0.1 y0.2.2.1).2.2.1, ((Ty.rd (t := (.pair (.int .i64) (.pair (.int .i64) (.pair (.int .i64) .str)))) y0.1 y0.2.2.1).2.2.2, ())))), ())).bind fun p1 =>
(if 0 ≤ y0.2.2.1 ∧ y0.2.2.1 < (List.length y0.2.1 : Int) then
(rec0 (y0.1, ((List.set y0.2.1 (Int.toNat y0.2.2.1) (p1.1.1, (p1.1.2.1, (p1.1.2.2.1, p1.1.2.2.2.1)))), ((wi64 (y0.2.2.1 + (1 : Int))), ()))))
else none))
else none)
else
((fun (z1 : (List (Int × Int × Int × ByteArray)) × Unit) =>
some (z1.1, ((), ()))) (y0.2.1, ())))) k (x.1, ((List.replicate (Int.toNat (List.length x.1 : Int)) ((0 : Int), ((0 : Int), ((0 : Int), (⟨#[]⟩ : ByteArray))))), ((0 : Int), ()))))
else none)
else none)
theorem t_w_toCarriedS (k : Nat) (x) : evF TTab k [⟨79, 0, (.cons (.agg (.cons (.int .i64) (.cons (.int .i64) (.cons (.int .i64) (.cons .str .nil))))) .nil), (.agg (.cons (.int .i64) (.cons (.int .i64) (.cons (.int .i64) (.cons .str .nil))))), w_toCarried k⟩] [(0, ⟨[0, 3, 4], (.cons (.il true (.pair (.int .i64) (.pair (.int .i64) (.pair (.int .i64) .str)))) (.cons (.own false 113 (.pair (.int .i64) (.pair (.int .i64) (.pair (.int .i64) .str)))) (.cons (.int .i64) .nil)))⟩, ⟨[3], (.cons (.own false 113 (.pair (.int .i64) (.pair (.int .i64) (.pair (.int .i64) .str)))) .nil)⟩)] Try.f37 (.cons (.il true (.pair (.int .i64) (.pair (.int .i64) (.pair (.int .i64) .str)))) .nil) (.own false 113 (.pair (.int .i64) (.pair (.int .i64) (.pair (.int .i64) .str)))) x = w_toCarriedS k x := by kernel_rfl
theorem e_w_toCarriedS (k : Nat) : EntryOk Try.prog ⟨37, 0, (.cons (.il true (.pair (.int .i64) (.pair (.int .i64) (.pair (.int .i64) .str)))) .nil), (.own false 113 (.pair (.int .i64) (.pair (.int .i64) (.pair (.int .i64) .str)))), w_toCarriedS k⟩ := entry_ok tok (by intro e he; simp only [List.mem_cons, List.not_mem_nil, or_false] at he; rcases he with rfl <;> first | exact e_w_toCarried k) (by kernel_rfl) (fn := Try.f37) (k := k) (es := [⟨79, 0, (.cons (.agg (.cons (.int .i64) (.cons (.int .i64) (.cons (.int .i64) (.cons .str .nil))))) .nil), (.agg (.cons (.int .i64) (.cons (.int .i64) (.cons (.int .i64) (.cons .str .nil))))), w_toCarried k⟩]) (loops := [(0, ⟨[0, 3, 4], (.cons (.il true (.pair (.int .i64) (.pair (.int .i64) (.pair (.int .i64) .str)))) (.cons (.own false 113 (.pair (.int .i64) (.pair (.int .i64) (.pair (.int .i64) .str)))) (.cons (.int .i64) .nil)))⟩, ⟨[3], (.cons (.own false 113 (.pair (.int .i64) (.pair (.int .i64) (.pair (.int .i64) .str)))) .nil)⟩)]) (by kernel_rfl) (by kernel_rfl) (fun x r h => (t_w_toCarriedS k x).trans h)
def i_CountOf (k : Nat) (x : (List (Int × Int × Int × ByteArray)) × (Int × Int × ByteArray × Unit) × Unit) : Option (Int × Unit × Unit × Unit) :=
(whileK (fun (rec0 : ((Int × Int × ByteArray × Unit) × Int × (List (Int × Int × Int × ByteArray)) × Int × Int × Unit) → Option _) (y0 : (Int × Int × ByteArray × Unit) × Int × (List (Int × Int × Int × ByteArray)) × Int × Int × Unit) =>
(if (decide (y0.2.2.2.2.1 < y0.2.2.2.1)) = true then
(if 0 ≤ y0.2.2.2.2.1 ∧ y0.2.2.2.2.1 < (List.length y0.2.2.1 : Int) then
(if (decide ((Ty.rd (t := (.pair (.int .i64) (.pair (.int .i64) (.pair (.int .i64) .str)))) y0.2.2.1 y0.2.2.2.2.1).2.1 = y0.1.1) && (decide ((Ty.rd (t := (.pair (.int .i64) (.pair (.int .i64) (.pair (.int .i64) .str)))) y0.2.2.1 y0.2.2.2.2.1).2.2.1 = y0.1.2.1) && decide ((Ty.rd (t := (.pair (.int .i64) (.pair (.int .i64) (.pair (.int .i64) .str)))) y0.2.2.1 y0.2.2.2.2.1).2.2.2 = y0.1.2.2.1))) = true then
(rec0 ((y0.1.1, (y0.1.2.1, (y0.1.2.2.1, ()))), ((wi64 (y0.2.1 + (1 : Int))), (y0.2.2.1, (y0.2.2.2.1, ((wi64 (y0.2.2.2.2.1 + (1 : Int))), ()))))))
else
(rec0 ((y0.1.1, (y0.1.2.1, (y0.1.2.2.1, ()))), (y0.2.1, (y0.2.2.1, (y0.2.2.2.1, ((wi64 (y0.2.2.2.2.1 + (1 : Int))), ())))))))
else none)
else
((fun (z1 : Int × Unit) =>
some (z1.1, ((), ((), ())))) (y0.2.1, ())))) k ((x.2.1.1, (x.2.1.2.1, (x.2.1.2.2.1, ()))), ((0 : Int), (x.1, ((List.length x.1 : Int), ((0 : Int), ()))))))
theorem t_i_CountOf (k : Nat) (x) : evF TTab k [] [(0, ⟨[3, 5, 8, 9, 10], (.cons (.ptr (.cons (.int .i64) (.cons (.int .i64) (.cons .str .nil)))) (.cons (.int .i64) (.cons (.il true (.pair (.int .i64) (.pair (.int .i64) (.pair (.int .i64) .str)))) (.cons (.int .i64) (.cons (.int .i64) .nil)))))⟩, ⟨[5], (.cons (.int .i64) .nil)⟩)] Try.f38 (.cons (.il true (.pair (.int .i64) (.pair (.int .i64) (.pair (.int .i64) .str)))) (.cons (.agg (.cons (.int .i64) (.cons (.int .i64) (.cons .str .nil)))) .nil)) (.int .i64) x = i_CountOf k x := by kernel_rfl
theorem e_i_CountOf (k : Nat) : EntryOk Try.prog ⟨38, 0, (.cons (.il true (.pair (.int .i64) (.pair (.int .i64) (.pair (.int .i64) .str)))) (.cons (.agg (.cons (.int .i64) (.cons (.int .i64) (.cons .str .nil)))) .nil)), (.int .i64), i_CountOf k⟩ := entry_ok tok (by simp) (by kernel_rfl) (fn := Try.f38) (k := k) (es := []) (loops := [(0, ⟨[3, 5, 8, 9, 10], (.cons (.ptr (.cons (.int .i64) (.cons (.int .i64) (.cons .str .nil)))) (.cons (.int .i64) (.cons (.il true (.pair (.int .i64) (.pair (.int .i64) (.pair (.int .i64) .str)))) (.cons (.int .i64) (.cons (.int .i64) .nil)))))⟩, ⟨[5], (.cons (.int .i64) .nil)⟩)]) (by kernel_rfl) (by kernel_rfl) (fun x r h => (t_i_CountOf k x).trans h)
def w_eqCarried (k : Nat) (x : (Int × Int × Int × ByteArray × Unit) × (Int × Int × Int × ByteArray × Unit) × Unit) : Option (Bool × Unit × Unit × Unit) :=
(if (!decide (x.1.1 = x.2.1.1)) = true then
some (false, ((), ((), ())))
else
((w_eqInner k ((x.1.2.1, (x.1.2.2.1, (x.1.2.2.2.1, ()))), ((x.2.1.2.1, (x.2.1.2.2.1, (x.2.1.2.2.2.1, ()))), ()))).bind fun p1 =>
(if (!p1.1) = true then
some (false, ((), ((), ())))
else
some (true, ((), ((), ()))))))
theorem t_w_eqCarried (k : Nat) (x) : evF TTab k [⟨23, 0, (.cons (.agg (.cons (.int .i64) (.cons (.int .i64) (.cons .str .nil)))) (.cons (.agg (.cons (.int .i64) (.cons (.int .i64) (.cons .str .nil)))) .nil)), .bool, w_eqInner k⟩] [] Try.f80 (.cons (.agg (.cons (.int .i64) (.cons (.int .i64) (.cons (.int .i64) (.cons .str .nil))))) (.cons (.agg (.cons (.int .i64) (.cons (.int .i64) (.cons (.int .i64) (.cons .str .nil))))) .nil)) .bool x = w_eqCarried k x := by kernel_rfl
theorem e_w_eqCarried (k : Nat) : EntryOk Try.prog ⟨80, 0, (.cons (.agg (.cons (.int .i64) (.cons (.int .i64) (.cons (.int .i64) (.cons .str .nil))))) (.cons (.agg (.cons (.int .i64) (.cons (.int .i64) (.cons (.int .i64) (.cons .str .nil))))) .nil)), .bool, w_eqCarried k⟩ := entry_ok tok (by intro e he; simp only [List.mem_cons, List.not_mem_nil, or_false] at he; rcases he with rfl <;> first | exact e_w_eqInner k) (by kernel_rfl) (fn := Try.f80) (k := k) (es := [⟨23, 0, (.cons (.agg (.cons (.int .i64) (.cons (.int .i64) (.cons .str .nil)))) (.cons (.agg (.cons (.int .i64) (.cons (.int .i64) (.cons .str .nil)))) .nil)), .bool, w_eqInner k⟩]) (loops := []) (by kernel_rfl) (by kernel_rfl) (fun x r h => (t_w_eqCarried k x).trans h)
def w_eqCarriedS (k : Nat) (x : (List (Int × Int × Int × ByteArray)) × (List (Int × Int × Int × ByteArray)) × Unit) : Option (Bool × Unit × Unit × Unit) :=
(if (!decide ((List.length x.1 : Int) = (List.length x.2.1 : Int))) = true then
some (false, ((), ((), ())))
else
(whileK (fun (rec0 : ((List (Int × Int × Int × ByteArray)) × (List (Int × Int × Int × ByteArray)) × Int × Unit) → Option _) (y0 : (List (Int × Int × Int × ByteArray)) × (List (Int × Int × Int × ByteArray)) × Int × Unit) =>
(if (decide (y0.2.2.1 < (List.length y0.1 : Int))) = true then
(if 0 ≤ y0.2.2.1 ∧ y0.2.2.1 < (List.length y0.1 : Int) then
(if 0 ≤ y0.2.2.1 ∧ y0.2.2.1 < (List.length y0.2.1 : Int) then
((w_eqCarried k (((Ty.rd (t := (.pair (.int .i64) (.pair (.int .i64) (.pair (.int .i64) .str)))) y0.1 y0.2.2.1).1, ((Ty.rd (t := (.pair (.int .i64) (.pair (.int .i64) (.pair (.int .i64) .str)))) y0.1 y0.2.2.1).2.1, ((Ty.rd (t := (.pair (.int .i64) (.pair (.int .i64) (.pair (.int .i64) .str)))) y0.1 y0.2.2.1).2.2.1, ((Ty.rd (t := (.pair (.int .i64) (.pair (.int .i64) (.pair (.int .i64) .str)))) y0.1 y0.2.2.1).2.2.2, ())))), (((Ty.rd (t := (.pair (.int .i64) (.pair (.int .i64) (.pair (.int .i64) .str)))) y0.2.1 y0.2.2.1).1, ((Ty.rd (t := (.pair (.int .i64) (.pair (.int .i64) (.pair (.int .i64) .str)))) y0.2.1 y0.2.2.1).2.1, ((Ty.rd (t := (.pair (.int .i64) (.pair (.int .i64) (.pair (.int .i64) .str)))) y0.2.1 y0.2.2.1).2.2.1, ((Ty.rd (t := (.pair (.int .i64) (.pair (.int .i64) (.pair (.int .i64) .str)))) y0.2.1 y0.2.2.1).2.2.2, ())))), ()))).bind fun p1 =>
(if (!p1.1) = true then
some (false, ((), ((), ())))
else
(rec0 (y0.1, (y0.2.1, ((wi64 (y0.2.2.1 + (1 : Int))), ()))))))
else none)
else none)
else
((fun (z1 : Unit) =>
some (true, ((), ((), ())))) ()))) k (x.1, (x.2.1, ((0 : Int), ())))))
theorem t_w_eqCarriedS (k : Nat) (x) : evF TTab k [⟨80, 0, (.cons (.agg (.cons (.int .i64) (.cons (.int .i64) (.cons (.int .i64) (.cons .str .nil))))) (.cons (.agg (.cons (.int .i64) (.cons (.int .i64) (.cons (.int .i64) (.cons .str .nil))))) .nil)), .bool, w_eqCarried k⟩] [(0, ⟨[0, 1, 5], (.cons (.il true (.pair (.int .i64) (.pair (.int .i64) (.pair (.int .i64) .str)))) (.cons (.il true (.pair (.int .i64) (.pair (.int .i64) (.pair (.int .i64) .str)))) (.cons (.int .i64) .nil)))⟩, ⟨[], .nil⟩)] Try.f39 (.cons (.il true (.pair (.int .i64) (.pair (.int .i64) (.pair (.int .i64) .str)))) (.cons (.il true (.pair (.int .i64) (.pair (.int .i64) (.pair (.int .i64) .str)))) .nil)) .bool x = w_eqCarriedS k x := by kernel_rfl
theorem e_w_eqCarriedS (k : Nat) : EntryOk Try.prog ⟨39, 0, (.cons (.il true (.pair (.int .i64) (.pair (.int .i64) (.pair (.int .i64) .str)))) (.cons (.il true (.pair (.int .i64) (.pair (.int .i64) (.pair (.int .i64) .str)))) .nil)), .bool, w_eqCarriedS k⟩ := entry_ok tok (by intro e he; simp only [List.mem_cons, List.not_mem_nil, or_false] at he; rcases he with rfl <;> first | exact e_w_eqCarried k) (by kernel_rfl) (fn := Try.f39) (k := k) (es := [⟨80, 0, (.cons (.agg (.cons (.int .i64) (.cons (.int .i64) (.cons (.int .i64) (.cons .str .nil))))) (.cons (.agg (.cons (.int .i64) (.cons (.int .i64) (.cons (.int .i64) (.cons .str .nil))))) .nil)), .bool, w_eqCarried k⟩]) (loops := [(0, ⟨[0, 1, 5], (.cons (.il true (.pair (.int .i64) (.pair (.int .i64) (.pair (.int .i64) .str)))) (.cons (.il true (.pair (.int .i64) (.pair (.int .i64) (.pair (.int .i64) .str)))) (.cons (.int .i64) .nil)))⟩, ⟨[], .nil⟩)]) (by kernel_rfl) (by kernel_rfl) (fun x r h => (t_w_eqCarriedS k x).trans h)
def w_FnExactCountOf (k : Nat) (x : (List (Int × Int × Int × ByteArray)) × (Int × Int × ByteArray × Unit) × Unit) : Option (Bool × Unit × Unit × Unit) :=
((w_szCarriedS k (x.1, ((1048576 : Int), ()))).bind fun p1 =>
(if (decide (p1.1 < (0 : Int))) = true then
some (true, ((), ((), ())))
else
((w_szInner k ((x.2.1.1, (x.2.1.2.1, (x.2.1.2.2.1, ()))), (p1.1, ()))).bind fun p2 =>
(if (decide (p2.1 < (0 : Int))) = true then
some (true, ((), ((), ())))
else
((w_toCarriedS k (x.1, ())).bind fun p3 =>
((w_toInner k ((x.2.1.1, (x.2.1.2.1, (x.2.1.2.2.1, ()))), ())).bind fun p4 =>
((s_CountOf k (p3.1, ((p4.1.1, (p4.1.2.1, (p4.1.2.2.1, ()))), ()))).bind fun p5 =>
((w_toCarriedS k (x.1, ())).bind fun p6 =>
((w_toInner k ((x.2.1.1, (x.2.1.2.1, (x.2.1.2.2.1, ()))), ())).bind fun p7 =>
((i_CountOf k (p6.1, ((p7.1.1, (p7.1.2.1, (p7.1.2.2.1, ()))), ()))).bind fun p8 =>
(if (!decide (p8.1 = p5.1)) = true then
some (false, ((), ((), ())))
else
((w_toCarriedS k (x.1, ())).bind fun p9 =>
((w_eqCarriedS k (p6.1, (p9.1, ()))).bind fun p10 =>
(if (!p10.1) = true then
some (false, ((), ((), ())))
else
some (true, ((), ((), ())))))))))))))))))
theorem t_w_FnExactCountOf (k : Nat) (x) : evF TTab k [⟨17, 0, (.cons (.agg (.cons (.int .i64) (.cons (.int .i64) (.cons .str .nil)))) (.cons (.int .i64) .nil)), (.int .i64), w_szInner k⟩, ⟨19, 0, (.cons (.agg (.cons (.int .i64) (.cons (.int .i64) (.cons .str .nil)))) .nil), (.agg (.cons (.int .i64) (.cons (.int .i64) (.cons .str .nil)))), w_toInner k⟩, ⟨35, 0, (.cons (.il true (.pair (.int .i64) (.pair (.int .i64) (.pair (.int .i64) .str)))) (.cons (.int .i64) .nil)), (.int .i64), w_szCarriedS k⟩, ⟨36, 0, (.cons (.il true (.pair (.int .i64) (.pair (.int .i64) (.pair (.int .i64) .str)))) (.cons (.agg (.cons (.int .i64) (.cons (.int .i64) (.cons .str .nil)))) .nil)), (.int .i64), s_CountOf k⟩, ⟨37, 0, (.cons (.il true (.pair (.int .i64) (.pair (.int .i64) (.pair (.int .i64) .str)))) .nil), (.own false 113 (.pair (.int .i64) (.pair (.int .i64) (.pair (.int .i64) .str)))), w_toCarriedS k⟩, ⟨38, 0, (.cons (.il true (.pair (.int .i64) (.pair (.int .i64) (.pair (.int .i64) .str)))) (.cons (.agg (.cons (.int .i64) (.cons (.int .i64) (.cons .str .nil)))) .nil)), (.int .i64), i_CountOf k⟩, ⟨39, 0, (.cons (.il true (.pair (.int .i64) (.pair (.int .i64) (.pair (.int .i64) .str)))) (.cons (.il true (.pair (.int .i64) (.pair (.int .i64) (.pair (.int .i64) .str)))) .nil)), .bool, w_eqCarriedS k⟩] [] Try.f9 (.cons (.il true (.pair (.int .i64) (.pair (.int .i64) (.pair (.int .i64) .str)))) (.cons (.agg (.cons (.int .i64) (.cons (.int .i64) (.cons .str .nil)))) .nil)) .bool x = w_FnExactCountOf k x := by kernel_rfl
theorem e_w_FnExactCountOf (k : Nat) : EntryOk Try.prog ⟨9, 0, (.cons (.il true (.pair (.int .i64) (.pair (.int .i64) (.pair (.int .i64) .str)))) (.cons (.agg (.cons (.int .i64) (.cons (.int .i64) (.cons .str .nil)))) .nil)), .bool, w_FnExactCountOf k⟩ := entry_ok tok (by intro e he; simp only [List.mem_cons, List.not_mem_nil, or_false] at he; rcases he with rfl | rfl | rfl | rfl | rfl | rfl | rfl <;> first | exact e_w_szInner k | exact e_w_toInner k | exact e_w_szCarriedS k | exact e_s_CountOf k | exact e_w_toCarriedS k | exact e_i_CountOf k | exact e_w_eqCarriedS k) (by kernel_rfl) (fn := Try.f9) (k := k) (es := [⟨17, 0, (.cons (.agg (.cons (.int .i64) (.cons (.int .i64) (.cons .str .nil)))) (.cons (.int .i64) .nil)), (.int .i64), w_szInner k⟩, ⟨19, 0, (.cons (.agg (.cons (.int .i64) (.cons (.int .i64) (.cons .str .nil)))) .nil), (.agg (.cons (.int .i64) (.cons (.int .i64) (.cons .str .nil)))), w_toInner k⟩, ⟨35, 0, (.cons (.il true (.pair (.int .i64) (.pair (.int .i64) (.pair (.int .i64) .str)))) (.cons (.int .i64) .nil)), (.int .i64), w_szCarriedS k⟩, ⟨36, 0, (.cons (.il true (.pair (.int .i64) (.pair (.int .i64) (.pair (.int .i64) .str)))) (.cons (.agg (.cons (.int .i64) (.cons (.int .i64) (.cons .str .nil)))) .nil)), (.int .i64), s_CountOf k⟩, ⟨37, 0, (.cons (.il true (.pair (.int .i64) (.pair (.int .i64) (.pair (.int .i64) .str)))) .nil), (.own false 113 (.pair (.int .i64) (.pair (.int .i64) (.pair (.int .i64) .str)))), w_toCarriedS k⟩, ⟨38, 0, (.cons (.il true (.pair (.int .i64) (.pair (.int .i64) (.pair (.int .i64) .str)))) (.cons (.agg (.cons (.int .i64) (.cons (.int .i64) (.cons .str .nil)))) .nil)), (.int .i64), i_CountOf k⟩, ⟨39, 0, (.cons (.il true (.pair (.int .i64) (.pair (.int .i64) (.pair (.int .i64) .str)))) (.cons (.il true (.pair (.int .i64) (.pair (.int .i64) (.pair (.int .i64) .str)))) .nil)), .bool, w_eqCarriedS k⟩]) (loops := []) (by kernel_rfl) (by kernel_rfl) (fun x r h => (t_w_FnExactCountOf k x).trans h)
end Go.Proofs.Ytodnoiblplnpcaa
