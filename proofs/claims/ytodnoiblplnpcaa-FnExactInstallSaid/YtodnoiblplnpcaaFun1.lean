import Derived.Test.YtodnoiblplnpcaaFun0
/- What functions of the program compute, as plain functions, and that their calls do so (part 1). Conditions: the plain function answers. -/
set_option linter.unusedVariables false
namespace Go.Proofs.Ytodnoiblplnpcaa
open Go Go.Eng Go.Proofs
def s_l01In (k : Nat) (x : Int × Int × Int × Unit) : Option (Bool × Unit × Unit × Unit × Unit) :=
(if (decide (x.2.1 ≤ x.1)) = true then
some ((decide (x.1 ≤ x.2.2.1)), ((), ((), ((), ()))))
else
some (false, ((), ((), ((), ())))))
theorem t_s_l01In (k : Nat) (x) : evF TTab k [] [] Try.f64 (.cons (.int .i64) (.cons (.int .i64) (.cons (.int .i64) .nil))) .bool x = s_l01In k x := by kernel_rfl
theorem e_s_l01In (k : Nat) : EntryOk Try.prog ⟨64, 0, (.cons (.int .i64) (.cons (.int .i64) (.cons (.int .i64) .nil))), .bool, s_l01In k⟩ := entry_ok tok (by simp) (by kernel_rfl) (fn := Try.f64) (k := k) (es := []) (loops := []) (by kernel_rfl) (by kernel_rfl) (fun x r h => (t_s_l01In k x).trans h)
def i_within (k : Nat) (x : Int × Int × Int × Unit) : Option (Bool × Unit × Unit × Unit × Unit) :=
(if (decide (x.2.1 ≤ x.1)) = true then
some ((decide (x.1 ≤ x.2.2.1)), ((), ((), ((), ()))))
else
some (false, ((), ((), ((), ())))))
theorem t_i_within (k : Nat) (x) : evF TTab k [] [] Try.f65 (.cons (.int .i64) (.cons (.int .i64) (.cons (.int .i64) .nil))) .bool x = i_within k x := by kernel_rfl
theorem e_i_within (k : Nat) : EntryOk Try.prog ⟨65, 0, (.cons (.int .i64) (.cons (.int .i64) (.cons (.int .i64) .nil))), .bool, i_within k⟩ := entry_ok tok (by simp) (by kernel_rfl) (fn := Try.f65) (k := k) (es := []) (loops := []) (by kernel_rfl) (by kernel_rfl) (fun x r h => (t_i_within k x).trans h)
def s_AddrOk (k : Nat) (x : Int × Unit) : Option (Bool × Unit × Unit) :=
((s_l01In k (x.1, ((0 : Int), ((4294967295 : Int), ())))).bind fun p1 =>
some (p1.1, ((), ())))
theorem t_s_AddrOk (k : Nat) (x) : evF TTab k [⟨64, 0, (.cons (.int .i64) (.cons (.int .i64) (.cons (.int .i64) .nil))), .bool, s_l01In k⟩] [] Try.f66 (.cons (.int .i64) .nil) .bool x = s_AddrOk k x := by kernel_rfl
theorem e_s_AddrOk (k : Nat) : EntryOk Try.prog ⟨66, 0, (.cons (.int .i64) .nil), .bool, s_AddrOk k⟩ := entry_ok tok (by intro e he; simp only [List.mem_cons, List.not_mem_nil, or_false] at he; rcases he with rfl <;> first | exact e_s_l01In k) (by kernel_rfl) (fn := Try.f66) (k := k) (es := [⟨64, 0, (.cons (.int .i64) (.cons (.int .i64) (.cons (.int .i64) .nil))), .bool, s_l01In k⟩]) (loops := []) (by kernel_rfl) (by kernel_rfl) (fun x r h => (t_s_AddrOk k x).trans h)
def s_InnerOk (k : Nat) (x : (Int × Int × ByteArray × Unit) × Unit) : Option (Bool × Unit × Unit) :=
((s_AddrOk k (x.1.1, ())).bind fun p1 =>
(if p1.1 = true then
((s_AddrOk k (x.1.2.1, ())).bind fun p2 =>
(if p2.1 = true then
some ((decide ((ByteArray.size x.1.2.2.1 : Int) ≤ (100 : Int))), ((), ()))
else
some (false, ((), ()))))
else
some (false, ((), ()))))
theorem t_s_InnerOk (k : Nat) (x) : evF TTab k [⟨66, 0, (.cons (.int .i64) .nil), .bool, s_AddrOk k⟩] [] Try.f18 (.cons (.agg (.cons (.int .i64) (.cons (.int .i64) (.cons .str .nil)))) .nil) .bool x = s_InnerOk k x := by kernel_rfl
theorem e_s_InnerOk (k : Nat) : EntryOk Try.prog ⟨18, 0, (.cons (.agg (.cons (.int .i64) (.cons (.int .i64) (.cons .str .nil)))) .nil), .bool, s_InnerOk k⟩ := entry_ok tok (by intro e he; simp only [List.mem_cons, List.not_mem_nil, or_false] at he; rcases he with rfl <;> first | exact e_s_AddrOk k) (by kernel_rfl) (fn := Try.f18) (k := k) (es := [⟨66, 0, (.cons (.int .i64) .nil), .bool, s_AddrOk k⟩]) (loops := []) (by kernel_rfl) (by kernel_rfl) (fun x r h => (t_s_InnerOk k x).trans h)
def i_AddrOk (k : Nat) (x : Int × Unit) : Option (Bool × Unit × Unit) :=
((i_within k (x.1, ((0 : Int), ((4294967295 : Int), ())))).bind fun p1 =>
some (p1.1, ((), ())))
theorem t_i_AddrOk (k : Nat) (x) : evF TTab k [⟨65, 0, (.cons (.int .i64) (.cons (.int .i64) (.cons (.int .i64) .nil))), .bool, i_within k⟩] [] Try.f67 (.cons (.int .i64) .nil) .bool x = i_AddrOk k x := by kernel_rfl
theorem e_i_AddrOk (k : Nat) : EntryOk Try.prog ⟨67, 0, (.cons (.int .i64) .nil), .bool, i_AddrOk k⟩ := entry_ok tok (by intro e he; simp only [List.mem_cons, List.not_mem_nil, or_false] at he; rcases he with rfl <;> first | exact e_i_within k) (by kernel_rfl) (fn := Try.f67) (k := k) (es := [⟨65, 0, (.cons (.int .i64) (.cons (.int .i64) (.cons (.int .i64) .nil))), .bool, i_within k⟩]) (loops := []) (by kernel_rfl) (by kernel_rfl) (fun x r h => (t_i_AddrOk k x).trans h)
def i_InnerOk (k : Nat) (x : (Int × Int × ByteArray × Unit) × Unit) : Option (Bool × Unit × Unit) :=
((i_AddrOk k (x.1.1, ())).bind fun p1 =>
(if p1.1 = true then
((i_AddrOk k (x.1.2.1, ())).bind fun p2 =>
(if p2.1 = true then
some ((decide ((ByteArray.size x.1.2.2.1 : Int) ≤ (100 : Int))), ((), ()))
else
some (false, ((), ()))))
else
some (false, ((), ()))))
theorem t_i_InnerOk (k : Nat) (x) : evF TTab k [⟨67, 0, (.cons (.int .i64) .nil), .bool, i_AddrOk k⟩] [] Try.f20 (.cons (.agg (.cons (.int .i64) (.cons (.int .i64) (.cons .str .nil)))) .nil) .bool x = i_InnerOk k x := by kernel_rfl
theorem e_i_InnerOk (k : Nat) : EntryOk Try.prog ⟨20, 0, (.cons (.agg (.cons (.int .i64) (.cons (.int .i64) (.cons .str .nil)))) .nil), .bool, i_InnerOk k⟩ := entry_ok tok (by intro e he; simp only [List.mem_cons, List.not_mem_nil, or_false] at he; rcases he with rfl <;> first | exact e_i_AddrOk k) (by kernel_rfl) (fn := Try.f20) (k := k) (es := [⟨67, 0, (.cons (.int .i64) .nil), .bool, i_AddrOk k⟩]) (loops := []) (by kernel_rfl) (by kernel_rfl) (fun x r h => (t_i_InnerOk k x).trans h)
def s_ReadNumber (k : Nat) (x : ByteArray × Unit) : Option ((Int × Bool × Unit) × Unit × Unit) :=
(if (!decide ((ByteArray.size x.1 : Int) = (4 : Int))) = true then
some (((0 : Int), (false, ())), ((), ()))
else
(if 0 ≤ (0 : Int) ∧ (0 : Int) < (ByteArray.size x.1 : Int) then
(if 0 ≤ (1 : Int) ∧ (1 : Int) < (ByteArray.size x.1 : Int) then
(if 0 ≤ (2 : Int) ∧ (2 : Int) < (ByteArray.size x.1 : Int) then
(if 0 ≤ (3 : Int) ∧ (3 : Int) < (ByteArray.size x.1 : Int) then
some (((wi64 ((wi64 ((wi64 ((wi64 ((wi64 ((bt x.1 (0 : Int)))) * (16777216 : Int))) + (wi64 ((wi64 ((bt x.1 (1 : Int)))) * (65536 : Int))))) + (wi64 ((wi64 ((bt x.1 (2 : Int)))) * (256 : Int))))) + (wi64 ((bt x.1 (3 : Int)))))), (true, ())), ((), ()))
else none)
else none)
else none)
else none))
theorem t_s_ReadNumber (k : Nat) (x) : evF TTab k [] [] Try.f68 (.cons .str .nil) (.tup (.cons (.int .i64) (.cons .bool .nil))) x = s_ReadNumber k x := by kernel_rfl
theorem e_s_ReadNumber (k : Nat) : EntryOk Try.prog ⟨68, 0, (.cons .str .nil), (.tup (.cons (.int .i64) (.cons .bool .nil))), s_ReadNumber k⟩ := entry_ok tok (by simp) (by kernel_rfl) (fn := Try.f68) (k := k) (es := []) (loops := []) (by kernel_rfl) (by kernel_rfl) (fun x r h => (t_s_ReadNumber k x).trans h)
def s_ReadInner (k : Nat) (x : ByteArray × Unit) : Option (((Int × Int × ByteArray × Unit) × Bool × Unit) × Unit × Unit) :=
((s_l01In k ((ByteArray.size x.1 : Int), ((8 : Int), ((108 : Int), ())))).bind fun p1 =>
(if (!p1.1) = true then
some ((((0 : Int), ((0 : Int), ((⟨#[]⟩ : ByteArray), ()))), (false, ())), ((), ()))
else
(if 0 ≤ (8 : Int) ∧ (8 : Int) ≤ (ByteArray.size x.1 : Int) then
(if 0 ≤ (4 : Int) ∧ (4 : Int) ≤ (ByteArray.size x.1 : Int) then
((s_ReadNumber k ((ByteArray.extract x.1 (Int.toNat (0 : Int)) (Int.toNat (4 : Int))), ())).bind fun p2 =>
(if 0 ≤ (8 : Int) ∧ (8 : Int) ≤ (ByteArray.size x.1 : Int) then
(if 0 ≤ (4 : Int) ∧ (4 : Int) ≤ (8 : Int) then
((s_ReadNumber k ((ByteArray.extract x.1 (Int.toNat (4 : Int)) (Int.toNat (8 : Int))), ())).bind fun p3 =>
some (((p2.1.1, (p3.1.1, ((ByteArray.extract x.1 (Int.toNat (8 : Int)) (Int.toNat (ByteArray.size x.1 : Int))), ()))), (true, ())), ((), ())))
else none)
else none))
else none)
else none)))
theorem t_s_ReadInner (k : Nat) (x) : evF TTab k [⟨64, 0, (.cons (.int .i64) (.cons (.int .i64) (.cons (.int .i64) .nil))), .bool, s_l01In k⟩, ⟨68, 0, (.cons .str .nil), (.tup (.cons (.int .i64) (.cons .bool .nil))), s_ReadNumber k⟩] [] Try.f21 (.cons .str .nil) (.tup (.cons (.agg (.cons (.int .i64) (.cons (.int .i64) (.cons .str .nil)))) (.cons .bool .nil))) x = s_ReadInner k x := by kernel_rfl
theorem e_s_ReadInner (k : Nat) : EntryOk Try.prog ⟨21, 0, (.cons .str .nil), (.tup (.cons (.agg (.cons (.int .i64) (.cons (.int .i64) (.cons .str .nil)))) (.cons .bool .nil))), s_ReadInner k⟩ := entry_ok tok (by intro e he; simp only [List.mem_cons, List.not_mem_nil, or_false] at he; rcases he with rfl | rfl <;> first | exact e_s_l01In k | exact e_s_ReadNumber k) (by kernel_rfl) (fn := Try.f21) (k := k) (es := [⟨64, 0, (.cons (.int .i64) (.cons (.int .i64) (.cons (.int .i64) .nil))), .bool, s_l01In k⟩, ⟨68, 0, (.cons .str .nil), (.tup (.cons (.int .i64) (.cons .bool .nil))), s_ReadNumber k⟩]) (loops := []) (by kernel_rfl) (by kernel_rfl) (fun x r h => (t_s_ReadInner k x).trans h)
def i_ReadNumber (k : Nat) (x : ByteArray × Unit) : Option ((Int × Bool × Unit) × Unit × Unit) :=
(if (!decide ((ByteArray.size x.1 : Int) = (4 : Int))) = true then
some (((0 : Int), (false, ())), ((), ()))
else
(if 0 ≤ (0 : Int) ∧ (0 : Int) < (ByteArray.size x.1 : Int) then
(if 0 ≤ (1 : Int) ∧ (1 : Int) < (ByteArray.size x.1 : Int) then
(if 0 ≤ (2 : Int) ∧ (2 : Int) < (ByteArray.size x.1 : Int) then
(if 0 ≤ (3 : Int) ∧ (3 : Int) < (ByteArray.size x.1 : Int) then
some (((bitsI .or .i64 (bitsI .or .i64 (bitsI .or .i64 (wi64 ((wi64 ((bt x.1 (0 : Int)))) * 2 ^ (min (Int.toNat (24 : Int)) (IntKind.bits .i64)))) (wi64 ((wi64 ((bt x.1 (1 : Int)))) * 2 ^ (min (Int.toNat (16 : Int)) (IntKind.bits .i64))))) (wi64 ((wi64 ((bt x.1 (2 : Int)))) * 2 ^ (min (Int.toNat (8 : Int)) (IntKind.bits .i64))))) (wi64 ((bt x.1 (3 : Int))))), (true, ())), ((), ()))
else none)
else none)
else none)
else none))
theorem t_i_ReadNumber (k : Nat) (x) : evF TTab k [] [] Try.f69 (.cons .str .nil) (.tup (.cons (.int .i64) (.cons .bool .nil))) x = i_ReadNumber k x := by kernel_rfl
theorem e_i_ReadNumber (k : Nat) : EntryOk Try.prog ⟨69, 0, (.cons .str .nil), (.tup (.cons (.int .i64) (.cons .bool .nil))), i_ReadNumber k⟩ := entry_ok tok (by simp) (by kernel_rfl) (fn := Try.f69) (k := k) (es := []) (loops := []) (by kernel_rfl) (by kernel_rfl) (fun x r h => (t_i_ReadNumber k x).trans h)
def i_ReadInner (k : Nat) (x : ByteArray × Unit) : Option (((Int × Int × ByteArray × Unit) × Bool × Unit) × Unit × Unit) :=
((i_within k ((ByteArray.size x.1 : Int), ((8 : Int), ((108 : Int), ())))).bind fun p1 =>
(if (!p1.1) = true then
some ((((0 : Int), ((0 : Int), ((⟨#[]⟩ : ByteArray), ()))), (false, ())), ((), ()))
else
(if 0 ≤ (8 : Int) ∧ (8 : Int) ≤ (ByteArray.size x.1 : Int) then
(if 0 ≤ (4 : Int) ∧ (4 : Int) ≤ (ByteArray.size x.1 : Int) then
((i_ReadNumber k ((ByteArray.extract x.1 (Int.toNat (0 : Int)) (Int.toNat (4 : Int))), ())).bind fun p2 =>
(if 0 ≤ (8 : Int) ∧ (8 : Int) ≤ (ByteArray.size x.1 : Int) then
(if 0 ≤ (4 : Int) ∧ (4 : Int) ≤ (8 : Int) then
((i_ReadNumber k ((ByteArray.extract x.1 (Int.toNat (4 : Int)) (Int.toNat (8 : Int))), ())).bind fun p3 =>
some (((p2.1.1, (p3.1.1, ((ByteArray.extract x.1 (Int.toNat (8 : Int)) (Int.toNat (ByteArray.size x.1 : Int))), ()))), (true, ())), ((), ())))
else none)
else none))
else none)
else none)))
theorem t_i_ReadInner (k : Nat) (x) : evF TTab k [⟨65, 0, (.cons (.int .i64) (.cons (.int .i64) (.cons (.int .i64) .nil))), .bool, i_within k⟩, ⟨69, 0, (.cons .str .nil), (.tup (.cons (.int .i64) (.cons .bool .nil))), i_ReadNumber k⟩] [] Try.f22 (.cons .str .nil) (.tup (.cons (.agg (.cons (.int .i64) (.cons (.int .i64) (.cons .str .nil)))) (.cons .bool .nil))) x = i_ReadInner k x := by kernel_rfl
theorem e_i_ReadInner (k : Nat) : EntryOk Try.prog ⟨22, 0, (.cons .str .nil), (.tup (.cons (.agg (.cons (.int .i64) (.cons (.int .i64) (.cons .str .nil)))) (.cons .bool .nil))), i_ReadInner k⟩ := entry_ok tok (by intro e he; simp only [List.mem_cons, List.not_mem_nil, or_false] at he; rcases he with rfl | rfl <;> first | exact e_i_within k | exact e_i_ReadNumber k) (by kernel_rfl) (fn := Try.f22) (k := k) (es := [⟨65, 0, (.cons (.int .i64) (.cons (.int .i64) (.cons (.int .i64) .nil))), .bool, i_within k⟩, ⟨69, 0, (.cons .str .nil), (.tup (.cons (.int .i64) (.cons .bool .nil))), i_ReadNumber k⟩]) (loops := []) (by kernel_rfl) (by kernel_rfl) (fun x r h => (t_i_ReadInner k x).trans h)
def s_NumberText (k : Nat) (x : Int × Unit) : Option (ByteArray × Unit × Unit) :=
((s_l01In k (x.1, ((0 : Int), ((4294967295 : Int), ())))).bind fun p1 =>
(if (!p1.1) = true then
some ((⟨#[]⟩ : ByteArray), ((), ()))
else
some ((strOf ([(wu8 ((wi64 (Int.tdiv x.1 (16777216 : Int))))), (wu8 ((Int.tmod (wi64 (Int.tdiv x.1 (65536 : Int))) (256 : Int)))), (wu8 ((Int.tmod (wi64 (Int.tdiv x.1 (256 : Int))) (256 : Int)))), (wu8 ((Int.tmod x.1 (256 : Int))))] : List (Int))), ((), ()))))
theorem t_s_NumberText (k : Nat) (x) : evF TTab k [⟨64, 0, (.cons (.int .i64) (.cons (.int .i64) (.cons (.int .i64) .nil))), .bool, s_l01In k⟩] [] Try.f70 (.cons (.int .i64) .nil) .str x = s_NumberText k x := by kernel_rfl
theorem e_s_NumberText (k : Nat) : EntryOk Try.prog ⟨70, 0, (.cons (.int .i64) .nil), .str, s_NumberText k⟩ := entry_ok tok (by intro e he; simp only [List.mem_cons, List.not_mem_nil, or_false] at he; rcases he with rfl <;> first | exact e_s_l01In k) (by kernel_rfl) (fn := Try.f70) (k := k) (es := [⟨64, 0, (.cons (.int .i64) (.cons (.int .i64) (.cons (.int .i64) .nil))), .bool, s_l01In k⟩]) (loops := []) (by kernel_rfl) (by kernel_rfl) (fun x r h => (t_s_NumberText k x).trans h)
def s_InnerText (k : Nat) (x : (Int × Int × ByteArray × Unit) × Unit) : Option ((ByteArray × Bool × Unit) × Unit × Unit) :=
((s_InnerOk k ((x.1.1, (x.1.2.1, (x.1.2.2.1, ()))), ())).bind fun p1 =>
(if (!p1.1) = true then
some (((⟨#[]⟩ : ByteArray), (false, ())), ((), ()))
else
((s_NumberText k (x.1.1, ())).bind fun p2 =>
((s_NumberText k (x.1.2.1, ())).bind fun p3 =>
(if ByteArray.size p2.1 + ByteArray.size p3.1 ≤ maxStr then
(if ByteArray.size (p2.1 ++ p3.1) + ByteArray.size x.1.2.2.1 ≤ maxStr then
some ((((p2.1 ++ p3.1) ++ x.1.2.2.1), (true, ())), ((), ()))
else none)
else none)))))
theorem t_s_InnerText (k : Nat) (x) : evF TTab k [⟨18, 0, (.cons (.agg (.cons (.int .i64) (.cons (.int .i64) (.cons .str .nil)))) .nil), .bool, s_InnerOk k⟩, ⟨70, 0, (.cons (.int .i64) .nil), .str, s_NumberText k⟩] [] Try.f24 (.cons (.agg (.cons (.int .i64) (.cons (.int .i64) (.cons .str .nil)))) .nil) (.tup (.cons .str (.cons .bool .nil))) x = s_InnerText k x := by kernel_rfl
theorem e_s_InnerText (k : Nat) : EntryOk Try.prog ⟨24, 0, (.cons (.agg (.cons (.int .i64) (.cons (.int .i64) (.cons .str .nil)))) .nil), (.tup (.cons .str (.cons .bool .nil))), s_InnerText k⟩ := entry_ok tok (by intro e he; simp only [List.mem_cons, List.not_mem_nil, or_false] at he; rcases he with rfl | rfl <;> first | exact e_s_InnerOk k | exact e_s_NumberText k) (by kernel_rfl) (fn := Try.f24) (k := k) (es := [⟨18, 0, (.cons (.agg (.cons (.int .i64) (.cons (.int .i64) (.cons .str .nil)))) .nil), .bool, s_InnerOk k⟩, ⟨70, 0, (.cons (.int .i64) .nil), .str, s_NumberText k⟩]) (loops := []) (by kernel_rfl) (by kernel_rfl) (fun x r h => (t_s_InnerText k x).trans h)
def i_NumberText (k : Nat) (x : Int × Unit) : Option (ByteArray × Unit × Unit) :=
((i_within k (x.1, ((0 : Int), ((4294967295 : Int), ())))).bind fun p1 =>
(if (!p1.1) = true then
some ((⟨#[]⟩ : ByteArray), ((), ()))
else
some ((strOf ([(wu8 ((bitsI .and .i64 (Int.fdiv x.1 (2 ^ (min (Int.toNat (24 : Int)) (IntKind.bits .i64)))) (255 : Int)))), (wu8 ((bitsI .and .i64 (Int.fdiv x.1 (2 ^ (min (Int.toNat (16 : Int)) (IntKind.bits .i64)))) (255 : Int)))), (wu8 ((bitsI .and .i64 (Int.fdiv x.1 (2 ^ (min (Int.toNat (8 : Int)) (IntKind.bits .i64)))) (255 : Int)))), (wu8 ((bitsI .and .i64 x.1 (255 : Int))))] : List (Int))), ((), ()))))
theorem t_i_NumberText (k : Nat) (x) : evF TTab k [⟨65, 0, (.cons (.int .i64) (.cons (.int .i64) (.cons (.int .i64) .nil))), .bool, i_within k⟩] [] Try.f71 (.cons (.int .i64) .nil) .str x = i_NumberText k x := by kernel_rfl
theorem e_i_NumberText (k : Nat) : EntryOk Try.prog ⟨71, 0, (.cons (.int .i64) .nil), .str, i_NumberText k⟩ := entry_ok tok (by intro e he; simp only [List.mem_cons, List.not_mem_nil, or_false] at he; rcases he with rfl <;> first | exact e_i_within k) (by kernel_rfl) (fn := Try.f71) (k := k) (es := [⟨65, 0, (.cons (.int .i64) (.cons (.int .i64) (.cons (.int .i64) .nil))), .bool, i_within k⟩]) (loops := []) (by kernel_rfl) (by kernel_rfl) (fun x r h => (t_i_NumberText k x).trans h)
def i_InnerText (k : Nat) (x : (Int × Int × ByteArray × Unit) × Unit) : Option ((ByteArray × Bool × Unit) × Unit × Unit) :=
((i_InnerOk k ((x.1.1, (x.1.2.1, (x.1.2.2.1, ()))), ())).bind fun p1 =>
(if (!p1.1) = true then
some (((⟨#[]⟩ : ByteArray), (false, ())), ((), ()))
else
((i_NumberText k (x.1.1, ())).bind fun p2 =>
((i_NumberText k (x.1.2.1, ())).bind fun p3 =>
(if ByteArray.size p2.1 + ByteArray.size p3.1 ≤ maxStr then
(if ByteArray.size (p2.1 ++ p3.1) + ByteArray.size x.1.2.2.1 ≤ maxStr then
some ((((p2.1 ++ p3.1) ++ x.1.2.2.1), (true, ())), ((), ()))
else none)
else none)))))
theorem t_i_InnerText (k : Nat) (x) : evF TTab k [⟨20, 0, (.cons (.agg (.cons (.int .i64) (.cons (.int .i64) (.cons .str .nil)))) .nil), .bool, i_InnerOk k⟩, ⟨71, 0, (.cons (.int .i64) .nil), .str, i_NumberText k⟩] [] Try.f25 (.cons (.agg (.cons (.int .i64) (.cons (.int .i64) (.cons .str .nil)))) .nil) (.tup (.cons .str (.cons .bool .nil))) x = i_InnerText k x := by kernel_rfl
theorem e_i_InnerText (k : Nat) : EntryOk Try.prog ⟨25, 0, (.cons (.agg (.cons (.int .i64) (.cons (.int .i64) (.cons .str .nil)))) .nil), (.tup (.cons .str (.cons .bool .nil))), i_InnerText k⟩ := entry_ok tok (by intro e he; simp only [List.mem_cons, List.not_mem_nil, or_false] at he; rcases he with rfl | rfl <;> first | exact e_i_InnerOk k | exact e_i_NumberText k) (by kernel_rfl) (fn := Try.f25) (k := k) (es := [⟨20, 0, (.cons (.agg (.cons (.int .i64) (.cons (.int .i64) (.cons .str .nil)))) .nil), .bool, i_InnerOk k⟩, ⟨71, 0, (.cons (.int .i64) .nil), .str, i_NumberText k⟩]) (loops := []) (by kernel_rfl) (by kernel_rfl) (fun x r h => (t_i_InnerText k x).trans h)
def s_l05Byte (k : Nat) (x : Int × Unit) : Option (ByteArray × Unit × Unit) :=
(if (decide ((Int.tmod x.1 (256 : Int)) < (0 : Int))) = true then
some ((strOf ([(wu8 ((wi64 ((Int.tmod x.1 (256 : Int)) + (256 : Int)))))] : List (Int))), ((), ()))
else
some ((strOf ([(wu8 ((Int.tmod x.1 (256 : Int))))] : List (Int))), ((), ())))
theorem t_s_l05Byte (k : Nat) (x) : evF TTab k [] [] Try.f75 (.cons (.int .i64) .nil) .str x = s_l05Byte k x := by kernel_rfl
theorem e_s_l05Byte (k : Nat) : EntryOk Try.prog ⟨75, 0, (.cons (.int .i64) .nil), .str, s_l05Byte k⟩ := entry_ok tok (by simp) (by kernel_rfl) (fn := Try.f75) (k := k) (es := []) (loops := []) (by kernel_rfl) (by kernel_rfl) (fun x r h => (t_s_l05Byte k x).trans h)
def s_Split (k : Nat) (x : Int × ByteArray × Int × Unit) : Option ((List (ByteArray) × Bool × Unit) × Unit × Unit × Unit × Unit) :=
((s_l01In k (x.1, ((0 : Int), ((255 : Int), ())))).bind fun p1 =>
(if (!p1.1) = false then
((s_l01In k (x.2.2.1, ((20 : Int), ((120 : Int), ())))).bind fun p2 =>
(if (!p2.1) = false then
(if (decide ((300 : Int) < (ByteArray.size x.2.1 : Int))) = true then
some ((([] : List (ByteArray)), (false, ())), ((), ((), ((), ()))))
else
(if x.2.2.1 = 0 then
none
else
(jn (fun (j2v0 : Int) =>
(if (decide ((15 : Int) < j2v0)) = true then
some ((([] : List (ByteArray)), (false, ())), ((), ((), ((), ()))))
else
(whileK (fun (rec0 : (Int × ByteArray × Int × Int × List (ByteArray) × Int × Unit) → Option _) (y0 : Int × ByteArray × Int × Int × List (ByteArray) × Int × Unit) =>
(if (decide (y0.2.2.2.2.2.1 < y0.2.2.2.1)) = true then
(jn (fun (j3v0 : Int) =>
((s_l05Byte k (y0.1, ())).bind fun p12 =>
((s_l05Byte k (y0.2.2.2.2.2.1, ())).bind fun p13 =>
(if ByteArray.size p12.1 + ByteArray.size p13.1 ≤ maxStr then
((s_l05Byte k (y0.2.2.2.1, ())).bind fun p14 =>
(if ByteArray.size (p12.1 ++ p13.1) + ByteArray.size p14.1 ≤ maxStr then
(if 0 ≤ j3v0 ∧ j3v0 ≤ (ByteArray.size y0.2.1 : Int) then
(if 0 ≤ (wi64 (y0.2.2.2.2.2.1 * y0.2.2.1)) ∧ (wi64 (y0.2.2.2.2.2.1 * y0.2.2.1)) ≤ j3v0 then
(if ByteArray.size ((p12.1 ++ p13.1) ++ p14.1) + ByteArray.size (ByteArray.extract y0.2.1 (Int.toNat (wi64 (y0.2.2.2.2.2.1 * y0.2.2.1))) (Int.toNat j3v0)) ≤ maxStr then
(if List.length y0.2.2.2.2.1 + List.length ([(((p12.1 ++ p13.1) ++ p14.1) ++ (ByteArray.extract y0.2.1 (Int.toNat (wi64 (y0.2.2.2.2.2.1 * y0.2.2.1))) (Int.toNat j3v0)))] : List (ByteArray)) ≤ capMax then
(rec0 (y0.1, (y0.2.1, (y0.2.2.1, (y0.2.2.2.1, ((y0.2.2.2.2.1 ++ ([(((p12.1 ++ p13.1) ++ p14.1) ++ (ByteArray.extract y0.2.1 (Int.toNat (wi64 (y0.2.2.2.2.2.1 * y0.2.2.1))) (Int.toNat j3v0)))] : List (ByteArray))), ((wi64 (y0.2.2.2.2.2.1 + (1 : Int))), ())))))))
else none)
else none)
else none)
else none)
else none))
else none)))) (fun (j3 : Int → Option _) =>
(if (decide ((ByteArray.size y0.2.1 : Int) < (wi64 ((wi64 (y0.2.2.2.2.2.1 + (1 : Int))) * y0.2.2.1)))) = true then
(j3 (ByteArray.size y0.2.1 : Int))
else
(j3 (wi64 ((wi64 (y0.2.2.2.2.2.1 + (1 : Int))) * y0.2.2.1))))))
else
((fun (z2 : List (ByteArray) × Unit) =>
some ((z2.1, (true, ())), ((), ((), ((), ()))))) (y0.2.2.2.2.1, ())))) k (x.1, (x.2.1, (x.2.2.1, (j2v0, (([] : List (ByteArray)), ((0 : Int), ()))))))))) (fun (j2 : Int → Option _) =>
(if (decide ((wi64 (Int.tdiv (wi64 ((wi64 ((ByteArray.size x.2.1 : Int) + x.2.2.1)) - (1 : Int))) x.2.2.1)) = (0 : Int))) = true then
(j2 (1 : Int))
else
(j2 (wi64 (Int.tdiv (wi64 ((wi64 ((ByteArray.size x.2.1 : Int) + x.2.2.1)) - (1 : Int))) x.2.2.1))))))))
else
some ((([] : List (ByteArray)), (false, ())), ((), ((), ((), ()))))))
else
some ((([] : List (ByteArray)), (false, ())), ((), ((), ((), ()))))))
theorem t_s_Split (k : Nat) (x) : evF TTab k [⟨64, 0, (.cons (.int .i64) (.cons (.int .i64) (.cons (.int .i64) .nil))), .bool, s_l01In k⟩, ⟨75, 0, (.cons (.int .i64) .nil), .str, s_l05Byte k⟩] [(0, ⟨[0, 1, 2, 8, 9, 10], (.cons (.int .i64) (.cons .str (.cons (.int .i64) (.cons (.int .i64) (.cons (.own false 9 .str) (.cons (.int .i64) .nil))))))⟩, ⟨[9], (.cons (.own false 9 .str) .nil)⟩)] Try.f30 (.cons (.int .i64) (.cons .str (.cons (.int .i64) .nil))) (.tup (.cons (.own false 9 .str) (.cons .bool .nil))) x = s_Split k x := by kernel_rfl
theorem e_s_Split (k : Nat) : EntryOk Try.prog ⟨30, 0, (.cons (.int .i64) (.cons .str (.cons (.int .i64) .nil))), (.tup (.cons (.own false 9 .str) (.cons .bool .nil))), s_Split k⟩ := entry_ok tok (by intro e he; simp only [List.mem_cons, List.not_mem_nil, or_false] at he; rcases he with rfl | rfl <;> first | exact e_s_l01In k | exact e_s_l05Byte k) (by kernel_rfl) (fn := Try.f30) (k := k) (es := [⟨64, 0, (.cons (.int .i64) (.cons (.int .i64) (.cons (.int .i64) .nil))), .bool, s_l01In k⟩, ⟨75, 0, (.cons (.int .i64) .nil), .str, s_l05Byte k⟩]) (loops := [(0, ⟨[0, 1, 2, 8, 9, 10], (.cons (.int .i64) (.cons .str (.cons (.int .i64) (.cons (.int .i64) (.cons (.own false 9 .str) (.cons (.int .i64) .nil))))))⟩, ⟨[9], (.cons (.own false 9 .str) .nil)⟩)]) (by kernel_rfl) (by kernel_rfl) (fun x r h => (t_s_Split k x).trans h)
def i_byteText (k : Nat) (x : Int × Unit) : Option (ByteArray × Unit × Unit) :=
some ((strOf ([(wu8 (x.1))] : List (Int))), ((), ()))
theorem t_i_byteText (k : Nat) (x) : evF TTab k [] [] Try.f76 (.cons (.int .i64) .nil) .str x = i_byteText k x := by kernel_rfl
theorem e_i_byteText (k : Nat) : EntryOk Try.prog ⟨76, 0, (.cons (.int .i64) .nil), .str, i_byteText k⟩ := entry_ok tok (by simp) (by kernel_rfl) (fn := Try.f76) (k := k) (es := []) (loops := []) (by kernel_rfl) (by kernel_rfl) (fun x r h => (t_i_byteText k x).trans h)
def i_Split (k : Nat) (x : Int × ByteArray × Int × Unit) : Option ((List (ByteArray) × Bool × Unit) × Unit × Unit × Unit × Unit) :=
((i_within k (x.1, ((0 : Int), ((255 : Int), ())))).bind fun p1 =>
(if (!p1.1) = false then
((i_within k (x.2.2.1, ((20 : Int), ((120 : Int), ())))).bind fun p2 =>
(if (!p2.1) = false then
(if (decide ((300 : Int) < (ByteArray.size x.2.1 : Int))) = true then
some (([], (false, ())), ((), ((), ((), ()))))
else
(if x.2.2.1 = 0 then
none
else
(if (decide ((15 : Int) < (if (1 : Int) < (wi64 (Int.tdiv (wi64 ((wi64 ((ByteArray.size x.2.1 : Int) + x.2.2.1)) - (1 : Int))) x.2.2.1)) then (wi64 (Int.tdiv (wi64 ((wi64 ((ByteArray.size x.2.1 : Int) + x.2.2.1)) - (1 : Int))) x.2.2.1)) else (1 : Int)))) = true then
some (([], (false, ())), ((), ((), ((), ()))))
else
(whileK (fun (rec0 : (Int × ByteArray × Int × Int × List (ByteArray) × Int × Int × Unit) → Option _) (y0 : Int × ByteArray × Int × Int × List (ByteArray) × Int × Int × Unit) =>
(if (decide (y0.2.2.2.2.2.2.1 < y0.2.2.2.2.2.1)) = true then
(if 0 ≤ (if (ByteArray.size y0.2.1 : Int) < (wi64 ((wi64 (y0.2.2.2.2.2.2.1 + (1 : Int))) * y0.2.2.1)) then (ByteArray.size y0.2.1 : Int) else (wi64 ((wi64 (y0.2.2.2.2.2.2.1 + (1 : Int))) * y0.2.2.1))) ∧ (if (ByteArray.size y0.2.1 : Int) < (wi64 ((wi64 (y0.2.2.2.2.2.2.1 + (1 : Int))) * y0.2.2.1)) then (ByteArray.size y0.2.1 : Int) else (wi64 ((wi64 (y0.2.2.2.2.2.2.1 + (1 : Int))) * y0.2.2.1))) ≤ (ByteArray.size y0.2.1 : Int) then
(if 0 ≤ (wi64 (y0.2.2.2.2.2.2.1 * y0.2.2.1)) ∧ (wi64 (y0.2.2.2.2.2.2.1 * y0.2.2.1)) ≤ (if (ByteArray.size y0.2.1 : Int) < (wi64 ((wi64 (y0.2.2.2.2.2.2.1 + (1 : Int))) * y0.2.2.1)) then (ByteArray.size y0.2.1 : Int) else (wi64 ((wi64 (y0.2.2.2.2.2.2.1 + (1 : Int))) * y0.2.2.1))) then
((i_byteText k (y0.1, ())).bind fun p3 =>
((i_byteText k (y0.2.2.2.2.2.2.1, ())).bind fun p4 =>
(if ByteArray.size p3.1 + ByteArray.size p4.1 ≤ maxStr then
((i_byteText k (y0.2.2.2.1, ())).bind fun p5 =>
(if ByteArray.size (p3.1 ++ p4.1) + ByteArray.size p5.1 ≤ maxStr then
(if ByteArray.size ((p3.1 ++ p4.1) ++ p5.1) + ByteArray.size (ByteArray.extract y0.2.1 (Int.toNat (wi64 (y0.2.2.2.2.2.2.1 * y0.2.2.1))) (Int.toNat (if (ByteArray.size y0.2.1 : Int) < (wi64 ((wi64 (y0.2.2.2.2.2.2.1 + (1 : Int))) * y0.2.2.1)) then (ByteArray.size y0.2.1 : Int) else (wi64 ((wi64 (y0.2.2.2.2.2.2.1 + (1 : Int))) * y0.2.2.1))))) ≤ maxStr then
(if List.length y0.2.2.2.2.1 + List.length ([(((p3.1 ++ p4.1) ++ p5.1) ++ (ByteArray.extract y0.2.1 (Int.toNat (wi64 (y0.2.2.2.2.2.2.1 * y0.2.2.1))) (Int.toNat (if (ByteArray.size y0.2.1 : Int) < (wi64 ((wi64 (y0.2.2.2.2.2.2.1 + (1 : Int))) * y0.2.2.1)) then (ByteArray.size y0.2.1 : Int) else (wi64 ((wi64 (y0.2.2.2.2.2.2.1 + (1 : Int))) * y0.2.2.1))))))] : List (ByteArray)) ≤ capMax then
(rec0 (y0.1, (y0.2.1, (y0.2.2.1, (y0.2.2.2.1, ((y0.2.2.2.2.1 ++ ([(((p3.1 ++ p4.1) ++ p5.1) ++ (ByteArray.extract y0.2.1 (Int.toNat (wi64 (y0.2.2.2.2.2.2.1 * y0.2.2.1))) (Int.toNat (if (ByteArray.size y0.2.1 : Int) < (wi64 ((wi64 (y0.2.2.2.2.2.2.1 + (1 : Int))) * y0.2.2.1)) then (ByteArray.size y0.2.1 : Int) else (wi64 ((wi64 (y0.2.2.2.2.2.2.1 + (1 : Int))) * y0.2.2.1))))))] : List (ByteArray))), (y0.2.2.2.2.2.1, ((wi64 (y0.2.2.2.2.2.2.1 + (1 : Int))), ()))))))))
else none)
else none)
else none))
else none)))
else none)
else none)
else
((fun (z1 : List (ByteArray) × Unit) =>
some ((z1.1, (true, ())), ((), ((), ((), ()))))) (y0.2.2.2.2.1, ())))) k (x.1, (x.2.1, (x.2.2.1, ((if (1 : Int) < (wi64 (Int.tdiv (wi64 ((wi64 ((ByteArray.size x.2.1 : Int) + x.2.2.1)) - (1 : Int))) x.2.2.1)) then (wi64 (Int.tdiv (wi64 ((wi64 ((ByteArray.size x.2.1 : Int) + x.2.2.1)) - (1 : Int))) x.2.2.1)) else (1 : Int)), (([] : List (ByteArray)), ((if (1 : Int) < (wi64 (Int.tdiv (wi64 ((wi64 ((ByteArray.size x.2.1 : Int) + x.2.2.1)) - (1 : Int))) x.2.2.1)) then (wi64 (Int.tdiv (wi64 ((wi64 ((ByteArray.size x.2.1 : Int) + x.2.2.1)) - (1 : Int))) x.2.2.1)) else (1 : Int)), ((0 : Int), ())))))))))))
else
some (([], (false, ())), ((), ((), ((), ()))))))
else
some (([], (false, ())), ((), ((), ((), ()))))))
theorem t_i_Split (k : Nat) (x) : evF TTab k [⟨65, 0, (.cons (.int .i64) (.cons (.int .i64) (.cons (.int .i64) .nil))), .bool, i_within k⟩, ⟨76, 0, (.cons (.int .i64) .nil), .str, i_byteText k⟩] [(0, ⟨[0, 1, 2, 8, 9, 36, 37], (.cons (.int .i64) (.cons .str (.cons (.int .i64) (.cons (.int .i64) (.cons (.own false 9 .str) (.cons (.int .i64) (.cons (.int .i64) .nil)))))))⟩, ⟨[9], (.cons (.own false 9 .str) .nil)⟩)] Try.f31 (.cons (.int .i64) (.cons .str (.cons (.int .i64) .nil))) (.tup (.cons (.own false 9 .str) (.cons .bool .nil))) x = i_Split k x := by kernel_rfl
theorem e_i_Split (k : Nat) : EntryOk Try.prog ⟨31, 0, (.cons (.int .i64) (.cons .str (.cons (.int .i64) .nil))), (.tup (.cons (.own false 9 .str) (.cons .bool .nil))), i_Split k⟩ := entry_ok tok (by intro e he; simp only [List.mem_cons, List.not_mem_nil, or_false] at he; rcases he with rfl | rfl <;> first | exact e_i_within k | exact e_i_byteText k) (by kernel_rfl) (fn := Try.f31) (k := k) (es := [⟨65, 0, (.cons (.int .i64) (.cons (.int .i64) (.cons (.int .i64) .nil))), .bool, i_within k⟩, ⟨76, 0, (.cons (.int .i64) .nil), .str, i_byteText k⟩]) (loops := [(0, ⟨[0, 1, 2, 8, 9, 36, 37], (.cons (.int .i64) (.cons .str (.cons (.int .i64) (.cons (.int .i64) (.cons (.own false 9 .str) (.cons (.int .i64) (.cons (.int .i64) .nil)))))))⟩, ⟨[9], (.cons (.own false 9 .str) .nil)⟩)]) (by kernel_rfl) (by kernel_rfl) (fun x r h => (t_i_Split k x).trans h)
def w_eqStringS (k : Nat) (x : List (ByteArray) × List (ByteArray) × Unit) : Option (Bool × Unit × Unit × Unit) :=
(if (!decide ((List.length x.1 : Int) = (List.length x.2.1 : Int))) = true then
some (false, ((), ((), ())))
else
(whileK (fun (rec0 : (List (ByteArray) × List (ByteArray) × Int × Unit) → Option _) (y0 : List (ByteArray) × List (ByteArray) × Int × Unit) =>
(if (decide (y0.2.2.1 < (List.length y0.1 : Int))) = true then
(if 0 ≤ y0.2.2.1 ∧ y0.2.2.1 < (List.length y0.1 : Int) then
(if 0 ≤ y0.2.2.1 ∧ y0.2.2.1 < (List.length y0.2.1 : Int) then
(if (!decide ((Ty.rd (t := .str) y0.1 y0.2.2.1) = (Ty.rd (t := .str) y0.2.1 y0.2.2.1))) = true then
some (false, ((), ((), ())))
else
(rec0 (y0.1, (y0.2.1, ((wi64 (y0.2.2.1 + (1 : Int))), ())))))
else none)
else none)
else
((fun (z1 : Unit) =>
some (true, ((), ((), ())))) ()))) k (x.1, (x.2.1, ((0 : Int), ())))))
theorem t_w_eqStringS (k : Nat) (x) : evF TTab k [] [(0, ⟨[0, 1, 5], (.cons (.il true .str) (.cons (.il true .str) (.cons (.int .i64) .nil)))⟩, ⟨[], .nil⟩)] Try.f32 (.cons (.il true .str) (.cons (.il true .str) .nil)) .bool x = w_eqStringS k x := by kernel_rfl
theorem e_w_eqStringS (k : Nat) : EntryOk Try.prog ⟨32, 0, (.cons (.il true .str) (.cons (.il true .str) .nil)), .bool, w_eqStringS k⟩ := entry_ok tok (by simp) (by kernel_rfl) (fn := Try.f32) (k := k) (es := []) (loops := [(0, ⟨[0, 1, 5], (.cons (.il true .str) (.cons (.il true .str) (.cons (.int .i64) .nil)))⟩, ⟨[], .nil⟩)]) (by kernel_rfl) (by kernel_rfl) (fun x r h => (t_w_eqStringS k x).trans h)
def w_markText (k : Nat) (x : Int × Unit) : Option (ByteArray × Unit × Unit) :=
(if (decide (x.1 ≤ (0 : Int))) = true then
some ((⟨#[109, 48]⟩ : ByteArray), ((), ()))
else
(whileK (fun (rec0 : (Int × ByteArray × Unit) → Option _) (y0 : Int × ByteArray × Unit) =>
(if (decide ((0 : Int) < y0.1)) = true then
(if ByteArray.size (strOf ([(wu8 ((wi64 ((48 : Int) + (Int.tmod y0.1 (10 : Int))))))] : List (Int))) + ByteArray.size y0.2.1 ≤ maxStr then
(rec0 ((wi64 (Int.tdiv y0.1 (10 : Int))), (((strOf ([(wu8 ((wi64 ((48 : Int) + (Int.tmod y0.1 (10 : Int))))))] : List (Int))) ++ y0.2.1), ())))
else none)
else
((fun (z1 : ByteArray × Unit) =>
(if ByteArray.size (⟨#[109]⟩ : ByteArray) + ByteArray.size z1.1 ≤ maxStr then
some (((⟨#[109]⟩ : ByteArray) ++ z1.1), ((), ()))
else none)) (y0.2.1, ())))) k (x.1, ((⟨#[]⟩ : ByteArray), ()))))
theorem t_w_markText (k : Nat) (x) : evF TTab k [] [(0, ⟨[0, 3], (.cons (.int .i64) (.cons .str .nil))⟩, ⟨[3], (.cons .str .nil)⟩)] Try.f77 (.cons (.int .i64) .nil) .str x = w_markText k x := by kernel_rfl
theorem e_w_markText (k : Nat) : EntryOk Try.prog ⟨77, 0, (.cons (.int .i64) .nil), .str, w_markText k⟩ := entry_ok tok (by simp) (by kernel_rfl) (fn := Try.f77) (k := k) (es := []) (loops := [(0, ⟨[0, 3], (.cons (.int .i64) (.cons .str .nil))⟩, ⟨[3], (.cons .str .nil)⟩)]) (by kernel_rfl) (by kernel_rfl) (fun x r h => (t_w_markText k x).trans h)
def w_markStringS (k : Nat) (x : List (ByteArray) × Int × Unit) : Option (Int × List (ByteArray) × Unit × Unit) :=
(whileK (fun (rec0 : (List (ByteArray) × Int × Int × Unit) → Option _) (y0 : List (ByteArray) × Int × Int × Unit) =>
(if (decide (y0.2.2.1 < (List.length y0.1 : Int))) = true then
((w_markText k (y0.2.1, ())).bind fun p1 =>
(if 0 ≤ y0.2.2.1 ∧ y0.2.2.1 < (List.length y0.1 : Int) then
(rec0 ((List.set y0.1 (Int.toNat y0.2.2.1) p1.1), ((wi64 (y0.2.1 + (1 : Int))), ((wi64 (y0.2.2.1 + (1 : Int))), ()))))
else none))
else
((fun (z1 : List (ByteArray) × Int × Unit) =>
some (z1.2.1, (z1.1, ((), ())))) (y0.1, (y0.2.1, ()))))) k (x.1, (x.2.1, ((0 : Int), ()))))
theorem t_w_markStringS (k : Nat) (x) : evF TTab k [⟨77, 0, (.cons (.int .i64) .nil), .str, w_markText k⟩] [(0, ⟨[0, 1, 5], (.cons (.own false 9 .str) (.cons (.int .i64) (.cons (.int .i64) .nil)))⟩, ⟨[0, 1], (.cons (.own false 9 .str) (.cons (.int .i64) .nil))⟩)] Try.f33 (.cons (.mut false 9 .str) (.cons (.int .i64) .nil)) (.int .i64) x = w_markStringS k x := by kernel_rfl
theorem e_w_markStringS (k : Nat) : EntryOk Try.prog ⟨33, 0, (.cons (.mut false 9 .str) (.cons (.int .i64) .nil)), (.int .i64), w_markStringS k⟩ := entry_ok tok (by intro e he; simp only [List.mem_cons, List.not_mem_nil, or_false] at he; rcases he with rfl <;> first | exact e_w_markText k) (by kernel_rfl) (fn := Try.f33) (k := k) (es := [⟨77, 0, (.cons (.int .i64) .nil), .str, w_markText k⟩]) (loops := [(0, ⟨[0, 1, 5], (.cons (.own false 9 .str) (.cons (.int .i64) (.cons (.int .i64) .nil)))⟩, ⟨[0, 1], (.cons (.own false 9 .str) (.cons (.int .i64) .nil))⟩)]) (by kernel_rfl) (by kernel_rfl) (fun x r h => (t_w_markStringS k x).trans h)
def w_heldStringS (k : Nat) (x : List (ByteArray) × Int × Unit) : Option (Int × Unit × Unit × Unit) :=
(whileK (fun (rec0 : (List (ByteArray) × Int × Int × Unit) → Option _) (y0 : List (ByteArray) × Int × Int × Unit) =>
(if (decide (y0.2.2.1 < (List.length y0.1 : Int))) = true then
(if 0 ≤ y0.2.2.1 ∧ y0.2.2.1 < (List.length y0.1 : Int) then
((w_markText k (y0.2.1, ())).bind fun p1 =>
(if (!decide ((Ty.rd (t := .str) y0.1 y0.2.2.1) = p1.1)) = true then
some ((-1 : Int), ((), ((), ())))
else
(rec0 (y0.1, ((wi64 (y0.2.1 + (1 : Int))), ((wi64 (y0.2.2.1 + (1 : Int))), ()))))))
else none)
else
((fun (z1 : Int × Unit) =>
some (z1.1, ((), ((), ())))) (y0.2.1, ())))) k (x.1, (x.2.1, ((0 : Int), ()))))
theorem t_w_heldStringS (k : Nat) (x) : evF TTab k [⟨77, 0, (.cons (.int .i64) .nil), .str, w_markText k⟩] [(0, ⟨[0, 1, 5], (.cons (.il true .str) (.cons (.int .i64) (.cons (.int .i64) .nil)))⟩, ⟨[1], (.cons (.int .i64) .nil)⟩)] Try.f34 (.cons (.il true .str) (.cons (.int .i64) .nil)) (.int .i64) x = w_heldStringS k x := by kernel_rfl
theorem e_w_heldStringS (k : Nat) : EntryOk Try.prog ⟨34, 0, (.cons (.il true .str) (.cons (.int .i64) .nil)), (.int .i64), w_heldStringS k⟩ := entry_ok tok (by intro e he; simp only [List.mem_cons, List.not_mem_nil, or_false] at he; rcases he with rfl <;> first | exact e_w_markText k) (by kernel_rfl) (fn := Try.f34) (k := k) (es := [⟨77, 0, (.cons (.int .i64) .nil), .str, w_markText k⟩]) (loops := [(0, ⟨[0, 1, 5], (.cons (.il true .str) (.cons (.int .i64) (.cons (.int .i64) .nil)))⟩, ⟨[1], (.cons (.int .i64) .nil)⟩)]) (by kernel_rfl) (by kernel_rfl) (fun x r h => (t_w_heldStringS k x).trans h)
def w_FnExactSplit (k : Nat) (x : Int × ByteArray × Int × Unit) : Option (Bool × Unit × Unit × Unit × Unit) :=
(if (decide ((1048576 : Int) < (ByteArray.size x.2.1 : Int))) = true then
some (true, ((), ((), ((), ()))))
else
((s_Split k (x.1, (x.2.1, (x.2.2.1, ())))).bind fun p1 =>
((i_Split k (x.1, (x.2.1, (x.2.2.1, ())))).bind fun p2 =>
((w_eqStringS k (p2.1.1, (p1.1.1, ()))).bind fun p3 =>
(if (!p3.1) = false then
(if (!decide (p2.1.2.1 = p1.1.2.1)) = true then
some (false, ((), ((), ((), ()))))
else
((w_markStringS k (p2.1.1, ((1 : Int), ()))).bind fun p4 =>
((w_heldStringS k (p4.2.1, ((1 : Int), ()))).bind fun p5 =>
(if (decide (p5.1 < (0 : Int))) = true then
some (false, ((), ((), ((), ()))))
else
(if (!decide (p5.1 = p4.1)) = true then
some (false, ((), ((), ((), ()))))
else
((i_Split k (x.1, (x.2.1, (x.2.2.1, ())))).bind fun p6 =>
((w_eqStringS k (p6.1.1, (p1.1.1, ()))).bind fun p7 =>
(if (!p7.1) = false then
(if (!decide (p6.1.2.1 = p1.1.2.1)) = true then
some (false, ((), ((), ((), ()))))
else
((w_heldStringS k (p4.2.1, ((1 : Int), ()))).bind fun p8 =>
(if (decide (p8.1 < (0 : Int))) = true then
some (false, ((), ((), ((), ()))))
else
(if (!decide (p8.1 = p4.1)) = true then
some (false, ((), ((), ((), ()))))
else
some (true, ((), ((), ((), ()))))))))
else
some (false, ((), ((), ((), ()))))))))))))
else
some (false, ((), ((), ((), ())))))))))
theorem t_w_FnExactSplit (k : Nat) (x) : evF TTab k [⟨30, 0, (.cons (.int .i64) (.cons .str (.cons (.int .i64) .nil))), (.tup (.cons (.own false 9 .str) (.cons .bool .nil))), s_Split k⟩, ⟨31, 0, (.cons (.int .i64) (.cons .str (.cons (.int .i64) .nil))), (.tup (.cons (.own false 9 .str) (.cons .bool .nil))), i_Split k⟩, ⟨32, 0, (.cons (.il true .str) (.cons (.il true .str) .nil)), .bool, w_eqStringS k⟩, ⟨33, 0, (.cons (.mut false 9 .str) (.cons (.int .i64) .nil)), (.int .i64), w_markStringS k⟩, ⟨34, 0, (.cons (.il true .str) (.cons (.int .i64) .nil)), (.int .i64), w_heldStringS k⟩] [] Try.f8 (.cons (.int .i64) (.cons .str (.cons (.int .i64) .nil))) .bool x = w_FnExactSplit k x := by kernel_rfl
theorem e_w_FnExactSplit (k : Nat) : EntryOk Try.prog ⟨8, 0, (.cons (.int .i64) (.cons .str (.cons (.int .i64) .nil))), .bool, w_FnExactSplit k⟩ := entry_ok tok (by intro e he; simp only [List.mem_cons, List.not_mem_nil, or_false] at he; rcases he with rfl | rfl | rfl | rfl | rfl <;> first | exact e_s_Split k | exact e_i_Split k | exact e_w_eqStringS k | exact e_w_markStringS k | exact e_w_heldStringS k) (by kernel_rfl) (fn := Try.f8) (k := k) (es := [⟨30, 0, (.cons (.int .i64) (.cons .str (.cons (.int .i64) .nil))), (.tup (.cons (.own false 9 .str) (.cons .bool .nil))), s_Split k⟩, ⟨31, 0, (.cons (.int .i64) (.cons .str (.cons (.int .i64) .nil))), (.tup (.cons (.own false 9 .str) (.cons .bool .nil))), i_Split k⟩, ⟨32, 0, (.cons (.il true .str) (.cons (.il true .str) .nil)), .bool, w_eqStringS k⟩, ⟨33, 0, (.cons (.mut false 9 .str) (.cons (.int .i64) .nil)), (.int .i64), w_markStringS k⟩, ⟨34, 0, (.cons (.il true .str) (.cons (.int .i64) .nil)), (.int .i64), w_heldStringS k⟩]) (loops := []) (by kernel_rfl) (by kernel_rfl) (fun x r h => (t_w_FnExactSplit k x).trans h)
def w_big (k : Nat) (x : List (Int) × Unit) : Option (Bool × Unit × Unit) :=
some ((decide ((1048576 : Int) < (List.length x.1 : Int))), ((), ()))
theorem t_w_big (k : Nat) (x) : evF TTab k [] [] Try.f40 (.cons (.il true (.int .u8)) .nil) .bool x = w_big k x := by kernel_rfl
theorem e_w_big (k : Nat) : EntryOk Try.prog ⟨40, 0, (.cons (.il true (.int .u8)) .nil), .bool, w_big k⟩ := entry_ok tok (by simp) (by kernel_rfl) (fn := Try.f40) (k := k) (es := []) (loops := []) (by kernel_rfl) (by kernel_rfl) (fun x r h => (t_w_big k x).trans h)
def s_l01Byte (k : Nat) (x : (List (Int) × Int × Int × Unit) × Unit) : Option (Int × (List (Int) × Int × Int × Unit) × Unit) :=
(if (decide (x.1.2.1 < (List.length x.1.1 : Int))) = true then
(if 0 ≤ x.1.2.1 ∧ x.1.2.1 < (List.length x.1.1 : Int) then
some ((bitsI .and .i64 (wi64 ((bitsI .and .i64 (bitsI .xor .i64 (Int.fdiv (wi64 ((wi64 (x.1.2.2.1 * (6364136223846793005 : Int))) + (1442695040888963407 : Int))) (2 ^ (min (Int.toNat (33 : Int)) (IntKind.bits .i64)))) (Int.fdiv (wi64 ((wi64 (x.1.2.2.1 * (6364136223846793005 : Int))) + (1442695040888963407 : Int))) (2 ^ (min (Int.toNat (45 : Int)) (IntKind.bits .i64))))) (255 : Int)) + (wi64 ((Ty.rd (t := (.int .u8)) x.1.1 x.1.2.1))))) (255 : Int)), ((x.1.1, ((wi64 (x.1.2.1 + (1 : Int))), ((wi64 ((wi64 (x.1.2.2.1 * (6364136223846793005 : Int))) + (1442695040888963407 : Int))), ()))), ()))
else none)
else
some ((bitsI .and .i64 (bitsI .xor .i64 (Int.fdiv (wi64 ((wi64 (x.1.2.2.1 * (6364136223846793005 : Int))) + (1442695040888963407 : Int))) (2 ^ (min (Int.toNat (33 : Int)) (IntKind.bits .i64)))) (Int.fdiv (wi64 ((wi64 (x.1.2.2.1 * (6364136223846793005 : Int))) + (1442695040888963407 : Int))) (2 ^ (min (Int.toNat (45 : Int)) (IntKind.bits .i64))))) (255 : Int)), ((x.1.1, (x.1.2.1, ((wi64 ((wi64 (x.1.2.2.1 * (6364136223846793005 : Int))) + (1442695040888963407 : Int))), ()))), ())))
theorem t_s_l01Byte (k : Nat) (x) : evF TTab k [] [] Try.f103 (.cons (.ptr (.cons (.il true (.int .u8)) (.cons (.int .i64) (.cons (.int .i64) .nil)))) .nil) (.int .i64) x = s_l01Byte k x := by kernel_rfl
theorem e_s_l01Byte (k : Nat) : EntryOk Try.prog ⟨103, 0, (.cons (.ptr (.cons (.il true (.int .u8)) (.cons (.int .i64) (.cons (.int .i64) .nil)))) .nil), (.int .i64), s_l01Byte k⟩ := entry_ok tok (by simp) (by kernel_rfl) (fn := Try.f103) (k := k) (es := []) (loops := []) (by kernel_rfl) (by kernel_rfl) (fun x r h => (t_s_l01Byte k x).trans h)
def s_l01Below (k : Nat) (x : (List (Int) × Int × Int × Unit) × Int × Unit) : Option (Int × (List (Int) × Int × Int × Unit) × Unit × Unit) :=
(if (decide (x.2.1 ≤ (0 : Int))) = true then
some ((0 : Int), ((x.1.1, (x.1.2.1, (x.1.2.2.1, ()))), ((), ())))
else
(if (decide (x.2.1 ≤ (256 : Int))) = true then
((s_l01Byte k ((x.1.1, (x.1.2.1, (x.1.2.2.1, ()))), ())).bind fun p1 =>
(if x.2.1 = 0 then
none
else
some ((Int.tmod p1.1 x.2.1), ((p1.2.1.1, (p1.2.1.2.1, (p1.2.1.2.2.1, ()))), ((), ())))))
else
((s_l01Byte k ((x.1.1, (x.1.2.1, (x.1.2.2.1, ()))), ())).bind fun p2 =>
((s_l01Byte k ((p2.2.1.1, (p2.2.1.2.1, (p2.2.1.2.2.1, ()))), ())).bind fun p3 =>
((s_l01Byte k ((p3.2.1.1, (p3.2.1.2.1, (p3.2.1.2.2.1, ()))), ())).bind fun p4 =>
((s_l01Byte k ((p4.2.1.1, (p4.2.1.2.1, (p4.2.1.2.2.1, ()))), ())).bind fun p5 =>
(if x.2.1 = 0 then
none
else
some ((Int.tmod (wi64 ((wi64 ((wi64 ((wi64 (p2.1 * (16777216 : Int))) + (wi64 (p3.1 * (65536 : Int))))) + (wi64 (p4.1 * (256 : Int))))) + p5.1)) x.2.1), ((p5.2.1.1, (p5.2.1.2.1, (p5.2.1.2.2.1, ()))), ((), ()))))))))))
theorem t_s_l01Below (k : Nat) (x) : evF TTab k [⟨103, 0, (.cons (.ptr (.cons (.il true (.int .u8)) (.cons (.int .i64) (.cons (.int .i64) .nil)))) .nil), (.int .i64), s_l01Byte k⟩] [] Try.f85 (.cons (.ptr (.cons (.il true (.int .u8)) (.cons (.int .i64) (.cons (.int .i64) .nil)))) (.cons (.int .i64) .nil)) (.int .i64) x = s_l01Below k x := by kernel_rfl
theorem e_s_l01Below (k : Nat) : EntryOk Try.prog ⟨85, 0, (.cons (.ptr (.cons (.il true (.int .u8)) (.cons (.int .i64) (.cons (.int .i64) .nil)))) (.cons (.int .i64) .nil)), (.int .i64), s_l01Below k⟩ := entry_ok tok (by intro e he; simp only [List.mem_cons, List.not_mem_nil, or_false] at he; rcases he with rfl <;> first | exact e_s_l01Byte k) (by kernel_rfl) (fn := Try.f85) (k := k) (es := [⟨103, 0, (.cons (.ptr (.cons (.il true (.int .u8)) (.cons (.int .i64) (.cons (.int .i64) .nil)))) .nil), (.int .i64), s_l01Byte k⟩]) (loops := []) (by kernel_rfl) (by kernel_rfl) (fun x r h => (t_s_l01Below k x).trans h)
def s_l01Once (k : Nat) (x : (List (Int) × Int × Int × Unit) × Int × Unit) : Option (Bool × (List (Int) × Int × Int × Unit) × Unit × Unit) :=
((s_l01Below k ((x.1.1, (x.1.2.1, (x.1.2.2.1, ()))), (x.2.1, ()))).bind fun p1 =>
some ((decide (p1.1 = (0 : Int))), ((p1.2.1.1, (p1.2.1.2.1, (p1.2.1.2.2.1, ()))), ((), ()))))
theorem t_s_l01Once (k : Nat) (x) : evF TTab k [⟨85, 0, (.cons (.ptr (.cons (.il true (.int .u8)) (.cons (.int .i64) (.cons (.int .i64) .nil)))) (.cons (.int .i64) .nil)), (.int .i64), s_l01Below k⟩] [] Try.f83 (.cons (.ptr (.cons (.il true (.int .u8)) (.cons (.int .i64) (.cons (.int .i64) .nil)))) (.cons (.int .i64) .nil)) .bool x = s_l01Once k x := by kernel_rfl
theorem e_s_l01Once (k : Nat) : EntryOk Try.prog ⟨83, 0, (.cons (.ptr (.cons (.il true (.int .u8)) (.cons (.int .i64) (.cons (.int .i64) .nil)))) (.cons (.int .i64) .nil)), .bool, s_l01Once k⟩ := entry_ok tok (by intro e he; simp only [List.mem_cons, List.not_mem_nil, or_false] at he; rcases he with rfl <;> first | exact e_s_l01Below k) (by kernel_rfl) (fn := Try.f83) (k := k) (es := [⟨85, 0, (.cons (.ptr (.cons (.il true (.int .u8)) (.cons (.int .i64) (.cons (.int .i64) .nil)))) (.cons (.int .i64) .nil)), (.int .i64), s_l01Below k⟩]) (loops := []) (by kernel_rfl) (by kernel_rfl) (fun x r h => (t_s_l01Once k x).trans h)
def s_l01Text (k : Nat) (x : (List (Int) × Int × Int × Unit) × Int × Unit) : Option (ByteArray × (List (Int) × Int × Int × Unit) × Unit × Unit) :=
(jn (fun (j1v0 : Int) =>
(whileK (fun (rec0 : ((List (Int) × Int × Int × Unit) × Int × List (Int) × Int × Unit) → Option _) (y0 : (List (Int) × Int × Int × Unit) × Int × List (Int) × Int × Unit) =>
(if (decide (y0.2.2.2.1 < y0.2.1)) = true then
((s_l01Byte k ((y0.1.1, (y0.1.2.1, (y0.1.2.2.1, ()))), ())).bind fun p2 =>
(if List.length y0.2.2.1 + List.length ([(wu8 (p2.1))] : List (Int)) ≤ capMax then
(rec0 ((p2.2.1.1, (p2.2.1.2.1, (p2.2.1.2.2.1, ()))), (y0.2.1, ((y0.2.2.1 ++ ([(wu8 (p2.1))] : List (Int))), ((wi64 (y0.2.2.2.1 + (1 : Int))), ())))))
else none))
else
((fun (z2 : (List (Int) × Int × Int × Unit) × List (Int) × Unit) =>
some ((strOf z2.2.1), ((z2.1.1, (z2.1.2.1, (z2.1.2.2.1, ()))), ((), ())))) ((y0.1.1, (y0.1.2.1, (y0.1.2.2.1, ()))), (y0.2.2.1, ()))))) k ((x.1.1, (x.1.2.1, (x.1.2.2.1, ()))), (j1v0, (([] : List (Int)), ((0 : Int), ())))))) (fun (j1 : Int → Option _) =>
(if (decide ((5000 : Int) < x.2.1)) = true then
(j1 (5000 : Int))
else
(j1 x.2.1))))
theorem t_s_l01Text (k : Nat) (x) : evF TTab k [⟨103, 0, (.cons (.ptr (.cons (.il true (.int .u8)) (.cons (.int .i64) (.cons (.int .i64) .nil)))) .nil), (.int .i64), s_l01Byte k⟩] [(0, ⟨[0, 1, 5, 6], (.cons (.ptr (.cons (.il true (.int .u8)) (.cons (.int .i64) (.cons (.int .i64) .nil)))) (.cons (.int .i64) (.cons (.own false 5 (.int .u8)) (.cons (.int .i64) .nil))))⟩, ⟨[0, 5], (.cons (.ptr (.cons (.il true (.int .u8)) (.cons (.int .i64) (.cons (.int .i64) .nil)))) (.cons (.own false 5 (.int .u8)) .nil))⟩)] Try.f84 (.cons (.ptr (.cons (.il true (.int .u8)) (.cons (.int .i64) (.cons (.int .i64) .nil)))) (.cons (.int .i64) .nil)) .str x = s_l01Text k x := by kernel_rfl
theorem e_s_l01Text (k : Nat) : EntryOk Try.prog ⟨84, 0, (.cons (.ptr (.cons (.il true (.int .u8)) (.cons (.int .i64) (.cons (.int .i64) .nil)))) (.cons (.int .i64) .nil)), .str, s_l01Text k⟩ := entry_ok tok (by intro e he; simp only [List.mem_cons, List.not_mem_nil, or_false] at he; rcases he with rfl <;> first | exact e_s_l01Byte k) (by kernel_rfl) (fn := Try.f84) (k := k) (es := [⟨103, 0, (.cons (.ptr (.cons (.il true (.int .u8)) (.cons (.int .i64) (.cons (.int .i64) .nil)))) .nil), (.int .i64), s_l01Byte k⟩]) (loops := [(0, ⟨[0, 1, 5, 6], (.cons (.ptr (.cons (.il true (.int .u8)) (.cons (.int .i64) (.cons (.int .i64) .nil)))) (.cons (.int .i64) (.cons (.own false 5 (.int .u8)) (.cons (.int .i64) .nil))))⟩, ⟨[0, 5], (.cons (.ptr (.cons (.il true (.int .u8)) (.cons (.int .i64) (.cons (.int .i64) .nil)))) (.cons (.own false 5 (.int .u8)) .nil))⟩)]) (by kernel_rfl) (by kernel_rfl) (fun x r h => (t_s_l01Text k x).trans h)
def s_l01PickInt (k : Nat) (x : (List (Int) × Int × Int × Unit) × List (Int) × Unit) : Option (Int × (List (Int) × Int × Int × Unit) × Unit × Unit) :=
((s_l01Below k ((x.1.1, (x.1.2.1, (x.1.2.2.1, ()))), ((List.length x.2.1 : Int), ()))).bind fun p1 =>
(if 0 ≤ p1.1 ∧ p1.1 < (List.length x.2.1 : Int) then
some ((Ty.rd (t := (.int .i64)) x.2.1 p1.1), ((p1.2.1.1, (p1.2.1.2.1, (p1.2.1.2.2.1, ()))), ((), ())))
else none))
theorem t_s_l01PickInt (k : Nat) (x) : evF TTab k [⟨85, 0, (.cons (.ptr (.cons (.il true (.int .u8)) (.cons (.int .i64) (.cons (.int .i64) .nil)))) (.cons (.int .i64) .nil)), (.int .i64), s_l01Below k⟩] [] Try.f124 (.cons (.ptr (.cons (.il true (.int .u8)) (.cons (.int .i64) (.cons (.int .i64) .nil)))) (.cons (.il false (.int .i64)) .nil)) (.int .i64) x = s_l01PickInt k x := by kernel_rfl
theorem e_s_l01PickInt (k : Nat) : EntryOk Try.prog ⟨124, 0, (.cons (.ptr (.cons (.il true (.int .u8)) (.cons (.int .i64) (.cons (.int .i64) .nil)))) (.cons (.il false (.int .i64)) .nil)), (.int .i64), s_l01PickInt k⟩ := entry_ok tok (by intro e he; simp only [List.mem_cons, List.not_mem_nil, or_false] at he; rcases he with rfl <;> first | exact e_s_l01Below k) (by kernel_rfl) (fn := Try.f124) (k := k) (es := [⟨85, 0, (.cons (.ptr (.cons (.il true (.int .u8)) (.cons (.int .i64) (.cons (.int .i64) .nil)))) (.cons (.int .i64) .nil)), (.int .i64), s_l01Below k⟩]) (loops := []) (by kernel_rfl) (by kernel_rfl) (fun x r h => (t_s_l01PickInt k x).trans h)
def s_l08Addr (k : Nat) (x : (List (Int) × Int × Int × Unit) × Unit) : Option (Int × (List (Int) × Int × Int × Unit) × Unit) :=
((s_l01Below k ((x.1.1, (x.1.2.1, (x.1.2.2.1, ()))), ((6 : Int), ()))).bind fun p1 =>
(if (decide (p1.1 = (0 : Int))) = true then
((s_l01PickInt k ((p1.2.1.1, (p1.2.1.2.1, (p1.2.1.2.2.1, ()))), (([(0 : Int), (4294967295 : Int), (4294967296 : Int), (-1 : Int)] : List (Int)), ()))).bind fun p2 =>
some (p2.1, ((p2.2.1.1, (p2.2.1.2.1, (p2.2.1.2.2.1, ()))), ())))
else
(if (decide (p1.1 = (1 : Int))) = true then
((s_l01Below k ((p1.2.1.1, (p1.2.1.2.1, (p1.2.1.2.2.1, ()))), ((4294967296 : Int), ()))).bind fun p3 =>
some (p3.1, ((p3.2.1.1, (p3.2.1.2.1, (p3.2.1.2.2.1, ()))), ())))
else
((s_l01Below k ((p1.2.1.1, (p1.2.1.2.1, (p1.2.1.2.2.1, ()))), ((1024 : Int), ()))).bind fun p4 =>
some ((wi64 ((167772160 : Int) + p4.1)), ((p4.2.1.1, (p4.2.1.2.1, (p4.2.1.2.2.1, ()))), ()))))))
theorem t_s_l08Addr (k : Nat) (x) : evF TTab k [⟨85, 0, (.cons (.ptr (.cons (.il true (.int .u8)) (.cons (.int .i64) (.cons (.int .i64) .nil)))) (.cons (.int .i64) .nil)), (.int .i64), s_l01Below k⟩, ⟨124, 0, (.cons (.ptr (.cons (.il true (.int .u8)) (.cons (.int .i64) (.cons (.int .i64) .nil)))) (.cons (.il false (.int .i64)) .nil)), (.int .i64), s_l01PickInt k⟩] [] Try.f122 (.cons (.ptr (.cons (.il true (.int .u8)) (.cons (.int .i64) (.cons (.int .i64) .nil)))) .nil) (.int .i64) x = s_l08Addr k x := by kernel_rfl
theorem e_s_l08Addr (k : Nat) : EntryOk Try.prog ⟨122, 0, (.cons (.ptr (.cons (.il true (.int .u8)) (.cons (.int .i64) (.cons (.int .i64) .nil)))) .nil), (.int .i64), s_l08Addr k⟩ := entry_ok tok (by intro e he; simp only [List.mem_cons, List.not_mem_nil, or_false] at he; rcases he with rfl | rfl <;> first | exact e_s_l01Below k | exact e_s_l01PickInt k) (by kernel_rfl) (fn := Try.f122) (k := k) (es := [⟨85, 0, (.cons (.ptr (.cons (.il true (.int .u8)) (.cons (.int .i64) (.cons (.int .i64) .nil)))) (.cons (.int .i64) .nil)), (.int .i64), s_l01Below k⟩, ⟨124, 0, (.cons (.ptr (.cons (.il true (.int .u8)) (.cons (.int .i64) (.cons (.int .i64) .nil)))) (.cons (.il false (.int .i64)) .nil)), (.int .i64), s_l01PickInt k⟩]) (loops := []) (by kernel_rfl) (by kernel_rfl) (fun x r h => (t_s_l08Addr k x).trans h)
def s_l01Long (k : Nat) (x : Int × Int × Unit) : Option (ByteArray × Unit × Unit × Unit) :=
(if x.1 = x.1 then
(if 0 ≤ x.1 ∧ x.1 ≤ (capMax : Int) then
(whileK (fun (rec0 : (Int × Int × List (Int) × Int × Unit) → Option _) (y0 : Int × Int × List (Int) × Int × Unit) =>
(if (decide (y0.2.2.2.1 < y0.1)) = true then
(if 0 ≤ y0.2.2.2.1 ∧ y0.2.2.2.1 < (List.length y0.2.2.1 : Int) then
(rec0 (y0.1, (y0.2.1, ((List.set y0.2.2.1 (Int.toNat y0.2.2.2.1) y0.2.1), ((wi64 (y0.2.2.2.1 + (1 : Int))), ())))))
else none)
else
((fun (z1 : List (Int) × Unit) =>
some ((strOf z1.1), ((), ((), ())))) (y0.2.2.1, ())))) k (x.1, (x.2.1, ((List.replicate (Int.toNat x.1) (0 : Int)), ((0 : Int), ())))))
else none)
else none)
theorem t_s_l01Long (k : Nat) (x) : evF TTab k [] [(0, ⟨[0, 1, 5, 6], (.cons (.int .i64) (.cons (.int .u8) (.cons (.own false 5 (.int .u8)) (.cons (.int .i64) .nil))))⟩, ⟨[5], (.cons (.own false 5 (.int .u8)) .nil)⟩)] Try.f123 (.cons (.int .i64) (.cons (.int .u8) .nil)) .str x = s_l01Long k x := by kernel_rfl
theorem e_s_l01Long (k : Nat) : EntryOk Try.prog ⟨123, 0, (.cons (.int .i64) (.cons (.int .u8) .nil)), .str, s_l01Long k⟩ := entry_ok tok (by simp) (by kernel_rfl) (fn := Try.f123) (k := k) (es := []) (loops := [(0, ⟨[0, 1, 5, 6], (.cons (.int .i64) (.cons (.int .u8) (.cons (.own false 5 (.int .u8)) (.cons (.int .i64) .nil))))⟩, ⟨[5], (.cons (.own false 5 (.int .u8)) .nil)⟩)]) (by kernel_rfl) (by kernel_rfl) (fun x r h => (t_s_l01Long k x).trans h)
def s_l21Inner (k : Nat) (x : (List (Int) × Int × Int × Unit) × Unit) : Option ((Int × Int × ByteArray × Unit) × (List (Int) × Int × Int × Unit) × Unit) :=
((s_l08Addr k ((x.1.1, (x.1.2.1, (x.1.2.2.1, ()))), ())).bind fun p1 =>
((s_l08Addr k ((p1.2.1.1, (p1.2.1.2.1, (p1.2.1.2.2.1, ()))), ())).bind fun p2 =>
((s_l01Below k ((p2.2.1.1, (p2.2.1.2.1, (p2.2.1.2.2.1, ()))), ((9 : Int), ()))).bind fun p3 =>
((s_l01Text k ((p3.2.1.1, (p3.2.1.2.1, (p3.2.1.2.2.1, ()))), (p3.1, ()))).bind fun p4 =>
((s_l01Once k ((p4.2.1.1, (p4.2.1.2.1, (p4.2.1.2.2.1, ()))), ((4 : Int), ()))).bind fun p5 =>
(if p5.1 = true then
((s_l01PickInt k ((p5.2.1.1, (p5.2.1.2.1, (p5.2.1.2.2.1, ()))), (([(60 : Int), (99 : Int), (100 : Int), (101 : Int)] : List (Int)), ()))).bind fun p6 =>
((s_l01Long k (p6.1, ((66 : Int), ()))).bind fun p7 =>
some ((p1.1, (p2.1, (p7.1, ()))), ((p6.2.1.1, (p6.2.1.2.1, (p6.2.1.2.2.1, ()))), ()))))
else
some ((p1.1, (p2.1, (p4.1, ()))), ((p5.2.1.1, (p5.2.1.2.1, (p5.2.1.2.2.1, ()))), ()))))))))
theorem t_s_l21Inner (k : Nat) (x) : evF TTab k [⟨83, 0, (.cons (.ptr (.cons (.il true (.int .u8)) (.cons (.int .i64) (.cons (.int .i64) .nil)))) (.cons (.int .i64) .nil)), .bool, s_l01Once k⟩, ⟨84, 0, (.cons (.ptr (.cons (.il true (.int .u8)) (.cons (.int .i64) (.cons (.int .i64) .nil)))) (.cons (.int .i64) .nil)), .str, s_l01Text k⟩, ⟨85, 0, (.cons (.ptr (.cons (.il true (.int .u8)) (.cons (.int .i64) (.cons (.int .i64) .nil)))) (.cons (.int .i64) .nil)), (.int .i64), s_l01Below k⟩, ⟨122, 0, (.cons (.ptr (.cons (.il true (.int .u8)) (.cons (.int .i64) (.cons (.int .i64) .nil)))) .nil), (.int .i64), s_l08Addr k⟩, ⟨123, 0, (.cons (.int .i64) (.cons (.int .u8) .nil)), .str, s_l01Long k⟩, ⟨124, 0, (.cons (.ptr (.cons (.il true (.int .u8)) (.cons (.int .i64) (.cons (.int .i64) .nil)))) (.cons (.il false (.int .i64)) .nil)), (.int .i64), s_l01PickInt k⟩] [] Try.f81 (.cons (.ptr (.cons (.il true (.int .u8)) (.cons (.int .i64) (.cons (.int .i64) .nil)))) .nil) (.agg (.cons (.int .i64) (.cons (.int .i64) (.cons .str .nil)))) x = s_l21Inner k x := by kernel_rfl
theorem e_s_l21Inner (k : Nat) : EntryOk Try.prog ⟨81, 0, (.cons (.ptr (.cons (.il true (.int .u8)) (.cons (.int .i64) (.cons (.int .i64) .nil)))) .nil), (.agg (.cons (.int .i64) (.cons (.int .i64) (.cons .str .nil)))), s_l21Inner k⟩ := entry_ok tok (by intro e he; simp only [List.mem_cons, List.not_mem_nil, or_false] at he; rcases he with rfl | rfl | rfl | rfl | rfl | rfl <;> first | exact e_s_l01Once k | exact e_s_l01Text k | exact e_s_l01Below k | exact e_s_l08Addr k | exact e_s_l01Long k | exact e_s_l01PickInt k) (by kernel_rfl) (fn := Try.f81) (k := k) (es := [⟨83, 0, (.cons (.ptr (.cons (.il true (.int .u8)) (.cons (.int .i64) (.cons (.int .i64) .nil)))) (.cons (.int .i64) .nil)), .bool, s_l01Once k⟩, ⟨84, 0, (.cons (.ptr (.cons (.il true (.int .u8)) (.cons (.int .i64) (.cons (.int .i64) .nil)))) (.cons (.int .i64) .nil)), .str, s_l01Text k⟩, ⟨85, 0, (.cons (.ptr (.cons (.il true (.int .u8)) (.cons (.int .i64) (.cons (.int .i64) .nil)))) (.cons (.int .i64) .nil)), (.int .i64), s_l01Below k⟩, ⟨122, 0, (.cons (.ptr (.cons (.il true (.int .u8)) (.cons (.int .i64) (.cons (.int .i64) .nil)))) .nil), (.int .i64), s_l08Addr k⟩, ⟨123, 0, (.cons (.int .i64) (.cons (.int .u8) .nil)), .str, s_l01Long k⟩, ⟨124, 0, (.cons (.ptr (.cons (.il true (.int .u8)) (.cons (.int .i64) (.cons (.int .i64) .nil)))) (.cons (.il false (.int .i64)) .nil)), (.int .i64), s_l01PickInt k⟩]) (loops := []) (by kernel_rfl) (by kernel_rfl) (fun x r h => (t_s_l21Inner k x).trans h)
def s_l01New (k : Nat) (x : List (Int) × Unit) : Option ((List (Int) × Int × Int × Unit) × Unit × Unit) :=
(whileK (fun (rec0 : (List (Int) × Int × Int × Unit) → Option _) (y0 : List (Int) × Int × Int × Unit) =>
(if (decide (y0.2.2.1 < (List.length y0.1 : Int))) = true then
(if (decide (y0.2.2.1 < (4000 : Int))) = true then
(if 0 ≤ y0.2.2.1 ∧ y0.2.2.1 < (List.length y0.1 : Int) then
(rec0 (y0.1, ((bitsI .and .i64 (wi64 ((wi64 ((wi64 (y0.2.1 * (131 : Int))) + (wi64 ((Ty.rd (t := (.int .u8)) y0.1 y0.2.2.1))))) + (7 : Int))) (1073741823 : Int)), ((wi64 (y0.2.2.1 + (1 : Int))), ()))))
else none)
else
((fun (z1 : List (Int) × Int × Unit) =>
some ((z1.1, ((0 : Int), (z1.2.1, ()))), ((), ()))) (y0.1, (y0.2.1, ()))))
else
((fun (z1 : List (Int) × Int × Unit) =>
some ((z1.1, ((0 : Int), (z1.2.1, ()))), ((), ()))) (y0.1, (y0.2.1, ()))))) k (x.1, ((wi64 ((36201 : Int) + (List.length x.1 : Int))), ((0 : Int), ()))))
theorem t_s_l01New (k : Nat) (x) : evF TTab k [] [(0, ⟨[0, 3, 4], (.cons (.il true (.int .u8)) (.cons (.int .i64) (.cons (.int .i64) .nil)))⟩, ⟨[0, 3], (.cons (.il true (.int .u8)) (.cons (.int .i64) .nil))⟩)] Try.f82 (.cons (.il true (.int .u8)) .nil) (.ptr (.cons (.il true (.int .u8)) (.cons (.int .i64) (.cons (.int .i64) .nil)))) x = s_l01New k x := by kernel_rfl
theorem e_s_l01New (k : Nat) : EntryOk Try.prog ⟨82, 0, (.cons (.il true (.int .u8)) .nil), (.ptr (.cons (.il true (.int .u8)) (.cons (.int .i64) (.cons (.int .i64) .nil)))), s_l01New k⟩ := entry_ok tok (by simp) (by kernel_rfl) (fn := Try.f82) (k := k) (es := []) (loops := [(0, ⟨[0, 3, 4], (.cons (.il true (.int .u8)) (.cons (.int .i64) (.cons (.int .i64) .nil)))⟩, ⟨[0, 3], (.cons (.il true (.int .u8)) (.cons (.int .i64) .nil))⟩)]) (by kernel_rfl) (by kernel_rfl) (fun x r h => (t_s_l01New k x).trans h)
def s_DrawInnerText (k : Nat) (x : List (Int) × Unit) : Option ((Int × Int × ByteArray × Unit) × Unit × Unit) :=
((s_l01New k (x.1, ())).bind fun p1 =>
((s_l21Inner k ((p1.1.1, (p1.1.2.1, (p1.1.2.2.1, ()))), ())).bind fun p2 =>
some ((p2.1.1, (p2.1.2.1, (p2.1.2.2.1, ()))), ((), ()))))
theorem t_s_DrawInnerText (k : Nat) (x) : evF TTab k [⟨81, 0, (.cons (.ptr (.cons (.il true (.int .u8)) (.cons (.int .i64) (.cons (.int .i64) .nil)))) .nil), (.agg (.cons (.int .i64) (.cons (.int .i64) (.cons .str .nil)))), s_l21Inner k⟩, ⟨82, 0, (.cons (.il true (.int .u8)) .nil), (.ptr (.cons (.il true (.int .u8)) (.cons (.int .i64) (.cons (.int .i64) .nil)))), s_l01New k⟩] [] Try.f41 (.cons (.il true (.int .u8)) .nil) (.agg (.cons (.int .i64) (.cons (.int .i64) (.cons .str .nil)))) x = s_DrawInnerText k x := by kernel_rfl
theorem e_s_DrawInnerText (k : Nat) : EntryOk Try.prog ⟨41, 0, (.cons (.il true (.int .u8)) .nil), (.agg (.cons (.int .i64) (.cons (.int .i64) (.cons .str .nil)))), s_DrawInnerText k⟩ := entry_ok tok (by intro e he; simp only [List.mem_cons, List.not_mem_nil, or_false] at he; rcases he with rfl | rfl <;> first | exact e_s_l21Inner k | exact e_s_l01New k) (by kernel_rfl) (fn := Try.f41) (k := k) (es := [⟨81, 0, (.cons (.ptr (.cons (.il true (.int .u8)) (.cons (.int .i64) (.cons (.int .i64) .nil)))) .nil), (.agg (.cons (.int .i64) (.cons (.int .i64) (.cons .str .nil)))), s_l21Inner k⟩, ⟨82, 0, (.cons (.il true (.int .u8)) .nil), (.ptr (.cons (.il true (.int .u8)) (.cons (.int .i64) (.cons (.int .i64) .nil)))), s_l01New k⟩]) (loops := []) (by kernel_rfl) (by kernel_rfl) (fun x r h => (t_s_DrawInnerText k x).trans h)
def s_DrawReadInner (k : Nat) (x : List (Int) × Unit) : Option (ByteArray × Unit × Unit) :=
((s_l01New k (x.1, ())).bind fun p1 =>
((s_l21Inner k ((p1.1.1, (p1.1.2.1, (p1.1.2.2.1, ()))), ())).bind fun p2 =>
((s_InnerText k ((p2.1.1, (p2.1.2.1, (p2.1.2.2.1, ()))), ())).bind fun p3 =>
((s_l01Once k ((p2.2.1.1, (p2.2.1.2.1, (p2.2.1.2.2.1, ()))), ((4 : Int), ()))).bind fun p4 =>
(if p4.1 = true then
((s_l01Below k ((p4.2.1.1, (p4.2.1.2.1, (p4.2.1.2.2.1, ()))), ((12 : Int), ()))).bind fun p5 =>
((s_l01Text k ((p5.2.1.1, (p5.2.1.2.1, (p5.2.1.2.2.1, ()))), (p5.1, ()))).bind fun p6 =>
some (p6.1, ((), ()))))
else
some (p3.1.1, ((), ())))))))
theorem t_s_DrawReadInner (k : Nat) (x) : evF TTab k [⟨24, 0, (.cons (.agg (.cons (.int .i64) (.cons (.int .i64) (.cons .str .nil)))) .nil), (.tup (.cons .str (.cons .bool .nil))), s_InnerText k⟩, ⟨81, 0, (.cons (.ptr (.cons (.il true (.int .u8)) (.cons (.int .i64) (.cons (.int .i64) .nil)))) .nil), (.agg (.cons (.int .i64) (.cons (.int .i64) (.cons .str .nil)))), s_l21Inner k⟩, ⟨82, 0, (.cons (.il true (.int .u8)) .nil), (.ptr (.cons (.il true (.int .u8)) (.cons (.int .i64) (.cons (.int .i64) .nil)))), s_l01New k⟩, ⟨83, 0, (.cons (.ptr (.cons (.il true (.int .u8)) (.cons (.int .i64) (.cons (.int .i64) .nil)))) (.cons (.int .i64) .nil)), .bool, s_l01Once k⟩, ⟨84, 0, (.cons (.ptr (.cons (.il true (.int .u8)) (.cons (.int .i64) (.cons (.int .i64) .nil)))) (.cons (.int .i64) .nil)), .str, s_l01Text k⟩, ⟨85, 0, (.cons (.ptr (.cons (.il true (.int .u8)) (.cons (.int .i64) (.cons (.int .i64) .nil)))) (.cons (.int .i64) .nil)), (.int .i64), s_l01Below k⟩] [] Try.f42 (.cons (.il true (.int .u8)) .nil) .str x = s_DrawReadInner k x := by kernel_rfl
theorem e_s_DrawReadInner (k : Nat) : EntryOk Try.prog ⟨42, 0, (.cons (.il true (.int .u8)) .nil), .str, s_DrawReadInner k⟩ := entry_ok tok (by intro e he; simp only [List.mem_cons, List.not_mem_nil, or_false] at he; rcases he with rfl | rfl | rfl | rfl | rfl | rfl <;> first | exact e_s_InnerText k | exact e_s_l21Inner k | exact e_s_l01New k | exact e_s_l01Once k | exact e_s_l01Text k | exact e_s_l01Below k) (by kernel_rfl) (fn := Try.f42) (k := k) (es := [⟨24, 0, (.cons (.agg (.cons (.int .i64) (.cons (.int .i64) (.cons .str .nil)))) .nil), (.tup (.cons .str (.cons .bool .nil))), s_InnerText k⟩, ⟨81, 0, (.cons (.ptr (.cons (.il true (.int .u8)) (.cons (.int .i64) (.cons (.int .i64) .nil)))) .nil), (.agg (.cons (.int .i64) (.cons (.int .i64) (.cons .str .nil)))), s_l21Inner k⟩, ⟨82, 0, (.cons (.il true (.int .u8)) .nil), (.ptr (.cons (.il true (.int .u8)) (.cons (.int .i64) (.cons (.int .i64) .nil)))), s_l01New k⟩, ⟨83, 0, (.cons (.ptr (.cons (.il true (.int .u8)) (.cons (.int .i64) (.cons (.int .i64) .nil)))) (.cons (.int .i64) .nil)), .bool, s_l01Once k⟩, ⟨84, 0, (.cons (.ptr (.cons (.il true (.int .u8)) (.cons (.int .i64) (.cons (.int .i64) .nil)))) (.cons (.int .i64) .nil)), .str, s_l01Text k⟩, ⟨85, 0, (.cons (.ptr (.cons (.il true (.int .u8)) (.cons (.int .i64) (.cons (.int .i64) .nil)))) (.cons (.int .i64) .nil)), (.int .i64), s_l01Below k⟩]) (loops := []) (by kernel_rfl) (by kernel_rfl) (fun x r h => (t_s_DrawReadInner k x).trans h)
def w_FnInners (k : Nat) (x : List (Int) × Unit) : Option (Bool × Unit × Unit) :=
((w_big k (x.1, ())).bind fun p1 =>
(if p1.1 = true then
some (true, ((), ()))
else
((s_DrawInnerText k (x.1, ())).bind fun p2 =>
((i_InnerText k ((p2.1.1, (p2.1.2.1, (p2.1.2.2.1, ()))), ())).bind fun p3 =>
((i_ReadInner k (p3.1.1, ())).bind fun p4 =>
((s_DrawReadInner k (x.1, ())).bind fun p5 =>
((i_ReadInner k (p5.1, ())).bind fun p6 =>
((s_ReadInner k (p5.1, ())).bind fun p7 =>
((i_InnerText k ((p6.1.1.1, (p6.1.1.2.1, (p6.1.1.2.2.1, ()))), ())).bind fun p8 =>
((s_InnerOk k ((p2.1.1, (p2.1.2.1, (p2.1.2.2.1, ()))), ())).bind fun p9 =>
(if (decide (p3.1.2.1 = p9.1)) = true then
((i_InnerOk k ((p2.1.1, (p2.1.2.1, (p2.1.2.2.1, ()))), ())).bind fun p10 =>
(if (decide (p10.1 = p3.1.2.1)) = true then
(if (!p3.1.2.1) = false then
(if p4.1.2.1 = true then
(if (decide (p4.1.1.1 = p2.1.1) && (decide (p4.1.1.2.1 = p2.1.2.1) && decide (p4.1.1.2.2.1 = p2.1.2.2.1))) = true then
(if (decide (p6.1.2.1 = p7.1.2.1)) = true then
(if (!p6.1.2.1) = false then
some ((decide (p8.1.1 = p5.1)), ((), ()))
else
some (true, ((), ())))
else
some (false, ((), ())))
else
some (false, ((), ())))
else
some (false, ((), ())))
else
(if (decide (p6.1.2.1 = p7.1.2.1)) = true then
(if (!p6.1.2.1) = false then
some ((decide (p8.1.1 = p5.1)), ((), ()))
else
some (true, ((), ())))
else
some (false, ((), ()))))
else
some (false, ((), ()))))
else
some (false, ((), ())))))))))))))
theorem t_w_FnInners (k : Nat) (x) : evF TTab k [⟨18, 0, (.cons (.agg (.cons (.int .i64) (.cons (.int .i64) (.cons .str .nil)))) .nil), .bool, s_InnerOk k⟩, ⟨20, 0, (.cons (.agg (.cons (.int .i64) (.cons (.int .i64) (.cons .str .nil)))) .nil), .bool, i_InnerOk k⟩, ⟨21, 0, (.cons .str .nil), (.tup (.cons (.agg (.cons (.int .i64) (.cons (.int .i64) (.cons .str .nil)))) (.cons .bool .nil))), s_ReadInner k⟩, ⟨22, 0, (.cons .str .nil), (.tup (.cons (.agg (.cons (.int .i64) (.cons (.int .i64) (.cons .str .nil)))) (.cons .bool .nil))), i_ReadInner k⟩, ⟨25, 0, (.cons (.agg (.cons (.int .i64) (.cons (.int .i64) (.cons .str .nil)))) .nil), (.tup (.cons .str (.cons .bool .nil))), i_InnerText k⟩, ⟨40, 0, (.cons (.il true (.int .u8)) .nil), .bool, w_big k⟩, ⟨41, 0, (.cons (.il true (.int .u8)) .nil), (.agg (.cons (.int .i64) (.cons (.int .i64) (.cons .str .nil)))), s_DrawInnerText k⟩, ⟨42, 0, (.cons (.il true (.int .u8)) .nil), .str, s_DrawReadInner k⟩] [] Try.f10 (.cons (.il true (.int .u8)) .nil) .bool x = w_FnInners k x := by kernel_rfl
theorem e_w_FnInners (k : Nat) : EntryOk Try.prog ⟨10, 0, (.cons (.il true (.int .u8)) .nil), .bool, w_FnInners k⟩ := entry_ok tok (by intro e he; simp only [List.mem_cons, List.not_mem_nil, or_false] at he; rcases he with rfl | rfl | rfl | rfl | rfl | rfl | rfl | rfl <;> first | exact e_s_InnerOk k | exact e_i_InnerOk k | exact e_s_ReadInner k | exact e_i_ReadInner k | exact e_i_InnerText k | exact e_w_big k | exact e_s_DrawInnerText k | exact e_s_DrawReadInner k) (by kernel_rfl) (fn := Try.f10) (k := k) (es := [⟨18, 0, (.cons (.agg (.cons (.int .i64) (.cons (.int .i64) (.cons .str .nil)))) .nil), .bool, s_InnerOk k⟩, ⟨20, 0, (.cons (.agg (.cons (.int .i64) (.cons (.int .i64) (.cons .str .nil)))) .nil), .bool, i_InnerOk k⟩, ⟨21, 0, (.cons .str .nil), (.tup (.cons (.agg (.cons (.int .i64) (.cons (.int .i64) (.cons .str .nil)))) (.cons .bool .nil))), s_ReadInner k⟩, ⟨22, 0, (.cons .str .nil), (.tup (.cons (.agg (.cons (.int .i64) (.cons (.int .i64) (.cons .str .nil)))) (.cons .bool .nil))), i_ReadInner k⟩, ⟨25, 0, (.cons (.agg (.cons (.int .i64) (.cons (.int .i64) (.cons .str .nil)))) .nil), (.tup (.cons .str (.cons .bool .nil))), i_InnerText k⟩, ⟨40, 0, (.cons (.il true (.int .u8)) .nil), .bool, w_big k⟩, ⟨41, 0, (.cons (.il true (.int .u8)) .nil), (.agg (.cons (.int .i64) (.cons (.int .i64) (.cons .str .nil)))), s_DrawInnerText k⟩, ⟨42, 0, (.cons (.il true (.int .u8)) .nil), .str, s_DrawReadInner k⟩]) (loops := []) (by kernel_rfl) (by kernel_rfl) (fun x r h => (t_w_FnInners k x).trans h)
def w_szStringS (k : Nat) (x : List (ByteArray) × Int × Unit) : Option (Int × Unit × Unit × Unit) :=
(if (decide ((wi64 (x.2.1 - (List.length x.1 : Int))) < (0 : Int))) = true then
some ((-1 : Int), ((), ((), ())))
else
(whileK (fun (rec0 : (List (ByteArray) × Int × Int × Unit) → Option _) (y0 : List (ByteArray) × Int × Int × Unit) =>
(if (decide (y0.2.2.1 < (List.length y0.1 : Int))) = true then
(if 0 ≤ y0.2.2.1 ∧ y0.2.2.1 < (List.length y0.1 : Int) then
(if (decide ((wi64 (y0.2.1 - (ByteArray.size (Ty.rd (t := .str) y0.1 y0.2.2.1) : Int))) < (0 : Int))) = true then
some ((-1 : Int), ((), ((), ())))
else
(rec0 (y0.1, ((wi64 (y0.2.1 - (ByteArray.size (Ty.rd (t := .str) y0.1 y0.2.2.1) : Int))), ((wi64 (y0.2.2.1 + (1 : Int))), ())))))
else none)
else
((fun (z1 : Int × Unit) =>
some (z1.1, ((), ((), ())))) (y0.2.1, ())))) k (x.1, ((wi64 (x.2.1 - (List.length x.1 : Int))), ((0 : Int), ())))))
theorem t_w_szStringS (k : Nat) (x) : evF TTab k [] [(0, ⟨[0, 1, 5], (.cons (.il true .str) (.cons (.int .i64) (.cons (.int .i64) .nil)))⟩, ⟨[1], (.cons (.int .i64) .nil)⟩)] Try.f149 (.cons (.il true .str) (.cons (.int .i64) .nil)) (.int .i64) x = w_szStringS k x := by kernel_rfl
theorem e_w_szStringS (k : Nat) : EntryOk Try.prog ⟨149, 0, (.cons (.il true .str) (.cons (.int .i64) .nil)), (.int .i64), w_szStringS k⟩ := entry_ok tok (by simp) (by kernel_rfl) (fn := Try.f149) (k := k) (es := []) (loops := [(0, ⟨[0, 1, 5], (.cons (.il true .str) (.cons (.int .i64) (.cons (.int .i64) .nil)))⟩, ⟨[1], (.cons (.int .i64) .nil)⟩)]) (by kernel_rfl) (by kernel_rfl) (fun x r h => (t_w_szStringS k x).trans h)
def w_szBoolS (k : Nat) (x : List (Bool) × Int × Unit) : Option (Int × Unit × Unit × Unit) :=
(if (decide ((wi64 (x.2.1 - (List.length x.1 : Int))) < (0 : Int))) = true then
some ((-1 : Int), ((), ((), ())))
else
some ((wi64 (x.2.1 - (List.length x.1 : Int))), ((), ((), ()))))
theorem t_w_szBoolS (k : Nat) (x) : evF TTab k [] [] Try.f150 (.cons (.il true .bool) (.cons (.int .i64) .nil)) (.int .i64) x = w_szBoolS k x := by kernel_rfl
theorem e_w_szBoolS (k : Nat) : EntryOk Try.prog ⟨150, 0, (.cons (.il true .bool) (.cons (.int .i64) .nil)), (.int .i64), w_szBoolS k⟩ := entry_ok tok (by simp) (by kernel_rfl) (fn := Try.f150) (k := k) (es := []) (loops := []) (by kernel_rfl) (by kernel_rfl) (fun x r h => (t_w_szBoolS k x).trans h)
def w_szHeld (k : Nat) (x : (Int × Int × Int × List (ByteArray) × List (Bool) × Int × Unit) × Int × Unit) : Option (Int × Unit × Unit × Unit) :=
((w_szStringS k (x.1.2.2.2.1, (x.2.1, ()))).bind fun p1 =>
(if (decide (p1.1 < (0 : Int))) = true then
some ((-1 : Int), ((), ((), ())))
else
((w_szBoolS k (x.1.2.2.2.2.1, (p1.1, ()))).bind fun p2 =>
(if (decide (p2.1 < (0 : Int))) = true then
some ((-1 : Int), ((), ((), ())))
else
some (p2.1, ((), ((), ())))))))
theorem t_w_szHeld (k : Nat) (x) : evF TTab k [⟨149, 0, (.cons (.il true .str) (.cons (.int .i64) .nil)), (.int .i64), w_szStringS k⟩, ⟨150, 0, (.cons (.il true .bool) (.cons (.int .i64) .nil)), (.int .i64), w_szBoolS k⟩] [] Try.f125 (.cons (.agg (.cons (.int .i64) (.cons (.int .i64) (.cons (.int .i64) (.cons (.il true .str) (.cons (.il true .bool) (.cons (.int .i64) .nil))))))) (.cons (.int .i64) .nil)) (.int .i64) x = w_szHeld k x := by kernel_rfl
theorem e_w_szHeld (k : Nat) : EntryOk Try.prog ⟨125, 0, (.cons (.agg (.cons (.int .i64) (.cons (.int .i64) (.cons (.int .i64) (.cons (.il true .str) (.cons (.il true .bool) (.cons (.int .i64) .nil))))))) (.cons (.int .i64) .nil)), (.int .i64), w_szHeld k⟩ := entry_ok tok (by intro e he; simp only [List.mem_cons, List.not_mem_nil, or_false] at he; rcases he with rfl | rfl <;> first | exact e_w_szStringS k | exact e_w_szBoolS k) (by kernel_rfl) (fn := Try.f125) (k := k) (es := [⟨149, 0, (.cons (.il true .str) (.cons (.int .i64) .nil)), (.int .i64), w_szStringS k⟩, ⟨150, 0, (.cons (.il true .bool) (.cons (.int .i64) .nil)), (.int .i64), w_szBoolS k⟩]) (loops := []) (by kernel_rfl) (by kernel_rfl) (fun x r h => (t_w_szHeld k x).trans h)
def w_szHeldS (k : Nat) (x : (List (Int × Int × Int × List (ByteArray) × List (Bool) × Int)) × Int × Unit) : Option (Int × Unit × Unit × Unit) :=
(if (decide ((wi64 (x.2.1 - (List.length x.1 : Int))) < (0 : Int))) = true then
some ((-1 : Int), ((), ((), ())))
else
(whileK (fun (rec0 : ((List (Int × Int × Int × List (ByteArray) × List (Bool) × Int)) × Int × Int × Unit) → Option _) (y0 : (List (Int × Int × Int × List (ByteArray) × List (Bool) × Int)) × Int × Int × Unit) =>
(if (decide (y0.2.2.1 < (List.length y0.1 : Int))) = true then
(if 0 ≤ y0.2.2.1 ∧ y0.2.2.1 < (List.length y0.1 : Int) then
((w_szHeld k (((Ty.rd (t := (.pair (.int .i64) (.pair (.int .i64) (.pair (.int .i64) (.pair (.list .str) (.pair (.list .bool) (.int .i64))))))) y0.1 y0.2.2.1).1, ((Ty.rd (t := (.pair (.int .i64) (.pair (.int .i64) (.pair (.int .i64) (.pair (.list .str) (.pair (.list .bool) (.int .i64))))))) y0.1 y0.2.2.1).2.1, ((Ty.rd (t := (.pair (.int .i64) (.pair (.int .i64) (.pair (.int .i64) (.pair (.list .str) (.pair (.list .bool) (.int .i64))))))) y0.1 y0.2.2.1).2.2.1, ((Ty.rd (t := (.pair (.int .i64) (.pair (.int .i64) (.pair (.int .i64) (.pair (.list .str) (.pair (.list .bool) (.int .i64))))))) y0.1 y0.2.2.1).2.2.2.1, ((Ty.rd (t := (.pair (.int .i64) (.pair (.int .i64) (.pair (.int .i64) (.pair (.list .str) (.pair (.list .bool) (.int .i64))))))) y0.1 y0.2.2.1).2.2.2.2.1, ((Ty.rd (t := (.pair (.int .i64) (.pair (.int .i64) (.pair (.int .i64) (.pair (.list .str) (.pair (.list .bool) (.int .i64))))))) y0.1 y0.2.2.1).2.2.2.2.2, ())))))), (y0.2.1, ()))).bind fun p1 =>
(if (decide (p1.1 < (0 : Int))) = true then
some ((-1 : Int), ((), ((), ())))
else
(rec0 (y0.1, (p1.1, ((wi64 (y0.2.2.1 + (1 : Int))), ()))))))
else none)
else
((fun (z1 : Int × Unit) =>
some (z1.1, ((), ((), ())))) (y0.2.1, ())))) k (x.1, ((wi64 (x.2.1 - (List.length x.1 : Int))), ((0 : Int), ())))))
theorem t_w_szHeldS (k : Nat) (x) : evF TTab k [⟨125, 0, (.cons (.agg (.cons (.int .i64) (.cons (.int .i64) (.cons (.int .i64) (.cons (.il true .str) (.cons (.il true .bool) (.cons (.int .i64) .nil))))))) (.cons (.int .i64) .nil)), (.int .i64), w_szHeld k⟩] [(0, ⟨[0, 1, 5], (.cons (.il true (.pair (.int .i64) (.pair (.int .i64) (.pair (.int .i64) (.pair (.list .str) (.pair (.list .bool) (.int .i64))))))) (.cons (.int .i64) (.cons (.int .i64) .nil)))⟩, ⟨[1], (.cons (.int .i64) .nil)⟩)] Try.f86 (.cons (.il true (.pair (.int .i64) (.pair (.int .i64) (.pair (.int .i64) (.pair (.list .str) (.pair (.list .bool) (.int .i64))))))) (.cons (.int .i64) .nil)) (.int .i64) x = w_szHeldS k x := by kernel_rfl
theorem e_w_szHeldS (k : Nat) : EntryOk Try.prog ⟨86, 0, (.cons (.il true (.pair (.int .i64) (.pair (.int .i64) (.pair (.int .i64) (.pair (.list .str) (.pair (.list .bool) (.int .i64))))))) (.cons (.int .i64) .nil)), (.int .i64), w_szHeldS k⟩ := entry_ok tok (by intro e he; simp only [List.mem_cons, List.not_mem_nil, or_false] at he; rcases he with rfl <;> first | exact e_w_szHeld k) (by kernel_rfl) (fn := Try.f86) (k := k) (es := [⟨125, 0, (.cons (.agg (.cons (.int .i64) (.cons (.int .i64) (.cons (.int .i64) (.cons (.il true .str) (.cons (.il true .bool) (.cons (.int .i64) .nil))))))) (.cons (.int .i64) .nil)), (.int .i64), w_szHeld k⟩]) (loops := [(0, ⟨[0, 1, 5], (.cons (.il true (.pair (.int .i64) (.pair (.int .i64) (.pair (.int .i64) (.pair (.list .str) (.pair (.list .bool) (.int .i64))))))) (.cons (.int .i64) (.cons (.int .i64) .nil)))⟩, ⟨[1], (.cons (.int .i64) .nil)⟩)]) (by kernel_rfl) (by kernel_rfl) (fun x r h => (t_w_szHeldS k x).trans h)
def w_szShelf (k : Nat) (x : ((List (Int × Int × Int × List (ByteArray) × List (Bool) × Int)) × Unit) × Int × Unit) : Option (Int × Unit × Unit × Unit) :=
((w_szHeldS k (x.1.1, (x.2.1, ()))).bind fun p1 =>
(if (decide (p1.1 < (0 : Int))) = true then
some ((-1 : Int), ((), ((), ())))
else
some (p1.1, ((), ((), ())))))
theorem t_w_szShelf (k : Nat) (x) : evF TTab k [⟨86, 0, (.cons (.il true (.pair (.int .i64) (.pair (.int .i64) (.pair (.int .i64) (.pair (.list .str) (.pair (.list .bool) (.int .i64))))))) (.cons (.int .i64) .nil)), (.int .i64), w_szHeldS k⟩] [] Try.f43 (.cons (.agg (.cons (.il true (.pair (.int .i64) (.pair (.int .i64) (.pair (.int .i64) (.pair (.list .str) (.pair (.list .bool) (.int .i64))))))) .nil)) (.cons (.int .i64) .nil)) (.int .i64) x = w_szShelf k x := by kernel_rfl
theorem e_w_szShelf (k : Nat) : EntryOk Try.prog ⟨43, 0, (.cons (.agg (.cons (.il true (.pair (.int .i64) (.pair (.int .i64) (.pair (.int .i64) (.pair (.list .str) (.pair (.list .bool) (.int .i64))))))) .nil)) (.cons (.int .i64) .nil)), (.int .i64), w_szShelf k⟩ := entry_ok tok (by intro e he; simp only [List.mem_cons, List.not_mem_nil, or_false] at he; rcases he with rfl <;> first | exact e_w_szHeldS k) (by kernel_rfl) (fn := Try.f43) (k := k) (es := [⟨86, 0, (.cons (.il true (.pair (.int .i64) (.pair (.int .i64) (.pair (.int .i64) (.pair (.list .str) (.pair (.list .bool) (.int .i64))))))) (.cons (.int .i64) .nil)), (.int .i64), w_szHeldS k⟩]) (loops := []) (by kernel_rfl) (by kernel_rfl) (fun x r h => (t_w_szShelf k x).trans h)
def s_l20Held (k : Nat) (x : (Int × Int × Int × List (ByteArray) × List (Bool) × Int × Unit) × Unit) : Option (Bool × Unit × Unit) :=
((s_l01In k (x.1.1, ((1 : Int), ((99 : Int), ())))).bind fun p1 =>
(if (!p1.1) = false then
((s_l01In k (x.1.2.1, ((0 : Int), ((255 : Int), ())))).bind fun p2 =>
(if (!p2.1) = false then
((s_l01In k (x.1.2.2.1, ((2 : Int), ((15 : Int), ())))).bind fun p3 =>
(if (!p3.1) = false then
(if (!decide ((List.length x.1.2.2.2.1 : Int) = x.1.2.2.1)) = false then
(if (!decide ((List.length x.1.2.2.2.2.1 : Int) = x.1.2.2.1)) = false then
((s_l01In k (x.1.2.2.2.2.2.1, ((0 : Int), ((1000000000 : Int), ())))).bind fun p4 =>
(if (!p4.1) = true then
some (false, ((), ()))
else
(whileK (fun (rec0 : ((Int × Int × Int × List (ByteArray) × List (Bool) × Int × Unit) × Int × Int × Unit) → Option _) (y0 : (Int × Int × Int × List (ByteArray) × List (Bool) × Int × Unit) × Int × Int × Unit) =>
(if (decide (y0.2.2.1 < y0.1.2.2.1)) = true then
(jn (fun (j1v0 : Int) =>
(if 0 ≤ y0.2.2.1 ∧ y0.2.2.1 < (List.length y0.1.2.2.2.2.1 : Int) then
(if (!(Ty.rd (t := .bool) y0.1.2.2.2.2.1 y0.2.2.1)) = true then
(if 0 ≤ y0.2.2.1 ∧ y0.2.2.1 < (List.length y0.1.2.2.2.1 : Int) then
(if (!decide ((Ty.rd (t := .str) y0.1.2.2.2.1 y0.2.2.1) = (⟨#[]⟩ : ByteArray))) = false then
(if 0 ≤ y0.2.2.1 ∧ y0.2.2.1 < (List.length y0.1.2.2.2.1 : Int) then
(if (decide ((120 : Int) < (ByteArray.size (Ty.rd (t := .str) y0.1.2.2.2.1 y0.2.2.1) : Int))) = true then
some (false, ((), ()))
else
(rec0 ((y0.1.1, (y0.1.2.1, (y0.1.2.2.1, (y0.1.2.2.2.1, (y0.1.2.2.2.2.1, (y0.1.2.2.2.2.2.1, ())))))), (j1v0, ((wi64 (y0.2.2.1 + (1 : Int))), ())))))
else none)
else
some (false, ((), ())))
else none)
else
(if 0 ≤ y0.2.2.1 ∧ y0.2.2.1 < (List.length y0.1.2.2.2.1 : Int) then
(if (decide ((120 : Int) < (ByteArray.size (Ty.rd (t := .str) y0.1.2.2.2.1 y0.2.2.1) : Int))) = true then
some (false, ((), ()))
else
(rec0 ((y0.1.1, (y0.1.2.1, (y0.1.2.2.1, (y0.1.2.2.2.1, (y0.1.2.2.2.2.1, (y0.1.2.2.2.2.2.1, ())))))), (j1v0, ((wi64 (y0.2.2.1 + (1 : Int))), ())))))
else none))
else none)) (fun (j1 : Int → Option _) =>
(if 0 ≤ y0.2.2.1 ∧ y0.2.2.1 < (List.length y0.1.2.2.2.2.1 : Int) then
(if (Ty.rd (t := .bool) y0.1.2.2.2.2.1 y0.2.2.1) = true then
(j1 (wi64 (y0.2.1 + (1 : Int))))
else
(j1 y0.2.1))
else none)))
else
((fun (z1 : (Int × Int × Int × List (ByteArray) × List (Bool) × Int × Unit) × Int × Unit) =>
(if (decide ((1 : Int) ≤ z1.2.1)) = true then
some ((decide (z1.2.1 < z1.1.2.2.1)), ((), ()))
else
some (false, ((), ())))) ((y0.1.1, (y0.1.2.1, (y0.1.2.2.1, (y0.1.2.2.2.1, (y0.1.2.2.2.2.1, (y0.1.2.2.2.2.2.1, ())))))), (y0.2.1, ()))))) k ((x.1.1, (x.1.2.1, (x.1.2.2.1, (x.1.2.2.2.1, (x.1.2.2.2.2.1, (x.1.2.2.2.2.2.1, ())))))), ((0 : Int), ((0 : Int), ()))))))
else
some (false, ((), ())))
else
some (false, ((), ())))
else
some (false, ((), ()))))
else
some (false, ((), ()))))
else
some (false, ((), ()))))
theorem t_s_l20Held (k : Nat) (x) : evF TTab k [⟨64, 0, (.cons (.int .i64) (.cons (.int .i64) (.cons (.int .i64) .nil))), .bool, s_l01In k⟩] [(0, ⟨[1, 3, 4], (.cons (.ptr (.cons (.int .i64) (.cons (.int .i64) (.cons (.int .i64) (.cons (.il true .str) (.cons (.il true .bool) (.cons (.int .i64) .nil))))))) (.cons (.int .i64) (.cons (.int .i64) .nil)))⟩, ⟨[1, 3], (.cons (.ptr (.cons (.int .i64) (.cons (.int .i64) (.cons (.int .i64) (.cons (.il true .str) (.cons (.il true .bool) (.cons (.int .i64) .nil))))))) (.cons (.int .i64) .nil))⟩)] Try.f87 (.cons (.agg (.cons (.int .i64) (.cons (.int .i64) (.cons (.int .i64) (.cons (.il true .str) (.cons (.il true .bool) (.cons (.int .i64) .nil))))))) .nil) .bool x = s_l20Held k x := by kernel_rfl
theorem e_s_l20Held (k : Nat) : EntryOk Try.prog ⟨87, 0, (.cons (.agg (.cons (.int .i64) (.cons (.int .i64) (.cons (.int .i64) (.cons (.il true .str) (.cons (.il true .bool) (.cons (.int .i64) .nil))))))) .nil), .bool, s_l20Held k⟩ := entry_ok tok (by intro e he; simp only [List.mem_cons, List.not_mem_nil, or_false] at he; rcases he with rfl <;> first | exact e_s_l01In k) (by kernel_rfl) (fn := Try.f87) (k := k) (es := [⟨64, 0, (.cons (.int .i64) (.cons (.int .i64) (.cons (.int .i64) .nil))), .bool, s_l01In k⟩]) (loops := [(0, ⟨[1, 3, 4], (.cons (.ptr (.cons (.int .i64) (.cons (.int .i64) (.cons (.int .i64) (.cons (.il true .str) (.cons (.il true .bool) (.cons (.int .i64) .nil))))))) (.cons (.int .i64) (.cons (.int .i64) .nil)))⟩, ⟨[1, 3], (.cons (.ptr (.cons (.int .i64) (.cons (.int .i64) (.cons (.int .i64) (.cons (.il true .str) (.cons (.il true .bool) (.cons (.int .i64) .nil))))))) (.cons (.int .i64) .nil))⟩)]) (by kernel_rfl) (by kernel_rfl) (fun x r h => (t_s_l20Held k x).trans h)
def s_ShelfOk (k : Nat) (x : ((List (Int × Int × Int × List (ByteArray) × List (Bool) × Int)) × Unit) × Unit) : Option (Bool × Unit × Unit) :=
(whileK (fun (rec0 : (((List (Int × Int × Int × List (ByteArray) × List (Bool) × Int)) × Unit) × Int × Unit) → Option _) (y0 : ((List (Int × Int × Int × List (ByteArray) × List (Bool) × Int)) × Unit) × Int × Unit) =>
(if (decide (y0.2.1 < (List.length y0.1.1 : Int))) = true then
(if 0 ≤ y0.2.1 ∧ y0.2.1 < (List.length y0.1.1 : Int) then
((s_l20Held k (((Ty.rd (t := (.pair (.int .i64) (.pair (.int .i64) (.pair (.int .i64) (.pair (.list .str) (.pair (.list .bool) (.int .i64))))))) y0.1.1 y0.2.1).1, ((Ty.rd (t := (.pair (.int .i64) (.pair (.int .i64) (.pair (.int .i64) (.pair (.list .str) (.pair (.list .bool) (.int .i64))))))) y0.1.1 y0.2.1).2.1, ((Ty.rd (t := (.pair (.int .i64) (.pair (.int .i64) (.pair (.int .i64) (.pair (.list .str) (.pair (.list .bool) (.int .i64))))))) y0.1.1 y0.2.1).2.2.1, ((Ty.rd (t := (.pair (.int .i64) (.pair (.int .i64) (.pair (.int .i64) (.pair (.list .str) (.pair (.list .bool) (.int .i64))))))) y0.1.1 y0.2.1).2.2.2.1, ((Ty.rd (t := (.pair (.int .i64) (.pair (.int .i64) (.pair (.int .i64) (.pair (.list .str) (.pair (.list .bool) (.int .i64))))))) y0.1.1 y0.2.1).2.2.2.2.1, ((Ty.rd (t := (.pair (.int .i64) (.pair (.int .i64) (.pair (.int .i64) (.pair (.list .str) (.pair (.list .bool) (.int .i64))))))) y0.1.1 y0.2.1).2.2.2.2.2, ())))))), ())).bind fun p1 =>
(if (!p1.1) = true then
some (false, ((), ()))
else
(whileK (fun (rec2 : (((List (Int × Int × Int × List (ByteArray) × List (Bool) × Int)) × Unit) × Int × Int × Unit) → Option _) (y2 : ((List (Int × Int × Int × List (ByteArray) × List (Bool) × Int)) × Unit) × Int × Int × Unit) =>
(if (decide (y2.2.2.1 < y2.2.1)) = true then
(if 0 ≤ y2.2.2.1 ∧ y2.2.2.1 < (List.length y2.1.1 : Int) then
(if 0 ≤ y2.2.1 ∧ y2.2.1 < (List.length y2.1.1 : Int) then
(if (decide ((Ty.rd (t := (.pair (.int .i64) (.pair (.int .i64) (.pair (.int .i64) (.pair (.list .str) (.pair (.list .bool) (.int .i64))))))) y2.1.1 y2.2.2.1).1 = (Ty.rd (t := (.pair (.int .i64) (.pair (.int .i64) (.pair (.int .i64) (.pair (.list .str) (.pair (.list .bool) (.int .i64))))))) y2.1.1 y2.2.1).1)) = true then
(if 0 ≤ y2.2.2.1 ∧ y2.2.2.1 < (List.length y2.1.1 : Int) then
(if 0 ≤ y2.2.1 ∧ y2.2.1 < (List.length y2.1.1 : Int) then
(if (decide ((Ty.rd (t := (.pair (.int .i64) (.pair (.int .i64) (.pair (.int .i64) (.pair (.list .str) (.pair (.list .bool) (.int .i64))))))) y2.1.1 y2.2.2.1).2.1 = (Ty.rd (t := (.pair (.int .i64) (.pair (.int .i64) (.pair (.int .i64) (.pair (.list .str) (.pair (.list .bool) (.int .i64))))))) y2.1.1 y2.2.1).2.1)) = true then
some (false, ((), ()))
else
(rec2 ((y2.1.1, ()), (y2.2.1, ((wi64 (y2.2.2.1 + (1 : Int))), ())))))
else none)
else none)
else
(rec2 ((y2.1.1, ()), (y2.2.1, ((wi64 (y2.2.2.1 + (1 : Int))), ())))))
else none)
else none)
else
((fun (z1 : ((List (Int × Int × Int × List (ByteArray) × List (Bool) × Int)) × Unit) × Int × Unit) =>
(rec0 ((z1.1.1, ()), ((wi64 (z1.2.1 + (1 : Int))), ())))) ((y2.1.1, ()), (y2.2.1, ()))))) k ((y0.1.1, ()), (y0.2.1, ((0 : Int), ()))))))
else none)
else
((fun (z2 : ((List (Int × Int × Int × List (ByteArray) × List (Bool) × Int)) × Unit) × Unit) =>
some ((decide ((List.length z2.1.1 : Int) ≤ (3 : Int))), ((), ()))) ((y0.1.1, ()), ())))) k ((x.1.1, ()), ((0 : Int), ())))
theorem t_s_ShelfOk (k : Nat) (x) : evF TTab k [⟨87, 0, (.cons (.agg (.cons (.int .i64) (.cons (.int .i64) (.cons (.int .i64) (.cons (.il true .str) (.cons (.il true .bool) (.cons (.int .i64) .nil))))))) .nil), .bool, s_l20Held k⟩] [(0, ⟨[1, 3], (.cons (.ptr (.cons (.il true (.pair (.int .i64) (.pair (.int .i64) (.pair (.int .i64) (.pair (.list .str) (.pair (.list .bool) (.int .i64))))))) .nil)) (.cons (.int .i64) .nil))⟩, ⟨[1], (.cons (.ptr (.cons (.il true (.pair (.int .i64) (.pair (.int .i64) (.pair (.int .i64) (.pair (.list .str) (.pair (.list .bool) (.int .i64))))))) .nil)) .nil)⟩), (2, ⟨[1, 3, 4], (.cons (.ptr (.cons (.il true (.pair (.int .i64) (.pair (.int .i64) (.pair (.int .i64) (.pair (.list .str) (.pair (.list .bool) (.int .i64))))))) .nil)) (.cons (.int .i64) (.cons (.int .i64) .nil)))⟩, ⟨[1, 3], (.cons (.ptr (.cons (.il true (.pair (.int .i64) (.pair (.int .i64) (.pair (.int .i64) (.pair (.list .str) (.pair (.list .bool) (.int .i64))))))) .nil)) (.cons (.int .i64) .nil))⟩)] Try.f44 (.cons (.agg (.cons (.il true (.pair (.int .i64) (.pair (.int .i64) (.pair (.int .i64) (.pair (.list .str) (.pair (.list .bool) (.int .i64))))))) .nil)) .nil) .bool x = s_ShelfOk k x := by kernel_rfl
theorem e_s_ShelfOk (k : Nat) : EntryOk Try.prog ⟨44, 0, (.cons (.agg (.cons (.il true (.pair (.int .i64) (.pair (.int .i64) (.pair (.int .i64) (.pair (.list .str) (.pair (.list .bool) (.int .i64))))))) .nil)) .nil), .bool, s_ShelfOk k⟩ := entry_ok tok (by intro e he; simp only [List.mem_cons, List.not_mem_nil, or_false] at he; rcases he with rfl <;> first | exact e_s_l20Held k) (by kernel_rfl) (fn := Try.f44) (k := k) (es := [⟨87, 0, (.cons (.agg (.cons (.int .i64) (.cons (.int .i64) (.cons (.int .i64) (.cons (.il true .str) (.cons (.il true .bool) (.cons (.int .i64) .nil))))))) .nil), .bool, s_l20Held k⟩]) (loops := [(0, ⟨[1, 3], (.cons (.ptr (.cons (.il true (.pair (.int .i64) (.pair (.int .i64) (.pair (.int .i64) (.pair (.list .str) (.pair (.list .bool) (.int .i64))))))) .nil)) (.cons (.int .i64) .nil))⟩, ⟨[1], (.cons (.ptr (.cons (.il true (.pair (.int .i64) (.pair (.int .i64) (.pair (.int .i64) (.pair (.list .str) (.pair (.list .bool) (.int .i64))))))) .nil)) .nil)⟩), (2, ⟨[1, 3, 4], (.cons (.ptr (.cons (.il true (.pair (.int .i64) (.pair (.int .i64) (.pair (.int .i64) (.pair (.list .str) (.pair (.list .bool) (.int .i64))))))) .nil)) (.cons (.int .i64) (.cons (.int .i64) .nil)))⟩, ⟨[1, 3], (.cons (.ptr (.cons (.il true (.pair (.int .i64) (.pair (.int .i64) (.pair (.int .i64) (.pair (.list .str) (.pair (.list .bool) (.int .i64))))))) .nil)) (.cons (.int .i64) .nil))⟩)]) (by kernel_rfl) (by kernel_rfl) (fun x r h => (t_s_ShelfOk k x).trans h)
def w_toStringS (k : Nat) (x : List (ByteArray) × Unit) : Option (List (ByteArray) × Unit × Unit) :=
(if (List.length x.1 : Int) = (List.length x.1 : Int) then
(if 0 ≤ (List.length x.1 : Int) ∧ (List.length x.1 : Int) ≤ (capMax : Int) then
(whileK (fun (rec0 : (List (ByteArray) × List (ByteArray) × Int × Unit) → Option _) (y0 : List (ByteArray) × List (ByteArray) × Int × Unit) =>
(if (decide (y0.2.2.1 < (List.length y0.1 : Int))) = true then
(if 0 ≤ y0.2.2.1 ∧ y0.2.2.1 < (List.length y0.1 : Int) then
(if 0 ≤ y0.2.2.1 ∧ y0.2.2.1 < (List.length y0.2.1 : Int) then
(rec0 (y0.1, ((List.set y0.2.1 (Int.toNat y0.2.2.1) (Ty.rd (t := .str) y0.1 y0.2.2.1)), ((wi64 (y0.2.2.1 + (1 : Int))), ()))))
else none)
else none)
else
((fun (z1 : List (ByteArray) × Unit) =>
some (z1.1, ((), ()))) (y0.2.1, ())))) k (x.1, ((List.replicate (Int.toNat (List.length x.1 : Int)) (⟨#[]⟩ : ByteArray)), ((0 : Int), ()))))
else none)
else none)
theorem t_w_toStringS (k : Nat) (x) : evF TTab k [] [(0, ⟨[0, 3, 4], (.cons (.il true .str) (.cons (.own false 9 .str) (.cons (.int .i64) .nil)))⟩, ⟨[3], (.cons (.own false 9 .str) .nil)⟩)] Try.f151 (.cons (.il true .str) .nil) (.own false 9 .str) x = w_toStringS k x := by kernel_rfl
theorem e_w_toStringS (k : Nat) : EntryOk Try.prog ⟨151, 0, (.cons (.il true .str) .nil), (.own false 9 .str), w_toStringS k⟩ := entry_ok tok (by simp) (by kernel_rfl) (fn := Try.f151) (k := k) (es := []) (loops := [(0, ⟨[0, 3, 4], (.cons (.il true .str) (.cons (.own false 9 .str) (.cons (.int .i64) .nil)))⟩, ⟨[3], (.cons (.own false 9 .str) .nil)⟩)]) (by kernel_rfl) (by kernel_rfl) (fun x r h => (t_w_toStringS k x).trans h)
def w_toBoolS (k : Nat) (x : List (Bool) × Unit) : Option (List (Bool) × Unit × Unit) :=
(if (List.length x.1 : Int) = (List.length x.1 : Int) then
(if 0 ≤ (List.length x.1 : Int) ∧ (List.length x.1 : Int) ≤ (capMax : Int) then
(whileK (fun (rec0 : (List (Bool) × List (Bool) × Int × Unit) → Option _) (y0 : List (Bool) × List (Bool) × Int × Unit) =>
(if (decide (y0.2.2.1 < (List.length y0.1 : Int))) = true then
(if 0 ≤ y0.2.2.1 ∧ y0.2.2.1 < (List.length y0.1 : Int) then
(if 0 ≤ y0.2.2.1 ∧ y0.2.2.1 < (List.length y0.2.1 : Int) then
(rec0 (y0.1, ((List.set y0.2.1 (Int.toNat y0.2.2.1) (Ty.rd (t := .bool) y0.1 y0.2.2.1)), ((wi64 (y0.2.2.1 + (1 : Int))), ()))))
else none)
else none)
else
((fun (z1 : List (Bool) × Unit) =>
some (z1.1, ((), ()))) (y0.2.1, ())))) k (x.1, ((List.replicate (Int.toNat (List.length x.1 : Int)) false), ((0 : Int), ()))))
else none)
else none)
theorem t_w_toBoolS (k : Nat) (x) : evF TTab k [] [(0, ⟨[0, 3, 4], (.cons (.il true .bool) (.cons (.own false 4 .bool) (.cons (.int .i64) .nil)))⟩, ⟨[3], (.cons (.own false 4 .bool) .nil)⟩)] Try.f152 (.cons (.il true .bool) .nil) (.own false 4 .bool) x = w_toBoolS k x := by kernel_rfl
theorem e_w_toBoolS (k : Nat) : EntryOk Try.prog ⟨152, 0, (.cons (.il true .bool) .nil), (.own false 4 .bool), w_toBoolS k⟩ := entry_ok tok (by simp) (by kernel_rfl) (fn := Try.f152) (k := k) (es := []) (loops := [(0, ⟨[0, 3, 4], (.cons (.il true .bool) (.cons (.own false 4 .bool) (.cons (.int .i64) .nil)))⟩, ⟨[3], (.cons (.own false 4 .bool) .nil)⟩)]) (by kernel_rfl) (by kernel_rfl) (fun x r h => (t_w_toBoolS k x).trans h)
def w_toHeld (k : Nat) (x : (Int × Int × Int × List (ByteArray) × List (Bool) × Int × Unit) × Unit) : Option ((Int × Int × Int × List (ByteArray) × List (Bool) × Int × Unit) × Unit × Unit) :=
((w_toStringS k (x.1.2.2.2.1, ())).bind fun p1 =>
((w_toBoolS k (x.1.2.2.2.2.1, ())).bind fun p2 =>
some ((x.1.1, (x.1.2.1, (x.1.2.2.1, (p1.1, (p2.1, (x.1.2.2.2.2.2.1, ())))))), ((), ()))))
theorem t_w_toHeld (k : Nat) (x) : evF TTab k [⟨151, 0, (.cons (.il true .str) .nil), (.own false 9 .str), w_toStringS k⟩, ⟨152, 0, (.cons (.il true .bool) .nil), (.own false 4 .bool), w_toBoolS k⟩] [] Try.f126 (.cons (.agg (.cons (.int .i64) (.cons (.int .i64) (.cons (.int .i64) (.cons (.il true .str) (.cons (.il true .bool) (.cons (.int .i64) .nil))))))) .nil) (.agg (.cons (.int .i64) (.cons (.int .i64) (.cons (.int .i64) (.cons (.own false 9 .str) (.cons (.own false 4 .bool) (.cons (.int .i64) .nil))))))) x = w_toHeld k x := by kernel_rfl
theorem e_w_toHeld (k : Nat) : EntryOk Try.prog ⟨126, 0, (.cons (.agg (.cons (.int .i64) (.cons (.int .i64) (.cons (.int .i64) (.cons (.il true .str) (.cons (.il true .bool) (.cons (.int .i64) .nil))))))) .nil), (.agg (.cons (.int .i64) (.cons (.int .i64) (.cons (.int .i64) (.cons (.own false 9 .str) (.cons (.own false 4 .bool) (.cons (.int .i64) .nil))))))), w_toHeld k⟩ := entry_ok tok (by intro e he; simp only [List.mem_cons, List.not_mem_nil, or_false] at he; rcases he with rfl | rfl <;> first | exact e_w_toStringS k | exact e_w_toBoolS k) (by kernel_rfl) (fn := Try.f126) (k := k) (es := [⟨151, 0, (.cons (.il true .str) .nil), (.own false 9 .str), w_toStringS k⟩, ⟨152, 0, (.cons (.il true .bool) .nil), (.own false 4 .bool), w_toBoolS k⟩]) (loops := []) (by kernel_rfl) (by kernel_rfl) (fun x r h => (t_w_toHeld k x).trans h)
def w_toHeldS (k : Nat) (x : (List (Int × Int × Int × List (ByteArray) × List (Bool) × Int)) × Unit) : Option ((List (Int × Int × Int × List (ByteArray) × List (Bool) × Int)) × Unit × Unit) :=
(if (List.length x.1 : Int) = (List.length x.1 : Int) then
(if 0 ≤ (List.length x.1 : Int) ∧ (List.length x.1 : Int) ≤ (capMax : Int) then
(whileK (fun (rec0 : ((List (Int × Int × Int × List (ByteArray) × List (Bool) × Int)) × (List (Int × Int × Int × List (ByteArray) × List (Bool) × Int)) × Int × Unit) → Option _) (y0 : (List (Int × Int × Int × List (ByteArray) × List (Bool) × Int)) × (List (Int × Int × Int × List (ByteArray) × List (Bool) × Int)) × Int × Unit) =>
(if (decide (y0.2.2.1 < (List.length y0.1 : Int))) = true then
(if 0 ≤ y0.2.2.1 ∧ y0.2.2.1 < (List.length y0.1 : Int) then
((w_toHeld k (((Ty.rd (t := (.pair (.int .i64) (.pair (.int .i64) (.pair (.int .i64) (.pair (.list .str) (.pair (.list .bool) (.int .i64))))))) y0.1 y0.2.2.1).1, ((Ty.rd (t := (.pair (.int .i64) (.pair (.int .i64) (.pair (.int .i64) (.pair (.list .str) (.pair (.list .bool) (.int .i64))))))) y0.1 y0.2.2.1).2.1, ((Ty.rd (t := (.pair (.int .i64) (.pair (.int .i64) (.pair (.int .i64) (.pair (.list .str) (.pair (.list .bool) (.int .i64))))))) y0.1 y0.2.2.1).2.2.1, ((Ty.rd (t := (.pair (.int .i64) (.pair (.int .i64) (.pair (.int .i64) (.pair (.list .str) (.pair (.list .bool) (.int .i64))))))) y0.1 y0.2.2.1).2.2.2.1, ((Ty.rd (t := (.pair (.int .i64) (.pair (.int .i64) (.pair (.int .i64) (.pair (.list .str) (.pair (.list .bool) (.int .i64))))))) y0.1 y0.2.2.1).2.2.2.2.1, ((Ty.rd (t := (.pair (.int .i64) (.pair (.int .i64) (.pair (.int .i64) (.pair (.list .str) (.pair (.list .bool) (.int .i64))))))) y0.1 y0.2.2.1).2.2.2.2.2, ())))))), ())).bind fun p1 =>
(if 0 ≤ y0.2.2.1 ∧ y0.2.2.1 < (List.length y0.2.1 : Int) then
(rec0 (y0.1, ((List.set y0.2.1 (Int.toNat y0.2.2.1) (p1.1.1, (p1.1.2.1, (p1.1.2.2.1, (p1.1.2.2.2.1, (p1.1.2.2.2.2.1, p1.1.2.2.2.2.2.1)))))), ((wi64 (y0.2.2.1 + (1 : Int))), ()))))
else none))
else none)
else
((fun (z1 : (List (Int × Int × Int × List (ByteArray) × List (Bool) × Int)) × Unit) =>
some (z1.1, ((), ()))) (y0.2.1, ())))) k (x.1, ((List.replicate (Int.toNat (List.length x.1 : Int)) ((0 : Int), ((0 : Int), ((0 : Int), ([], ([], (0 : Int))))))), ((0 : Int), ()))))
else none)
else none)
theorem t_w_toHeldS (k : Nat) (x) : evF TTab k [⟨126, 0, (.cons (.agg (.cons (.int .i64) (.cons (.int .i64) (.cons (.int .i64) (.cons (.il true .str) (.cons (.il true .bool) (.cons (.int .i64) .nil))))))) .nil), (.agg (.cons (.int .i64) (.cons (.int .i64) (.cons (.int .i64) (.cons (.own false 9 .str) (.cons (.own false 4 .bool) (.cons (.int .i64) .nil))))))), w_toHeld k⟩] [(0, ⟨[0, 3, 4], (.cons (.il true (.pair (.int .i64) (.pair (.int .i64) (.pair (.int .i64) (.pair (.list .str) (.pair (.list .bool) (.int .i64))))))) (.cons (.own false 126 (.pair (.int .i64) (.pair (.int .i64) (.pair (.int .i64) (.pair (.list .str) (.pair (.list .bool) (.int .i64))))))) (.cons (.int .i64) .nil)))⟩, ⟨[3], (.cons (.own false 126 (.pair (.int .i64) (.pair (.int .i64) (.pair (.int .i64) (.pair (.list .str) (.pair (.list .bool) (.int .i64))))))) .nil)⟩)] Try.f88 (.cons (.il true (.pair (.int .i64) (.pair (.int .i64) (.pair (.int .i64) (.pair (.list .str) (.pair (.list .bool) (.int .i64))))))) .nil) (.own false 126 (.pair (.int .i64) (.pair (.int .i64) (.pair (.int .i64) (.pair (.list .str) (.pair (.list .bool) (.int .i64))))))) x = w_toHeldS k x := by kernel_rfl
theorem e_w_toHeldS (k : Nat) : EntryOk Try.prog ⟨88, 0, (.cons (.il true (.pair (.int .i64) (.pair (.int .i64) (.pair (.int .i64) (.pair (.list .str) (.pair (.list .bool) (.int .i64))))))) .nil), (.own false 126 (.pair (.int .i64) (.pair (.int .i64) (.pair (.int .i64) (.pair (.list .str) (.pair (.list .bool) (.int .i64))))))), w_toHeldS k⟩ := entry_ok tok (by intro e he; simp only [List.mem_cons, List.not_mem_nil, or_false] at he; rcases he with rfl <;> first | exact e_w_toHeld k) (by kernel_rfl) (fn := Try.f88) (k := k) (es := [⟨126, 0, (.cons (.agg (.cons (.int .i64) (.cons (.int .i64) (.cons (.int .i64) (.cons (.il true .str) (.cons (.il true .bool) (.cons (.int .i64) .nil))))))) .nil), (.agg (.cons (.int .i64) (.cons (.int .i64) (.cons (.int .i64) (.cons (.own false 9 .str) (.cons (.own false 4 .bool) (.cons (.int .i64) .nil))))))), w_toHeld k⟩]) (loops := [(0, ⟨[0, 3, 4], (.cons (.il true (.pair (.int .i64) (.pair (.int .i64) (.pair (.int .i64) (.pair (.list .str) (.pair (.list .bool) (.int .i64))))))) (.cons (.own false 126 (.pair (.int .i64) (.pair (.int .i64) (.pair (.int .i64) (.pair (.list .str) (.pair (.list .bool) (.int .i64))))))) (.cons (.int .i64) .nil)))⟩, ⟨[3], (.cons (.own false 126 (.pair (.int .i64) (.pair (.int .i64) (.pair (.int .i64) (.pair (.list .str) (.pair (.list .bool) (.int .i64))))))) .nil)⟩)]) (by kernel_rfl) (by kernel_rfl) (fun x r h => (t_w_toHeldS k x).trans h)
def w_toShelf (k : Nat) (x : ((List (Int × Int × Int × List (ByteArray) × List (Bool) × Int)) × Unit) × Unit) : Option (((List (Int × Int × Int × List (ByteArray) × List (Bool) × Int)) × Unit) × Unit × Unit) :=
((w_toHeldS k (x.1.1, ())).bind fun p1 =>
some ((p1.1, ()), ((), ())))
theorem t_w_toShelf (k : Nat) (x) : evF TTab k [⟨88, 0, (.cons (.il true (.pair (.int .i64) (.pair (.int .i64) (.pair (.int .i64) (.pair (.list .str) (.pair (.list .bool) (.int .i64))))))) .nil), (.own false 126 (.pair (.int .i64) (.pair (.int .i64) (.pair (.int .i64) (.pair (.list .str) (.pair (.list .bool) (.int .i64))))))), w_toHeldS k⟩] [] Try.f45 (.cons (.agg (.cons (.il true (.pair (.int .i64) (.pair (.int .i64) (.pair (.int .i64) (.pair (.list .str) (.pair (.list .bool) (.int .i64))))))) .nil)) .nil) (.agg (.cons (.own false 126 (.pair (.int .i64) (.pair (.int .i64) (.pair (.int .i64) (.pair (.list .str) (.pair (.list .bool) (.int .i64))))))) .nil)) x = w_toShelf k x := by kernel_rfl
theorem e_w_toShelf (k : Nat) : EntryOk Try.prog ⟨45, 0, (.cons (.agg (.cons (.il true (.pair (.int .i64) (.pair (.int .i64) (.pair (.int .i64) (.pair (.list .str) (.pair (.list .bool) (.int .i64))))))) .nil)) .nil), (.agg (.cons (.own false 126 (.pair (.int .i64) (.pair (.int .i64) (.pair (.int .i64) (.pair (.list .str) (.pair (.list .bool) (.int .i64))))))) .nil)), w_toShelf k⟩ := entry_ok tok (by intro e he; simp only [List.mem_cons, List.not_mem_nil, or_false] at he; rcases he with rfl <;> first | exact e_w_toHeldS k) (by kernel_rfl) (fn := Try.f45) (k := k) (es := [⟨88, 0, (.cons (.il true (.pair (.int .i64) (.pair (.int .i64) (.pair (.int .i64) (.pair (.list .str) (.pair (.list .bool) (.int .i64))))))) .nil), (.own false 126 (.pair (.int .i64) (.pair (.int .i64) (.pair (.int .i64) (.pair (.list .str) (.pair (.list .bool) (.int .i64))))))), w_toHeldS k⟩]) (loops := []) (by kernel_rfl) (by kernel_rfl) (fun x r h => (t_w_toShelf k x).trans h)
def i_isId (k : Nat) (x : Int × Unit) : Option (Bool × Unit × Unit) :=
((i_within k (x.1, ((1 : Int), ((99 : Int), ())))).bind fun p1 =>
some (p1.1, ((), ())))
theorem t_i_isId (k : Nat) (x) : evF TTab k [⟨65, 0, (.cons (.int .i64) (.cons (.int .i64) (.cons (.int .i64) .nil))), .bool, i_within k⟩] [] Try.f105 (.cons (.int .i64) .nil) .bool x = i_isId k x := by kernel_rfl
theorem e_i_isId (k : Nat) : EntryOk Try.prog ⟨105, 0, (.cons (.int .i64) .nil), .bool, i_isId k⟩ := entry_ok tok (by intro e he; simp only [List.mem_cons, List.not_mem_nil, or_false] at he; rcases he with rfl <;> first | exact e_i_within k) (by kernel_rfl) (fn := Try.f105) (k := k) (es := [⟨65, 0, (.cons (.int .i64) (.cons (.int .i64) (.cons (.int .i64) .nil))), .bool, i_within k⟩]) (loops := []) (by kernel_rfl) (by kernel_rfl) (fun x r h => (t_i_isId k x).trans h)
def i_heldOk (k : Nat) (x : (Int × Int × Int × List (ByteArray) × List (Bool) × Int × Unit) × Unit) : Option (Bool × Unit × Unit) :=
((i_isId k (x.1.1, ())).bind fun p1 =>
(if (!p1.1) = false then
((i_within k (x.1.2.1, ((0 : Int), ((255 : Int), ())))).bind fun p2 =>
(if (!p2.1) = false then
((i_within k (x.1.2.2.1, ((2 : Int), ((15 : Int), ())))).bind fun p3 =>
(if (!p3.1) = false then
(if (!decide ((List.length x.1.2.2.2.1 : Int) = x.1.2.2.1)) = false then
(if (!decide ((List.length x.1.2.2.2.2.1 : Int) = x.1.2.2.1)) = true then
some (false, ((), ()))
else
(whileK (fun (rec0 : ((Int × Int × Int × List (ByteArray) × List (Bool) × Int × Unit) × Int × List (Bool) × Int × Int × Unit) → Option _) (y0 : (Int × Int × Int × List (ByteArray) × List (Bool) × Int × Unit) × Int × List (Bool) × Int × Int × Unit) =>
(if (decide (y0.2.2.2.2.1 < y0.2.2.2.1)) = true then
(if 0 ≤ y0.2.2.2.2.1 ∧ y0.2.2.2.2.1 < (List.length y0.2.2.1 : Int) then
(if (Ty.rd (t := .bool) y0.2.2.1 y0.2.2.2.2.1) = true then
(if 0 ≤ y0.2.2.2.2.1 ∧ y0.2.2.2.2.1 < (List.length y0.1.2.2.2.1 : Int) then
(if (decide ((120 : Int) < (ByteArray.size (Ty.rd (t := .str) y0.1.2.2.2.1 y0.2.2.2.2.1) : Int))) = false then
(if (!(Ty.rd (t := .bool) y0.2.2.1 y0.2.2.2.2.1)) = true then
(if 0 ≤ y0.2.2.2.2.1 ∧ y0.2.2.2.2.1 < (List.length y0.1.2.2.2.1 : Int) then
(if (!decide ((Ty.rd (t := .str) y0.1.2.2.2.1 y0.2.2.2.2.1) = (⟨#[]⟩ : ByteArray))) = true then
some (false, ((), ()))
else
(rec0 ((y0.1.1, (y0.1.2.1, (y0.1.2.2.1, (y0.1.2.2.2.1, (y0.1.2.2.2.2.1, (y0.1.2.2.2.2.2.1, ())))))), ((wi64 (y0.2.1 + (1 : Int))), (y0.2.2.1, (y0.2.2.2.1, ((wi64 (y0.2.2.2.2.1 + (1 : Int))), ())))))))
else none)
else
(rec0 ((y0.1.1, (y0.1.2.1, (y0.1.2.2.1, (y0.1.2.2.2.1, (y0.1.2.2.2.2.1, (y0.1.2.2.2.2.2.1, ())))))), ((wi64 (y0.2.1 + (1 : Int))), (y0.2.2.1, (y0.2.2.2.1, ((wi64 (y0.2.2.2.2.1 + (1 : Int))), ())))))))
else
some (false, ((), ())))
else none)
else
(if 0 ≤ y0.2.2.2.2.1 ∧ y0.2.2.2.2.1 < (List.length y0.1.2.2.2.1 : Int) then
(if (decide ((120 : Int) < (ByteArray.size (Ty.rd (t := .str) y0.1.2.2.2.1 y0.2.2.2.2.1) : Int))) = false then
(if (!(Ty.rd (t := .bool) y0.2.2.1 y0.2.2.2.2.1)) = true then
(if 0 ≤ y0.2.2.2.2.1 ∧ y0.2.2.2.2.1 < (List.length y0.1.2.2.2.1 : Int) then
(if (!decide ((Ty.rd (t := .str) y0.1.2.2.2.1 y0.2.2.2.2.1) = (⟨#[]⟩ : ByteArray))) = true then
some (false, ((), ()))
else
(rec0 ((y0.1.1, (y0.1.2.1, (y0.1.2.2.1, (y0.1.2.2.2.1, (y0.1.2.2.2.2.1, (y0.1.2.2.2.2.2.1, ())))))), (y0.2.1, (y0.2.2.1, (y0.2.2.2.1, ((wi64 (y0.2.2.2.2.1 + (1 : Int))), ())))))))
else none)
else
(rec0 ((y0.1.1, (y0.1.2.1, (y0.1.2.2.1, (y0.1.2.2.2.1, (y0.1.2.2.2.2.1, (y0.1.2.2.2.2.2.1, ())))))), (y0.2.1, (y0.2.2.1, (y0.2.2.2.1, ((wi64 (y0.2.2.2.2.1 + (1 : Int))), ())))))))
else
some (false, ((), ())))
else none))
else none)
else
((fun (z1 : (Int × Int × Int × List (ByteArray) × List (Bool) × Int × Unit) × Int × Unit) =>
((i_within k (z1.2.1, ((1 : Int), ((wi64 (z1.1.2.2.1 - (1 : Int))), ())))).bind fun p4 =>
(if p4.1 = true then
((i_within k (z1.1.2.2.2.2.2.1, ((0 : Int), ((1000000000 : Int), ())))).bind fun p5 =>
some (p5.1, ((), ())))
else
some (false, ((), ()))))) ((y0.1.1, (y0.1.2.1, (y0.1.2.2.1, (y0.1.2.2.2.1, (y0.1.2.2.2.2.1, (y0.1.2.2.2.2.2.1, ())))))), (y0.2.1, ()))))) k ((x.1.1, (x.1.2.1, (x.1.2.2.1, (x.1.2.2.2.1, (x.1.2.2.2.2.1, (x.1.2.2.2.2.2.1, ())))))), ((0 : Int), (x.1.2.2.2.2.1, ((List.length x.1.2.2.2.2.1 : Int), ((0 : Int), ())))))))
else
some (false, ((), ())))
else
some (false, ((), ()))))
else
some (false, ((), ()))))
else
some (false, ((), ()))))
theorem t_i_heldOk (k : Nat) (x) : evF TTab k [⟨65, 0, (.cons (.int .i64) (.cons (.int .i64) (.cons (.int .i64) .nil))), .bool, i_within k⟩, ⟨105, 0, (.cons (.int .i64) .nil), .bool, i_isId k⟩] [(0, ⟨[1, 3, 39, 40, 41], (.cons (.ptr (.cons (.int .i64) (.cons (.int .i64) (.cons (.int .i64) (.cons (.il true .str) (.cons (.il true .bool) (.cons (.int .i64) .nil))))))) (.cons (.int .i64) (.cons (.il true .bool) (.cons (.int .i64) (.cons (.int .i64) .nil)))))⟩, ⟨[1, 3], (.cons (.ptr (.cons (.int .i64) (.cons (.int .i64) (.cons (.int .i64) (.cons (.il true .str) (.cons (.il true .bool) (.cons (.int .i64) .nil))))))) (.cons (.int .i64) .nil))⟩)] Try.f89 (.cons (.agg (.cons (.int .i64) (.cons (.int .i64) (.cons (.int .i64) (.cons (.il true .str) (.cons (.il true .bool) (.cons (.int .i64) .nil))))))) .nil) .bool x = i_heldOk k x := by kernel_rfl
theorem e_i_heldOk (k : Nat) : EntryOk Try.prog ⟨89, 0, (.cons (.agg (.cons (.int .i64) (.cons (.int .i64) (.cons (.int .i64) (.cons (.il true .str) (.cons (.il true .bool) (.cons (.int .i64) .nil))))))) .nil), .bool, i_heldOk k⟩ := entry_ok tok (by intro e he; simp only [List.mem_cons, List.not_mem_nil, or_false] at he; rcases he with rfl | rfl <;> first | exact e_i_within k | exact e_i_isId k) (by kernel_rfl) (fn := Try.f89) (k := k) (es := [⟨65, 0, (.cons (.int .i64) (.cons (.int .i64) (.cons (.int .i64) .nil))), .bool, i_within k⟩, ⟨105, 0, (.cons (.int .i64) .nil), .bool, i_isId k⟩]) (loops := [(0, ⟨[1, 3, 39, 40, 41], (.cons (.ptr (.cons (.int .i64) (.cons (.int .i64) (.cons (.int .i64) (.cons (.il true .str) (.cons (.il true .bool) (.cons (.int .i64) .nil))))))) (.cons (.int .i64) (.cons (.il true .bool) (.cons (.int .i64) (.cons (.int .i64) .nil)))))⟩, ⟨[1, 3], (.cons (.ptr (.cons (.int .i64) (.cons (.int .i64) (.cons (.int .i64) (.cons (.il true .str) (.cons (.il true .bool) (.cons (.int .i64) .nil))))))) (.cons (.int .i64) .nil))⟩)]) (by kernel_rfl) (by kernel_rfl) (fun x r h => (t_i_heldOk k x).trans h)
def i_heldAt_1 (k : Nat) (x : (Int × Int × Int × List (ByteArray) × List (Bool) × Int × Unit) × (Int × Unit) × (Int × Unit) × Unit) : Option (Bool × Unit × (Int × Unit) × (Int × Unit) × Unit) :=
(if (decide (x.1.1 = x.2.1.1)) = true then
some ((decide (x.1.2.1 = x.2.2.1.1)), ((), ((x.2.1.1, ()), ((x.2.2.1.1, ()), ()))))
else
some (false, ((), ((x.2.1.1, ()), ((x.2.2.1.1, ()), ())))))
theorem t_i_heldAt_1 (k : Nat) (x) : evF TTab k [] [] Try.f128 (.cons (.agg (.cons (.int .i64) (.cons (.int .i64) (.cons (.int .i64) (.cons (.il true .str) (.cons (.il true .bool) (.cons (.int .i64) .nil))))))) (.cons (.ptr (.cons (.int .i64) .nil)) (.cons (.ptr (.cons (.int .i64) .nil)) .nil))) .bool x = i_heldAt_1 k x := by kernel_rfl
theorem e_i_heldAt_1 (k : Nat) : EntryOk Try.prog ⟨128, 0, (.cons (.agg (.cons (.int .i64) (.cons (.int .i64) (.cons (.int .i64) (.cons (.il true .str) (.cons (.il true .bool) (.cons (.int .i64) .nil))))))) (.cons (.ptr (.cons (.int .i64) .nil)) (.cons (.ptr (.cons (.int .i64) .nil)) .nil))), .bool, i_heldAt_1 k⟩ := entry_ok tok (by simp) (by kernel_rfl) (fn := Try.f128) (k := k) (es := []) (loops := []) (by kernel_rfl) (by kernel_rfl) (fun x r h => (t_i_heldAt_1 k x).trans h)
def x_slices_IndexFunc_impl_Held_impl_Held_of_i_heldAt_1 (k : Nat) (x : (List (Int × Int × Int × List (ByteArray) × List (Bool) × Int)) × ((Int × Unit) × (Int × Unit) × Unit) × Unit) : Option (Int × Unit × ((Int × Unit) × (Int × Unit) × Unit) × Unit) :=
(whileK (fun (rec0 : ((List (Int × Int × Int × List (ByteArray) × List (Bool) × Int)) × ((Int × Unit) × (Int × Unit) × Unit) × Int × Int × Unit) → Option _) (y0 : (List (Int × Int × Int × List (ByteArray) × List (Bool) × Int)) × ((Int × Unit) × (Int × Unit) × Unit) × Int × Int × Unit) =>
(if (decide (y0.2.2.2.1 < y0.2.2.1)) = true then
(if 0 ≤ y0.2.2.2.1 ∧ y0.2.2.2.1 < (List.length y0.1 : Int) then
((i_heldAt_1 k (((Ty.rd (t := (.pair (.int .i64) (.pair (.int .i64) (.pair (.int .i64) (.pair (.list .str) (.pair (.list .bool) (.int .i64))))))) y0.1 y0.2.2.2.1).1, ((Ty.rd (t := (.pair (.int .i64) (.pair (.int .i64) (.pair (.int .i64) (.pair (.list .str) (.pair (.list .bool) (.int .i64))))))) y0.1 y0.2.2.2.1).2.1, ((Ty.rd (t := (.pair (.int .i64) (.pair (.int .i64) (.pair (.int .i64) (.pair (.list .str) (.pair (.list .bool) (.int .i64))))))) y0.1 y0.2.2.2.1).2.2.1, ((Ty.rd (t := (.pair (.int .i64) (.pair (.int .i64) (.pair (.int .i64) (.pair (.list .str) (.pair (.list .bool) (.int .i64))))))) y0.1 y0.2.2.2.1).2.2.2.1, ((Ty.rd (t := (.pair (.int .i64) (.pair (.int .i64) (.pair (.int .i64) (.pair (.list .str) (.pair (.list .bool) (.int .i64))))))) y0.1 y0.2.2.2.1).2.2.2.2.1, ((Ty.rd (t := (.pair (.int .i64) (.pair (.int .i64) (.pair (.int .i64) (.pair (.list .str) (.pair (.list .bool) (.int .i64))))))) y0.1 y0.2.2.2.1).2.2.2.2.2, ())))))), ((y0.2.1.1.1, ()), ((y0.2.1.2.1.1, ()), ())))).bind fun p1 =>
(if p1.1 = true then
some (y0.2.2.2.1, ((), (((p1.2.2.1.1, ()), ((p1.2.2.2.1.1, ()), ())), ())))
else
(rec0 (y0.1, (((p1.2.2.1.1, ()), ((p1.2.2.2.1.1, ()), ())), (y0.2.2.1, ((wi64 (y0.2.2.2.1 + (1 : Int))), ())))))))
else none)
else
((fun (z1 : ((Int × Unit) × (Int × Unit) × Unit) × Unit) =>
some ((-1 : Int), ((), (((z1.1.1.1, ()), ((z1.1.2.1.1, ()), ())), ())))) (((y0.2.1.1.1, ()), ((y0.2.1.2.1.1, ()), ())), ())))) k (x.1, (((x.2.1.1.1, ()), ((x.2.1.2.1.1, ()), ())), ((List.length x.1 : Int), ((0 : Int), ())))))
theorem t_x_slices_IndexFunc_impl_Held_impl_Held_of_i_heldAt_1 (k : Nat) (x) : evF TTab k [⟨128, 0, (.cons (.agg (.cons (.int .i64) (.cons (.int .i64) (.cons (.int .i64) (.cons (.il true .str) (.cons (.il true .bool) (.cons (.int .i64) .nil))))))) (.cons (.ptr (.cons (.int .i64) .nil)) (.cons (.ptr (.cons (.int .i64) .nil)) .nil))), .bool, i_heldAt_1 k⟩] [(0, ⟨[0, 1, 7, 8], (.cons (.il true (.pair (.int .i64) (.pair (.int .i64) (.pair (.int .i64) (.pair (.list .str) (.pair (.list .bool) (.int .i64))))))) (.cons (.fn 128 (.cons (.ptr (.cons (.int .i64) .nil)) (.cons (.ptr (.cons (.int .i64) .nil)) .nil))) (.cons (.int .i64) (.cons (.int .i64) .nil))))⟩, ⟨[1], (.cons (.fn 128 (.cons (.ptr (.cons (.int .i64) .nil)) (.cons (.ptr (.cons (.int .i64) .nil)) .nil))) .nil)⟩)] Try.f127 (.cons (.il true (.pair (.int .i64) (.pair (.int .i64) (.pair (.int .i64) (.pair (.list .str) (.pair (.list .bool) (.int .i64))))))) (.cons (.fn 128 (.cons (.ptr (.cons (.int .i64) .nil)) (.cons (.ptr (.cons (.int .i64) .nil)) .nil))) .nil)) (.int .i64) x = x_slices_IndexFunc_impl_Held_impl_Held_of_i_heldAt_1 k x := by kernel_rfl
theorem e_x_slices_IndexFunc_impl_Held_impl_Held_of_i_heldAt_1 (k : Nat) : EntryOk Try.prog ⟨127, 129, (.cons (.il true (.pair (.int .i64) (.pair (.int .i64) (.pair (.int .i64) (.pair (.list .str) (.pair (.list .bool) (.int .i64))))))) (.cons (.fn 128 (.cons (.ptr (.cons (.int .i64) .nil)) (.cons (.ptr (.cons (.int .i64) .nil)) .nil))) .nil)), (.int .i64), x_slices_IndexFunc_impl_Held_impl_Held_of_i_heldAt_1 k⟩ := entry_ok tok (by intro e he; simp only [List.mem_cons, List.not_mem_nil, or_false] at he; rcases he with rfl <;> first | exact e_i_heldAt_1 k) (by kernel_rfl) (fn := Try.f127) (k := k) (es := [⟨128, 0, (.cons (.agg (.cons (.int .i64) (.cons (.int .i64) (.cons (.int .i64) (.cons (.il true .str) (.cons (.il true .bool) (.cons (.int .i64) .nil))))))) (.cons (.ptr (.cons (.int .i64) .nil)) (.cons (.ptr (.cons (.int .i64) .nil)) .nil))), .bool, i_heldAt_1 k⟩]) (loops := [(0, ⟨[0, 1, 7, 8], (.cons (.il true (.pair (.int .i64) (.pair (.int .i64) (.pair (.int .i64) (.pair (.list .str) (.pair (.list .bool) (.int .i64))))))) (.cons (.fn 128 (.cons (.ptr (.cons (.int .i64) .nil)) (.cons (.ptr (.cons (.int .i64) .nil)) .nil))) (.cons (.int .i64) (.cons (.int .i64) .nil))))⟩, ⟨[1], (.cons (.fn 128 (.cons (.ptr (.cons (.int .i64) .nil)) (.cons (.ptr (.cons (.int .i64) .nil)) .nil))) .nil)⟩)]) (by kernel_rfl) (by kernel_rfl) (fun x r h => (t_x_slices_IndexFunc_impl_Held_impl_Held_of_i_heldAt_1 k x).trans h)
def i_heldAt (k : Nat) (x : ((List (Int × Int × Int × List (ByteArray) × List (Bool) × Int)) × Unit) × Int × Int × Unit) : Option (Int × Unit × Unit × Unit × Unit) :=
((x_slices_IndexFunc_impl_Held_impl_Held_of_i_heldAt_1 k (x.1.1, (((x.2.1, ()), ((x.2.2.1, ()), ())), ()))).bind fun p1 =>
some (p1.1, ((), ((), ((), ())))))
theorem t_i_heldAt (k : Nat) (x) : evF TTab k [⟨127, 129, (.cons (.il true (.pair (.int .i64) (.pair (.int .i64) (.pair (.int .i64) (.pair (.list .str) (.pair (.list .bool) (.int .i64))))))) (.cons (.fn 128 (.cons (.ptr (.cons (.int .i64) .nil)) (.cons (.ptr (.cons (.int .i64) .nil)) .nil))) .nil)), (.int .i64), x_slices_IndexFunc_impl_Held_impl_Held_of_i_heldAt_1 k⟩] [] Try.f90 (.cons (.agg (.cons (.il true (.pair (.int .i64) (.pair (.int .i64) (.pair (.int .i64) (.pair (.list .str) (.pair (.list .bool) (.int .i64))))))) .nil)) (.cons (.int .i64) (.cons (.int .i64) .nil))) (.int .i64) x = i_heldAt k x := by kernel_rfl
theorem e_i_heldAt (k : Nat) : EntryOk Try.prog ⟨90, 0, (.cons (.agg (.cons (.il true (.pair (.int .i64) (.pair (.int .i64) (.pair (.int .i64) (.pair (.list .str) (.pair (.list .bool) (.int .i64))))))) .nil)) (.cons (.int .i64) (.cons (.int .i64) .nil))), (.int .i64), i_heldAt k⟩ := entry_ok tok (by intro e he; simp only [List.mem_cons, List.not_mem_nil, or_false] at he; rcases he with rfl <;> first | exact e_x_slices_IndexFunc_impl_Held_impl_Held_of_i_heldAt_1 k) (by kernel_rfl) (fn := Try.f90) (k := k) (es := [⟨127, 129, (.cons (.il true (.pair (.int .i64) (.pair (.int .i64) (.pair (.int .i64) (.pair (.list .str) (.pair (.list .bool) (.int .i64))))))) (.cons (.fn 128 (.cons (.ptr (.cons (.int .i64) .nil)) (.cons (.ptr (.cons (.int .i64) .nil)) .nil))) .nil)), (.int .i64), x_slices_IndexFunc_impl_Held_impl_Held_of_i_heldAt_1 k⟩]) (loops := []) (by kernel_rfl) (by kernel_rfl) (fun x r h => (t_i_heldAt k x).trans h)
def i_ShelfOk (k : Nat) (x : ((List (Int × Int × Int × List (ByteArray) × List (Bool) × Int)) × Unit) × Unit) : Option (Bool × Unit × Unit) :=
(whileK (fun (rec0 : (((List (Int × Int × Int × List (ByteArray) × List (Bool) × Int)) × Unit) × (List (Int × Int × Int × List (ByteArray) × List (Bool) × Int)) × Int × Int × Unit) → Option _) (y0 : ((List (Int × Int × Int × List (ByteArray) × List (Bool) × Int)) × Unit) × (List (Int × Int × Int × List (ByteArray) × List (Bool) × Int)) × Int × Int × Unit) =>
(if (decide (y0.2.2.2.1 < y0.2.2.1)) = true then
(if 0 ≤ y0.2.2.2.1 ∧ y0.2.2.2.1 < (List.length y0.2.1 : Int) then
((i_heldOk k (((Ty.rd (t := (.pair (.int .i64) (.pair (.int .i64) (.pair (.int .i64) (.pair (.list .str) (.pair (.list .bool) (.int .i64))))))) y0.2.1 y0.2.2.2.1).1, ((Ty.rd (t := (.pair (.int .i64) (.pair (.int .i64) (.pair (.int .i64) (.pair (.list .str) (.pair (.list .bool) (.int .i64))))))) y0.2.1 y0.2.2.2.1).2.1, ((Ty.rd (t := (.pair (.int .i64) (.pair (.int .i64) (.pair (.int .i64) (.pair (.list .str) (.pair (.list .bool) (.int .i64))))))) y0.2.1 y0.2.2.2.1).2.2.1, ((Ty.rd (t := (.pair (.int .i64) (.pair (.int .i64) (.pair (.int .i64) (.pair (.list .str) (.pair (.list .bool) (.int .i64))))))) y0.2.1 y0.2.2.2.1).2.2.2.1, ((Ty.rd (t := (.pair (.int .i64) (.pair (.int .i64) (.pair (.int .i64) (.pair (.list .str) (.pair (.list .bool) (.int .i64))))))) y0.2.1 y0.2.2.2.1).2.2.2.2.1, ((Ty.rd (t := (.pair (.int .i64) (.pair (.int .i64) (.pair (.int .i64) (.pair (.list .str) (.pair (.list .bool) (.int .i64))))))) y0.2.1 y0.2.2.2.1).2.2.2.2.2, ())))))), ())).bind fun p1 =>
(if (!p1.1) = false then
((i_heldAt k ((y0.1.1, ()), ((Ty.rd (t := (.pair (.int .i64) (.pair (.int .i64) (.pair (.int .i64) (.pair (.list .str) (.pair (.list .bool) (.int .i64))))))) y0.2.1 y0.2.2.2.1).1, ((Ty.rd (t := (.pair (.int .i64) (.pair (.int .i64) (.pair (.int .i64) (.pair (.list .str) (.pair (.list .bool) (.int .i64))))))) y0.2.1 y0.2.2.2.1).2.1, ())))).bind fun p2 =>
(if (!decide (p2.1 = y0.2.2.2.1)) = true then
some (false, ((), ()))
else
(rec0 ((y0.1.1, ()), (y0.2.1, (y0.2.2.1, ((wi64 (y0.2.2.2.1 + (1 : Int))), ())))))))
else
some (false, ((), ()))))
else none)
else
((fun (z1 : ((List (Int × Int × Int × List (ByteArray) × List (Bool) × Int)) × Unit) × Unit) =>
some ((decide ((List.length z1.1.1 : Int) ≤ (3 : Int))), ((), ()))) ((y0.1.1, ()), ())))) k ((x.1.1, ()), (x.1.1, ((List.length x.1.1 : Int), ((0 : Int), ())))))
theorem t_i_ShelfOk (k : Nat) (x) : evF TTab k [⟨89, 0, (.cons (.agg (.cons (.int .i64) (.cons (.int .i64) (.cons (.int .i64) (.cons (.il true .str) (.cons (.il true .bool) (.cons (.int .i64) .nil))))))) .nil), .bool, i_heldOk k⟩, ⟨90, 0, (.cons (.agg (.cons (.il true (.pair (.int .i64) (.pair (.int .i64) (.pair (.int .i64) (.pair (.list .str) (.pair (.list .bool) (.int .i64))))))) .nil)) (.cons (.int .i64) (.cons (.int .i64) .nil))), (.int .i64), i_heldAt k⟩] [(0, ⟨[1, 6, 7, 8], (.cons (.ptr (.cons (.il true (.pair (.int .i64) (.pair (.int .i64) (.pair (.int .i64) (.pair (.list .str) (.pair (.list .bool) (.int .i64))))))) .nil)) (.cons (.il true (.pair (.int .i64) (.pair (.int .i64) (.pair (.int .i64) (.pair (.list .str) (.pair (.list .bool) (.int .i64))))))) (.cons (.int .i64) (.cons (.int .i64) .nil))))⟩, ⟨[1], (.cons (.ptr (.cons (.il true (.pair (.int .i64) (.pair (.int .i64) (.pair (.int .i64) (.pair (.list .str) (.pair (.list .bool) (.int .i64))))))) .nil)) .nil)⟩)] Try.f46 (.cons (.agg (.cons (.il true (.pair (.int .i64) (.pair (.int .i64) (.pair (.int .i64) (.pair (.list .str) (.pair (.list .bool) (.int .i64))))))) .nil)) .nil) .bool x = i_ShelfOk k x := by kernel_rfl
theorem e_i_ShelfOk (k : Nat) : EntryOk Try.prog ⟨46, 0, (.cons (.agg (.cons (.il true (.pair (.int .i64) (.pair (.int .i64) (.pair (.int .i64) (.pair (.list .str) (.pair (.list .bool) (.int .i64))))))) .nil)) .nil), .bool, i_ShelfOk k⟩ := entry_ok tok (by intro e he; simp only [List.mem_cons, List.not_mem_nil, or_false] at he; rcases he with rfl | rfl <;> first | exact e_i_heldOk k | exact e_i_heldAt k) (by kernel_rfl) (fn := Try.f46) (k := k) (es := [⟨89, 0, (.cons (.agg (.cons (.int .i64) (.cons (.int .i64) (.cons (.int .i64) (.cons (.il true .str) (.cons (.il true .bool) (.cons (.int .i64) .nil))))))) .nil), .bool, i_heldOk k⟩, ⟨90, 0, (.cons (.agg (.cons (.il true (.pair (.int .i64) (.pair (.int .i64) (.pair (.int .i64) (.pair (.list .str) (.pair (.list .bool) (.int .i64))))))) .nil)) (.cons (.int .i64) (.cons (.int .i64) .nil))), (.int .i64), i_heldAt k⟩]) (loops := [(0, ⟨[1, 6, 7, 8], (.cons (.ptr (.cons (.il true (.pair (.int .i64) (.pair (.int .i64) (.pair (.int .i64) (.pair (.list .str) (.pair (.list .bool) (.int .i64))))))) .nil)) (.cons (.il true (.pair (.int .i64) (.pair (.int .i64) (.pair (.int .i64) (.pair (.list .str) (.pair (.list .bool) (.int .i64))))))) (.cons (.int .i64) (.cons (.int .i64) .nil))))⟩, ⟨[1], (.cons (.ptr (.cons (.il true (.pair (.int .i64) (.pair (.int .i64) (.pair (.int .i64) (.pair (.list .str) (.pair (.list .bool) (.int .i64))))))) .nil)) .nil)⟩)]) (by kernel_rfl) (by kernel_rfl) (fun x r h => (t_i_ShelfOk k x).trans h)
def w_eqBoolS (k : Nat) (x : List (Bool) × List (Bool) × Unit) : Option (Bool × Unit × Unit × Unit) :=
(if (!decide ((List.length x.1 : Int) = (List.length x.2.1 : Int))) = true then
some (false, ((), ((), ())))
else
(whileK (fun (rec0 : (List (Bool) × List (Bool) × Int × Unit) → Option _) (y0 : List (Bool) × List (Bool) × Int × Unit) =>
(if (decide (y0.2.2.1 < (List.length y0.1 : Int))) = true then
(if 0 ≤ y0.2.2.1 ∧ y0.2.2.1 < (List.length y0.1 : Int) then
(if 0 ≤ y0.2.2.1 ∧ y0.2.2.1 < (List.length y0.2.1 : Int) then
(if (!decide ((Ty.rd (t := .bool) y0.1 y0.2.2.1) = (Ty.rd (t := .bool) y0.2.1 y0.2.2.1))) = true then
some (false, ((), ((), ())))
else
(rec0 (y0.1, (y0.2.1, ((wi64 (y0.2.2.1 + (1 : Int))), ())))))
else none)
else none)
else
((fun (z1 : Unit) =>
some (true, ((), ((), ())))) ()))) k (x.1, (x.2.1, ((0 : Int), ())))))
theorem t_w_eqBoolS (k : Nat) (x) : evF TTab k [] [(0, ⟨[0, 1, 5], (.cons (.il true .bool) (.cons (.il true .bool) (.cons (.int .i64) .nil)))⟩, ⟨[], .nil⟩)] Try.f153 (.cons (.il true .bool) (.cons (.il true .bool) .nil)) .bool x = w_eqBoolS k x := by kernel_rfl
theorem e_w_eqBoolS (k : Nat) : EntryOk Try.prog ⟨153, 0, (.cons (.il true .bool) (.cons (.il true .bool) .nil)), .bool, w_eqBoolS k⟩ := entry_ok tok (by simp) (by kernel_rfl) (fn := Try.f153) (k := k) (es := []) (loops := [(0, ⟨[0, 1, 5], (.cons (.il true .bool) (.cons (.il true .bool) (.cons (.int .i64) .nil)))⟩, ⟨[], .nil⟩)]) (by kernel_rfl) (by kernel_rfl) (fun x r h => (t_w_eqBoolS k x).trans h)
def w_eqHeld (k : Nat) (x : (Int × Int × Int × List (ByteArray) × List (Bool) × Int × Unit) × (Int × Int × Int × List (ByteArray) × List (Bool) × Int × Unit) × Unit) : Option (Bool × Unit × Unit × Unit) :=
(if (!decide (x.1.1 = x.2.1.1)) = true then
some (false, ((), ((), ())))
else
(if (!decide (x.1.2.1 = x.2.1.2.1)) = true then
some (false, ((), ((), ())))
else
(if (!decide (x.1.2.2.1 = x.2.1.2.2.1)) = true then
some (false, ((), ((), ())))
else
((w_eqStringS k (x.1.2.2.2.1, (x.2.1.2.2.2.1, ()))).bind fun p1 =>
(if (!p1.1) = true then
some (false, ((), ((), ())))
else
((w_eqBoolS k (x.1.2.2.2.2.1, (x.2.1.2.2.2.2.1, ()))).bind fun p2 =>
(if (!p2.1) = true then
some (false, ((), ((), ())))
else
(if (!decide (x.1.2.2.2.2.2.1 = x.2.1.2.2.2.2.2.1)) = true then
some (false, ((), ((), ())))
else
some (true, ((), ((), ())))))))))))
theorem t_w_eqHeld (k : Nat) (x) : evF TTab k [⟨32, 0, (.cons (.il true .str) (.cons (.il true .str) .nil)), .bool, w_eqStringS k⟩, ⟨153, 0, (.cons (.il true .bool) (.cons (.il true .bool) .nil)), .bool, w_eqBoolS k⟩] [] Try.f129 (.cons (.agg (.cons (.int .i64) (.cons (.int .i64) (.cons (.int .i64) (.cons (.il true .str) (.cons (.il true .bool) (.cons (.int .i64) .nil))))))) (.cons (.agg (.cons (.int .i64) (.cons (.int .i64) (.cons (.int .i64) (.cons (.il true .str) (.cons (.il true .bool) (.cons (.int .i64) .nil))))))) .nil)) .bool x = w_eqHeld k x := by kernel_rfl
theorem e_w_eqHeld (k : Nat) : EntryOk Try.prog ⟨129, 0, (.cons (.agg (.cons (.int .i64) (.cons (.int .i64) (.cons (.int .i64) (.cons (.il true .str) (.cons (.il true .bool) (.cons (.int .i64) .nil))))))) (.cons (.agg (.cons (.int .i64) (.cons (.int .i64) (.cons (.int .i64) (.cons (.il true .str) (.cons (.il true .bool) (.cons (.int .i64) .nil))))))) .nil)), .bool, w_eqHeld k⟩ := entry_ok tok (by intro e he; simp only [List.mem_cons, List.not_mem_nil, or_false] at he; rcases he with rfl | rfl <;> first | exact e_w_eqStringS k | exact e_w_eqBoolS k) (by kernel_rfl) (fn := Try.f129) (k := k) (es := [⟨32, 0, (.cons (.il true .str) (.cons (.il true .str) .nil)), .bool, w_eqStringS k⟩, ⟨153, 0, (.cons (.il true .bool) (.cons (.il true .bool) .nil)), .bool, w_eqBoolS k⟩]) (loops := []) (by kernel_rfl) (by kernel_rfl) (fun x r h => (t_w_eqHeld k x).trans h)
def w_eqHeldS (k : Nat) (x : (List (Int × Int × Int × List (ByteArray) × List (Bool) × Int)) × (List (Int × Int × Int × List (ByteArray) × List (Bool) × Int)) × Unit) : Option (Bool × Unit × Unit × Unit) :=
(if (!decide ((List.length x.1 : Int) = (List.length x.2.1 : Int))) = true then
some (false, ((), ((), ())))
else
(whileK (fun (rec0 : ((List (Int × Int × Int × List (ByteArray) × List (Bool) × Int)) × (List (Int × Int × Int × List (ByteArray) × List (Bool) × Int)) × Int × Unit) → Option _) (y0 : (List (Int × Int × Int × List (ByteArray) × List (Bool) × Int)) × (List (Int × Int × Int × List (ByteArray) × List (Bool) × Int)) × Int × Unit) =>
(if (decide (y0.2.2.1 < (List.length y0.1 : Int))) = true then
(if 0 ≤ y0.2.2.1 ∧ y0.2.2.1 < (List.length y0.1 : Int) then
(if 0 ≤ y0.2.2.1 ∧ y0.2.2.1 < (List.length y0.2.1 : Int) then
((w_eqHeld k (((Ty.rd (t := (.pair (.int .i64) (.pair (.int .i64) (.pair (.int .i64) (.pair (.list .str) (.pair (.list .bool) (.int .i64))))))) y0.1 y0.2.2.1).1, ((Ty.rd (t := (.pair (.int .i64) (.pair (.int .i64) (.pair (.int .i64) (.pair (.list .str) (.pair (.list .bool) (.int .i64))))))) y0.1 y0.2.2.1).2.1, ((Ty.rd (t := (.pair (.int .i64) (.pair (.int .i64) (.pair (.int .i64) (.pair (.list .str) (.pair (.list .bool) (.int .i64))))))) y0.1 y0.2.2.1).2.2.1, ((Ty.rd (t := (.pair (.int .i64) (.pair (.int .i64) (.pair (.int .i64) (.pair (.list .str) (.pair (.list .bool) (.int .i64))))))) y0.1 y0.2.2.1).2.2.2.1, ((Ty.rd (t := (.pair (.int .i64) (.pair (.int .i64) (.pair (.int .i64) (.pair (.list .str) (.pair (.list .bool) (.int .i64))))))) y0.1 y0.2.2.1).2.2.2.2.1, ((Ty.rd (t := (.pair (.int .i64) (.pair (.int .i64) (.pair (.int .i64) (.pair (.list .str) (.pair (.list .bool) (.int .i64))))))) y0.1 y0.2.2.1).2.2.2.2.2, ())))))), (((Ty.rd (t := (.pair (.int .i64) (.pair (.int .i64) (.pair (.int .i64) (.pair (.list .str) (.pair (.list .bool) (.int .i64))))))) y0.2.1 y0.2.2.1).1, ((Ty.rd (t := (.pair (.int .i64) (.pair (.int .i64) (.pair (.int .i64) (.pair (.list .str) (.pair (.list .bool) (.int .i64))))))) y0.2.1 y0.2.2.1).2.1, ((Ty.rd (t := (.pair (.int .i64) (.pair (.int .i64) (.pair (.int .i64) (.pair (.list .str) (.pair (.list .bool) (.int .i64))))))) y0.2.1 y0.2.2.1).2.2.1, ((Ty.rd (t := (.pair (.int .i64) (.pair (.int .i64) (.pair (.int .i64) (.pair (.list .str) (.pair (.list .bool) (.int .i64))))))) y0.2.1 y0.2.2.1).2.2.2.1, ((Ty.rd (t := (.pair (.int .i64) (.pair (.int .i64) (.pair (.int .i64) (.pair (.list .str) (.pair (.list .bool) (.int .i64))))))) y0.2.1 y0.2.2.1).2.2.2.2.1, ((Ty.rd (t := (.pair (.int .i64) (.pair (.int .i64) (.pair (.int .i64) (.pair (.list .str) (.pair (.list .bool) (.int .i64))))))) y0.2.1 y0.2.2.1).2.2.2.2.2, ())))))), ()))).bind fun p1 =>
(if (!p1.1) = true then
some (false, ((), ((), ())))
else
(rec0 (y0.1, (y0.2.1, ((wi64 (y0.2.2.1 + (1 : Int))), ()))))))
else none)
else none)
else
((fun (z1 : Unit) =>
some (true, ((), ((), ())))) ()))) k (x.1, (x.2.1, ((0 : Int), ())))))
theorem t_w_eqHeldS (k : Nat) (x) : evF TTab k [⟨129, 0, (.cons (.agg (.cons (.int .i64) (.cons (.int .i64) (.cons (.int .i64) (.cons (.il true .str) (.cons (.il true .bool) (.cons (.int .i64) .nil))))))) (.cons (.agg (.cons (.int .i64) (.cons (.int .i64) (.cons (.int .i64) (.cons (.il true .str) (.cons (.il true .bool) (.cons (.int .i64) .nil))))))) .nil)), .bool, w_eqHeld k⟩] [(0, ⟨[0, 1, 5], (.cons (.il true (.pair (.int .i64) (.pair (.int .i64) (.pair (.int .i64) (.pair (.list .str) (.pair (.list .bool) (.int .i64))))))) (.cons (.il true (.pair (.int .i64) (.pair (.int .i64) (.pair (.int .i64) (.pair (.list .str) (.pair (.list .bool) (.int .i64))))))) (.cons (.int .i64) .nil)))⟩, ⟨[], .nil⟩)] Try.f91 (.cons (.il true (.pair (.int .i64) (.pair (.int .i64) (.pair (.int .i64) (.pair (.list .str) (.pair (.list .bool) (.int .i64))))))) (.cons (.il true (.pair (.int .i64) (.pair (.int .i64) (.pair (.int .i64) (.pair (.list .str) (.pair (.list .bool) (.int .i64))))))) .nil)) .bool x = w_eqHeldS k x := by kernel_rfl
theorem e_w_eqHeldS (k : Nat) : EntryOk Try.prog ⟨91, 0, (.cons (.il true (.pair (.int .i64) (.pair (.int .i64) (.pair (.int .i64) (.pair (.list .str) (.pair (.list .bool) (.int .i64))))))) (.cons (.il true (.pair (.int .i64) (.pair (.int .i64) (.pair (.int .i64) (.pair (.list .str) (.pair (.list .bool) (.int .i64))))))) .nil)), .bool, w_eqHeldS k⟩ := entry_ok tok (by intro e he; simp only [List.mem_cons, List.not_mem_nil, or_false] at he; rcases he with rfl <;> first | exact e_w_eqHeld k) (by kernel_rfl) (fn := Try.f91) (k := k) (es := [⟨129, 0, (.cons (.agg (.cons (.int .i64) (.cons (.int .i64) (.cons (.int .i64) (.cons (.il true .str) (.cons (.il true .bool) (.cons (.int .i64) .nil))))))) (.cons (.agg (.cons (.int .i64) (.cons (.int .i64) (.cons (.int .i64) (.cons (.il true .str) (.cons (.il true .bool) (.cons (.int .i64) .nil))))))) .nil)), .bool, w_eqHeld k⟩]) (loops := [(0, ⟨[0, 1, 5], (.cons (.il true (.pair (.int .i64) (.pair (.int .i64) (.pair (.int .i64) (.pair (.list .str) (.pair (.list .bool) (.int .i64))))))) (.cons (.il true (.pair (.int .i64) (.pair (.int .i64) (.pair (.int .i64) (.pair (.list .str) (.pair (.list .bool) (.int .i64))))))) (.cons (.int .i64) .nil)))⟩, ⟨[], .nil⟩)]) (by kernel_rfl) (by kernel_rfl) (fun x r h => (t_w_eqHeldS k x).trans h)
def w_eqShelf (k : Nat) (x : ((List (Int × Int × Int × List (ByteArray) × List (Bool) × Int)) × Unit) × ((List (Int × Int × Int × List (ByteArray) × List (Bool) × Int)) × Unit) × Unit) : Option (Bool × Unit × Unit × Unit) :=
((w_eqHeldS k (x.1.1, (x.2.1.1, ()))).bind fun p1 =>
(if (!p1.1) = true then
some (false, ((), ((), ())))
else
some (true, ((), ((), ())))))
theorem t_w_eqShelf (k : Nat) (x) : evF TTab k [⟨91, 0, (.cons (.il true (.pair (.int .i64) (.pair (.int .i64) (.pair (.int .i64) (.pair (.list .str) (.pair (.list .bool) (.int .i64))))))) (.cons (.il true (.pair (.int .i64) (.pair (.int .i64) (.pair (.int .i64) (.pair (.list .str) (.pair (.list .bool) (.int .i64))))))) .nil)), .bool, w_eqHeldS k⟩] [] Try.f47 (.cons (.agg (.cons (.il true (.pair (.int .i64) (.pair (.int .i64) (.pair (.int .i64) (.pair (.list .str) (.pair (.list .bool) (.int .i64))))))) .nil)) (.cons (.agg (.cons (.il true (.pair (.int .i64) (.pair (.int .i64) (.pair (.int .i64) (.pair (.list .str) (.pair (.list .bool) (.int .i64))))))) .nil)) .nil)) .bool x = w_eqShelf k x := by kernel_rfl
theorem e_w_eqShelf (k : Nat) : EntryOk Try.prog ⟨47, 0, (.cons (.agg (.cons (.il true (.pair (.int .i64) (.pair (.int .i64) (.pair (.int .i64) (.pair (.list .str) (.pair (.list .bool) (.int .i64))))))) .nil)) (.cons (.agg (.cons (.il true (.pair (.int .i64) (.pair (.int .i64) (.pair (.int .i64) (.pair (.list .str) (.pair (.list .bool) (.int .i64))))))) .nil)) .nil)), .bool, w_eqShelf k⟩ := entry_ok tok (by intro e he; simp only [List.mem_cons, List.not_mem_nil, or_false] at he; rcases he with rfl <;> first | exact e_w_eqHeldS k) (by kernel_rfl) (fn := Try.f47) (k := k) (es := [⟨91, 0, (.cons (.il true (.pair (.int .i64) (.pair (.int .i64) (.pair (.int .i64) (.pair (.list .str) (.pair (.list .bool) (.int .i64))))))) (.cons (.il true (.pair (.int .i64) (.pair (.int .i64) (.pair (.int .i64) (.pair (.list .str) (.pair (.list .bool) (.int .i64))))))) .nil)), .bool, w_eqHeldS k⟩]) (loops := []) (by kernel_rfl) (by kernel_rfl) (fun x r h => (t_w_eqShelf k x).trans h)
def w_FnExactShelfOk (k : Nat) (x : ((List (Int × Int × Int × List (ByteArray) × List (Bool) × Int)) × Unit) × Unit) : Option (Bool × Unit × Unit) :=
((w_szShelf k ((x.1.1, ()), ((1048576 : Int), ()))).bind fun p1 =>
(if (decide (p1.1 < (0 : Int))) = true then
some (true, ((), ()))
else
((w_toShelf k ((x.1.1, ()), ())).bind fun p2 =>
((s_ShelfOk k ((p2.1.1, ()), ())).bind fun p3 =>
((w_toShelf k ((x.1.1, ()), ())).bind fun p4 =>
((i_ShelfOk k ((p4.1.1, ()), ())).bind fun p5 =>
(if (!decide (p5.1 = p3.1)) = true then
some (false, ((), ()))
else
((w_toShelf k ((x.1.1, ()), ())).bind fun p6 =>
((w_eqShelf k ((p4.1.1, ()), ((p6.1.1, ()), ()))).bind fun p7 =>
(if (!p7.1) = true then
some (false, ((), ()))
else
some (true, ((), ()))))))))))))
theorem t_w_FnExactShelfOk (k : Nat) (x) : evF TTab k [⟨43, 0, (.cons (.agg (.cons (.il true (.pair (.int .i64) (.pair (.int .i64) (.pair (.int .i64) (.pair (.list .str) (.pair (.list .bool) (.int .i64))))))) .nil)) (.cons (.int .i64) .nil)), (.int .i64), w_szShelf k⟩, ⟨44, 0, (.cons (.agg (.cons (.il true (.pair (.int .i64) (.pair (.int .i64) (.pair (.int .i64) (.pair (.list .str) (.pair (.list .bool) (.int .i64))))))) .nil)) .nil), .bool, s_ShelfOk k⟩, ⟨45, 0, (.cons (.agg (.cons (.il true (.pair (.int .i64) (.pair (.int .i64) (.pair (.int .i64) (.pair (.list .str) (.pair (.list .bool) (.int .i64))))))) .nil)) .nil), (.agg (.cons (.own false 126 (.pair (.int .i64) (.pair (.int .i64) (.pair (.int .i64) (.pair (.list .str) (.pair (.list .bool) (.int .i64))))))) .nil)), w_toShelf k⟩, ⟨46, 0, (.cons (.agg (.cons (.il true (.pair (.int .i64) (.pair (.int .i64) (.pair (.int .i64) (.pair (.list .str) (.pair (.list .bool) (.int .i64))))))) .nil)) .nil), .bool, i_ShelfOk k⟩, ⟨47, 0, (.cons (.agg (.cons (.il true (.pair (.int .i64) (.pair (.int .i64) (.pair (.int .i64) (.pair (.list .str) (.pair (.list .bool) (.int .i64))))))) .nil)) (.cons (.agg (.cons (.il true (.pair (.int .i64) (.pair (.int .i64) (.pair (.int .i64) (.pair (.list .str) (.pair (.list .bool) (.int .i64))))))) .nil)) .nil)), .bool, w_eqShelf k⟩] [] Try.f11 (.cons (.agg (.cons (.il true (.pair (.int .i64) (.pair (.int .i64) (.pair (.int .i64) (.pair (.list .str) (.pair (.list .bool) (.int .i64))))))) .nil)) .nil) .bool x = w_FnExactShelfOk k x := by kernel_rfl
theorem e_w_FnExactShelfOk (k : Nat) : EntryOk Try.prog ⟨11, 0, (.cons (.agg (.cons (.il true (.pair (.int .i64) (.pair (.int .i64) (.pair (.int .i64) (.pair (.list .str) (.pair (.list .bool) (.int .i64))))))) .nil)) .nil), .bool, w_FnExactShelfOk k⟩ := entry_ok tok (by intro e he; simp only [List.mem_cons, List.not_mem_nil, or_false] at he; rcases he with rfl | rfl | rfl | rfl | rfl <;> first | exact e_w_szShelf k | exact e_s_ShelfOk k | exact e_w_toShelf k | exact e_i_ShelfOk k | exact e_w_eqShelf k) (by kernel_rfl) (fn := Try.f11) (k := k) (es := [⟨43, 0, (.cons (.agg (.cons (.il true (.pair (.int .i64) (.pair (.int .i64) (.pair (.int .i64) (.pair (.list .str) (.pair (.list .bool) (.int .i64))))))) .nil)) (.cons (.int .i64) .nil)), (.int .i64), w_szShelf k⟩, ⟨44, 0, (.cons (.agg (.cons (.il true (.pair (.int .i64) (.pair (.int .i64) (.pair (.int .i64) (.pair (.list .str) (.pair (.list .bool) (.int .i64))))))) .nil)) .nil), .bool, s_ShelfOk k⟩, ⟨45, 0, (.cons (.agg (.cons (.il true (.pair (.int .i64) (.pair (.int .i64) (.pair (.int .i64) (.pair (.list .str) (.pair (.list .bool) (.int .i64))))))) .nil)) .nil), (.agg (.cons (.own false 126 (.pair (.int .i64) (.pair (.int .i64) (.pair (.int .i64) (.pair (.list .str) (.pair (.list .bool) (.int .i64))))))) .nil)), w_toShelf k⟩, ⟨46, 0, (.cons (.agg (.cons (.il true (.pair (.int .i64) (.pair (.int .i64) (.pair (.int .i64) (.pair (.list .str) (.pair (.list .bool) (.int .i64))))))) .nil)) .nil), .bool, i_ShelfOk k⟩, ⟨47, 0, (.cons (.agg (.cons (.il true (.pair (.int .i64) (.pair (.int .i64) (.pair (.int .i64) (.pair (.list .str) (.pair (.list .bool) (.int .i64))))))) .nil)) (.cons (.agg (.cons (.il true (.pair (.int .i64) (.pair (.int .i64) (.pair (.int .i64) (.pair (.list .str) (.pair (.list .bool) (.int .i64))))))) .nil)) .nil)), .bool, w_eqShelf k⟩]) (loops := []) (by kernel_rfl) (by kernel_rfl) (fun x r h => (t_w_FnExactShelfOk k x).trans h)
def w_szIntS (k : Nat) (x : List (Int) × Int × Unit) : Option (Int × Unit × Unit × Unit) :=
(if (decide ((wi64 (x.2.1 - (List.length x.1 : Int))) < (0 : Int))) = true then
some ((-1 : Int), ((), ((), ())))
else
some ((wi64 (x.2.1 - (List.length x.1 : Int))), ((), ((), ()))))
theorem t_w_szIntS (k : Nat) (x) : evF TTab k [] [] Try.f130 (.cons (.il true (.int .i64)) (.cons (.int .i64) .nil)) (.int .i64) x = w_szIntS k x := by kernel_rfl
theorem e_w_szIntS (k : Nat) : EntryOk Try.prog ⟨130, 0, (.cons (.il true (.int .i64)) (.cons (.int .i64) .nil)), (.int .i64), w_szIntS k⟩ := entry_ok tok (by simp) (by kernel_rfl) (fn := Try.f130) (k := k) (es := []) (loops := []) (by kernel_rfl) (by kernel_rfl) (fun x r h => (t_w_szIntS k x).trans h)
def w_szSlot (k : Nat) (x : (Int × ByteArray × ByteArray × Int × List (Int) × Int × Unit) × Int × Unit) : Option (Int × Unit × Unit × Unit) :=
(if (decide ((wi64 (x.2.1 - (ByteArray.size x.1.2.1 : Int))) < (0 : Int))) = true then
some ((-1 : Int), ((), ((), ())))
else
(if (decide ((wi64 ((wi64 (x.2.1 - (ByteArray.size x.1.2.1 : Int))) - (ByteArray.size x.1.2.2.1 : Int))) < (0 : Int))) = true then
some ((-1 : Int), ((), ((), ())))
else
((w_szIntS k (x.1.2.2.2.2.1, ((wi64 ((wi64 (x.2.1 - (ByteArray.size x.1.2.1 : Int))) - (ByteArray.size x.1.2.2.1 : Int))), ()))).bind fun p1 =>
(if (decide (p1.1 < (0 : Int))) = true then
some ((-1 : Int), ((), ((), ())))
else
some (p1.1, ((), ((), ())))))))
theorem t_w_szSlot (k : Nat) (x) : evF TTab k [⟨130, 0, (.cons (.il true (.int .i64)) (.cons (.int .i64) .nil)), (.int .i64), w_szIntS k⟩] [] Try.f92 (.cons (.agg (.cons (.int .i64) (.cons .str (.cons .str (.cons (.int .i64) (.cons (.il true (.int .i64)) (.cons (.int .i64) .nil))))))) (.cons (.int .i64) .nil)) (.int .i64) x = w_szSlot k x := by kernel_rfl
theorem e_w_szSlot (k : Nat) : EntryOk Try.prog ⟨92, 0, (.cons (.agg (.cons (.int .i64) (.cons .str (.cons .str (.cons (.int .i64) (.cons (.il true (.int .i64)) (.cons (.int .i64) .nil))))))) (.cons (.int .i64) .nil)), (.int .i64), w_szSlot k⟩ := entry_ok tok (by intro e he; simp only [List.mem_cons, List.not_mem_nil, or_false] at he; rcases he with rfl <;> first | exact e_w_szIntS k) (by kernel_rfl) (fn := Try.f92) (k := k) (es := [⟨130, 0, (.cons (.il true (.int .i64)) (.cons (.int .i64) .nil)), (.int .i64), w_szIntS k⟩]) (loops := []) (by kernel_rfl) (by kernel_rfl) (fun x r h => (t_w_szSlot k x).trans h)
def w_szSlots (k : Nat) (x : (Int × ByteArray × ByteArray × Int × List (Int) × Int × Int × ByteArray × ByteArray × Int × List (Int) × Int × Unit) × Int × Unit) : Option (Int × Unit × Unit × Unit) :=
((w_szSlot k ((x.1.1, (x.1.2.1, (x.1.2.2.1, (x.1.2.2.2.1, (x.1.2.2.2.2.1, (x.1.2.2.2.2.2.1, ())))))), (x.2.1, ()))).bind fun p1 =>
(if (decide (p1.1 < (0 : Int))) = true then
some ((-1 : Int), ((), ((), ())))
else
((w_szSlot k ((x.1.2.2.2.2.2.2.1, (x.1.2.2.2.2.2.2.2.1, (x.1.2.2.2.2.2.2.2.2.1, (x.1.2.2.2.2.2.2.2.2.2.1, (x.1.2.2.2.2.2.2.2.2.2.2.1, (x.1.2.2.2.2.2.2.2.2.2.2.2.1, ())))))), (p1.1, ()))).bind fun p2 =>
(if (decide (p2.1 < (0 : Int))) = true then
some ((-1 : Int), ((), ((), ())))
else
some (p2.1, ((), ((), ())))))))
theorem t_w_szSlots (k : Nat) (x) : evF TTab k [⟨92, 0, (.cons (.agg (.cons (.int .i64) (.cons .str (.cons .str (.cons (.int .i64) (.cons (.il true (.int .i64)) (.cons (.int .i64) .nil))))))) (.cons (.int .i64) .nil)), (.int .i64), w_szSlot k⟩] [] Try.f48 (.cons (.agg (.cons (.int .i64) (.cons .str (.cons .str (.cons (.int .i64) (.cons (.il true (.int .i64)) (.cons (.int .i64) (.cons (.int .i64) (.cons .str (.cons .str (.cons (.int .i64) (.cons (.il true (.int .i64)) (.cons (.int .i64) .nil))))))))))))) (.cons (.int .i64) .nil)) (.int .i64) x = w_szSlots k x := by kernel_rfl
theorem e_w_szSlots (k : Nat) : EntryOk Try.prog ⟨48, 0, (.cons (.agg (.cons (.int .i64) (.cons .str (.cons .str (.cons (.int .i64) (.cons (.il true (.int .i64)) (.cons (.int .i64) (.cons (.int .i64) (.cons .str (.cons .str (.cons (.int .i64) (.cons (.il true (.int .i64)) (.cons (.int .i64) .nil))))))))))))) (.cons (.int .i64) .nil)), (.int .i64), w_szSlots k⟩ := entry_ok tok (by intro e he; simp only [List.mem_cons, List.not_mem_nil, or_false] at he; rcases he with rfl <;> first | exact e_w_szSlot k) (by kernel_rfl) (fn := Try.f48) (k := k) (es := [⟨92, 0, (.cons (.agg (.cons (.int .i64) (.cons .str (.cons .str (.cons (.int .i64) (.cons (.il true (.int .i64)) (.cons (.int .i64) .nil))))))) (.cons (.int .i64) .nil)), (.int .i64), w_szSlot k⟩]) (loops := []) (by kernel_rfl) (by kernel_rfl) (fun x r h => (t_w_szSlots k x).trans h)
def s_l17CopySlot (k : Nat) (x : (Int × ByteArray × ByteArray × Int × List (Int) × Int × Unit) × Unit) : Option ((Int × ByteArray × ByteArray × Int × List (Int) × Int × Unit) × Unit × Unit) :=
(if List.length ([] : List (Int)) + List.length x.1.2.2.2.2.1 ≤ capMax then
some ((x.1.1, (x.1.2.1, (x.1.2.2.1, (x.1.2.2.2.1, ((([] : List (Int)) ++ x.1.2.2.2.2.1), (x.1.2.2.2.2.2.1, ())))))), ((), ()))
else none)
theorem t_s_l17CopySlot (k : Nat) (x) : evF TTab k [] [] Try.f131 (.cons (.agg (.cons (.int .i64) (.cons .str (.cons .str (.cons (.int .i64) (.cons (.il true (.int .i64)) (.cons (.int .i64) .nil))))))) .nil) (.agg (.cons (.int .i64) (.cons .str (.cons .str (.cons (.int .i64) (.cons (.own false 3 (.int .i64)) (.cons (.int .i64) .nil))))))) x = s_l17CopySlot k x := by kernel_rfl
theorem e_s_l17CopySlot (k : Nat) : EntryOk Try.prog ⟨131, 0, (.cons (.agg (.cons (.int .i64) (.cons .str (.cons .str (.cons (.int .i64) (.cons (.il true (.int .i64)) (.cons (.int .i64) .nil))))))) .nil), (.agg (.cons (.int .i64) (.cons .str (.cons .str (.cons (.int .i64) (.cons (.own false 3 (.int .i64)) (.cons (.int .i64) .nil))))))), s_l17CopySlot k⟩ := entry_ok tok (by simp) (by kernel_rfl) (fn := Try.f131) (k := k) (es := []) (loops := []) (by kernel_rfl) (by kernel_rfl) (fun x r h => (t_s_l17CopySlot k x).trans h)
def s_l17Copy (k : Nat) (x : (Int × ByteArray × ByteArray × Int × List (Int) × Int × Int × ByteArray × ByteArray × Int × List (Int) × Int × Unit) × Unit) : Option ((Int × ByteArray × ByteArray × Int × List (Int) × Int × Int × ByteArray × ByteArray × Int × List (Int) × Int × Unit) × Unit × Unit) :=
((s_l17CopySlot k ((x.1.1, (x.1.2.1, (x.1.2.2.1, (x.1.2.2.2.1, (x.1.2.2.2.2.1, (x.1.2.2.2.2.2.1, ())))))), ())).bind fun p1 =>
((s_l17CopySlot k ((x.1.2.2.2.2.2.2.1, (x.1.2.2.2.2.2.2.2.1, (x.1.2.2.2.2.2.2.2.2.1, (x.1.2.2.2.2.2.2.2.2.2.1, (x.1.2.2.2.2.2.2.2.2.2.2.1, (x.1.2.2.2.2.2.2.2.2.2.2.2.1, ())))))), ())).bind fun p2 =>
some ((p1.1.1, (p1.1.2.1, (p1.1.2.2.1, (p1.1.2.2.2.1, (p1.1.2.2.2.2.1, (p1.1.2.2.2.2.2.1, (p2.1.1, (p2.1.2.1, (p2.1.2.2.1, (p2.1.2.2.2.1, (p2.1.2.2.2.2.1, (p2.1.2.2.2.2.2.1, ())))))))))))), ((), ()))))
theorem t_s_l17Copy (k : Nat) (x) : evF TTab k [⟨131, 0, (.cons (.agg (.cons (.int .i64) (.cons .str (.cons .str (.cons (.int .i64) (.cons (.il true (.int .i64)) (.cons (.int .i64) .nil))))))) .nil), (.agg (.cons (.int .i64) (.cons .str (.cons .str (.cons (.int .i64) (.cons (.own false 3 (.int .i64)) (.cons (.int .i64) .nil))))))), s_l17CopySlot k⟩] [] Try.f93 (.cons (.agg (.cons (.int .i64) (.cons .str (.cons .str (.cons (.int .i64) (.cons (.il true (.int .i64)) (.cons (.int .i64) (.cons (.int .i64) (.cons .str (.cons .str (.cons (.int .i64) (.cons (.il true (.int .i64)) (.cons (.int .i64) .nil))))))))))))) .nil) (.agg (.cons (.int .i64) (.cons .str (.cons .str (.cons (.int .i64) (.cons (.own false 3 (.int .i64)) (.cons (.int .i64) (.cons (.int .i64) (.cons .str (.cons .str (.cons (.int .i64) (.cons (.own false 3 (.int .i64)) (.cons (.int .i64) .nil))))))))))))) x = s_l17Copy k x := by kernel_rfl
theorem e_s_l17Copy (k : Nat) : EntryOk Try.prog ⟨93, 0, (.cons (.agg (.cons (.int .i64) (.cons .str (.cons .str (.cons (.int .i64) (.cons (.il true (.int .i64)) (.cons (.int .i64) (.cons (.int .i64) (.cons .str (.cons .str (.cons (.int .i64) (.cons (.il true (.int .i64)) (.cons (.int .i64) .nil))))))))))))) .nil), (.agg (.cons (.int .i64) (.cons .str (.cons .str (.cons (.int .i64) (.cons (.own false 3 (.int .i64)) (.cons (.int .i64) (.cons (.int .i64) (.cons .str (.cons .str (.cons (.int .i64) (.cons (.own false 3 (.int .i64)) (.cons (.int .i64) .nil))))))))))))), s_l17Copy k⟩ := entry_ok tok (by intro e he; simp only [List.mem_cons, List.not_mem_nil, or_false] at he; rcases he with rfl <;> first | exact e_s_l17CopySlot k) (by kernel_rfl) (fn := Try.f93) (k := k) (es := [⟨131, 0, (.cons (.agg (.cons (.int .i64) (.cons .str (.cons .str (.cons (.int .i64) (.cons (.il true (.int .i64)) (.cons (.int .i64) .nil))))))) .nil), (.agg (.cons (.int .i64) (.cons .str (.cons .str (.cons (.int .i64) (.cons (.own false 3 (.int .i64)) (.cons (.int .i64) .nil))))))), s_l17CopySlot k⟩]) (loops := []) (by kernel_rfl) (by kernel_rfl) (fun x r h => (t_s_l17Copy k x).trans h)
def s_l17None (k : Nat) (x : (Int × ByteArray × ByteArray × Int × List (Int) × Int × Unit) × Unit) : Option (Bool × Unit × Unit) :=
(if (decide (x.1.1 = (0 : Int))) = true then
(if (decide (x.1.2.1 = (⟨#[]⟩ : ByteArray))) = true then
(if (decide (x.1.2.2.1 = (⟨#[]⟩ : ByteArray))) = true then
(if (decide (x.1.2.2.2.1 = (0 : Int))) = true then
(if (decide ((List.length x.1.2.2.2.2.1 : Int) = (0 : Int))) = true then
some ((decide (x.1.2.2.2.2.2.1 = (0 : Int))), ((), ()))
else
some (false, ((), ())))
else
some (false, ((), ())))
else
some (false, ((), ())))
else
some (false, ((), ())))
else
some (false, ((), ())))
theorem t_s_l17None (k : Nat) (x) : evF TTab k [] [] Try.f95 (.cons (.agg (.cons (.int .i64) (.cons .str (.cons .str (.cons (.int .i64) (.cons (.il true (.int .i64)) (.cons (.int .i64) .nil))))))) .nil) .bool x = s_l17None k x := by kernel_rfl
theorem e_s_l17None (k : Nat) : EntryOk Try.prog ⟨95, 0, (.cons (.agg (.cons (.int .i64) (.cons .str (.cons .str (.cons (.int .i64) (.cons (.il true (.int .i64)) (.cons (.int .i64) .nil))))))) .nil), .bool, s_l17None k⟩ := entry_ok tok (by simp) (by kernel_rfl) (fn := Try.f95) (k := k) (es := []) (loops := []) (by kernel_rfl) (by kernel_rfl) (fun x r h => (t_s_l17None k x).trans h)
def s_SeenOk (k : Nat) (x : List (Int) × Unit) : Option (Bool × Unit × Unit) :=
(whileK (fun (rec0 : (List (Int) × Int × Unit) → Option _) (y0 : List (Int) × Int × Unit) =>
(if (decide (y0.2.1 < (List.length y0.1 : Int))) = true then
(if 0 ≤ y0.2.1 ∧ y0.2.1 < (List.length y0.1 : Int) then
((s_l01In k ((Ty.rd (t := (.int .i64)) y0.1 y0.2.1), ((1 : Int), ((1000000000 : Int), ())))).bind fun p1 =>
(if (!p1.1) = false then
(if (decide ((0 : Int) < y0.2.1)) = true then
(if 0 ≤ (wi64 (y0.2.1 - (1 : Int))) ∧ (wi64 (y0.2.1 - (1 : Int))) < (List.length y0.1 : Int) then
(if 0 ≤ y0.2.1 ∧ y0.2.1 < (List.length y0.1 : Int) then
(if (decide ((Ty.rd (t := (.int .i64)) y0.1 (wi64 (y0.2.1 - (1 : Int)))) ≤ (Ty.rd (t := (.int .i64)) y0.1 y0.2.1))) = false then
(if 0 ≤ y0.2.1 ∧ y0.2.1 < (List.length y0.1 : Int) then
(if 0 ≤ (0 : Int) ∧ (0 : Int) < (List.length y0.1 : Int) then
(if (decide ((Ty.rd (t := (.int .i64)) y0.1 y0.2.1) ≤ (wi64 ((Ty.rd (t := (.int .i64)) y0.1 (0 : Int)) - (6 : Int))))) = true then
some (false, ((), ()))
else
(rec0 (y0.1, ((wi64 (y0.2.1 + (1 : Int))), ()))))
else none)
else none)
else
some (false, ((), ())))
else none)
else none)
else
(if 0 ≤ y0.2.1 ∧ y0.2.1 < (List.length y0.1 : Int) then
(if 0 ≤ (0 : Int) ∧ (0 : Int) < (List.length y0.1 : Int) then
(if (decide ((Ty.rd (t := (.int .i64)) y0.1 y0.2.1) ≤ (wi64 ((Ty.rd (t := (.int .i64)) y0.1 (0 : Int)) - (6 : Int))))) = true then
some (false, ((), ()))
else
(rec0 (y0.1, ((wi64 (y0.2.1 + (1 : Int))), ()))))
else none)
else none))
else
some (false, ((), ()))))
else none)
else
((fun (z1 : List (Int) × Unit) =>
some ((decide ((List.length z1.1 : Int) ≤ (6 : Int))), ((), ()))) (y0.1, ())))) k (x.1, ((0 : Int), ())))
theorem t_s_SeenOk (k : Nat) (x) : evF TTab k [⟨64, 0, (.cons (.int .i64) (.cons (.int .i64) (.cons (.int .i64) .nil))), .bool, s_l01In k⟩] [(0, ⟨[0, 3], (.cons (.il true (.int .i64)) (.cons (.int .i64) .nil))⟩, ⟨[0], (.cons (.il true (.int .i64)) .nil)⟩)] Try.f154 (.cons (.il true (.int .i64)) .nil) .bool x = s_SeenOk k x := by kernel_rfl
theorem e_s_SeenOk (k : Nat) : EntryOk Try.prog ⟨154, 0, (.cons (.il true (.int .i64)) .nil), .bool, s_SeenOk k⟩ := entry_ok tok (by intro e he; simp only [List.mem_cons, List.not_mem_nil, or_false] at he; rcases he with rfl <;> first | exact e_s_l01In k) (by kernel_rfl) (fn := Try.f154) (k := k) (es := [⟨64, 0, (.cons (.int .i64) (.cons (.int .i64) (.cons (.int .i64) .nil))), .bool, s_l01In k⟩]) (loops := [(0, ⟨[0, 3], (.cons (.il true (.int .i64)) (.cons (.int .i64) .nil))⟩, ⟨[0], (.cons (.il true (.int .i64)) .nil)⟩)]) (by kernel_rfl) (by kernel_rfl) (fun x r h => (t_s_SeenOk k x).trans h)
end Go.Proofs.Ytodnoiblplnpcaa
