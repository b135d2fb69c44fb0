import Derived.Test.YtodnoiblplnpcaaFun0
/- What functions of the program compute, as plain functions, and that their calls do so (part 1). Conditions: the plain function answers. -/
set_option linter.unusedVariables false
namespace Go.Proofs.Ytodnoiblplnpcaa
open Go Go.Eng Go.Proofs
def s_l01In (k : Nat) (x : Int × Int × Int × Unit) : Option (Bool × Unit × Unit × Unit × Unit) :=
(if (decide (x.2.1 ≤ x.1)) = true then
some ((decide (x.1 ≤ x.2.2.1)), ((), ((), ((), ()))))
else
some (false, ((), ((), ((), ())))))
theorem t_s_l01In (k : Nat) (x) : evF TTab k [] [] Try.f64 (.cons (.int .i64) (.cons (.int .i64) (.cons (.int .i64) .nil))) .bool x = s_l01In k x := by kernel_rfl
theorem e_s_l01In (k : Nat) : EntryOk Try.prog ⟨64, 0, (.cons (.int .i64) (.cons (.int .i64) (.cons (.int .i64) .nil))), .bool, s_l01In k⟩ := entry_ok tok (by simp) (by kernel_rfl) (fn := Try.f64) (k := k) (es := []) (loops := []) (by kernel_rfl) (by kernel_rfl) (fun x r h => (t_s_l01In k x).trans h)
def i_within (k : Nat) (x : Int × Int × Int × Unit) : Option (Bool × Unit × Unit × Unit × Unit) :=
(if (decide (x.2.1 ≤ x.1)) = true then
some ((decide (x.1 ≤ x.2.2.1)), ((), ((), ((), ()))))
else
some (false, ((), ((), ((), ())))))
theorem t_i_within (k : Nat) (x) : evF TTab k [] [] Try.f65 (.cons (.int .i64) (.cons (.int .i64) (.cons (.int .i64) .nil))) .bool x = i_within k x := by kernel_rfl
theorem e_i_within (k : Nat) : EntryOk Try.prog ⟨65, 0, (.cons (.int .i64) (.cons (.int .i64) (.cons (.int .i64) .nil))), .bool, i_within k⟩ := entry_ok tok (by simp) (by kernel_rfl) (fn := Try.f65) (k := k) (es := []) (loops := []) (by kernel_rfl) (by kernel_rfl) (fun x r h => (t_i_within k x).trans h)
def s_AddrOk (k : Nat) (x : Int × Unit) : Option (Bool × Unit × Unit) :=
((s_l01In k (x.1, ((0 : Int), ((4294967295 : Int), ())))).bind fun p1 =>
some (p1.1, ((), ())))
theorem t_s_AddrOk (k : Nat) (x) : evF TTab k [⟨64, 0, (.cons (.int .i64) (.cons (.int .i64) (.cons (.int .i64) .nil))), .bool, s_l01In k⟩] [] Try.f66 (.cons (.int .i64) .nil) .bool x = s_AddrOk k x := by kernel_rfl
theorem e_s_AddrOk (k : Nat) : EntryOk Try.prog ⟨66, 0, (.cons (.int .i64) .nil), .bool, s_AddrOk k⟩ := entry_ok tok (by intro e he; simp only [List.mem_cons, List.not_mem_nil, or_false] at he; rcases he with rfl <;> first | exact e_s_l01In k) (by kernel_rfl) (fn := Try.f66) (k := k) (es := [⟨64, 0, (.cons (.int .i64) (.cons (.int .i64) (.cons (.int .i64) .nil))), .bool, s_l01In k⟩]) (loops := []) (by kernel_rfl) (by kernel_rfl) (fun x r h => (t_s_AddrOk k x).trans h)
def s_InnerOk (k : Nat) (x : (Int × Int × ByteArray × Unit) × Unit) : Option (Bool × Unit × Unit) :=
((s_AddrOk k (x.1.1, ())).bind fun p1 =>
(if p1.1 = true then
((s_AddrOk k (x.1.2.1, ())).bind fun p2 =>
(if p2.1 = true then
some ((decide ((ByteArray.size x.1.2.2.1 : Int) ≤ (100 : Int))), ((), ()))
else
some (false, ((), ()))))
else
some (false, ((), ()))))
theorem t_s_InnerOk (k : Nat) (x) : evF TTab k [⟨66, 0, (.cons (.int .i64) .nil), .bool, s_AddrOk k⟩] [] Try.f18 (.cons (.agg (.cons (.int .i64) (.cons (.int .i64) (.cons .str .nil)))) .nil) .bool x = s_InnerOk k x := by kernel_rfl
theorem e_s_InnerOk (k : Nat) : EntryOk Try.prog ⟨18, 0, (.cons (.agg (.cons (.int .i64) (.cons (.int .i64) (.cons .str .nil)))) .nil), .bool, s_InnerOk k⟩ := entry_ok tok (by intro e he; simp only [List.mem_cons, List.not_mem_nil, or_false] at he; rcases he with rfl <;> first | exact e_s_AddrOk k) (by kernel_rfl) (fn := Try.f18) (k := k) (es := [⟨66, 0, (.cons (.int .i64) .nil), .bool, s_AddrOk k⟩]) (loops := []) (by kernel_rfl) (by kernel_rfl) (fun x r h => (t_s_InnerOk k x).trans h)
def i_AddrOk (k : Nat) (x : Int × Unit) : Option (Bool × Unit × Unit) :=
((i_within k (x.1, ((0 : Int), ((4294967295 : Int), ())))).bind fun p1 =>
some (p1.1, ((), ())))
theorem t_i_AddrOk (k : Nat) (x) : evF TTab k [⟨65, 0, (.cons (.int .i64) (.cons (.int .i64) (.cons (.int .i64) .nil))), .bool, i_within k⟩] [] Try.f67 (.cons (.int .i64) .nil) .bool x = i_AddrOk k x := by kernel_rfl
theorem e_i_AddrOk (k : Nat) : EntryOk Try.prog ⟨67, 0, (.cons (.int .i64) .nil), .bool, i_AddrOk k⟩ := entry_ok tok (by intro e he; simp only [List.mem_cons, List.not_mem_nil, or_false] at he; rcases he with rfl <;> first | exact e_i_within k) (by kernel_rfl) (fn := Try.f67) (k := k) (es := [⟨65, 0, (.cons (.int .i64) (.cons (.int .i64) (.cons (.int .i64) .nil))), .bool, i_within k⟩]) (loops := []) (by kernel_rfl) (by kernel_rfl) (fun x r h => (t_i_AddrOk k x).trans h)
def i_InnerOk (k : Nat) (x : (Int × Int × ByteArray × Unit) × Unit) : Option (Bool × Unit × Unit) :=
((i_AddrOk k (x.1.1, ())).bind fun p1 =>
(if p1.1 = true then
((i_AddrOk k (x.1.2.1, ())).bind fun p2 =>
(if p2.1 = true then
some ((decide ((ByteArray.size x.1.2.2.1 : Int) ≤ (100 : Int))), ((), ()))
else
some (false, ((), ()))))
else
some (false, ((), ()))))
theorem t_i_InnerOk (k : Nat) (x) : evF TTab k [⟨67, 0, (.cons (.int .i64) .nil), .bool, i_AddrOk k⟩] [] Try.f20 (.cons (.agg (.cons (.int .i64) (.cons (.int .i64) (.cons .str .nil)))) .nil) .bool x = i_InnerOk k x := by kernel_rfl
theorem e_i_InnerOk (k : Nat) : EntryOk Try.prog ⟨20, 0, (.cons (.agg (.cons (.int .i64) (.cons (.int .i64) (.cons .str .nil)))) .nil), .bool, i_InnerOk k⟩ := entry_ok tok (by intro e he; simp only [List.mem_cons, List.not_mem_nil, or_false] at he; rcases he with rfl <;> first | exact e_i_AddrOk k) (by kernel_rfl) (fn := Try.f20) (k := k) (es := [⟨67, 0, (.cons (.int .i64) .nil), .bool, i_AddrOk k⟩]) (loops := []) (by kernel_rfl) (by kernel_rfl) (fun x r h => (t_i_InnerOk k x).trans h)
def s_ReadNumber (k : Nat) (x : ByteArray × Unit) : Option ((Int × Bool × Unit) × Unit × Unit) :=
(if (!decide ((ByteArray.size x.1 : Int) = (4 : Int))) = true then
some (((0 : Int), (false, ())), ((), ()))
else
(if 0 ≤ (0 : Int) ∧ (0 : Int) < (ByteArray.size x.1 : Int) then
(if 0 ≤ (1 : Int) ∧ (1 : Int) < (ByteArray.size x.1 : Int) then
(if 0 ≤ (2 : Int) ∧ (2 : Int) < (ByteArray.size x.1 : Int) then
(if 0 ≤ (3 : Int) ∧ (3 : Int) < (ByteArray.size x.1 : Int) then
some (((wi64 ((wi64 ((wi64 ((wi64 ((wi64 ((bt x.1 (0 : Int)))) * (16777216 : Int))) + (wi64 ((wi64 ((bt x.1 (1 : Int)))) * (65536 : Int))))) + (wi64 ((wi64 ((bt x.1 (2 : Int)))) * (256 : Int))))) + (wi64 ((bt x.1 (3 : Int)))))), (true, ())), ((), ()))
else none)
else none)
else none)
else none))
theorem t_s_ReadNumber (k : Nat) (x) : evF TTab k [] [] Try.f68 (.cons .str .nil) (.tup (.cons (.int .i64) (.cons .bool .nil))) x = s_ReadNumber k x := by kernel_rfl
theorem e_s_ReadNumber (k : Nat) : EntryOk Try.prog ⟨68, 0, (.cons .str .nil), (.tup (.cons (.int .i64) (.cons .bool .nil))), s_ReadNumber k⟩ := entry_ok tok (by simp) (by kernel_rfl) (fn := Try.f68) (k := k) (es := []) (loops := []) (by kernel_rfl) (by kernel_rfl) (fun x r h => (t_s_ReadNumber k x).trans h)
def s_ReadInner (k : Nat) (x : ByteArray × Unit) : Option (((Int × Int × ByteArray × Unit) × Bool × Unit) × Unit × Unit) :=
((s_l01In k ((ByteArray.size x.1 : Int), ((8 : Int), ((108 : Int), ())))).bind fun p1 =>
(if (!p1.1) = true then
some ((((0 : Int), ((0 : Int), ((⟨#[]⟩ : ByteArray), ()))), (false, ())), ((), ()))
else
(if 0 ≤ (8 : Int) ∧ (8 : Int) ≤ (ByteArray.size x.1 : Int) then
(if 0 ≤ (4 : Int) ∧ (4 : Int) ≤ (ByteArray.size x.1 : Int) then
((s_ReadNumber k ((ByteArray.extract x.1 (Int.toNat (0 : Int)) (Int.toNat (4 : Int))), ())).bind fun p2 =>
(if 0 ≤ (8 : Int) ∧ (8 : Int) ≤ (ByteArray.size x.1 : Int) then
(if 0 ≤ (4 : Int) ∧ (4 : Int) ≤ (8 : Int) then
((s_ReadNumber k ((ByteArray.extract x.1 (Int.toNat (4 : Int)) (Int.toNat (8 : Int))), ())).bind fun p3 =>
some (((p2.1.1, (p3.1.1, ((ByteArray.extract x.1 (Int.toNat (8 : Int)) (Int.toNat (ByteArray.size x.1 : Int))), ()))), (true, ())), ((), ())))
else none)
else none))
else none)
else none)))
theorem t_s_ReadInner (k : Nat) (x) : evF TTab k [⟨64, 0, (.cons (.int .i64) (.cons (.int .i64) (.cons (.int .i64) .nil))), .bool, s_l01In k⟩, ⟨68, 0, (.cons .str .nil), (.tup (.cons (.int .i64) (.cons .bool .nil))), s_ReadNumber k⟩] [] Try.f21 (.cons .str .nil) (.tup (.cons (.agg (.cons (.int .i64) (.cons (.int .i64) (.cons .str .nil)))) (.cons .bool .nil))) x = s_ReadInner k x := by kernel_rfl
theorem e_s_ReadInner (k : Nat) : EntryOk Try.prog ⟨21, 0, (.cons .str .nil), (.tup (.cons (.agg (.cons (.int .i64) (.cons (.int .i64) (.cons .str .nil)))) (.cons .bool .nil))), s_ReadInner k⟩ := entry_ok tok (by intro e he; simp only [List.mem_cons, List.not_mem_nil, or_false] at he; rcases he with rfl | rfl <;> first | exact e_s_l01In k | exact e_s_ReadNumber k) (by kernel_rfl) (fn := Try.f21) (k := k) (es := [⟨64, 0, (.cons (.int .i64) (.cons (.int .i64) (.cons (.int .i64) .nil))), .bool, s_l01In k⟩, ⟨68, 0, (.cons .str .nil), (.tup (.cons (.int .i64) (.cons .bool .nil))), s_ReadNumber k⟩]) (loops := []) (by kernel_rfl) (by kernel_rfl) (fun x r h => (t_s_ReadInner k x).trans h)
def i_ReadNumber (k : Nat) (x : ByteArray × Unit) : Option ((Int × Bool × Unit) × Unit × Unit) :=
(if (!decide ((ByteArray.size x.1 : Int) = (4 : Int))) = true then
some (((0 : Int), (false, ())), ((), ()))
else
(if 0 ≤ (0 : Int) ∧ (0 : Int) < (ByteArray.size x.1 : Int) then
(if 0 ≤ (1 : Int) ∧ (1 : Int) < (ByteArray.size x.1 : Int) then
(if 0 ≤ (2 : Int) ∧ (2 : Int) < (ByteArray.size x.1 : Int) then
(if 0 ≤ (3 : Int) ∧ (3 : Int) < (ByteArray.size x.1 : Int) then
some (((bitsI .or .i64 (bitsI .or .i64 (bitsI .or .i64 (wi64 ((wi64 ((bt x.1 (0 : Int)))) * 2 ^ (min (Int.toNat (24 : Int)) (IntKind.bits .i64)))) (wi64 ((wi64 ((bt x.1 (1 : Int)))) * 2 ^ (min (Int.toNat (16 : Int)) (IntKind.bits .i64))))) (wi64 ((wi64 ((bt x.1 (2 : Int)))) * 2 ^ (min (Int.toNat (8 : Int)) (IntKind.bits .i64))))) (wi64 ((bt x.1 (3 : Int))))), (true, ())), ((), ()))
else none)
else none)
else none)
else none))
theorem t_i_ReadNumber (k : Nat) (x) : evF TTab k [] [] Try.f69 (.cons .str .nil) (.tup (.cons (.int .i64) (.cons .bool .nil))) x = i_ReadNumber k x := by kernel_rfl
theorem e_i_ReadNumber (k : Nat) : EntryOk Try.prog ⟨69, 0, (.cons .str .nil), (.tup (.cons (.int .i64) (.cons .bool .nil))), i_ReadNumber k⟩ := entry_ok tok (by simp) (by kernel_rfl) (fn := Try.f69) (k := k) (es := []) (loops := []) (by kernel_rfl) (by kernel_rfl) (fun x r h => (t_i_ReadNumber k x).trans h)
def i_ReadInner (k : Nat) (x : ByteArray × Unit) : Option (((Int × Int × ByteArray × Unit) × Bool × Unit) × Unit × Unit) :=
((i_within k ((ByteArray.size x.1 : Int), ((8 : Int), ((108 : Int), ())))).bind fun p1 =>
(if (!p1.1) = true then
some ((((0 : Int), ((0 : Int), ((⟨#[]⟩ : ByteArray), ()))), (false, ())), ((), ()))
else
(if 0 ≤ (8 : Int) ∧ (8 : Int) ≤ (ByteArray.size x.1 : Int) then
(if 0 ≤ (4 : Int) ∧ (4 : Int) ≤ (ByteArray.size x.1 : Int) then
((i_ReadNumber k ((ByteArray.extract x.1 (Int.toNat (0 : Int)) (Int.toNat (4 : Int))), ())).bind fun p2 =>
(if 0 ≤ (8 : Int) ∧ (8 : Int) ≤ (ByteArray.size x.1 : Int) then
(if 0 ≤ (4 : Int) ∧ (4 : Int) ≤ (8 : Int) then
((i_ReadNumber k ((ByteArray.extract x.1 (Int.toNat (4 : Int)) (Int.toNat (8 : Int))), ())).bind fun p3 =>
some (((p2.1.1, (p3.1.1, ((ByteArray.extract x.1 (Int.toNat (8 : Int)) (Int.toNat (ByteArray.size x.1 : Int))), ()))), (true, ())), ((), ())))
else none)
else none))
else none)
else none)))
theorem t_i_ReadInner (k : Nat) (x) : evF TTab k [⟨65, 0, (.cons (.int .i64) (.cons (.int .i64) (.cons (.int .i64) .nil))), .bool, i_within k⟩, ⟨69, 0, (.cons .str .nil), (.tup (.cons (.int .i64) (.cons .bool .nil))), i_ReadNumber k⟩] [] Try.f22 (.cons .str .nil) (.tup (.cons (.agg (.cons (.int .i64) (.cons (.int .i64) (.cons .str .nil)))) (.cons .bool .nil))) x = i_ReadInner k x := by kernel_rfl
theorem e_i_ReadInner (k : Nat) : EntryOk Try.prog ⟨22, 0, (.cons .str .nil), (.tup (.cons (.agg (.cons (.int .i64) (.cons (.int .i64) (.cons .str .nil)))) (.cons .bool .nil))), i_ReadInner k⟩ := entry_ok tok (by intro e he; simp only [List.mem_cons, List.not_mem_nil, or_false] at he; rcases he with rfl | rfl <;> first | exact e_i_within k | exact e_i_ReadNumber k) (by kernel_rfl) (fn := Try.f22) (k := k) (es := [⟨65, 0, (.cons (.int .i64) (.cons (.int .i64) (.cons (.int .i64) .nil))), .bool, i_within k⟩, ⟨69, 0, (.cons .str .nil), (.tup (.cons (.int .i64) (.cons .bool .nil))), i_ReadNumber k⟩]) (loops := []) (by kernel_rfl) (by kernel_rfl) (fun x r h => (t_i_ReadInner k x).trans h)
def s_NumberText (k : Nat) (x : Int × Unit) : Option (ByteArray × Unit × Unit) :=
((s_l01In k (x.1, ((0 : Int), ((4294967295 : Int), ())))).bind fun p1 =>
(if (!p1.1) = true then
some ((⟨#[]⟩ : ByteArray), ((), ()))
else
some ((strOf ([(wu8 ((wi64 (Int.tdiv x.1 (16777216 : Int))))), (wu8 ((Int.tmod (wi64 (Int.tdiv x.1 (65536 : Int))) (256 : Int)))), (wu8 ((Int.tmod (wi64 (Int.tdiv x.1 (256 : Int))) (256 : Int)))), (wu8 ((Int.tmod x.1 (256 : Int))))] : List (Int))), ((), ()))))
theorem t_s_NumberText (k : Nat) (x) : evF TTab k [⟨64, 0, (.cons (.int .i64) (.cons (.int .i64) (.cons (.int .i64) .nil))), .bool, s_l01In k⟩] [] Try.f70 (.cons (.int .i64) .nil) .str x = s_NumberText k x := by kernel_rfl
theorem e_s_NumberText (k : Nat) : EntryOk Try.prog ⟨70, 0, (.cons (.int .i64) .nil), .str, s_NumberText k⟩ := entry_ok tok (by intro e he; simp only [List.mem_cons, List.not_mem_nil, or_false] at he; rcases he with rfl <;> first | exact e_s_l01In k) (by kernel_rfl) (fn := Try.f70) (k := k) (es := [⟨64, 0, (.cons (.int .i64) (.cons (.int .i64) (.cons (.int .i64) .nil))), .bool, s_l01In k⟩]) (loops := []) (by kernel_rfl) (by kernel_rfl) (fun x r h => (t_s_NumberText k x).trans h)
def s_InnerText (k : Nat) (x : (Int × Int × ByteArray × Unit) × Unit) : Option ((ByteArray × Bool × Unit) × Unit × Unit) :=
((s_InnerOk k ((x.1.1, (x.1.2.1, (x.1.2.2.1, ()))), ())).bind fun p1 =>
(if (!p1.1) = true then
some (((⟨#[]⟩ : ByteArray), (false, ())), ((), ()))
else
((s_NumberText k (x.1.1, ())).bind fun p2 =>
((s_NumberText k (x.1.2.1, ())).bind fun p3 =>
(if ByteArray.size p2.1 + ByteArray.size p3.1 ≤ maxStr then
(if ByteArray.size (p2.1 ++ p3.1) + ByteArray.size x.1.2.2.1 ≤ maxStr then
some ((((p2.1 ++ p3.1) ++ x.1.2.2.1), (true, ())), ((), ()))
else none)
else none)))))
theorem t_s_InnerText (k : Nat) (x) : evF TTab k [⟨18, 0, (.cons (.agg (.cons (.int .i64) (.cons (.int .i64) (.cons .str .nil)))) .nil), .bool, s_InnerOk k⟩, ⟨70, 0, (.cons (.int .i64) .nil), .str, s_NumberText k⟩] [] Try.f24 (.cons (.agg (.cons (.int .i64) (.cons (.int .i64) (.cons .str .nil)))) .nil) (.tup (.cons .str (.cons .bool .nil))) x = s_InnerText k x := by kernel_rfl
theorem e_s_InnerText (k : Nat) : EntryOk Try.prog ⟨24, 0, (.cons (.agg (.cons (.int .i64) (.cons (.int .i64) (.cons .str .nil)))) .nil), (.tup (.cons .str (.cons .bool .nil))), s_InnerText k⟩ := entry_ok tok (by intro e he; simp only [List.mem_cons, List.not_mem_nil, or_false] at he; rcases he with rfl | rfl <;> first | exact e_s_InnerOk k | exact e_s_NumberText k) (by kernel_rfl) (fn := Try.f24) (k := k) (es := [⟨18, 0, (.cons (.agg (.cons (.int .i64) (.cons (.int .i64) (.cons .str .nil)))) .nil), .bool, s_InnerOk k⟩, ⟨70, 0, (.cons (.int .i64) .nil), .str, s_NumberText k⟩]) (loops := []) (by kernel_rfl) (by kernel_rfl) (fun x r h => (t_s_InnerText k x).trans h)
def i_NumberText (k : Nat) (x : Int × Unit) : Option (ByteArray × Unit × Unit) :=
((i_within k (x.1, ((0 : Int), ((4294967295 : Int), ())))).bind fun p1 =>
(if (!p1.1) = true then
some ((⟨#[]⟩ : ByteArray), ((), ()))
else
some ((strOf ([(wu8 ((bitsI .and .i64 (Int.fdiv x.1 (2 ^ (min (Int.toNat (24 : Int)) (IntKind.bits .i64)))) (255 : Int)))), (wu8 ((bitsI .and .i64 (Int.fdiv x.1 (2 ^ (min (Int.toNat (16 : Int)) (IntKind.bits .i64)))) (255 : Int)))), (wu8 ((bitsI .and .i64 (Int.fdiv x.1 (2 ^ (min (Int.toNat (8 : Int)) (IntKind.bits .i64)))) (255 : Int)))), (wu8 ((bitsI .and .i64 x.1 (255 : Int))))] : List (Int))), ((), ()))))
theorem t_i_NumberText (k : Nat) (x) : evF TTab k [⟨65, 0, (.cons (.int .i64) (.cons (.int .i64) (.cons (.int .i64) .nil))), .bool, i_within k⟩] [] Try.f71 (.cons (.int .i64) .nil) .str x = i_NumberText k x := by kernel_rfl
theorem e_i_NumberText (k : Nat) : EntryOk Try.prog ⟨71, 0, (.cons (.int .i64) .nil), .str, i_NumberText k⟩ := entry_ok tok (by intro e he; simp only [List.mem_cons, List.not_mem_nil, or_false] at he; rcases he with rfl <;> first | exact e_i_within k) (by kernel_rfl) (fn := Try.f71) (k := k) (es := [⟨65, 0, (.cons (.int .i64) (.cons (.int .i64) (.cons (.int .i64) .nil))), .bool, i_within k⟩]) (loops := []) (by kernel_rfl) (by kernel_rfl) (fun x r h => (t_i_NumberText k x).trans h)
def i_InnerText (k : Nat) (x : (Int × Int × ByteArray × Unit) × Unit) : Option ((ByteArray × Bool × Unit) × Unit × Unit) :=
((i_InnerOk k ((x.1.1, (x.1.2.1, (x.1.2.2.1, ()))), ())).bind fun p1 =>
(if (!p1.1) = true then
some (((⟨#[]⟩ : ByteArray), (false, ())), ((), ()))
else
((i_NumberText k (x.1.1, ())).bind fun p2 =>
((i_NumberText k (x.1.2.1, ())).bind fun p3 =>
(if ByteArray.size p2.1 + ByteArray.size p3.1 ≤ maxStr then
(if ByteArray.size (p2.1 ++ p3.1) + ByteArray.size x.1.2.2.1 ≤ maxStr then
some ((((p2.1 ++ p3.1) ++ x.1.2.2.1), (true, ())), ((), ()))
else none)
else none)))))
theorem t_i_InnerText (k : Nat) (x) : evF TTab k [⟨20, 0, (.cons (.agg (.cons (.int .i64) (.cons (.int .i64) (.cons .str .nil)))) .nil), .bool, i_InnerOk k⟩, ⟨71, 0, (.cons (.int .i64) .nil), .str, i_NumberText k⟩] [] Try.f25 (.cons (.agg (.cons (.int .i64) (.cons (.int .i64) (.cons .str .nil)))) .nil) (.tup (.cons .str (.cons .bool .nil))) x = i_InnerText k x := by kernel_rfl
theorem e_i_InnerText (k : Nat) : EntryOk Try.prog ⟨25, 0, (.cons (.agg (.cons (.int .i64) (.cons (.int .i64) (.cons .str .nil)))) .nil), (.tup (.cons .str (.cons .bool .nil))), i_InnerText k⟩ := entry_ok tok (by intro e he; simp only [List.mem_cons, List.not_mem_nil, or_false] at he; rcases he with rfl | rfl <;> first | exact e_i_InnerOk k | exact e_i_NumberText k) (by kernel_rfl) (fn := Try.f25) (k := k) (es := [⟨20, 0, (.cons (.agg (.cons (.int .i64) (.cons (.int .i64) (.cons .str .nil)))) .nil), .bool, i_InnerOk k⟩, ⟨71, 0, (.cons (.int .i64) .nil), .str, i_NumberText k⟩]) (loops := []) (by kernel_rfl) (by kernel_rfl) (fun x r h => (t_i_InnerText k x).trans h)
def w_big (k : Nat) (x : List (Int) × Unit) : Option (Bool × Unit × Unit) :=
some ((decide ((1048576 : Int) < (List.length x.1 : Int))), ((), ()))
theorem t_w_big (k : Nat) (x) : evF TTab k [] [] Try.f40 (.cons (.il true (.int .u8)) .nil) .bool x = w_big k x := by kernel_rfl
theorem e_w_big (k : Nat) : EntryOk Try.prog ⟨40, 0, (.cons (.il true (.int .u8)) .nil), .bool, w_big k⟩ := entry_ok tok (by simp) (by kernel_rfl) (fn := Try.f40) (k := k) (es := []) (loops := []) (by kernel_rfl) (by kernel_rfl) (fun x r h => (t_w_big k x).trans h)
def s_l01Byte (k : Nat) (x : (List (Int) × Int × Int × Unit) × Unit) : Option (Int × (List (Int) × Int × Int × Unit) × Unit) :=
(if (decide (x.1.2.1 < (List.length x.1.1 : Int))) = true then
(if 0 ≤ x.1.2.1 ∧ x.1.2.1 < (List.length x.1.1 : Int) then
some ((bitsI .and .i64 (wi64 ((bitsI .and .i64 (bitsI .xor .i64 (Int.fdiv (wi64 ((wi64 (x.1.2.2.1 * (6364136223846793005 : Int))) + (1442695040888963407 : Int))) (2 ^ (min (Int.toNat (33 : Int)) (IntKind.bits .i64)))) (Int.fdiv (wi64 ((wi64 (x.1.2.2.1 * (6364136223846793005 : Int))) + (1442695040888963407 : Int))) (2 ^ (min (Int.toNat (45 : Int)) (IntKind.bits .i64))))) (255 : Int)) + (wi64 ((Ty.rd (t := (.int .u8)) x.1.1 x.1.2.1))))) (255 : Int)), ((x.1.1, ((wi64 (x.1.2.1 + (1 : Int))), ((wi64 ((wi64 (x.1.2.2.1 * (6364136223846793005 : Int))) + (1442695040888963407 : Int))), ()))), ()))
else none)
else
some ((bitsI .and .i64 (bitsI .xor .i64 (Int.fdiv (wi64 ((wi64 (x.1.2.2.1 * (6364136223846793005 : Int))) + (1442695040888963407 : Int))) (2 ^ (min (Int.toNat (33 : Int)) (IntKind.bits .i64)))) (Int.fdiv (wi64 ((wi64 (x.1.2.2.1 * (6364136223846793005 : Int))) + (1442695040888963407 : Int))) (2 ^ (min (Int.toNat (45 : Int)) (IntKind.bits .i64))))) (255 : Int)), ((x.1.1, (x.1.2.1, ((wi64 ((wi64 (x.1.2.2.1 * (6364136223846793005 : Int))) + (1442695040888963407 : Int))), ()))), ())))
theorem t_s_l01Byte (k : Nat) (x) : evF TTab k [] [] Try.f103 (.cons (.ptr (.cons (.il true (.int .u8)) (.cons (.int .i64) (.cons (.int .i64) .nil)))) .nil) (.int .i64) x = s_l01Byte k x := by kernel_rfl
theorem e_s_l01Byte (k : Nat) : EntryOk Try.prog ⟨103, 0, (.cons (.ptr (.cons (.il true (.int .u8)) (.cons (.int .i64) (.cons (.int .i64) .nil)))) .nil), (.int .i64), s_l01Byte k⟩ := entry_ok tok (by simp) (by kernel_rfl) (fn := Try.f103) (k := k) (es := []) (loops := []) (by kernel_rfl) (by kernel_rfl) (fun x r h => (t_s_l01Byte k x).trans h)
def s_l01Below (k : Nat) (x : (List (Int) × Int × Int × Unit) × Int × Unit) : Option (Int × (List (Int) × Int × Int × Unit) × Unit × Unit) :=
(if (decide (x.2.1 ≤ (0 : Int))) = true then
some ((0 : Int), ((x.1.1, (x.1.2.1, (x.1.2.2.1, ()))), ((), ())))
else
(if (decide (x.2.1 ≤ (256 : Int))) = true then
((s_l01Byte k ((x.1.1, (x.1.2.1, (x.1.2.2.1, ()))), ())).bind fun p1 =>
(if x.2.1 = 0 then
none
else
some ((Int.tmod p1.1 x.2.1), ((p1.2.1.1, (p1.2.1.2.1, (p1.2.1.2.2.1, ()))), ((), ())))))
else
((s_l01Byte k ((x.1.1, (x.1.2.1, (x.1.2.2.1, ()))), ())).bind fun p2 =>
((s_l01Byte k ((p2.2.1.1, (p2.2.1.2.1, (p2.2.1.2.2.1, ()))), ())).bind fun p3 =>
((s_l01Byte k ((p3.2.1.1, (p3.2.1.2.1, (p3.2.1.2.2.1, ()))), ())).bind fun p4 =>
((s_l01Byte k ((p4.2.1.1, (p4.2.1.2.1, (p4.2.1.2.2.1, ()))), ())).bind fun p5 =>
(if x.2.1 = 0 then
none
else
some ((Int.tmod (wi64 ((wi64 ((wi64 ((wi64 (p2.1 * (16777216 : Int))) + (wi64 (p3.1 * (65536 : Int))))) + (wi64 (p4.1 * (256 : Int))))) + p5.1)) x.2.1), ((p5.2.1.1, (p5.2.1.2.1, (p5.2.1.2.2.1, ()))), ((), ()))))))))))
theorem t_s_l01Below (k : Nat) (x) : evF TTab k [⟨103, 0, (.cons (.ptr (.cons (.il true (.int .u8)) (.cons (.int .i64) (.cons (.int .i64) .nil)))) .nil), (.int .i64), s_l01Byte k⟩] [] Try.f85 (.cons (.ptr (.cons (.il true (.int .u8)) (.cons (.int .i64) (.cons (.int .i64) .nil)))) (.cons (.int .i64) .nil)) (.int .i64) x = s_l01Below k x := by kernel_rfl
theorem e_s_l01Below (k : Nat) : EntryOk Try.prog ⟨85, 0, (.cons (.ptr (.cons (.il true (.int .u8)) (.cons (.int .i64) (.cons (.int .i64) .nil)))) (.cons (.int .i64) .nil)), (.int .i64), s_l01Below k⟩ := entry_ok tok (by intro e he; simp only [List.mem_cons, List.not_mem_nil, or_false] at he; rcases he with rfl <;> first | exact e_s_l01Byte k) (by kernel_rfl) (fn := Try.f85) (k := k) (es := [⟨103, 0, (.cons (.ptr (.cons (.il true (.int .u8)) (.cons (.int .i64) (.cons (.int .i64) .nil)))) .nil), (.int .i64), s_l01Byte k⟩]) (loops := []) (by kernel_rfl) (by kernel_rfl) (fun x r h => (t_s_l01Below k x).trans h)
def s_l01Once (k : Nat) (x : (List (Int) × Int × Int × Unit) × Int × Unit) : Option (Bool × (List (Int) × Int × Int × Unit) × Unit × Unit) :=
((s_l01Below k ((x.1.1, (x.1.2.1, (x.1.2.2.1, ()))), (x.2.1, ()))).bind fun p1 =>
some ((decide (p1.1 = (0 : Int))), ((p1.2.1.1, (p1.2.1.2.1, (p1.2.1.2.2.1, ()))), ((), ()))))
theorem t_s_l01Once (k : Nat) (x) : evF TTab k [⟨85, 0, (.cons (.ptr (.cons (.il true (.int .u8)) (.cons (.int .i64) (.cons (.int .i64) .nil)))) (.cons (.int .i64) .nil)), (.int .i64), s_l01Below k⟩] [] Try.f83 (.cons (.ptr (.cons (.il true (.int .u8)) (.cons (.int .i64) (.cons (.int .i64) .nil)))) (.cons (.int .i64) .nil)) .bool x = s_l01Once k x := by kernel_rfl
theorem e_s_l01Once (k : Nat) : EntryOk Try.prog ⟨83, 0, (.cons (.ptr (.cons (.il true (.int .u8)) (.cons (.int .i64) (.cons (.int .i64) .nil)))) (.cons (.int .i64) .nil)), .bool, s_l01Once k⟩ := entry_ok tok (by intro e he; simp only [List.mem_cons, List.not_mem_nil, or_false] at he; rcases he with rfl <;> first | exact e_s_l01Below k) (by kernel_rfl) (fn := Try.f83) (k := k) (es := [⟨85, 0, (.cons (.ptr (.cons (.il true (.int .u8)) (.cons (.int .i64) (.cons (.int .i64) .nil)))) (.cons (.int .i64) .nil)), (.int .i64), s_l01Below k⟩]) (loops := []) (by kernel_rfl) (by kernel_rfl) (fun x r h => (t_s_l01Once k x).trans h)
def s_l01Text (k : Nat) (x : (List (Int) × Int × Int × Unit) × Int × Unit) : Option (ByteArray × (List (Int) × Int × Int × Unit) × Unit × Unit) :=
(jn (fun (j1v0 : Int) =>
(whileK (fun (rec0 : ((List (Int) × Int × Int × Unit) × Int × List (Int) × Int × Unit) → Option _) (y0 : (List (Int) × Int × Int × Unit) × Int × List (Int) × Int × Unit) =>
(if (decide (y0.2.2.2.1 < y0.2.1)) = true then
((s_l01Byte k ((y0.1.1, (y0.1.2.1, (y0.1.2.2.1, ()))), ())).bind fun p2 =>
(if List.length y0.2.2.1 + List.length ([(wu8 (p2.1))] : List (Int)) ≤ capMax then
(rec0 ((p2.2.1.1, (p2.2.1.2.1, (p2.2.1.2.2.1, ()))), (y0.2.1, ((y0.2.2.1 ++ ([(wu8 (p2.1))] : List (Int))), ((wi64 (y0.2.2.2.1 + (1 : Int))), ())))))
else none))
else
((fun (z2 : (List (Int) × Int × Int × Unit) × List (Int) × Unit) =>
some ((strOf z2.2.1), ((z2.1.1, (z2.1.2.1, (z2.1.2.2.1, ()))), ((), ())))) ((y0.1.1, (y0.1.2.1, (y0.1.2.2.1, ()))), (y0.2.2.1, ()))))) k ((x.1.1, (x.1.2.1, (x.1.2.2.1, ()))), (j1v0, (([] : List (Int)), ((0 : Int), ())))))) (fun (j1 : Int → Option _) =>
(if (decide ((5000 : Int) < x.2.1)) = true then
(j1 (5000 : Int))
else
(j1 x.2.1))))
theorem t_s_l01Text (k : Nat) (x) : evF TTab k [⟨103, 0, (.cons (.ptr (.cons (.il true (.int .u8)) (.cons (.int .i64) (.cons (.int .i64) .nil)))) .nil), (.int .i64), s_l01Byte k⟩] [(0, ⟨[0, 1, 5, 6], (.cons (.ptr (.cons (.il true (.int .u8)) (.cons (.int .i64) (.cons (.int .i64) .nil)))) (.cons (.int .i64) (.cons (.own false 5 (.int .u8)) (.cons (.int .i64) .nil))))⟩, ⟨[0, 5], (.cons (.ptr (.cons (.il true (.int .u8)) (.cons (.int .i64) (.cons (.int .i64) .nil)))) (.cons (.own false 5 (.int .u8)) .nil))⟩)] Try.f84 (.cons (.ptr (.cons (.il true (.int .u8)) (.cons (.int .i64) (.cons (.int .i64) .nil)))) (.cons (.int .i64) .nil)) .str x = s_l01Text k x := by kernel_rfl
theorem e_s_l01Text (k : Nat) : EntryOk Try.prog ⟨84, 0, (.cons (.ptr (.cons (.il true (.int .u8)) (.cons (.int .i64) (.cons (.int .i64) .nil)))) (.cons (.int .i64) .nil)), .str, s_l01Text k⟩ := entry_ok tok (by intro e he; simp only [List.mem_cons, List.not_mem_nil, or_false] at he; rcases he with rfl <;> first | exact e_s_l01Byte k) (by kernel_rfl) (fn := Try.f84) (k := k) (es := [⟨103, 0, (.cons (.ptr (.cons (.il true (.int .u8)) (.cons (.int .i64) (.cons (.int .i64) .nil)))) .nil), (.int .i64), s_l01Byte k⟩]) (loops := [(0, ⟨[0, 1, 5, 6], (.cons (.ptr (.cons (.il true (.int .u8)) (.cons (.int .i64) (.cons (.int .i64) .nil)))) (.cons (.int .i64) (.cons (.own false 5 (.int .u8)) (.cons (.int .i64) .nil))))⟩, ⟨[0, 5], (.cons (.ptr (.cons (.il true (.int .u8)) (.cons (.int .i64) (.cons (.int .i64) .nil)))) (.cons (.own false 5 (.int .u8)) .nil))⟩)]) (by kernel_rfl) (by kernel_rfl) (fun x r h => (t_s_l01Text k x).trans h)
def s_l01PickInt (k : Nat) (x : (List (Int) × Int × Int × Unit) × List (Int) × Unit) : Option (Int × (List (Int) × Int × Int × Unit) × Unit × Unit) :=
((s_l01Below k ((x.1.1, (x.1.2.1, (x.1.2.2.1, ()))), ((List.length x.2.1 : Int), ()))).bind fun p1 =>
(if 0 ≤ p1.1 ∧ p1.1 < (List.length x.2.1 : Int) then
some ((Ty.rd (t := (.int .i64)) x.2.1 p1.1), ((p1.2.1.1, (p1.2.1.2.1, (p1.2.1.2.2.1, ()))), ((), ())))
else none))
theorem t_s_l01PickInt (k : Nat) (x) : evF TTab k [⟨85, 0, (.cons (.ptr (.cons (.il true (.int .u8)) (.cons (.int .i64) (.cons (.int .i64) .nil)))) (.cons (.int .i64) .nil)), (.int .i64), s_l01Below k⟩] [] Try.f124 (.cons (.ptr (.cons (.il true (.int .u8)) (.cons (.int .i64) (.cons (.int .i64) .nil)))) (.cons (.il false (.int .i64)) .nil)) (.int .i64) x = s_l01PickInt k x := by kernel_rfl
theorem e_s_l01PickInt (k : Nat) : EntryOk Try.prog ⟨124, 0, (.cons (.ptr (.cons (.il true (.int .u8)) (.cons (.int .i64) (.cons (.int .i64) .nil)))) (.cons (.il false (.int .i64)) .nil)), (.int .i64), s_l01PickInt k⟩ := entry_ok tok (by intro e he; simp only [List.mem_cons, List.not_mem_nil, or_false] at he; rcases he with rfl <;> first | exact e_s_l01Below k) (by kernel_rfl) (fn := Try.f124) (k := k) (es := [⟨85, 0, (.cons (.ptr (.cons (.il true (.int .u8)) (.cons (.int .i64) (.cons (.int .i64) .nil)))) (.cons (.int .i64) .nil)), (.int .i64), s_l01Below k⟩]) (loops := []) (by kernel_rfl) (by kernel_rfl) (fun x r h => (t_s_l01PickInt k x).trans h)
def s_l08Addr (k : Nat) (x : (List (Int) × Int × Int × Unit) × Unit) : Option (Int × (List (Int) × Int × Int × Unit) × Unit) :=
((s_l01Below k ((x.1.1, (x.1.2.1, (x.1.2.2.1, ()))), ((6 : Int), ()))).bind fun p1 =>
(if (decide (p1.1 = (0 : Int))) = true then
((s_l01PickInt k ((p1.2.1.1, (p1.2.1.2.1, (p1.2.1.2.2.1, ()))), (([(0 : Int), (4294967295 : Int), (4294967296 : Int), (-1 : Int)] : List (Int)), ()))).bind fun p2 =>
some (p2.1, ((p2.2.1.1, (p2.2.1.2.1, (p2.2.1.2.2.1, ()))), ())))
else
(if (decide (p1.1 = (1 : Int))) = true then
((s_l01Below k ((p1.2.1.1, (p1.2.1.2.1, (p1.2.1.2.2.1, ()))), ((4294967296 : Int), ()))).bind fun p3 =>
some (p3.1, ((p3.2.1.1, (p3.2.1.2.1, (p3.2.1.2.2.1, ()))), ())))
else
((s_l01Below k ((p1.2.1.1, (p1.2.1.2.1, (p1.2.1.2.2.1, ()))), ((1024 : Int), ()))).bind fun p4 =>
some ((wi64 ((167772160 : Int) + p4.1)), ((p4.2.1.1, (p4.2.1.2.1, (p4.2.1.2.2.1, ()))), ()))))))
theorem t_s_l08Addr (k : Nat) (x) : evF TTab k [⟨85, 0, (.cons (.ptr (.cons (.il true (.int .u8)) (.cons (.int .i64) (.cons (.int .i64) .nil)))) (.cons (.int .i64) .nil)), (.int .i64), s_l01Below k⟩, ⟨124, 0, (.cons (.ptr (.cons (.il true (.int .u8)) (.cons (.int .i64) (.cons (.int .i64) .nil)))) (.cons (.il false (.int .i64)) .nil)), (.int .i64), s_l01PickInt k⟩] [] Try.f122 (.cons (.ptr (.cons (.il true (.int .u8)) (.cons (.int .i64) (.cons (.int .i64) .nil)))) .nil) (.int .i64) x = s_l08Addr k x := by kernel_rfl
theorem e_s_l08Addr (k : Nat) : EntryOk Try.prog ⟨122, 0, (.cons (.ptr (.cons (.il true (.int .u8)) (.cons (.int .i64) (.cons (.int .i64) .nil)))) .nil), (.int .i64), s_l08Addr k⟩ := entry_ok tok (by intro e he; simp only [List.mem_cons, List.not_mem_nil, or_false] at he; rcases he with rfl | rfl <;> first | exact e_s_l01Below k | exact e_s_l01PickInt k) (by kernel_rfl) (fn := Try.f122) (k := k) (es := [⟨85, 0, (.cons (.ptr (.cons (.il true (.int .u8)) (.cons (.int .i64) (.cons (.int .i64) .nil)))) (.cons (.int .i64) .nil)), (.int .i64), s_l01Below k⟩, ⟨124, 0, (.cons (.ptr (.cons (.il true (.int .u8)) (.cons (.int .i64) (.cons (.int .i64) .nil)))) (.cons (.il false (.int .i64)) .nil)), (.int .i64), s_l01PickInt k⟩]) (loops := []) (by kernel_rfl) (by kernel_rfl) (fun x r h => (t_s_l08Addr k x).trans h)
def s_l01Long (k : Nat) (x : Int × Int × Unit) : Option (ByteArray × Unit × Unit × Unit) :=
(if x.1 = x.1 then
(if 0 ≤ x.1 ∧ x.1 ≤ (capMax : Int) then
(whileK (fun (rec0 : (Int × Int × List (Int) × Int × Unit) → Option _) (y0 : Int × Int × List (Int) × Int × Unit) =>
(if (decide (y0.2.2.2.1 < y0.1)) = true then
(if 0 ≤ y0.2.2.2.1 ∧ y0.2.2.2.1 < (List.length y0.2.2.1 : Int) then
(rec0 (y0.1, (y0.2.1, ((List.set y0.2.2.1 (Int.toNat y0.2.2.2.1) y0.2.1), ((wi64 (y0.2.2.2.1 + (1 : Int))), ())))))
else none)
else
((fun (z1 : List (Int) × Unit) =>
some ((strOf z1.1), ((), ((), ())))) (y0.2.2.1, ())))) k (x.1, (x.2.1, ((List.replicate (Int.toNat x.1) (0 : Int)), ((0 : Int), ())))))
else none)
else none)
theorem t_s_l01Long (k : Nat) (x) : evF TTab k [] [(0, ⟨[0, 1, 5, 6], (.cons (.int .i64) (.cons (.int .u8) (.cons (.own false 5 (.int .u8)) (.cons (.int .i64) .nil))))⟩, ⟨[5], (.cons (.own false 5 (.int .u8)) .nil)⟩)] Try.f123 (.cons (.int .i64) (.cons (.int .u8) .nil)) .str x = s_l01Long k x := by kernel_rfl
theorem e_s_l01Long (k : Nat) : EntryOk Try.prog ⟨123, 0, (.cons (.int .i64) (.cons (.int .u8) .nil)), .str, s_l01Long k⟩ := entry_ok tok (by simp) (by kernel_rfl) (fn := Try.f123) (k := k) (es := []) (loops := [(0, ⟨[0, 1, 5, 6], (.cons (.int .i64) (.cons (.int .u8) (.cons (.own false 5 (.int .u8)) (.cons (.int .i64) .nil))))⟩, ⟨[5], (.cons (.own false 5 (.int .u8)) .nil)⟩)]) (by kernel_rfl) (by kernel_rfl) (fun x r h => (t_s_l01Long k x).trans h)
def s_l21Inner (k : Nat) (x : (List (Int) × Int × Int × Unit) × Unit) : Option ((Int × Int × ByteArray × Unit) × (List (Int) × Int × Int × Unit) × Unit) :=
((s_l08Addr k ((x.1.1, (x.1.2.1, (x.1.2.2.1, ()))), ())).bind fun p1 =>
((s_l08Addr k ((p1.2.1.1, (p1.2.1.2.1, (p1.2.1.2.2.1, ()))), ())).bind fun p2 =>
((s_l01Below k ((p2.2.1.1, (p2.2.1.2.1, (p2.2.1.2.2.1, ()))), ((9 : Int), ()))).bind fun p3 =>
((s_l01Text k ((p3.2.1.1, (p3.2.1.2.1, (p3.2.1.2.2.1, ()))), (p3.1, ()))).bind fun p4 =>
((s_l01Once k ((p4.2.1.1, (p4.2.1.2.1, (p4.2.1.2.2.1, ()))), ((4 : Int), ()))).bind fun p5 =>
(if p5.1 = true then
((s_l01PickInt k ((p5.2.1.1, (p5.2.1.2.1, (p5.2.1.2.2.1, ()))), (([(60 : Int), (99 : Int), (100 : Int), (101 : Int)] : List (Int)), ()))).bind fun p6 =>
((s_l01Long k (p6.1, ((66 : Int), ()))).bind fun p7 =>
some ((p1.1, (p2.1, (p7.1, ()))), ((p6.2.1.1, (p6.2.1.2.1, (p6.2.1.2.2.1, ()))), ()))))
else
some ((p1.1, (p2.1, (p4.1, ()))), ((p5.2.1.1, (p5.2.1.2.1, (p5.2.1.2.2.1, ()))), ()))))))))
theorem t_s_l21Inner (k : Nat) (x) : evF TTab k [⟨83, 0, (.cons (.ptr (.cons (.il true (.int .u8)) (.cons (.int .i64) (.cons (.int .i64) .nil)))) (.cons (.int .i64) .nil)), .bool, s_l01Once k⟩, ⟨84, 0, (.cons (.ptr (.cons (.il true (.int .u8)) (.cons (.int .i64) (.cons (.int .i64) .nil)))) (.cons (.int .i64) .nil)), .str, s_l01Text k⟩, ⟨85, 0, (.cons (.ptr (.cons (.il true (.int .u8)) (.cons (.int .i64) (.cons (.int .i64) .nil)))) (.cons (.int .i64) .nil)), (.int .i64), s_l01Below k⟩, ⟨122, 0, (.cons (.ptr (.cons (.il true (.int .u8)) (.cons (.int .i64) (.cons (.int .i64) .nil)))) .nil), (.int .i64), s_l08Addr k⟩, ⟨123, 0, (.cons (.int .i64) (.cons (.int .u8) .nil)), .str, s_l01Long k⟩, ⟨124, 0, (.cons (.ptr (.cons (.il true (.int .u8)) (.cons (.int .i64) (.cons (.int .i64) .nil)))) (.cons (.il false (.int .i64)) .nil)), (.int .i64), s_l01PickInt k⟩] [] Try.f81 (.cons (.ptr (.cons (.il true (.int .u8)) (.cons (.int .i64) (.cons (.int .i64) .nil)))) .nil) (.agg (.cons (.int .i64) (.cons (.int .i64) (.cons .str .nil)))) x = s_l21Inner k x := by kernel_rfl
theorem e_s_l21Inner (k : Nat) : EntryOk Try.prog ⟨81, 0, (.cons (.ptr (.cons (.il true (.int .u8)) (.cons (.int .i64) (.cons (.int .i64) .nil)))) .nil), (.agg (.cons (.int .i64) (.cons (.int .i64) (.cons .str .nil)))), s_l21Inner k⟩ := entry_ok tok (by intro e he; simp only [List.mem_cons, List.not_mem_nil, or_false] at he; rcases he with rfl | rfl | rfl | rfl | rfl | rfl <;> first | exact e_s_l01Once k | exact e_s_l01Text k | exact e_s_l01Below k | exact e_s_l08Addr k | exact e_s_l01Long k | exact e_s_l01PickInt k) (by kernel_rfl) (fn := Try.f81) (k := k) (es := [⟨83, 0, (.cons (.ptr (.cons (.il true (.int .u8)) (.cons (.int .i64) (.cons (.int .i64) .nil)))) (.cons (.int .i64) .nil)), .bool, s_l01Once k⟩, ⟨84, 0, (.cons (.ptr (.cons (.il true (.int .u8)) (.cons (.int .i64) (.cons (.int .i64) .nil)))) (.cons (.int .i64) .nil)), .str, s_l01Text k⟩, ⟨85, 0, (.cons (.ptr (.cons (.il true (.int .u8)) (.cons (.int .i64) (.cons (.int .i64) .nil)))) (.cons (.int .i64) .nil)), (.int .i64), s_l01Below k⟩, ⟨122, 0, (.cons (.ptr (.cons (.il true (.int .u8)) (.cons (.int .i64) (.cons (.int .i64) .nil)))) .nil), (.int .i64), s_l08Addr k⟩, ⟨123, 0, (.cons (.int .i64) (.cons (.int .u8) .nil)), .str, s_l01Long k⟩, ⟨124, 0, (.cons (.ptr (.cons (.il true (.int .u8)) (.cons (.int .i64) (.cons (.int .i64) .nil)))) (.cons (.il false (.int .i64)) .nil)), (.int .i64), s_l01PickInt k⟩]) (loops := []) (by kernel_rfl) (by kernel_rfl) (fun x r h => (t_s_l21Inner k x).trans h)
def s_l01New (k : Nat) (x : List (Int) × Unit) : Option ((List (Int) × Int × Int × Unit) × Unit × Unit) :=
(whileK (fun (rec0 : (List (Int) × Int × Int × Unit) → Option _) (y0 : List (Int) × Int × Int × Unit) =>
(if (decide (y0.2.2.1 < (List.length y0.1 : Int))) = true then
(if (decide (y0.2.2.1 < (4000 : Int))) = true then
(if 0 ≤ y0.2.2.1 ∧ y0.2.2.1 < (List.length y0.1 : Int) then
(rec0 (y0.1, ((bitsI .and .i64 (wi64 ((wi64 ((wi64 (y0.2.1 * (131 : Int))) + (wi64 ((Ty.rd (t := (.int .u8)) y0.1 y0.2.2.1))))) + (7 : Int))) (1073741823 : Int)), ((wi64 (y0.2.2.1 + (1 : Int))), ()))))
else none)
else
((fun (z1 : List (Int) × Int × Unit) =>
some ((z1.1, ((0 : Int), (z1.2.1, ()))), ((), ()))) (y0.1, (y0.2.1, ()))))
else
((fun (z1 : List (Int) × Int × Unit) =>
some ((z1.1, ((0 : Int), (z1.2.1, ()))), ((), ()))) (y0.1, (y0.2.1, ()))))) k (x.1, ((wi64 ((36201 : Int) + (List.length x.1 : Int))), ((0 : Int), ()))))
theorem t_s_l01New (k : Nat) (x) : evF TTab k [] [(0, ⟨[0, 3, 4], (.cons (.il true (.int .u8)) (.cons (.int .i64) (.cons (.int .i64) .nil)))⟩, ⟨[0, 3], (.cons (.il true (.int .u8)) (.cons (.int .i64) .nil))⟩)] Try.f82 (.cons (.il true (.int .u8)) .nil) (.ptr (.cons (.il true (.int .u8)) (.cons (.int .i64) (.cons (.int .i64) .nil)))) x = s_l01New k x := by kernel_rfl
theorem e_s_l01New (k : Nat) : EntryOk Try.prog ⟨82, 0, (.cons (.il true (.int .u8)) .nil), (.ptr (.cons (.il true (.int .u8)) (.cons (.int .i64) (.cons (.int .i64) .nil)))), s_l01New k⟩ := entry_ok tok (by simp) (by kernel_rfl) (fn := Try.f82) (k := k) (es := []) (loops := [(0, ⟨[0, 3, 4], (.cons (.il true (.int .u8)) (.cons (.int .i64) (.cons (.int .i64) .nil)))⟩, ⟨[0, 3], (.cons (.il true (.int .u8)) (.cons (.int .i64) .nil))⟩)]) (by kernel_rfl) (by kernel_rfl) (fun x r h => (t_s_l01New k x).trans h)
def s_DrawInnerText (k : Nat) (x : List (Int) × Unit) : Option ((Int × Int × ByteArray × Unit) × Unit × Unit) :=
((s_l01New k (x.1, ())).bind fun p1 =>
((s_l21Inner k ((p1.1.1, (p1.1.2.1, (p1.1.2.2.1, ()))), ())).bind fun p2 =>
some ((p2.1.1, (p2.1.2.1, (p2.1.2.2.1, ()))), ((), ()))))
theorem t_s_DrawInnerText (k : Nat) (x) : evF TTab k [⟨81, 0, (.cons (.ptr (.cons (.il true (.int .u8)) (.cons (.int .i64) (.cons (.int .i64) .nil)))) .nil), (.agg (.cons (.int .i64) (.cons (.int .i64) (.cons .str .nil)))), s_l21Inner k⟩, ⟨82, 0, (.cons (.il true (.int .u8)) .nil), (.ptr (.cons (.il true (.int .u8)) (.cons (.int .i64) (.cons (.int .i64) .nil)))), s_l01New k⟩] [] Try.f41 (.cons (.il true (.int .u8)) .nil) (.agg (.cons (.int .i64) (.cons (.int .i64) (.cons .str .nil)))) x = s_DrawInnerText k x := by kernel_rfl
theorem e_s_DrawInnerText (k : Nat) : EntryOk Try.prog ⟨41, 0, (.cons (.il true (.int .u8)) .nil), (.agg (.cons (.int .i64) (.cons (.int .i64) (.cons .str .nil)))), s_DrawInnerText k⟩ := entry_ok tok (by intro e he; simp only [List.mem_cons, List.not_mem_nil, or_false] at he; rcases he with rfl | rfl <;> first | exact e_s_l21Inner k | exact e_s_l01New k) (by kernel_rfl) (fn := Try.f41) (k := k) (es := [⟨81, 0, (.cons (.ptr (.cons (.il true (.int .u8)) (.cons (.int .i64) (.cons (.int .i64) .nil)))) .nil), (.agg (.cons (.int .i64) (.cons (.int .i64) (.cons .str .nil)))), s_l21Inner k⟩, ⟨82, 0, (.cons (.il true (.int .u8)) .nil), (.ptr (.cons (.il true (.int .u8)) (.cons (.int .i64) (.cons (.int .i64) .nil)))), s_l01New k⟩]) (loops := []) (by kernel_rfl) (by kernel_rfl) (fun x r h => (t_s_DrawInnerText k x).trans h)
def s_DrawReadInner (k : Nat) (x : List (Int) × Unit) : Option (ByteArray × Unit × Unit) :=
((s_l01New k (x.1, ())).bind fun p1 =>
((s_l21Inner k ((p1.1.1, (p1.1.2.1, (p1.1.2.2.1, ()))), ())).bind fun p2 =>
((s_InnerText k ((p2.1.1, (p2.1.2.1, (p2.1.2.2.1, ()))), ())).bind fun p3 =>
((s_l01Once k ((p2.2.1.1, (p2.2.1.2.1, (p2.2.1.2.2.1, ()))), ((4 : Int), ()))).bind fun p4 =>
(if p4.1 = true then
((s_l01Below k ((p4.2.1.1, (p4.2.1.2.1, (p4.2.1.2.2.1, ()))), ((12 : Int), ()))).bind fun p5 =>
((s_l01Text k ((p5.2.1.1, (p5.2.1.2.1, (p5.2.1.2.2.1, ()))), (p5.1, ()))).bind fun p6 =>
some (p6.1, ((), ()))))
else
some (p3.1.1, ((), ())))))))
theorem t_s_DrawReadInner (k : Nat) (x) : evF TTab k [⟨24, 0, (.cons (.agg (.cons (.int .i64) (.cons (.int .i64) (.cons .str .nil)))) .nil), (.tup (.cons .str (.cons .bool .nil))), s_InnerText k⟩, ⟨81, 0, (.cons (.ptr (.cons (.il true (.int .u8)) (.cons (.int .i64) (.cons (.int .i64) .nil)))) .nil), (.agg (.cons (.int .i64) (.cons (.int .i64) (.cons .str .nil)))), s_l21Inner k⟩, ⟨82, 0, (.cons (.il true (.int .u8)) .nil), (.ptr (.cons (.il true (.int .u8)) (.cons (.int .i64) (.cons (.int .i64) .nil)))), s_l01New k⟩, ⟨83, 0, (.cons (.ptr (.cons (.il true (.int .u8)) (.cons (.int .i64) (.cons (.int .i64) .nil)))) (.cons (.int .i64) .nil)), .bool, s_l01Once k⟩, ⟨84, 0, (.cons (.ptr (.cons (.il true (.int .u8)) (.cons (.int .i64) (.cons (.int .i64) .nil)))) (.cons (.int .i64) .nil)), .str, s_l01Text k⟩, ⟨85, 0, (.cons (.ptr (.cons (.il true (.int .u8)) (.cons (.int .i64) (.cons (.int .i64) .nil)))) (.cons (.int .i64) .nil)), (.int .i64), s_l01Below k⟩] [] Try.f42 (.cons (.il true (.int .u8)) .nil) .str x = s_DrawReadInner k x := by kernel_rfl
theorem e_s_DrawReadInner (k : Nat) : EntryOk Try.prog ⟨42, 0, (.cons (.il true (.int .u8)) .nil), .str, s_DrawReadInner k⟩ := entry_ok tok (by intro e he; simp only [List.mem_cons, List.not_mem_nil, or_false] at he; rcases he with rfl | rfl | rfl | rfl | rfl | rfl <;> first | exact e_s_InnerText k | exact e_s_l21Inner k | exact e_s_l01New k | exact e_s_l01Once k | exact e_s_l01Text k | exact e_s_l01Below k) (by kernel_rfl) (fn := Try.f42) (k := k) (es := [⟨24, 0, (.cons (.agg (.cons (.int .i64) (.cons (.int .i64) (.cons .str .nil)))) .nil), (.tup (.cons .str (.cons .bool .nil))), s_InnerText k⟩, ⟨81, 0, (.cons (.ptr (.cons (.il true (.int .u8)) (.cons (.int .i64) (.cons (.int .i64) .nil)))) .nil), (.agg (.cons (.int .i64) (.cons (.int .i64) (.cons .str .nil)))), s_l21Inner k⟩, ⟨82, 0, (.cons (.il true (.int .u8)) .nil), (.ptr (.cons (.il true (.int .u8)) (.cons (.int .i64) (.cons (.int .i64) .nil)))), s_l01New k⟩, ⟨83, 0, (.cons (.ptr (.cons (.il true (.int .u8)) (.cons (.int .i64) (.cons (.int .i64) .nil)))) (.cons (.int .i64) .nil)), .bool, s_l01Once k⟩, ⟨84, 0, (.cons (.ptr (.cons (.il true (.int .u8)) (.cons (.int .i64) (.cons (.int .i64) .nil)))) (.cons (.int .i64) .nil)), .str, s_l01Text k⟩, ⟨85, 0, (.cons (.ptr (.cons (.il true (.int .u8)) (.cons (.int .i64) (.cons (.int .i64) .nil)))) (.cons (.int .i64) .nil)), (.int .i64), s_l01Below k⟩]) (loops := []) (by kernel_rfl) (by kernel_rfl) (fun x r h => (t_s_DrawReadInner k x).trans h)
def w_FnInners (k : Nat) (x : List (Int) × Unit) : Option (Bool × Unit × Unit) :=
((w_big k (x.1, ())).bind fun p1 =>
(if p1.1 = true then
some (true, ((), ()))
else
((s_DrawInnerText k (x.1, ())).bind fun p2 =>
((i_InnerText k ((p2.1.1, (p2.1.2.1, (p2.1.2.2.1, ()))), ())).bind fun p3 =>
((i_ReadInner k (p3.1.1, ())).bind fun p4 =>
((s_DrawReadInner k (x.1, ())).bind fun p5 =>
((i_ReadInner k (p5.1, ())).bind fun p6 =>
((s_ReadInner k (p5.1, ())).bind fun p7 =>
((i_InnerText k ((p6.1.1.1, (p6.1.1.2.1, (p6.1.1.2.2.1, ()))), ())).bind fun p8 =>
((s_InnerOk k ((p2.1.1, (p2.1.2.1, (p2.1.2.2.1, ()))), ())).bind fun p9 =>
(if (decide (p3.1.2.1 = p9.1)) = true then
((i_InnerOk k ((p2.1.1, (p2.1.2.1, (p2.1.2.2.1, ()))), ())).bind fun p10 =>
(if (decide (p10.1 = p3.1.2.1)) = true then
(if (!p3.1.2.1) = false then
(if p4.1.2.1 = true then
(if (decide (p4.1.1.1 = p2.1.1) && (decide (p4.1.1.2.1 = p2.1.2.1) && decide (p4.1.1.2.2.1 = p2.1.2.2.1))) = true then
(if (decide (p6.1.2.1 = p7.1.2.1)) = true then
(if (!p6.1.2.1) = false then
some ((decide (p8.1.1 = p5.1)), ((), ()))
else
some (true, ((), ())))
else
some (false, ((), ())))
else
some (false, ((), ())))
else
some (false, ((), ())))
else
(if (decide (p6.1.2.1 = p7.1.2.1)) = true then
(if (!p6.1.2.1) = false then
some ((decide (p8.1.1 = p5.1)), ((), ()))
else
some (true, ((), ())))
else
some (false, ((), ()))))
else
some (false, ((), ()))))
else
some (false, ((), ())))))))))))))
theorem t_w_FnInners (k : Nat) (x) : evF TTab k [⟨18, 0, (.cons (.agg (.cons (.int .i64) (.cons (.int .i64) (.cons .str .nil)))) .nil), .bool, s_InnerOk k⟩, ⟨20, 0, (.cons (.agg (.cons (.int .i64) (.cons (.int .i64) (.cons .str .nil)))) .nil), .bool, i_InnerOk k⟩, ⟨21, 0, (.cons .str .nil), (.tup (.cons (.agg (.cons (.int .i64) (.cons (.int .i64) (.cons .str .nil)))) (.cons .bool .nil))), s_ReadInner k⟩, ⟨22, 0, (.cons .str .nil), (.tup (.cons (.agg (.cons (.int .i64) (.cons (.int .i64) (.cons .str .nil)))) (.cons .bool .nil))), i_ReadInner k⟩, ⟨25, 0, (.cons (.agg (.cons (.int .i64) (.cons (.int .i64) (.cons .str .nil)))) .nil), (.tup (.cons .str (.cons .bool .nil))), i_InnerText k⟩, ⟨40, 0, (.cons (.il true (.int .u8)) .nil), .bool, w_big k⟩, ⟨41, 0, (.cons (.il true (.int .u8)) .nil), (.agg (.cons (.int .i64) (.cons (.int .i64) (.cons .str .nil)))), s_DrawInnerText k⟩, ⟨42, 0, (.cons (.il true (.int .u8)) .nil), .str, s_DrawReadInner k⟩] [] Try.f10 (.cons (.il true (.int .u8)) .nil) .bool x = w_FnInners k x := by kernel_rfl
theorem e_w_FnInners (k : Nat) : EntryOk Try.prog ⟨10, 0, (.cons (.il true (.int .u8)) .nil), .bool, w_FnInners k⟩ := entry_ok tok (by intro e he; simp only [List.mem_cons, List.not_mem_nil, or_false] at he; rcases he with rfl | rfl | rfl | rfl | rfl | rfl | rfl | rfl <;> first | exact e_s_InnerOk k | exact e_i_InnerOk k | exact e_s_ReadInner k | exact e_i_ReadInner k | exact e_i_InnerText k | exact e_w_big k | exact e_s_DrawInnerText k | exact e_s_DrawReadInner k) (by kernel_rfl) (fn := Try.f10) (k := k) (es := [⟨18, 0, (.cons (.agg (.cons (.int .i64) (.cons (.int .i64) (.cons .str .nil)))) .nil), .bool, s_InnerOk k⟩, ⟨20, 0, (.cons (.agg (.cons (.int .i64) (.cons (.int .i64) (.cons .str .nil)))) .nil), .bool, i_InnerOk k⟩, ⟨21, 0, (.cons .str .nil), (.tup (.cons (.agg (.cons (.int .i64) (.cons (.int .i64) (.cons .str .nil)))) (.cons .bool .nil))), s_ReadInner k⟩, ⟨22, 0, (.cons .str .nil), (.tup (.cons (.agg (.cons (.int .i64) (.cons (.int .i64) (.cons .str .nil)))) (.cons .bool .nil))), i_ReadInner k⟩, ⟨25, 0, (.cons (.agg (.cons (.int .i64) (.cons (.int .i64) (.cons .str .nil)))) .nil), (.tup (.cons .str (.cons .bool .nil))), i_InnerText k⟩, ⟨40, 0, (.cons (.il true (.int .u8)) .nil), .bool, w_big k⟩, ⟨41, 0, (.cons (.il true (.int .u8)) .nil), (.agg (.cons (.int .i64) (.cons (.int .i64) (.cons .str .nil)))), s_DrawInnerText k⟩, ⟨42, 0, (.cons (.il true (.int .u8)) .nil), .str, s_DrawReadInner k⟩]) (loops := []) (by kernel_rfl) (by kernel_rfl) (fun x r h => (t_w_FnInners k x).trans h)
end Go.Proofs.Ytodnoiblplnpcaa
