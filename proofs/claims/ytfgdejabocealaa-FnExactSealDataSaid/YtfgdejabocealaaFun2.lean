import Derived.Test.YtfgdejabocealaaFun1
/- What functions of the program compute, as plain functions, and that their calls do so (part 2). Conditions: the plain function answers. -/
set_option linter.unusedVariables false
namespace Go.Proofs.Ytfgdejabocealaa
open Go Go.Eng Go.Proofs
def w_szSlot (k : Nat) (x : (Int × ByteArray × ByteArray × Int × List (Int) × Int × Unit) × Int × Unit) : Option (Int × Unit × Unit × Unit) :=
(if (decide ((wi64 (x.2.1 - (ByteArray.size x.1.2.1 : Int))) < (0 : Int))) = true then
some ((-1 : Int), ((), ((), ())))
else
(if (decide ((wi64 ((wi64 (x.2.1 - (ByteArray.size x.1.2.1 : Int))) - (ByteArray.size x.1.2.2.1 : Int))) < (0 : Int))) = true then
some ((-1 : Int), ((), ((), ())))
else
((w_szIntS k (x.1.2.2.2.2.1, ((wi64 ((wi64 (x.2.1 - (ByteArray.size x.1.2.1 : Int))) - (ByteArray.size x.1.2.2.1 : Int))), ()))).bind fun p1 =>
(if (decide (p1.1 < (0 : Int))) = true then
some ((-1 : Int), ((), ((), ())))
else
some (p1.1, ((), ((), ())))))))
theorem t_w_szSlot (k : Nat) (x) : evF TTab k [⟨71, 0, (.cons (.il true (.int .i64)) (.cons (.int .i64) .nil)), (.int .i64), w_szIntS k⟩] [] Try.f40 (.cons (.agg (.cons (.int .i64) (.cons .str (.cons .str (.cons (.int .i64) (.cons (.il true (.int .i64)) (.cons (.int .i64) .nil))))))) (.cons (.int .i64) .nil)) (.int .i64) x = w_szSlot k x := by kernel_rfl
theorem e_w_szSlot (k : Nat) : EntryOk Try.prog ⟨40, 0, (.cons (.agg (.cons (.int .i64) (.cons .str (.cons .str (.cons (.int .i64) (.cons (.il true (.int .i64)) (.cons (.int .i64) .nil))))))) (.cons (.int .i64) .nil)), (.int .i64), w_szSlot k⟩ := entry_ok tok (by intro e he; simp only [List.mem_cons, List.not_mem_nil, or_false] at he; rcases he with rfl <;> first | exact e_w_szIntS k) (by kernel_rfl) (fn := Try.f40) (k := k) (es := [⟨71, 0, (.cons (.il true (.int .i64)) (.cons (.int .i64) .nil)), (.int .i64), w_szIntS k⟩]) (loops := []) (by kernel_rfl) (by kernel_rfl) (fun x r h => (t_w_szSlot k x).trans h)
def w_szSlots (k : Nat) (x : (Int × ByteArray × ByteArray × Int × List (Int) × Int × Int × ByteArray × ByteArray × Int × List (Int) × Int × Unit) × Int × Unit) : Option (Int × Unit × Unit × Unit) :=
((w_szSlot k ((x.1.1, (x.1.2.1, (x.1.2.2.1, (x.1.2.2.2.1, (x.1.2.2.2.2.1, (x.1.2.2.2.2.2.1, ())))))), (x.2.1, ()))).bind fun p1 =>
(if (decide (p1.1 < (0 : Int))) = true then
some ((-1 : Int), ((), ((), ())))
else
((w_szSlot k ((x.1.2.2.2.2.2.2.1, (x.1.2.2.2.2.2.2.2.1, (x.1.2.2.2.2.2.2.2.2.1, (x.1.2.2.2.2.2.2.2.2.2.1, (x.1.2.2.2.2.2.2.2.2.2.2.1, (x.1.2.2.2.2.2.2.2.2.2.2.2.1, ())))))), (p1.1, ()))).bind fun p2 =>
(if (decide (p2.1 < (0 : Int))) = true then
some ((-1 : Int), ((), ((), ())))
else
some (p2.1, ((), ((), ())))))))
theorem t_w_szSlots (k : Nat) (x) : evF TTab k [⟨40, 0, (.cons (.agg (.cons (.int .i64) (.cons .str (.cons .str (.cons (.int .i64) (.cons (.il true (.int .i64)) (.cons (.int .i64) .nil))))))) (.cons (.int .i64) .nil)), (.int .i64), w_szSlot k⟩] [] Try.f13 (.cons (.agg (.cons (.int .i64) (.cons .str (.cons .str (.cons (.int .i64) (.cons (.il true (.int .i64)) (.cons (.int .i64) (.cons (.int .i64) (.cons .str (.cons .str (.cons (.int .i64) (.cons (.il true (.int .i64)) (.cons (.int .i64) .nil))))))))))))) (.cons (.int .i64) .nil)) (.int .i64) x = w_szSlots k x := by kernel_rfl
theorem e_w_szSlots (k : Nat) : EntryOk Try.prog ⟨13, 0, (.cons (.agg (.cons (.int .i64) (.cons .str (.cons .str (.cons (.int .i64) (.cons (.il true (.int .i64)) (.cons (.int .i64) (.cons (.int .i64) (.cons .str (.cons .str (.cons (.int .i64) (.cons (.il true (.int .i64)) (.cons (.int .i64) .nil))))))))))))) (.cons (.int .i64) .nil)), (.int .i64), w_szSlots k⟩ := entry_ok tok (by intro e he; simp only [List.mem_cons, List.not_mem_nil, or_false] at he; rcases he with rfl <;> first | exact e_w_szSlot k) (by kernel_rfl) (fn := Try.f13) (k := k) (es := [⟨40, 0, (.cons (.agg (.cons (.int .i64) (.cons .str (.cons .str (.cons (.int .i64) (.cons (.il true (.int .i64)) (.cons (.int .i64) .nil))))))) (.cons (.int .i64) .nil)), (.int .i64), w_szSlot k⟩]) (loops := []) (by kernel_rfl) (by kernel_rfl) (fun x r h => (t_w_szSlots k x).trans h)
def s_NextKeys (k : Nat) (x : ByteArray × ByteArray × Unit) : Option ((ByteArray × ByteArray × Unit) × Unit × Unit × Unit) :=
(if ByteArray.size x.1 + ByteArray.size (⟨#[107]⟩ : ByteArray) ≤ maxStr then
((s_DigestOf k ((x.1 ++ (⟨#[107]⟩ : ByteArray)), ())).bind fun p1 =>
(if ByteArray.size x.2.1 + ByteArray.size (⟨#[107]⟩ : ByteArray) ≤ maxStr then
((s_DigestOf k ((x.2.1 ++ (⟨#[107]⟩ : ByteArray)), ())).bind fun p2 =>
some ((p1.1, (p2.1, ())), ((), ((), ()))))
else none))
else none)
theorem t_s_NextKeys (k : Nat) (x) : evF TTab k [⟨26, 0, (.cons .str .nil), .str, s_DigestOf k⟩] [] Try.f29 (.cons .str (.cons .str .nil)) (.tup (.cons .str (.cons .str .nil))) x = s_NextKeys k x := by kernel_rfl
theorem e_s_NextKeys (k : Nat) : EntryOk Try.prog ⟨29, 0, (.cons .str (.cons .str .nil)), (.tup (.cons .str (.cons .str .nil))), s_NextKeys k⟩ := entry_ok tok (by intro e he; simp only [List.mem_cons, List.not_mem_nil, or_false] at he; rcases he with rfl <;> first | exact e_s_DigestOf k) (by kernel_rfl) (fn := Try.f29) (k := k) (es := [⟨26, 0, (.cons .str .nil), .str, s_DigestOf k⟩]) (loops := []) (by kernel_rfl) (by kernel_rfl) (fun x r h => (t_s_NextKeys k x).trans h)
def s_StepBoth (k : Nat) (x : (Int × ByteArray × ByteArray × Int × List (Int) × Int × Int × ByteArray × ByteArray × Int × List (Int) × Int × Unit) × Int × Unit) : Option (((Int × ByteArray × ByteArray × Int × List (Int) × Int × Int × ByteArray × ByteArray × Int × List (Int) × Int × Unit) × Bool × Unit) × Unit × Unit × Unit) :=
((s_NextKeys k (x.1.2.1, (x.1.2.2.1, ()))).bind fun p1 =>
((s_Install k ((x.1.1, (x.1.2.1, (x.1.2.2.1, (x.1.2.2.2.1, (x.1.2.2.2.2.1, (x.1.2.2.2.2.2.1, (x.1.2.2.2.2.2.2.1, (x.1.2.2.2.2.2.2.2.1, (x.1.2.2.2.2.2.2.2.2.1, (x.1.2.2.2.2.2.2.2.2.2.1, (x.1.2.2.2.2.2.2.2.2.2.2.1, (x.1.2.2.2.2.2.2.2.2.2.2.2.1, ())))))))))))), (p1.1.1, (p1.1.2.1, (x.2.1, ()))))).bind fun p2 =>
some (((p2.1.1.1, (p2.1.1.2.1, (p2.1.1.2.2.1, (p2.1.1.2.2.2.1, (p2.1.1.2.2.2.2.1, (p2.1.1.2.2.2.2.2.1, (p2.1.1.2.2.2.2.2.2.1, (p2.1.1.2.2.2.2.2.2.2.1, (p2.1.1.2.2.2.2.2.2.2.2.1, (p2.1.1.2.2.2.2.2.2.2.2.2.1, (p2.1.1.2.2.2.2.2.2.2.2.2.2.1, (p2.1.1.2.2.2.2.2.2.2.2.2.2.2.1, ())))))))))))), (p2.1.2.1, ())), ((), ((), ())))))
theorem t_s_StepBoth (k : Nat) (x) : evF TTab k [⟨29, 0, (.cons .str (.cons .str .nil)), (.tup (.cons .str (.cons .str .nil))), s_NextKeys k⟩, ⟨35, 0, (.cons (.agg (.cons (.int .i64) (.cons .str (.cons .str (.cons (.int .i64) (.cons (.il true (.int .i64)) (.cons (.int .i64) (.cons (.int .i64) (.cons .str (.cons .str (.cons (.int .i64) (.cons (.il true (.int .i64)) (.cons (.int .i64) .nil))))))))))))) (.cons .str (.cons .str (.cons (.int .i64) .nil)))), (.tup (.cons (.agg (.cons (.int .i64) (.cons .str (.cons .str (.cons (.int .i64) (.cons (.own false 3 (.int .i64)) (.cons (.int .i64) (.cons (.int .i64) (.cons .str (.cons .str (.cons (.int .i64) (.cons (.own false 3 (.int .i64)) (.cons (.int .i64) .nil))))))))))))) (.cons .bool .nil))), s_Install k⟩] [] Try.f14 (.cons (.agg (.cons (.int .i64) (.cons .str (.cons .str (.cons (.int .i64) (.cons (.il true (.int .i64)) (.cons (.int .i64) (.cons (.int .i64) (.cons .str (.cons .str (.cons (.int .i64) (.cons (.il true (.int .i64)) (.cons (.int .i64) .nil))))))))))))) (.cons (.int .i64) .nil)) (.tup (.cons (.agg (.cons (.int .i64) (.cons .str (.cons .str (.cons (.int .i64) (.cons (.own false 3 (.int .i64)) (.cons (.int .i64) (.cons (.int .i64) (.cons .str (.cons .str (.cons (.int .i64) (.cons (.own false 3 (.int .i64)) (.cons (.int .i64) .nil))))))))))))) (.cons .bool .nil))) x = s_StepBoth k x := by kernel_rfl
theorem e_s_StepBoth (k : Nat) : EntryOk Try.prog ⟨14, 0, (.cons (.agg (.cons (.int .i64) (.cons .str (.cons .str (.cons (.int .i64) (.cons (.il true (.int .i64)) (.cons (.int .i64) (.cons (.int .i64) (.cons .str (.cons .str (.cons (.int .i64) (.cons (.il true (.int .i64)) (.cons (.int .i64) .nil))))))))))))) (.cons (.int .i64) .nil)), (.tup (.cons (.agg (.cons (.int .i64) (.cons .str (.cons .str (.cons (.int .i64) (.cons (.own false 3 (.int .i64)) (.cons (.int .i64) (.cons (.int .i64) (.cons .str (.cons .str (.cons (.int .i64) (.cons (.own false 3 (.int .i64)) (.cons (.int .i64) .nil))))))))))))) (.cons .bool .nil))), s_StepBoth k⟩ := entry_ok tok (by intro e he; simp only [List.mem_cons, List.not_mem_nil, or_false] at he; rcases he with rfl | rfl <;> first | exact e_s_NextKeys k | exact e_s_Install k) (by kernel_rfl) (fn := Try.f14) (k := k) (es := [⟨29, 0, (.cons .str (.cons .str .nil)), (.tup (.cons .str (.cons .str .nil))), s_NextKeys k⟩, ⟨35, 0, (.cons (.agg (.cons (.int .i64) (.cons .str (.cons .str (.cons (.int .i64) (.cons (.il true (.int .i64)) (.cons (.int .i64) (.cons (.int .i64) (.cons .str (.cons .str (.cons (.int .i64) (.cons (.il true (.int .i64)) (.cons (.int .i64) .nil))))))))))))) (.cons .str (.cons .str (.cons (.int .i64) .nil)))), (.tup (.cons (.agg (.cons (.int .i64) (.cons .str (.cons .str (.cons (.int .i64) (.cons (.own false 3 (.int .i64)) (.cons (.int .i64) (.cons (.int .i64) (.cons .str (.cons .str (.cons (.int .i64) (.cons (.own false 3 (.int .i64)) (.cons (.int .i64) .nil))))))))))))) (.cons .bool .nil))), s_Install k⟩]) (loops := []) (by kernel_rfl) (by kernel_rfl) (fun x r h => (t_s_StepBoth k x).trans h)
def w_toIntS (k : Nat) (x : List (Int) × Unit) : Option (List (Int) × Unit × Unit) :=
(if (List.length x.1 : Int) = (List.length x.1 : Int) then
(if 0 ≤ (List.length x.1 : Int) ∧ (List.length x.1 : Int) ≤ (capMax : Int) then
(whileK (fun (rec0 : (List (Int) × List (Int) × Int × Unit) → Option _) (y0 : List (Int) × List (Int) × Int × Unit) =>
(if (decide (y0.2.2.1 < (List.length y0.1 : Int))) = true then
(if 0 ≤ y0.2.2.1 ∧ y0.2.2.1 < (List.length y0.1 : Int) then
(if 0 ≤ y0.2.2.1 ∧ y0.2.2.1 < (List.length y0.2.1 : Int) then
(rec0 (y0.1, ((List.set y0.2.1 (Int.toNat y0.2.2.1) (Ty.rd (t := (.int .i64)) y0.1 y0.2.2.1)), ((wi64 (y0.2.2.1 + (1 : Int))), ()))))
else none)
else none)
else
((fun (z1 : List (Int) × Unit) =>
some (z1.1, ((), ()))) (y0.2.1, ())))) k (x.1, ((List.replicate (Int.toNat (List.length x.1 : Int)) (0 : Int)), ((0 : Int), ()))))
else none)
else none)
theorem t_w_toIntS (k : Nat) (x) : evF TTab k [] [(0, ⟨[0, 3, 4], (.cons (.il true (.int .i64)) (.cons (.own false 3 (.int .i64)) (.cons (.int .i64) .nil)))⟩, ⟨[3], (.cons (.own false 3 (.int .i64)) .nil)⟩)] Try.f72 (.cons (.il true (.int .i64)) .nil) (.own false 3 (.int .i64)) x = w_toIntS k x := by kernel_rfl
theorem e_w_toIntS (k : Nat) : EntryOk Try.prog ⟨72, 0, (.cons (.il true (.int .i64)) .nil), (.own false 3 (.int .i64)), w_toIntS k⟩ := entry_ok tok (by simp) (by kernel_rfl) (fn := Try.f72) (k := k) (es := []) (loops := [(0, ⟨[0, 3, 4], (.cons (.il true (.int .i64)) (.cons (.own false 3 (.int .i64)) (.cons (.int .i64) .nil)))⟩, ⟨[3], (.cons (.own false 3 (.int .i64)) .nil)⟩)]) (by kernel_rfl) (by kernel_rfl) (fun x r h => (t_w_toIntS k x).trans h)
def w_toSlot (k : Nat) (x : (Int × ByteArray × ByteArray × Int × List (Int) × Int × Unit) × Unit) : Option ((Int × ByteArray × ByteArray × Int × List (Int) × Int × Unit) × Unit × Unit) :=
((w_toIntS k (x.1.2.2.2.2.1, ())).bind fun p1 =>
some ((x.1.1, (x.1.2.1, (x.1.2.2.1, (x.1.2.2.2.1, (p1.1, (x.1.2.2.2.2.2.1, ())))))), ((), ())))
theorem t_w_toSlot (k : Nat) (x) : evF TTab k [⟨72, 0, (.cons (.il true (.int .i64)) .nil), (.own false 3 (.int .i64)), w_toIntS k⟩] [] Try.f41 (.cons (.agg (.cons (.int .i64) (.cons .str (.cons .str (.cons (.int .i64) (.cons (.il true (.int .i64)) (.cons (.int .i64) .nil))))))) .nil) (.agg (.cons (.int .i64) (.cons .str (.cons .str (.cons (.int .i64) (.cons (.own false 3 (.int .i64)) (.cons (.int .i64) .nil))))))) x = w_toSlot k x := by kernel_rfl
theorem e_w_toSlot (k : Nat) : EntryOk Try.prog ⟨41, 0, (.cons (.agg (.cons (.int .i64) (.cons .str (.cons .str (.cons (.int .i64) (.cons (.il true (.int .i64)) (.cons (.int .i64) .nil))))))) .nil), (.agg (.cons (.int .i64) (.cons .str (.cons .str (.cons (.int .i64) (.cons (.own false 3 (.int .i64)) (.cons (.int .i64) .nil))))))), w_toSlot k⟩ := entry_ok tok (by intro e he; simp only [List.mem_cons, List.not_mem_nil, or_false] at he; rcases he with rfl <;> first | exact e_w_toIntS k) (by kernel_rfl) (fn := Try.f41) (k := k) (es := [⟨72, 0, (.cons (.il true (.int .i64)) .nil), (.own false 3 (.int .i64)), w_toIntS k⟩]) (loops := []) (by kernel_rfl) (by kernel_rfl) (fun x r h => (t_w_toSlot k x).trans h)
def w_toSlots (k : Nat) (x : (Int × ByteArray × ByteArray × Int × List (Int) × Int × Int × ByteArray × ByteArray × Int × List (Int) × Int × Unit) × Unit) : Option ((Int × ByteArray × ByteArray × Int × List (Int) × Int × Int × ByteArray × ByteArray × Int × List (Int) × Int × Unit) × Unit × Unit) :=
((w_toSlot k ((x.1.1, (x.1.2.1, (x.1.2.2.1, (x.1.2.2.2.1, (x.1.2.2.2.2.1, (x.1.2.2.2.2.2.1, ())))))), ())).bind fun p1 =>
((w_toSlot k ((x.1.2.2.2.2.2.2.1, (x.1.2.2.2.2.2.2.2.1, (x.1.2.2.2.2.2.2.2.2.1, (x.1.2.2.2.2.2.2.2.2.2.1, (x.1.2.2.2.2.2.2.2.2.2.2.1, (x.1.2.2.2.2.2.2.2.2.2.2.2.1, ())))))), ())).bind fun p2 =>
some ((p1.1.1, (p1.1.2.1, (p1.1.2.2.1, (p1.1.2.2.2.1, (p1.1.2.2.2.2.1, (p1.1.2.2.2.2.2.1, (p2.1.1, (p2.1.2.1, (p2.1.2.2.1, (p2.1.2.2.2.1, (p2.1.2.2.2.2.1, (p2.1.2.2.2.2.2.1, ())))))))))))), ((), ()))))
theorem t_w_toSlots (k : Nat) (x) : evF TTab k [⟨41, 0, (.cons (.agg (.cons (.int .i64) (.cons .str (.cons .str (.cons (.int .i64) (.cons (.il true (.int .i64)) (.cons (.int .i64) .nil))))))) .nil), (.agg (.cons (.int .i64) (.cons .str (.cons .str (.cons (.int .i64) (.cons (.own false 3 (.int .i64)) (.cons (.int .i64) .nil))))))), w_toSlot k⟩] [] Try.f15 (.cons (.agg (.cons (.int .i64) (.cons .str (.cons .str (.cons (.int .i64) (.cons (.il true (.int .i64)) (.cons (.int .i64) (.cons (.int .i64) (.cons .str (.cons .str (.cons (.int .i64) (.cons (.il true (.int .i64)) (.cons (.int .i64) .nil))))))))))))) .nil) (.agg (.cons (.int .i64) (.cons .str (.cons .str (.cons (.int .i64) (.cons (.own false 3 (.int .i64)) (.cons (.int .i64) (.cons (.int .i64) (.cons .str (.cons .str (.cons (.int .i64) (.cons (.own false 3 (.int .i64)) (.cons (.int .i64) .nil))))))))))))) x = w_toSlots k x := by kernel_rfl
theorem e_w_toSlots (k : Nat) : EntryOk Try.prog ⟨15, 0, (.cons (.agg (.cons (.int .i64) (.cons .str (.cons .str (.cons (.int .i64) (.cons (.il true (.int .i64)) (.cons (.int .i64) (.cons (.int .i64) (.cons .str (.cons .str (.cons (.int .i64) (.cons (.il true (.int .i64)) (.cons (.int .i64) .nil))))))))))))) .nil), (.agg (.cons (.int .i64) (.cons .str (.cons .str (.cons (.int .i64) (.cons (.own false 3 (.int .i64)) (.cons (.int .i64) (.cons (.int .i64) (.cons .str (.cons .str (.cons (.int .i64) (.cons (.own false 3 (.int .i64)) (.cons (.int .i64) .nil))))))))))))), w_toSlots k⟩ := entry_ok tok (by intro e he; simp only [List.mem_cons, List.not_mem_nil, or_false] at he; rcases he with rfl <;> first | exact e_w_toSlot k) (by kernel_rfl) (fn := Try.f15) (k := k) (es := [⟨41, 0, (.cons (.agg (.cons (.int .i64) (.cons .str (.cons .str (.cons (.int .i64) (.cons (.il true (.int .i64)) (.cons (.int .i64) .nil))))))) .nil), (.agg (.cons (.int .i64) (.cons .str (.cons .str (.cons (.int .i64) (.cons (.own false 3 (.int .i64)) (.cons (.int .i64) .nil))))))), w_toSlot k⟩]) (loops := []) (by kernel_rfl) (by kernel_rfl) (fun x r h => (t_w_toSlots k x).trans h)
def i_NextKeys (k : Nat) (x : ByteArray × ByteArray × Unit) : Option ((ByteArray × ByteArray × Unit) × Unit × Unit × Unit) :=
(if ByteArray.size x.1 + ByteArray.size (⟨#[107]⟩ : ByteArray) ≤ maxStr then
((i_DigestOf k ((x.1 ++ (⟨#[107]⟩ : ByteArray)), ())).bind fun p1 =>
(if ByteArray.size x.2.1 + ByteArray.size (⟨#[107]⟩ : ByteArray) ≤ maxStr then
((i_DigestOf k ((x.2.1 ++ (⟨#[107]⟩ : ByteArray)), ())).bind fun p2 =>
some ((p1.1, (p2.1, ())), ((), ((), ()))))
else none))
else none)
theorem t_i_NextKeys (k : Nat) (x) : evF TTab k [⟨36, 0, (.cons .str .nil), .str, i_DigestOf k⟩] [] Try.f28 (.cons .str (.cons .str .nil)) (.tup (.cons .str (.cons .str .nil))) x = i_NextKeys k x := by kernel_rfl
theorem e_i_NextKeys (k : Nat) : EntryOk Try.prog ⟨28, 0, (.cons .str (.cons .str .nil)), (.tup (.cons .str (.cons .str .nil))), i_NextKeys k⟩ := entry_ok tok (by intro e he; simp only [List.mem_cons, List.not_mem_nil, or_false] at he; rcases he with rfl <;> first | exact e_i_DigestOf k) (by kernel_rfl) (fn := Try.f28) (k := k) (es := [⟨36, 0, (.cons .str .nil), .str, i_DigestOf k⟩]) (loops := []) (by kernel_rfl) (by kernel_rfl) (fun x r h => (t_i_NextKeys k x).trans h)
def s_Spent (k : Nat) (x : (Int × ByteArray × ByteArray × Int × List (Int) × Int × Int × ByteArray × ByteArray × Int × List (Int) × Int × Unit) × Unit) : Option (Bool × Unit × Unit) :=
((s_l17None k ((x.1.1, (x.1.2.1, (x.1.2.2.1, (x.1.2.2.2.1, (x.1.2.2.2.2.1, (x.1.2.2.2.2.2.1, ())))))), ())).bind fun p1 =>
(if p1.1 = false then
some ((decide (x.1.2.2.2.1 = (12 : Int))), ((), ()))
else
some (true, ((), ()))))
theorem t_s_Spent (k : Nat) (x) : evF TTab k [⟨67, 0, (.cons (.agg (.cons (.int .i64) (.cons .str (.cons .str (.cons (.int .i64) (.cons (.il true (.int .i64)) (.cons (.int .i64) .nil))))))) .nil), .bool, s_l17None k⟩] [] Try.f44 (.cons (.agg (.cons (.int .i64) (.cons .str (.cons .str (.cons (.int .i64) (.cons (.il true (.int .i64)) (.cons (.int .i64) (.cons (.int .i64) (.cons .str (.cons .str (.cons (.int .i64) (.cons (.il true (.int .i64)) (.cons (.int .i64) .nil))))))))))))) .nil) .bool x = s_Spent k x := by kernel_rfl
theorem e_s_Spent (k : Nat) : EntryOk Try.prog ⟨44, 0, (.cons (.agg (.cons (.int .i64) (.cons .str (.cons .str (.cons (.int .i64) (.cons (.il true (.int .i64)) (.cons (.int .i64) (.cons (.int .i64) (.cons .str (.cons .str (.cons (.int .i64) (.cons (.il true (.int .i64)) (.cons (.int .i64) .nil))))))))))))) .nil), .bool, s_Spent k⟩ := entry_ok tok (by intro e he; simp only [List.mem_cons, List.not_mem_nil, or_false] at he; rcases he with rfl <;> first | exact e_s_l17None k) (by kernel_rfl) (fn := Try.f44) (k := k) (es := [⟨67, 0, (.cons (.agg (.cons (.int .i64) (.cons .str (.cons .str (.cons (.int .i64) (.cons (.il true (.int .i64)) (.cons (.int .i64) .nil))))))) .nil), .bool, s_l17None k⟩]) (loops := []) (by kernel_rfl) (by kernel_rfl) (fun x r h => (t_s_Spent k x).trans h)
def s_l05Mask (k : Nat) (x : ByteArray × Int × Unit) : Option (ByteArray × Unit × Unit × Unit) :=
(jn (fun (j1v0 : ByteArray) =>
(if (64 : Int) = (64 : Int) then
(if 0 ≤ (64 : Int) ∧ (64 : Int) ≤ (capMax : Int) then
(whileK (fun (rec0 : (ByteArray × Int × List (Int) × Int × Unit) → Option _) (y0 : ByteArray × Int × List (Int) × Int × Unit) =>
(if (decide (y0.2.2.2.1 < (64 : Int))) = true then
(if (decide (y0.2.2.2.1 < (ByteArray.size y0.1 : Int))) = true then
(if 0 ≤ y0.2.2.2.1 ∧ y0.2.2.2.1 < (ByteArray.size y0.1 : Int) then
(if 0 ≤ y0.2.2.2.1 ∧ y0.2.2.2.1 < (List.length y0.2.2.1 : Int) then
(if 0 ≤ y0.2.2.2.1 ∧ y0.2.2.2.1 < (List.length (List.set y0.2.2.1 (Int.toNat y0.2.2.2.1) (bt y0.1 y0.2.2.2.1)) : Int) then
(if 0 ≤ y0.2.2.2.1 ∧ y0.2.2.2.1 < (List.length (List.set y0.2.2.1 (Int.toNat y0.2.2.2.1) (bt y0.1 y0.2.2.2.1)) : Int) then
(rec0 (y0.1, (y0.2.1, ((List.set (List.set y0.2.2.1 (Int.toNat y0.2.2.2.1) (bt y0.1 y0.2.2.2.1)) (Int.toNat y0.2.2.2.1) (bitsI .xor .u8 (Ty.rd (t := (.int .u8)) (List.set y0.2.2.1 (Int.toNat y0.2.2.2.1) (bt y0.1 y0.2.2.2.1)) y0.2.2.2.1) y0.2.1)), ((wi64 (y0.2.2.2.1 + (1 : Int))), ())))))
else none)
else none)
else none)
else none)
else
(if 0 ≤ y0.2.2.2.1 ∧ y0.2.2.2.1 < (List.length y0.2.2.1 : Int) then
(if 0 ≤ y0.2.2.2.1 ∧ y0.2.2.2.1 < (List.length y0.2.2.1 : Int) then
(rec0 (y0.1, (y0.2.1, ((List.set y0.2.2.1 (Int.toNat y0.2.2.2.1) (bitsI .xor .u8 (Ty.rd (t := (.int .u8)) y0.2.2.1 y0.2.2.2.1) y0.2.1)), ((wi64 (y0.2.2.2.1 + (1 : Int))), ())))))
else none)
else none))
else
((fun (z2 : List (Int) × Unit) =>
some ((strOf z2.1), ((), ((), ())))) (y0.2.2.1, ())))) k (j1v0, (x.2.1, ((List.replicate (Int.toNat (64 : Int)) (0 : Int)), ((0 : Int), ())))))
else none)
else none)) (fun (j1 : ByteArray → Option _) =>
(if (decide ((64 : Int) < (ByteArray.size x.1 : Int))) = true then
((s_DigestOf k (x.1, ())).bind fun p1 =>
(j1 p1.1))
else
(j1 x.1))))
theorem t_s_l05Mask (k : Nat) (x) : evF TTab k [⟨26, 0, (.cons .str .nil), .str, s_DigestOf k⟩] [(0, ⟨[0, 1, 5, 6], (.cons .str (.cons (.int .u8) (.cons (.own false 5 (.int .u8)) (.cons (.int .i64) .nil))))⟩, ⟨[5], (.cons (.own false 5 (.int .u8)) .nil)⟩)] Try.f122 (.cons .str (.cons (.int .u8) .nil)) .str x = s_l05Mask k x := by kernel_rfl
theorem e_s_l05Mask (k : Nat) : EntryOk Try.prog ⟨122, 0, (.cons .str (.cons (.int .u8) .nil)), .str, s_l05Mask k⟩ := entry_ok tok (by intro e he; simp only [List.mem_cons, List.not_mem_nil, or_false] at he; rcases he with rfl <;> first | exact e_s_DigestOf k) (by kernel_rfl) (fn := Try.f122) (k := k) (es := [⟨26, 0, (.cons .str .nil), .str, s_DigestOf k⟩]) (loops := [(0, ⟨[0, 1, 5, 6], (.cons .str (.cons (.int .u8) (.cons (.own false 5 (.int .u8)) (.cons (.int .i64) .nil))))⟩, ⟨[5], (.cons (.own false 5 (.int .u8)) .nil)⟩)]) (by kernel_rfl) (by kernel_rfl) (fun x r h => (t_s_l05Mask k x).trans h)
def s_MacOf (k : Nat) (x : ByteArray × ByteArray × Unit) : Option (ByteArray × Unit × Unit × Unit) :=
((s_l05Mask k (x.1, ((92 : Int), ()))).bind fun p1 =>
((s_l05Mask k (x.1, ((54 : Int), ()))).bind fun p2 =>
(if ByteArray.size p2.1 + ByteArray.size x.2.1 ≤ maxStr then
((s_DigestOf k ((p2.1 ++ x.2.1), ())).bind fun p3 =>
(if ByteArray.size p1.1 + ByteArray.size p3.1 ≤ maxStr then
((s_DigestOf k ((p1.1 ++ p3.1), ())).bind fun p4 =>
some (p4.1, ((), ((), ()))))
else none))
else none)))
theorem t_s_MacOf (k : Nat) (x) : evF TTab k [⟨26, 0, (.cons .str .nil), .str, s_DigestOf k⟩, ⟨122, 0, (.cons .str (.cons (.int .u8) .nil)), .str, s_l05Mask k⟩] [] Try.f97 (.cons .str (.cons .str .nil)) .str x = s_MacOf k x := by kernel_rfl
theorem e_s_MacOf (k : Nat) : EntryOk Try.prog ⟨97, 0, (.cons .str (.cons .str .nil)), .str, s_MacOf k⟩ := entry_ok tok (by intro e he; simp only [List.mem_cons, List.not_mem_nil, or_false] at he; rcases he with rfl | rfl <;> first | exact e_s_DigestOf k | exact e_s_l05Mask k) (by kernel_rfl) (fn := Try.f97) (k := k) (es := [⟨26, 0, (.cons .str .nil), .str, s_DigestOf k⟩, ⟨122, 0, (.cons .str (.cons (.int .u8) .nil)), .str, s_l05Mask k⟩]) (loops := []) (by kernel_rfl) (by kernel_rfl) (fun x r h => (t_s_MacOf k x).trans h)
def s_l01Var (k : Nat) (x : Int × Unit) : Option (ByteArray × Unit × Unit) :=
(whileK (fun (rec0 : (Int × List (Int) × Unit) → Option _) (y0 : Int × List (Int) × Unit) =>
(if (decide ((127 : Int) < y0.1)) = true then
(if List.length y0.2.1 + List.length ([(wu8 ((wi64 ((Int.tmod y0.1 (128 : Int)) + (128 : Int)))))] : List (Int)) ≤ capMax then
(rec0 ((wi64 (Int.tdiv y0.1 (128 : Int))), ((y0.2.1 ++ ([(wu8 ((wi64 ((Int.tmod y0.1 (128 : Int)) + (128 : Int)))))] : List (Int))), ())))
else none)
else
((fun (z1 : Int × List (Int) × Unit) =>
(if List.length z1.2.1 + List.length ([(wu8 (z1.1))] : List (Int)) ≤ capMax then
some ((strOf (z1.2.1 ++ ([(wu8 (z1.1))] : List (Int)))), ((), ()))
else none)) (y0.1, (y0.2.1, ()))))) k (x.1, (([] : List (Int)), ())))
theorem t_s_l01Var (k : Nat) (x) : evF TTab k [] [(0, ⟨[0, 3], (.cons (.int .i64) (.cons (.own false 5 (.int .u8)) .nil))⟩, ⟨[0, 3], (.cons (.int .i64) (.cons (.own false 5 (.int .u8)) .nil))⟩)] Try.f98 (.cons (.int .i64) .nil) .str x = s_l01Var k x := by kernel_rfl
theorem e_s_l01Var (k : Nat) : EntryOk Try.prog ⟨98, 0, (.cons (.int .i64) .nil), .str, s_l01Var k⟩ := entry_ok tok (by simp) (by kernel_rfl) (fn := Try.f98) (k := k) (es := []) (loops := [(0, ⟨[0, 3], (.cons (.int .i64) (.cons (.own false 5 (.int .u8)) .nil))⟩, ⟨[0, 3], (.cons (.int .i64) (.cons (.own false 5 (.int .u8)) .nil))⟩)]) (by kernel_rfl) (by kernel_rfl) (fun x r h => (t_s_l01Var k x).trans h)
def s_l05Byte (k : Nat) (x : Int × Unit) : Option (ByteArray × Unit × Unit) :=
(if (decide ((Int.tmod x.1 (256 : Int)) < (0 : Int))) = true then
some ((strOf ([(wu8 ((wi64 ((Int.tmod x.1 (256 : Int)) + (256 : Int)))))] : List (Int))), ((), ()))
else
some ((strOf ([(wu8 ((Int.tmod x.1 (256 : Int))))] : List (Int))), ((), ())))
theorem t_s_l05Byte (k : Nat) (x) : evF TTab k [] [] Try.f99 (.cons (.int .i64) .nil) .str x = s_l05Byte k x := by kernel_rfl
theorem e_s_l05Byte (k : Nat) : EntryOk Try.prog ⟨99, 0, (.cons (.int .i64) .nil), .str, s_l05Byte k⟩ := entry_ok tok (by simp) (by kernel_rfl) (fn := Try.f99) (k := k) (es := []) (loops := []) (by kernel_rfl) (by kernel_rfl) (fun x r h => (t_s_l05Byte k x).trans h)
def s_Mask (k : Nat) (x : ByteArray × Int × Int × Unit) : Option ((ByteArray × Bool × Unit) × Unit × Unit × Unit × Unit) :=
((s_l01In k (x.2.1, ((0 : Int), ((1000000000 : Int), ())))).bind fun p1 =>
(if (!p1.1) = false then
((s_l01In k (x.2.2.1, ((0 : Int), ((8000 : Int), ())))).bind fun p2 =>
(if (!p2.1) = true then
some (((⟨#[]⟩ : ByteArray), (false, ())), ((), ((), ((), ()))))
else
(whileK (fun (rec0 : (ByteArray × Int × Int × List (Int) × Int × Unit) → Option _) (y0 : ByteArray × Int × Int × List (Int) × Int × Unit) =>
(if (decide ((List.length y0.2.2.2.1 : Int) < y0.2.2.1)) = true then
((s_l01Var k (y0.2.1, ())).bind fun p3 =>
(if ByteArray.size (⟨#[109]⟩ : ByteArray) + ByteArray.size p3.1 ≤ maxStr then
((s_l05Byte k (y0.2.2.2.2.1, ())).bind fun p4 =>
(if ByteArray.size ((⟨#[109]⟩ : ByteArray) ++ p3.1) + ByteArray.size p4.1 ≤ maxStr then
((s_MacOf k (y0.1, ((((⟨#[109]⟩ : ByteArray) ++ p3.1) ++ p4.1), ()))).bind fun p5 =>
(if ByteArray.size p5.1 ≤ maxStr then
(if List.length y0.2.2.2.1 + List.length (bytesOf p5.1) ≤ capMax then
(rec0 (y0.1, (y0.2.1, (y0.2.2.1, ((y0.2.2.2.1 ++ (bytesOf p5.1)), ((wi64 (y0.2.2.2.2.1 + (1 : Int))), ()))))))
else none)
else none))
else none))
else none))
else
((fun (z1 : Int × List (Int) × Unit) =>
(if 0 ≤ z1.1 ∧ z1.1 ≤ (List.length z1.2.1 : Int) then
some (((strOf (List.drop (Int.toNat (0 : Int)) (List.take (Int.toNat z1.1) z1.2.1))), (true, ())), ((), ((), ((), ()))))
else none)) (y0.2.2.1, (y0.2.2.2.1, ()))))) k (x.1, (x.2.1, (x.2.2.1, (([] : List (Int)), ((0 : Int), ()))))))))
else
some (((⟨#[]⟩ : ByteArray), (false, ())), ((), ((), ((), ()))))))
theorem t_s_Mask (k : Nat) (x) : evF TTab k [⟨45, 0, (.cons (.int .i64) (.cons (.int .i64) (.cons (.int .i64) .nil))), .bool, s_l01In k⟩, ⟨97, 0, (.cons .str (.cons .str .nil)), .str, s_MacOf k⟩, ⟨98, 0, (.cons (.int .i64) .nil), .str, s_l01Var k⟩, ⟨99, 0, (.cons (.int .i64) .nil), .str, s_l05Byte k⟩] [(0, ⟨[0, 1, 2, 8, 9], (.cons .str (.cons (.int .i64) (.cons (.int .i64) (.cons (.own false 5 (.int .u8)) (.cons (.int .i64) .nil)))))⟩, ⟨[2, 8], (.cons (.int .i64) (.cons (.own false 5 (.int .u8)) .nil))⟩)] Try.f75 (.cons .str (.cons (.int .i64) (.cons (.int .i64) .nil))) (.tup (.cons .str (.cons .bool .nil))) x = s_Mask k x := by kernel_rfl
theorem e_s_Mask (k : Nat) : EntryOk Try.prog ⟨75, 0, (.cons .str (.cons (.int .i64) (.cons (.int .i64) .nil))), (.tup (.cons .str (.cons .bool .nil))), s_Mask k⟩ := entry_ok tok (by intro e he; simp only [List.mem_cons, List.not_mem_nil, or_false] at he; rcases he with rfl | rfl | rfl | rfl <;> first | exact e_s_l01In k | exact e_s_MacOf k | exact e_s_l01Var k | exact e_s_l05Byte k) (by kernel_rfl) (fn := Try.f75) (k := k) (es := [⟨45, 0, (.cons (.int .i64) (.cons (.int .i64) (.cons (.int .i64) .nil))), .bool, s_l01In k⟩, ⟨97, 0, (.cons .str (.cons .str .nil)), .str, s_MacOf k⟩, ⟨98, 0, (.cons (.int .i64) .nil), .str, s_l01Var k⟩, ⟨99, 0, (.cons (.int .i64) .nil), .str, s_l05Byte k⟩]) (loops := [(0, ⟨[0, 1, 2, 8, 9], (.cons .str (.cons (.int .i64) (.cons (.int .i64) (.cons (.own false 5 (.int .u8)) (.cons (.int .i64) .nil)))))⟩, ⟨[2, 8], (.cons (.int .i64) (.cons (.own false 5 (.int .u8)) .nil))⟩)]) (by kernel_rfl) (by kernel_rfl) (fun x r h => (t_s_Mask k x).trans h)
def s_l06Xor (k : Nat) (x : ByteArray × ByteArray × Unit) : Option (ByteArray × Unit × Unit × Unit) :=
(if ByteArray.size x.1 ≤ maxStr then
(whileK (fun (rec0 : (ByteArray × List (Int) × Int × Unit) → Option _) (y0 : ByteArray × List (Int) × Int × Unit) =>
(if (decide (y0.2.2.1 < (List.length y0.2.1 : Int))) = true then
(if 0 ≤ y0.2.2.1 ∧ y0.2.2.1 < (List.length y0.2.1 : Int) then
(if 0 ≤ y0.2.2.1 ∧ y0.2.2.1 < (ByteArray.size y0.1 : Int) then
(if 0 ≤ y0.2.2.1 ∧ y0.2.2.1 < (List.length y0.2.1 : Int) then
(rec0 (y0.1, ((List.set y0.2.1 (Int.toNat y0.2.2.1) (bitsI .xor .u8 (Ty.rd (t := (.int .u8)) y0.2.1 y0.2.2.1) (bt y0.1 y0.2.2.1))), ((wi64 (y0.2.2.1 + (1 : Int))), ()))))
else none)
else none)
else none)
else
((fun (z1 : List (Int) × Unit) =>
some ((strOf z1.1), ((), ((), ())))) (y0.2.1, ())))) k (x.2.1, ((bytesOf x.1), ((0 : Int), ()))))
else none)
theorem t_s_l06Xor (k : Nat) (x) : evF TTab k [] [(0, ⟨[1, 5, 6], (.cons .str (.cons (.own true 5 (.int .u8)) (.cons (.int .i64) .nil)))⟩, ⟨[5], (.cons (.own true 5 (.int .u8)) .nil)⟩)] Try.f76 (.cons .str (.cons .str .nil)) .str x = s_l06Xor k x := by kernel_rfl
theorem e_s_l06Xor (k : Nat) : EntryOk Try.prog ⟨76, 0, (.cons .str (.cons .str .nil)), .str, s_l06Xor k⟩ := entry_ok tok (by simp) (by kernel_rfl) (fn := Try.f76) (k := k) (es := []) (loops := [(0, ⟨[1, 5, 6], (.cons .str (.cons (.own true 5 (.int .u8)) (.cons (.int .i64) .nil)))⟩, ⟨[5], (.cons (.own true 5 (.int .u8)) .nil)⟩)]) (by kernel_rfl) (by kernel_rfl) (fun x r h => (t_s_l06Xor k x).trans h)
def s_l06Tag (k : Nat) (x : ByteArray × Int × ByteArray × Unit) : Option (ByteArray × Unit × Unit × Unit × Unit) :=
((s_l01Var k (x.2.1, ())).bind fun p1 =>
(if ByteArray.size (⟨#[116]⟩ : ByteArray) + ByteArray.size p1.1 ≤ maxStr then
(if ByteArray.size ((⟨#[116]⟩ : ByteArray) ++ p1.1) + ByteArray.size x.2.2.1 ≤ maxStr then
((s_MacOf k (x.1, ((((⟨#[116]⟩ : ByteArray) ++ p1.1) ++ x.2.2.1), ()))).bind fun p2 =>
(if 0 ≤ (16 : Int) ∧ (16 : Int) ≤ (ByteArray.size p2.1 : Int) then
some ((ByteArray.extract p2.1 (Int.toNat (0 : Int)) (Int.toNat (16 : Int))), ((), ((), ((), ()))))
else none))
else none)
else none))
theorem t_s_l06Tag (k : Nat) (x) : evF TTab k [⟨97, 0, (.cons .str (.cons .str .nil)), .str, s_MacOf k⟩, ⟨98, 0, (.cons (.int .i64) .nil), .str, s_l01Var k⟩] [] Try.f77 (.cons .str (.cons (.int .i64) (.cons .str .nil))) .str x = s_l06Tag k x := by kernel_rfl
theorem e_s_l06Tag (k : Nat) : EntryOk Try.prog ⟨77, 0, (.cons .str (.cons (.int .i64) (.cons .str .nil))), .str, s_l06Tag k⟩ := entry_ok tok (by intro e he; simp only [List.mem_cons, List.not_mem_nil, or_false] at he; rcases he with rfl | rfl <;> first | exact e_s_MacOf k | exact e_s_l01Var k) (by kernel_rfl) (fn := Try.f77) (k := k) (es := [⟨97, 0, (.cons .str (.cons .str .nil)), .str, s_MacOf k⟩, ⟨98, 0, (.cons (.int .i64) .nil), .str, s_l01Var k⟩]) (loops := []) (by kernel_rfl) (by kernel_rfl) (fun x r h => (t_s_l06Tag k x).trans h)
def s_LockText (k : Nat) (x : ByteArray × Int × ByteArray × Unit) : Option ((ByteArray × Bool × Unit) × Unit × Unit × Unit × Unit) :=
((s_Mask k (x.1, (x.2.1, ((ByteArray.size x.2.2.1 : Int), ())))).bind fun p1 =>
(if (!p1.1.2.1) = true then
some (((⟨#[]⟩ : ByteArray), (false, ())), ((), ((), ((), ()))))
else
((s_l06Xor k (x.2.2.1, (p1.1.1, ()))).bind fun p2 =>
((s_l06Tag k (x.1, (x.2.1, (p2.1, ())))).bind fun p3 =>
(if ByteArray.size p2.1 + ByteArray.size p3.1 ≤ maxStr then
some (((p2.1 ++ p3.1), (true, ())), ((), ((), ((), ()))))
else none)))))
theorem t_s_LockText (k : Nat) (x) : evF TTab k [⟨75, 0, (.cons .str (.cons (.int .i64) (.cons (.int .i64) .nil))), (.tup (.cons .str (.cons .bool .nil))), s_Mask k⟩, ⟨76, 0, (.cons .str (.cons .str .nil)), .str, s_l06Xor k⟩, ⟨77, 0, (.cons .str (.cons (.int .i64) (.cons .str .nil))), .str, s_l06Tag k⟩] [] Try.f46 (.cons .str (.cons (.int .i64) (.cons .str .nil))) (.tup (.cons .str (.cons .bool .nil))) x = s_LockText k x := by kernel_rfl
theorem e_s_LockText (k : Nat) : EntryOk Try.prog ⟨46, 0, (.cons .str (.cons (.int .i64) (.cons .str .nil))), (.tup (.cons .str (.cons .bool .nil))), s_LockText k⟩ := entry_ok tok (by intro e he; simp only [List.mem_cons, List.not_mem_nil, or_false] at he; rcases he with rfl | rfl | rfl <;> first | exact e_s_Mask k | exact e_s_l06Xor k | exact e_s_l06Tag k) (by kernel_rfl) (fn := Try.f46) (k := k) (es := [⟨75, 0, (.cons .str (.cons (.int .i64) (.cons (.int .i64) .nil))), (.tup (.cons .str (.cons .bool .nil))), s_Mask k⟩, ⟨76, 0, (.cons .str (.cons .str .nil)), .str, s_l06Xor k⟩, ⟨77, 0, (.cons .str (.cons (.int .i64) (.cons .str .nil))), .str, s_l06Tag k⟩]) (loops := []) (by kernel_rfl) (by kernel_rfl) (fun x r h => (t_s_LockText k x).trans h)
def s_SealData (k : Nat) (x : (Int × ByteArray × ByteArray × Int × List (Int) × Int × Int × ByteArray × ByteArray × Int × List (Int) × Int × Unit) × Int × Int × ByteArray × Unit) : Option (((Int × ByteArray × ByteArray × Int × List (Int) × Int × Int × ByteArray × ByteArray × Int × List (Int) × Int × Unit) × (Int × Int × Int × Int × Int × List (Int) × ByteArray × Unit) × Bool × Unit) × Unit × Unit × Unit × Unit × Unit) :=
((s_l17Copy k ((x.1.1, (x.1.2.1, (x.1.2.2.1, (x.1.2.2.2.1, (x.1.2.2.2.2.1, (x.1.2.2.2.2.2.1, (x.1.2.2.2.2.2.2.1, (x.1.2.2.2.2.2.2.2.1, (x.1.2.2.2.2.2.2.2.2.1, (x.1.2.2.2.2.2.2.2.2.2.1, (x.1.2.2.2.2.2.2.2.2.2.2.1, (x.1.2.2.2.2.2.2.2.2.2.2.2.1, ())))))))))))), ())).bind fun p1 =>
((s_SlotsOk k ((x.1.1, (x.1.2.1, (x.1.2.2.1, (x.1.2.2.2.1, (x.1.2.2.2.2.1, (x.1.2.2.2.2.2.1, (x.1.2.2.2.2.2.2.1, (x.1.2.2.2.2.2.2.2.1, (x.1.2.2.2.2.2.2.2.2.1, (x.1.2.2.2.2.2.2.2.2.2.1, (x.1.2.2.2.2.2.2.2.2.2.2.1, (x.1.2.2.2.2.2.2.2.2.2.2.2.1, ())))))))))))), ())).bind fun p2 =>
(if (!p2.1) = false then
((s_Spent k ((x.1.1, (x.1.2.1, (x.1.2.2.1, (x.1.2.2.2.1, (x.1.2.2.2.2.1, (x.1.2.2.2.2.2.1, (x.1.2.2.2.2.2.2.1, (x.1.2.2.2.2.2.2.2.1, (x.1.2.2.2.2.2.2.2.2.1, (x.1.2.2.2.2.2.2.2.2.2.1, (x.1.2.2.2.2.2.2.2.2.2.2.1, (x.1.2.2.2.2.2.2.2.2.2.2.2.1, ())))))))))))), ())).bind fun p3 =>
(if p3.1 = false then
((s_l01In k (x.2.1, ((1 : Int), ((99 : Int), ())))).bind fun p4 =>
(if (!p4.1) = false then
((s_l01In k (x.2.2.1, ((1 : Int), ((99 : Int), ())))).bind fun p5 =>
(if (!p5.1) = false then
(if (decide ((104 : Int) < (ByteArray.size x.2.2.2.1 : Int))) = true then
some (((p1.1.1, (p1.1.2.1, (p1.1.2.2.1, (p1.1.2.2.2.1, (p1.1.2.2.2.2.1, (p1.1.2.2.2.2.2.1, (p1.1.2.2.2.2.2.2.1, (p1.1.2.2.2.2.2.2.2.1, (p1.1.2.2.2.2.2.2.2.2.1, (p1.1.2.2.2.2.2.2.2.2.2.1, (p1.1.2.2.2.2.2.2.2.2.2.2.1, (p1.1.2.2.2.2.2.2.2.2.2.2.2.1, ())))))))))))), (((0 : Int), ((0 : Int), ((0 : Int), ((0 : Int), ((0 : Int), ([], ((⟨#[]⟩ : ByteArray), ()))))))), (false, ()))), ((), ((), ((), ((), ())))))
else
((s_LockText k (x.1.2.1, ((wi64 (x.1.2.2.2.1 + (1 : Int))), (x.2.2.2.1, ())))).bind fun p6 =>
some (((p1.1.1, (p1.1.2.1, (p1.1.2.2.1, ((wi64 (x.1.2.2.2.1 + (1 : Int))), (p1.1.2.2.2.2.1, (p1.1.2.2.2.2.2.1, (p1.1.2.2.2.2.2.2.1, (p1.1.2.2.2.2.2.2.2.1, (p1.1.2.2.2.2.2.2.2.2.1, (p1.1.2.2.2.2.2.2.2.2.2.1, (p1.1.2.2.2.2.2.2.2.2.2.2.1, (p1.1.2.2.2.2.2.2.2.2.2.2.2.1, ())))))))))))), (((3 : Int), ((Int.tmod x.1.1 (8 : Int)), (x.2.1, (x.2.2.1, ((wi64 (x.1.2.2.2.1 + (1 : Int))), ([], (p6.1.1, ()))))))), (true, ()))), ((), ((), ((), ((), ())))))))
else
some (((p1.1.1, (p1.1.2.1, (p1.1.2.2.1, (p1.1.2.2.2.1, (p1.1.2.2.2.2.1, (p1.1.2.2.2.2.2.1, (p1.1.2.2.2.2.2.2.1, (p1.1.2.2.2.2.2.2.2.1, (p1.1.2.2.2.2.2.2.2.2.1, (p1.1.2.2.2.2.2.2.2.2.2.1, (p1.1.2.2.2.2.2.2.2.2.2.2.1, (p1.1.2.2.2.2.2.2.2.2.2.2.2.1, ())))))))))))), (((0 : Int), ((0 : Int), ((0 : Int), ((0 : Int), ((0 : Int), ([], ((⟨#[]⟩ : ByteArray), ()))))))), (false, ()))), ((), ((), ((), ((), ())))))))
else
some (((p1.1.1, (p1.1.2.1, (p1.1.2.2.1, (p1.1.2.2.2.1, (p1.1.2.2.2.2.1, (p1.1.2.2.2.2.2.1, (p1.1.2.2.2.2.2.2.1, (p1.1.2.2.2.2.2.2.2.1, (p1.1.2.2.2.2.2.2.2.2.1, (p1.1.2.2.2.2.2.2.2.2.2.1, (p1.1.2.2.2.2.2.2.2.2.2.2.1, (p1.1.2.2.2.2.2.2.2.2.2.2.2.1, ())))))))))))), (((0 : Int), ((0 : Int), ((0 : Int), ((0 : Int), ((0 : Int), ([], ((⟨#[]⟩ : ByteArray), ()))))))), (false, ()))), ((), ((), ((), ((), ())))))))
else
some (((p1.1.1, (p1.1.2.1, (p1.1.2.2.1, (p1.1.2.2.2.1, (p1.1.2.2.2.2.1, (p1.1.2.2.2.2.2.1, (p1.1.2.2.2.2.2.2.1, (p1.1.2.2.2.2.2.2.2.1, (p1.1.2.2.2.2.2.2.2.2.1, (p1.1.2.2.2.2.2.2.2.2.2.1, (p1.1.2.2.2.2.2.2.2.2.2.2.1, (p1.1.2.2.2.2.2.2.2.2.2.2.2.1, ())))))))))))), (((0 : Int), ((0 : Int), ((0 : Int), ((0 : Int), ((0 : Int), ([], ((⟨#[]⟩ : ByteArray), ()))))))), (false, ()))), ((), ((), ((), ((), ())))))))
else
some (((p1.1.1, (p1.1.2.1, (p1.1.2.2.1, (p1.1.2.2.2.1, (p1.1.2.2.2.2.1, (p1.1.2.2.2.2.2.1, (p1.1.2.2.2.2.2.2.1, (p1.1.2.2.2.2.2.2.2.1, (p1.1.2.2.2.2.2.2.2.2.1, (p1.1.2.2.2.2.2.2.2.2.2.1, (p1.1.2.2.2.2.2.2.2.2.2.2.1, (p1.1.2.2.2.2.2.2.2.2.2.2.2.1, ())))))))))))), (((0 : Int), ((0 : Int), ((0 : Int), ((0 : Int), ((0 : Int), ([], ((⟨#[]⟩ : ByteArray), ()))))))), (false, ()))), ((), ((), ((), ((), ()))))))))
theorem t_s_SealData (k : Nat) (x) : evF TTab k [⟨42, 0, (.cons (.agg (.cons (.int .i64) (.cons .str (.cons .str (.cons (.int .i64) (.cons (.il true (.int .i64)) (.cons (.int .i64) (.cons (.int .i64) (.cons .str (.cons .str (.cons (.int .i64) (.cons (.il true (.int .i64)) (.cons (.int .i64) .nil))))))))))))) .nil), (.agg (.cons (.int .i64) (.cons .str (.cons .str (.cons (.int .i64) (.cons (.own false 3 (.int .i64)) (.cons (.int .i64) (.cons (.int .i64) (.cons .str (.cons .str (.cons (.int .i64) (.cons (.own false 3 (.int .i64)) (.cons (.int .i64) .nil))))))))))))), s_l17Copy k⟩, ⟨43, 0, (.cons (.agg (.cons (.int .i64) (.cons .str (.cons .str (.cons (.int .i64) (.cons (.il true (.int .i64)) (.cons (.int .i64) (.cons (.int .i64) (.cons .str (.cons .str (.cons (.int .i64) (.cons (.il true (.int .i64)) (.cons (.int .i64) .nil))))))))))))) .nil), .bool, s_SlotsOk k⟩, ⟨44, 0, (.cons (.agg (.cons (.int .i64) (.cons .str (.cons .str (.cons (.int .i64) (.cons (.il true (.int .i64)) (.cons (.int .i64) (.cons (.int .i64) (.cons .str (.cons .str (.cons (.int .i64) (.cons (.il true (.int .i64)) (.cons (.int .i64) .nil))))))))))))) .nil), .bool, s_Spent k⟩, ⟨45, 0, (.cons (.int .i64) (.cons (.int .i64) (.cons (.int .i64) .nil))), .bool, s_l01In k⟩, ⟨46, 0, (.cons .str (.cons (.int .i64) (.cons .str .nil))), (.tup (.cons .str (.cons .bool .nil))), s_LockText k⟩] [] Try.f17 (.cons (.agg (.cons (.int .i64) (.cons .str (.cons .str (.cons (.int .i64) (.cons (.il true (.int .i64)) (.cons (.int .i64) (.cons (.int .i64) (.cons .str (.cons .str (.cons (.int .i64) (.cons (.il true (.int .i64)) (.cons (.int .i64) .nil))))))))))))) (.cons (.int .i64) (.cons (.int .i64) (.cons .str .nil)))) (.tup (.cons (.agg (.cons (.int .i64) (.cons .str (.cons .str (.cons (.int .i64) (.cons (.own false 3 (.int .i64)) (.cons (.int .i64) (.cons (.int .i64) (.cons .str (.cons .str (.cons (.int .i64) (.cons (.own false 3 (.int .i64)) (.cons (.int .i64) .nil))))))))))))) (.cons (.agg (.cons (.int .i64) (.cons (.int .i64) (.cons (.int .i64) (.cons (.int .i64) (.cons (.int .i64) (.cons (.own false 3 (.int .i64)) (.cons .str .nil)))))))) (.cons .bool .nil)))) x = s_SealData k x := by kernel_rfl
theorem e_s_SealData (k : Nat) : EntryOk Try.prog ⟨17, 0, (.cons (.agg (.cons (.int .i64) (.cons .str (.cons .str (.cons (.int .i64) (.cons (.il true (.int .i64)) (.cons (.int .i64) (.cons (.int .i64) (.cons .str (.cons .str (.cons (.int .i64) (.cons (.il true (.int .i64)) (.cons (.int .i64) .nil))))))))))))) (.cons (.int .i64) (.cons (.int .i64) (.cons .str .nil)))), (.tup (.cons (.agg (.cons (.int .i64) (.cons .str (.cons .str (.cons (.int .i64) (.cons (.own false 3 (.int .i64)) (.cons (.int .i64) (.cons (.int .i64) (.cons .str (.cons .str (.cons (.int .i64) (.cons (.own false 3 (.int .i64)) (.cons (.int .i64) .nil))))))))))))) (.cons (.agg (.cons (.int .i64) (.cons (.int .i64) (.cons (.int .i64) (.cons (.int .i64) (.cons (.int .i64) (.cons (.own false 3 (.int .i64)) (.cons .str .nil)))))))) (.cons .bool .nil)))), s_SealData k⟩ := entry_ok tok (by intro e he; simp only [List.mem_cons, List.not_mem_nil, or_false] at he; rcases he with rfl | rfl | rfl | rfl | rfl <;> first | exact e_s_l17Copy k | exact e_s_SlotsOk k | exact e_s_Spent k | exact e_s_l01In k | exact e_s_LockText k) (by kernel_rfl) (fn := Try.f17) (k := k) (es := [⟨42, 0, (.cons (.agg (.cons (.int .i64) (.cons .str (.cons .str (.cons (.int .i64) (.cons (.il true (.int .i64)) (.cons (.int .i64) (.cons (.int .i64) (.cons .str (.cons .str (.cons (.int .i64) (.cons (.il true (.int .i64)) (.cons (.int .i64) .nil))))))))))))) .nil), (.agg (.cons (.int .i64) (.cons .str (.cons .str (.cons (.int .i64) (.cons (.own false 3 (.int .i64)) (.cons (.int .i64) (.cons (.int .i64) (.cons .str (.cons .str (.cons (.int .i64) (.cons (.own false 3 (.int .i64)) (.cons (.int .i64) .nil))))))))))))), s_l17Copy k⟩, ⟨43, 0, (.cons (.agg (.cons (.int .i64) (.cons .str (.cons .str (.cons (.int .i64) (.cons (.il true (.int .i64)) (.cons (.int .i64) (.cons (.int .i64) (.cons .str (.cons .str (.cons (.int .i64) (.cons (.il true (.int .i64)) (.cons (.int .i64) .nil))))))))))))) .nil), .bool, s_SlotsOk k⟩, ⟨44, 0, (.cons (.agg (.cons (.int .i64) (.cons .str (.cons .str (.cons (.int .i64) (.cons (.il true (.int .i64)) (.cons (.int .i64) (.cons (.int .i64) (.cons .str (.cons .str (.cons (.int .i64) (.cons (.il true (.int .i64)) (.cons (.int .i64) .nil))))))))))))) .nil), .bool, s_Spent k⟩, ⟨45, 0, (.cons (.int .i64) (.cons (.int .i64) (.cons (.int .i64) .nil))), .bool, s_l01In k⟩, ⟨46, 0, (.cons .str (.cons (.int .i64) (.cons .str .nil))), (.tup (.cons .str (.cons .bool .nil))), s_LockText k⟩]) (loops := []) (by kernel_rfl) (by kernel_rfl) (fun x r h => (t_s_SealData k x).trans h)
def i_noSlot (k : Nat) (x : (Int × ByteArray × ByteArray × Int × List (Int) × Int × Unit) × Unit) : Option (Bool × Unit × Unit) :=
(if (decide (x.1.1 = (0 : Int))) = true then
(if (decide (x.1.2.1 = (⟨#[]⟩ : ByteArray))) = true then
(if (decide (x.1.2.2.1 = (⟨#[]⟩ : ByteArray))) = true then
(if (decide (x.1.2.2.2.1 = (0 : Int))) = true then
(if (decide ((List.length x.1.2.2.2.2.1 : Int) = (0 : Int))) = true then
some ((decide (x.1.2.2.2.2.2.1 = (0 : Int))), ((), ()))
else
some (false, ((), ())))
else
some (false, ((), ())))
else
some (false, ((), ())))
else
some (false, ((), ())))
else
some (false, ((), ())))
theorem t_i_noSlot (k : Nat) (x) : evF TTab k [] [] Try.f62 (.cons (.agg (.cons (.int .i64) (.cons .str (.cons .str (.cons (.int .i64) (.cons (.il true (.int .i64)) (.cons (.int .i64) .nil))))))) .nil) .bool x = i_noSlot k x := by kernel_rfl
theorem e_i_noSlot (k : Nat) : EntryOk Try.prog ⟨62, 0, (.cons (.agg (.cons (.int .i64) (.cons .str (.cons .str (.cons (.int .i64) (.cons (.il true (.int .i64)) (.cons (.int .i64) .nil))))))) .nil), .bool, i_noSlot k⟩ := entry_ok tok (by simp) (by kernel_rfl) (fn := Try.f62) (k := k) (es := []) (loops := []) (by kernel_rfl) (by kernel_rfl) (fun x r h => (t_i_noSlot k x).trans h)
def i_Spent (k : Nat) (x : (Int × ByteArray × ByteArray × Int × List (Int) × Int × Int × ByteArray × ByteArray × Int × List (Int) × Int × Unit) × Unit) : Option (Bool × Unit × Unit) :=
((i_noSlot k ((x.1.1, (x.1.2.1, (x.1.2.2.1, (x.1.2.2.2.1, (x.1.2.2.2.2.1, (x.1.2.2.2.2.2.1, ())))))), ())).bind fun p1 =>
(if p1.1 = false then
some ((decide (x.1.2.2.2.1 = (12 : Int))), ((), ()))
else
some (true, ((), ()))))
theorem t_i_Spent (k : Nat) (x) : evF TTab k [⟨62, 0, (.cons (.agg (.cons (.int .i64) (.cons .str (.cons .str (.cons (.int .i64) (.cons (.il true (.int .i64)) (.cons (.int .i64) .nil))))))) .nil), .bool, i_noSlot k⟩] [] Try.f32 (.cons (.agg (.cons (.int .i64) (.cons .str (.cons .str (.cons (.int .i64) (.cons (.il true (.int .i64)) (.cons (.int .i64) (.cons (.int .i64) (.cons .str (.cons .str (.cons (.int .i64) (.cons (.il true (.int .i64)) (.cons (.int .i64) .nil))))))))))))) .nil) .bool x = i_Spent k x := by kernel_rfl
theorem e_i_Spent (k : Nat) : EntryOk Try.prog ⟨32, 0, (.cons (.agg (.cons (.int .i64) (.cons .str (.cons .str (.cons (.int .i64) (.cons (.il true (.int .i64)) (.cons (.int .i64) (.cons (.int .i64) (.cons .str (.cons .str (.cons (.int .i64) (.cons (.il true (.int .i64)) (.cons (.int .i64) .nil))))))))))))) .nil), .bool, i_Spent k⟩ := entry_ok tok (by intro e he; simp only [List.mem_cons, List.not_mem_nil, or_false] at he; rcases he with rfl <;> first | exact e_i_noSlot k) (by kernel_rfl) (fn := Try.f32) (k := k) (es := [⟨62, 0, (.cons (.agg (.cons (.int .i64) (.cons .str (.cons .str (.cons (.int .i64) (.cons (.il true (.int .i64)) (.cons (.int .i64) .nil))))))) .nil), .bool, i_noSlot k⟩]) (loops := []) (by kernel_rfl) (by kernel_rfl) (fun x r h => (t_i_Spent k x).trans h)
def i_isId (k : Nat) (x : Int × Unit) : Option (Bool × Unit × Unit) :=
((i_within k (x.1, ((1 : Int), ((99 : Int), ())))).bind fun p1 =>
some (p1.1, ((), ())))
theorem t_i_isId (k : Nat) (x) : evF TTab k [⟨57, 0, (.cons (.int .i64) (.cons (.int .i64) (.cons (.int .i64) .nil))), .bool, i_within k⟩] [] Try.f48 (.cons (.int .i64) .nil) .bool x = i_isId k x := by kernel_rfl
theorem e_i_isId (k : Nat) : EntryOk Try.prog ⟨48, 0, (.cons (.int .i64) .nil), .bool, i_isId k⟩ := entry_ok tok (by intro e he; simp only [List.mem_cons, List.not_mem_nil, or_false] at he; rcases he with rfl <;> first | exact e_i_within k) (by kernel_rfl) (fn := Try.f48) (k := k) (es := [⟨57, 0, (.cons (.int .i64) (.cons (.int .i64) (.cons (.int .i64) .nil))), .bool, i_within k⟩]) (loops := []) (by kernel_rfl) (by kernel_rfl) (fun x r h => (t_i_isId k x).trans h)
def i_VarText (k : Nat) (x : Int × Unit) : Option ((ByteArray × Bool × Unit) × Unit × Unit) :=
((i_within k (x.1, ((0 : Int), ((1000000000 : Int), ())))).bind fun p1 =>
(if (!p1.1) = true then
some (((⟨#[]⟩ : ByteArray), (false, ())), ((), ()))
else
(whileK (fun (rec0 : (Int × List (Int) × Unit) → Option _) (y0 : Int × List (Int) × Unit) =>
(if (decide ((127 : Int) < y0.1)) = true then
(if List.length y0.2.1 + List.length ([(wu8 ((wi64 ((Int.tmod y0.1 (128 : Int)) + (128 : Int)))))] : List (Int)) ≤ capMax then
(rec0 ((wi64 (Int.tdiv y0.1 (128 : Int))), ((y0.2.1 ++ ([(wu8 ((wi64 ((Int.tmod y0.1 (128 : Int)) + (128 : Int)))))] : List (Int))), ())))
else none)
else
((fun (z1 : Int × List (Int) × Unit) =>
(if List.length z1.2.1 + List.length ([(wu8 (z1.1))] : List (Int)) ≤ capMax then
some (((strOf (z1.2.1 ++ ([(wu8 (z1.1))] : List (Int)))), (true, ())), ((), ()))
else none)) (y0.1, (y0.2.1, ()))))) k (x.1, (([] : List (Int)), ())))))
theorem t_i_VarText (k : Nat) (x) : evF TTab k [⟨57, 0, (.cons (.int .i64) (.cons (.int .i64) (.cons (.int .i64) .nil))), .bool, i_within k⟩] [(0, ⟨[0, 4], (.cons (.int .i64) (.cons (.own false 5 (.int .u8)) .nil))⟩, ⟨[0, 4], (.cons (.int .i64) (.cons (.own false 5 (.int .u8)) .nil))⟩)] Try.f101 (.cons (.int .i64) .nil) (.tup (.cons .str (.cons .bool .nil))) x = i_VarText k x := by kernel_rfl
theorem e_i_VarText (k : Nat) : EntryOk Try.prog ⟨101, 0, (.cons (.int .i64) .nil), (.tup (.cons .str (.cons .bool .nil))), i_VarText k⟩ := entry_ok tok (by intro e he; simp only [List.mem_cons, List.not_mem_nil, or_false] at he; rcases he with rfl <;> first | exact e_i_within k) (by kernel_rfl) (fn := Try.f101) (k := k) (es := [⟨57, 0, (.cons (.int .i64) (.cons (.int .i64) (.cons (.int .i64) .nil))), .bool, i_within k⟩]) (loops := [(0, ⟨[0, 4], (.cons (.int .i64) (.cons (.own false 5 (.int .u8)) .nil))⟩, ⟨[0, 4], (.cons (.int .i64) (.cons (.own false 5 (.int .u8)) .nil))⟩)]) (by kernel_rfl) (by kernel_rfl) (fun x r h => (t_i_VarText k x).trans h)
def i_masked (k : Nat) (x : ByteArray × Int × Unit) : Option (ByteArray × Unit × Unit × Unit) :=
(if ByteArray.size x.1 ≤ maxStr then
(whileK (fun (rec0 : (Int × List (Int) × Int × Int × Unit) → Option _) (y0 : Int × List (Int) × Int × Int × Unit) =>
(if (decide (y0.2.2.2.1 < y0.2.2.1)) = true then
(if 0 ≤ y0.2.2.2.1 ∧ y0.2.2.2.1 < (List.length y0.2.1 : Int) then
(if 0 ≤ y0.2.2.2.1 ∧ y0.2.2.2.1 < (List.length y0.2.1 : Int) then
(rec0 (y0.1, ((List.set y0.2.1 (Int.toNat y0.2.2.2.1) (bitsI .xor .u8 (Ty.rd (t := (.int .u8)) y0.2.1 y0.2.2.2.1) y0.1)), (y0.2.2.1, ((wi64 (y0.2.2.2.1 + (1 : Int))), ())))))
else none)
else none)
else
((fun (z1 : List (Int) × Unit) =>
some ((strOf z1.1), ((), ((), ())))) (y0.2.1, ())))) k (x.2.1, ((bytesOf x.1), ((List.length (bytesOf x.1) : Int), ((0 : Int), ())))))
else none)
theorem t_i_masked (k : Nat) (x) : evF TTab k [] [(0, ⟨[1, 5, 10, 11], (.cons (.int .u8) (.cons (.own true 5 (.int .u8)) (.cons (.int .i64) (.cons (.int .i64) .nil))))⟩, ⟨[5], (.cons (.own true 5 (.int .u8)) .nil)⟩)] Try.f124 (.cons .str (.cons (.int .u8) .nil)) .str x = i_masked k x := by kernel_rfl
theorem e_i_masked (k : Nat) : EntryOk Try.prog ⟨124, 0, (.cons .str (.cons (.int .u8) .nil)), .str, i_masked k⟩ := entry_ok tok (by simp) (by kernel_rfl) (fn := Try.f124) (k := k) (es := []) (loops := [(0, ⟨[1, 5, 10, 11], (.cons (.int .u8) (.cons (.own true 5 (.int .u8)) (.cons (.int .i64) (.cons (.int .i64) .nil))))⟩, ⟨[5], (.cons (.own true 5 (.int .u8)) .nil)⟩)]) (by kernel_rfl) (by kernel_rfl) (fun x r h => (t_i_masked k x).trans h)
def i_MacOf (k : Nat) (x : ByteArray × ByteArray × Unit) : Option (ByteArray × Unit × Unit × Unit) :=
(if (decide ((64 : Int) < (ByteArray.size x.1 : Int))) = true then
((i_DigestOf k (x.1, ())).bind fun p1 =>
((x_strings_Repeat k ((⟨#[0]⟩ : ByteArray), ((wi64 ((64 : Int) - (ByteArray.size p1.1 : Int))), ()))).bind fun p7 =>
(if ByteArray.size p1.1 + ByteArray.size p7.1 ≤ maxStr then
((i_masked k ((p1.1 ++ p7.1), ((92 : Int), ()))).bind fun p8 =>
((i_masked k ((p1.1 ++ p7.1), ((54 : Int), ()))).bind fun p9 =>
(if ByteArray.size p9.1 + ByteArray.size x.2.1 ≤ maxStr then
((i_DigestOf k ((p9.1 ++ x.2.1), ())).bind fun p10 =>
(if ByteArray.size p8.1 + ByteArray.size p10.1 ≤ maxStr then
((i_DigestOf k ((p8.1 ++ p10.1), ())).bind fun p11 =>
some (p11.1, ((), ((), ()))))
else none))
else none)))
else none)))
else
((x_strings_Repeat k ((⟨#[0]⟩ : ByteArray), ((wi64 ((64 : Int) - (ByteArray.size x.1 : Int))), ()))).bind fun p12 =>
(if ByteArray.size x.1 + ByteArray.size p12.1 ≤ maxStr then
((i_masked k ((x.1 ++ p12.1), ((92 : Int), ()))).bind fun p13 =>
((i_masked k ((x.1 ++ p12.1), ((54 : Int), ()))).bind fun p14 =>
(if ByteArray.size p14.1 + ByteArray.size x.2.1 ≤ maxStr then
((i_DigestOf k ((p14.1 ++ x.2.1), ())).bind fun p15 =>
(if ByteArray.size p13.1 + ByteArray.size p15.1 ≤ maxStr then
((i_DigestOf k ((p13.1 ++ p15.1), ())).bind fun p16 =>
some (p16.1, ((), ((), ()))))
else none))
else none)))
else none)))
theorem t_i_MacOf (k : Nat) (x) : evF TTab k [⟨36, 0, (.cons .str .nil), .str, i_DigestOf k⟩, ⟨94, 0, (.cons .str (.cons (.int .i64) .nil)), .str, x_strings_Repeat k⟩, ⟨124, 0, (.cons .str (.cons (.int .u8) .nil)), .str, i_masked k⟩] [] Try.f102 (.cons .str (.cons .str .nil)) .str x = i_MacOf k x := by kernel_rfl
theorem e_i_MacOf (k : Nat) : EntryOk Try.prog ⟨102, 0, (.cons .str (.cons .str .nil)), .str, i_MacOf k⟩ := entry_ok tok (by intro e he; simp only [List.mem_cons, List.not_mem_nil, or_false] at he; rcases he with rfl | rfl | rfl <;> first | exact e_i_DigestOf k | exact e_x_strings_Repeat k | exact e_i_masked k) (by kernel_rfl) (fn := Try.f102) (k := k) (es := [⟨36, 0, (.cons .str .nil), .str, i_DigestOf k⟩, ⟨94, 0, (.cons .str (.cons (.int .i64) .nil)), .str, x_strings_Repeat k⟩, ⟨124, 0, (.cons .str (.cons (.int .u8) .nil)), .str, i_masked k⟩]) (loops := []) (by kernel_rfl) (by kernel_rfl) (fun x r h => (t_i_MacOf k x).trans h)
def i_byteText (k : Nat) (x : Int × Unit) : Option (ByteArray × Unit × Unit) :=
some ((strOf ([(wu8 (x.1))] : List (Int))), ((), ()))
theorem t_i_byteText (k : Nat) (x) : evF TTab k [] [] Try.f123 (.cons (.int .i64) .nil) .str x = i_byteText k x := by kernel_rfl
theorem e_i_byteText (k : Nat) : EntryOk Try.prog ⟨123, 0, (.cons (.int .i64) .nil), .str, i_byteText k⟩ := entry_ok tok (by simp) (by kernel_rfl) (fn := Try.f123) (k := k) (es := []) (loops := []) (by kernel_rfl) (by kernel_rfl) (fun x r h => (t_i_byteText k x).trans h)
def i_Mask (k : Nat) (x : ByteArray × Int × Int × Unit) : Option ((ByteArray × Bool × Unit) × Unit × Unit × Unit × Unit) :=
((i_VarText k (x.2.1, ())).bind fun p1 =>
(if (!p1.1.2.1) = false then
((i_within k (x.2.2.1, ((0 : Int), ((8000 : Int), ())))).bind fun p2 =>
(if (!p2.1) = true then
some (((⟨#[]⟩ : ByteArray), (false, ())), ((), ((), ((), ()))))
else
(whileK (fun (rec0 : (ByteArray × Int × ByteArray × List (Int) × Int × Unit) → Option _) (y0 : ByteArray × Int × ByteArray × List (Int) × Int × Unit) =>
(if (decide ((List.length y0.2.2.2.1 : Int) < y0.2.1)) = true then
(if ByteArray.size (⟨#[109]⟩ : ByteArray) + ByteArray.size y0.2.2.1 ≤ maxStr then
((i_byteText k (y0.2.2.2.2.1, ())).bind fun p3 =>
(if ByteArray.size ((⟨#[109]⟩ : ByteArray) ++ y0.2.2.1) + ByteArray.size p3.1 ≤ maxStr then
((i_MacOf k (y0.1, ((((⟨#[109]⟩ : ByteArray) ++ y0.2.2.1) ++ p3.1), ()))).bind fun p4 =>
(if List.length y0.2.2.2.1 + List.length (bytesOf p4.1) ≤ capMax then
(rec0 (y0.1, (y0.2.1, (y0.2.2.1, ((y0.2.2.2.1 ++ (bytesOf p4.1)), ((wi64 (y0.2.2.2.2.1 + (1 : Int))), ()))))))
else none))
else none))
else none)
else
((fun (z1 : Int × List (Int) × Unit) =>
(if 0 ≤ z1.1 ∧ z1.1 ≤ (List.length z1.2.1 : Int) then
some (((strOf (List.drop (Int.toNat (0 : Int)) (List.take (Int.toNat z1.1) z1.2.1))), (true, ())), ((), ((), ((), ()))))
else none)) (y0.2.1, (y0.2.2.2.1, ()))))) k (x.1, (x.2.2.1, (p1.1.1, (([] : List (Int)), ((0 : Int), ()))))))))
else
some (((⟨#[]⟩ : ByteArray), (false, ())), ((), ((), ((), ()))))))
theorem t_i_Mask (k : Nat) (x) : evF TTab k [⟨57, 0, (.cons (.int .i64) (.cons (.int .i64) (.cons (.int .i64) .nil))), .bool, i_within k⟩, ⟨101, 0, (.cons (.int .i64) .nil), (.tup (.cons .str (.cons .bool .nil))), i_VarText k⟩, ⟨102, 0, (.cons .str (.cons .str .nil)), .str, i_MacOf k⟩, ⟨123, 0, (.cons (.int .i64) .nil), .str, i_byteText k⟩] [(0, ⟨[0, 2, 8, 10, 11], (.cons .str (.cons (.int .i64) (.cons .str (.cons (.own false 5 (.int .u8)) (.cons (.int .i64) .nil)))))⟩, ⟨[2, 10], (.cons (.int .i64) (.cons (.own false 5 (.int .u8)) .nil))⟩)] Try.f100 (.cons .str (.cons (.int .i64) (.cons (.int .i64) .nil))) (.tup (.cons .str (.cons .bool .nil))) x = i_Mask k x := by kernel_rfl
theorem e_i_Mask (k : Nat) : EntryOk Try.prog ⟨100, 0, (.cons .str (.cons (.int .i64) (.cons (.int .i64) .nil))), (.tup (.cons .str (.cons .bool .nil))), i_Mask k⟩ := entry_ok tok (by intro e he; simp only [List.mem_cons, List.not_mem_nil, or_false] at he; rcases he with rfl | rfl | rfl | rfl <;> first | exact e_i_within k | exact e_i_VarText k | exact e_i_MacOf k | exact e_i_byteText k) (by kernel_rfl) (fn := Try.f100) (k := k) (es := [⟨57, 0, (.cons (.int .i64) (.cons (.int .i64) (.cons (.int .i64) .nil))), .bool, i_within k⟩, ⟨101, 0, (.cons (.int .i64) .nil), (.tup (.cons .str (.cons .bool .nil))), i_VarText k⟩, ⟨102, 0, (.cons .str (.cons .str .nil)), .str, i_MacOf k⟩, ⟨123, 0, (.cons (.int .i64) .nil), .str, i_byteText k⟩]) (loops := [(0, ⟨[0, 2, 8, 10, 11], (.cons .str (.cons (.int .i64) (.cons .str (.cons (.own false 5 (.int .u8)) (.cons (.int .i64) .nil)))))⟩, ⟨[2, 10], (.cons (.int .i64) (.cons (.own false 5 (.int .u8)) .nil))⟩)]) (by kernel_rfl) (by kernel_rfl) (fun x r h => (t_i_Mask k x).trans h)
def i_hidden (k : Nat) (x : ByteArray × Int × ByteArray × Unit) : Option ((ByteArray × Bool × Unit) × Unit × Unit × Unit × Unit) :=
((i_Mask k (x.1, (x.2.1, ((ByteArray.size x.2.2.1 : Int), ())))).bind fun p1 =>
(if (!p1.1.2.1) = true then
some (((⟨#[]⟩ : ByteArray), (false, ())), ((), ((), ((), ()))))
else
(if ByteArray.size x.2.2.1 ≤ maxStr then
(whileK (fun (rec0 : (ByteArray × List (Int) × Int × Int × Unit) → Option _) (y0 : ByteArray × List (Int) × Int × Int × Unit) =>
(if (decide (y0.2.2.2.1 < y0.2.2.1)) = true then
(if 0 ≤ y0.2.2.2.1 ∧ y0.2.2.2.1 < (List.length y0.2.1 : Int) then
(if 0 ≤ y0.2.2.2.1 ∧ y0.2.2.2.1 < (ByteArray.size y0.1 : Int) then
(if 0 ≤ y0.2.2.2.1 ∧ y0.2.2.2.1 < (List.length y0.2.1 : Int) then
(rec0 (y0.1, ((List.set y0.2.1 (Int.toNat y0.2.2.2.1) (bitsI .xor .u8 (Ty.rd (t := (.int .u8)) y0.2.1 y0.2.2.2.1) (bt y0.1 y0.2.2.2.1))), (y0.2.2.1, ((wi64 (y0.2.2.2.1 + (1 : Int))), ())))))
else none)
else none)
else none)
else
((fun (z1 : List (Int) × Unit) =>
some (((strOf z1.1), (true, ())), ((), ((), ((), ()))))) (y0.2.1, ())))) k (p1.1.1, ((bytesOf x.2.2.1), ((List.length (bytesOf x.2.2.1) : Int), ((0 : Int), ())))))
else none)))
theorem t_i_hidden (k : Nat) (x) : evF TTab k [⟨100, 0, (.cons .str (.cons (.int .i64) (.cons (.int .i64) .nil))), (.tup (.cons .str (.cons .bool .nil))), i_Mask k⟩] [(0, ⟨[8, 10, 25, 26], (.cons .str (.cons (.own true 5 (.int .u8)) (.cons (.int .i64) (.cons (.int .i64) .nil))))⟩, ⟨[10], (.cons (.own true 5 (.int .u8)) .nil)⟩)] Try.f79 (.cons .str (.cons (.int .i64) (.cons .str .nil))) (.tup (.cons .str (.cons .bool .nil))) x = i_hidden k x := by kernel_rfl
theorem e_i_hidden (k : Nat) : EntryOk Try.prog ⟨79, 0, (.cons .str (.cons (.int .i64) (.cons .str .nil))), (.tup (.cons .str (.cons .bool .nil))), i_hidden k⟩ := entry_ok tok (by intro e he; simp only [List.mem_cons, List.not_mem_nil, or_false] at he; rcases he with rfl <;> first | exact e_i_Mask k) (by kernel_rfl) (fn := Try.f79) (k := k) (es := [⟨100, 0, (.cons .str (.cons (.int .i64) (.cons (.int .i64) .nil))), (.tup (.cons .str (.cons .bool .nil))), i_Mask k⟩]) (loops := [(0, ⟨[8, 10, 25, 26], (.cons .str (.cons (.own true 5 (.int .u8)) (.cons (.int .i64) (.cons (.int .i64) .nil))))⟩, ⟨[10], (.cons (.own true 5 (.int .u8)) .nil)⟩)]) (by kernel_rfl) (by kernel_rfl) (fun x r h => (t_i_hidden k x).trans h)
def i_macText (k : Nat) (x : ByteArray × Int × ByteArray × Unit) : Option (ByteArray × Unit × Unit × Unit × Unit) :=
((i_VarText k (x.2.1, ())).bind fun p1 =>
(if ByteArray.size (⟨#[116]⟩ : ByteArray) + ByteArray.size p1.1.1 ≤ maxStr then
(if ByteArray.size ((⟨#[116]⟩ : ByteArray) ++ p1.1.1) + ByteArray.size x.2.2.1 ≤ maxStr then
((i_MacOf k (x.1, ((((⟨#[116]⟩ : ByteArray) ++ p1.1.1) ++ x.2.2.1), ()))).bind fun p2 =>
(if 0 ≤ (16 : Int) ∧ (16 : Int) ≤ (ByteArray.size p2.1 : Int) then
some ((ByteArray.extract p2.1 (Int.toNat (0 : Int)) (Int.toNat (16 : Int))), ((), ((), ((), ()))))
else none))
else none)
else none))
theorem t_i_macText (k : Nat) (x) : evF TTab k [⟨101, 0, (.cons (.int .i64) .nil), (.tup (.cons .str (.cons .bool .nil))), i_VarText k⟩, ⟨102, 0, (.cons .str (.cons .str .nil)), .str, i_MacOf k⟩] [] Try.f80 (.cons .str (.cons (.int .i64) (.cons .str .nil))) .str x = i_macText k x := by kernel_rfl
theorem e_i_macText (k : Nat) : EntryOk Try.prog ⟨80, 0, (.cons .str (.cons (.int .i64) (.cons .str .nil))), .str, i_macText k⟩ := entry_ok tok (by intro e he; simp only [List.mem_cons, List.not_mem_nil, or_false] at he; rcases he with rfl | rfl <;> first | exact e_i_VarText k | exact e_i_MacOf k) (by kernel_rfl) (fn := Try.f80) (k := k) (es := [⟨101, 0, (.cons (.int .i64) .nil), (.tup (.cons .str (.cons .bool .nil))), i_VarText k⟩, ⟨102, 0, (.cons .str (.cons .str .nil)), .str, i_MacOf k⟩]) (loops := []) (by kernel_rfl) (by kernel_rfl) (fun x r h => (t_i_macText k x).trans h)
def i_LockText (k : Nat) (x : ByteArray × Int × ByteArray × Unit) : Option ((ByteArray × Bool × Unit) × Unit × Unit × Unit × Unit) :=
((i_hidden k (x.1, (x.2.1, (x.2.2.1, ())))).bind fun p1 =>
(if (!p1.1.2.1) = true then
some (((⟨#[]⟩ : ByteArray), (false, ())), ((), ((), ((), ()))))
else
((i_macText k (x.1, (x.2.1, (p1.1.1, ())))).bind fun p2 =>
(if ByteArray.size p1.1.1 + ByteArray.size p2.1 ≤ maxStr then
some (((p1.1.1 ++ p2.1), (true, ())), ((), ((), ((), ()))))
else none))))
theorem t_i_LockText (k : Nat) (x) : evF TTab k [⟨79, 0, (.cons .str (.cons (.int .i64) (.cons .str .nil))), (.tup (.cons .str (.cons .bool .nil))), i_hidden k⟩, ⟨80, 0, (.cons .str (.cons (.int .i64) (.cons .str .nil))), .str, i_macText k⟩] [] Try.f49 (.cons .str (.cons (.int .i64) (.cons .str .nil))) (.tup (.cons .str (.cons .bool .nil))) x = i_LockText k x := by kernel_rfl
theorem e_i_LockText (k : Nat) : EntryOk Try.prog ⟨49, 0, (.cons .str (.cons (.int .i64) (.cons .str .nil))), (.tup (.cons .str (.cons .bool .nil))), i_LockText k⟩ := entry_ok tok (by intro e he; simp only [List.mem_cons, List.not_mem_nil, or_false] at he; rcases he with rfl | rfl <;> first | exact e_i_hidden k | exact e_i_macText k) (by kernel_rfl) (fn := Try.f49) (k := k) (es := [⟨79, 0, (.cons .str (.cons (.int .i64) (.cons .str .nil))), (.tup (.cons .str (.cons .bool .nil))), i_hidden k⟩, ⟨80, 0, (.cons .str (.cons (.int .i64) (.cons .str .nil))), .str, i_macText k⟩]) (loops := []) (by kernel_rfl) (by kernel_rfl) (fun x r h => (t_i_LockText k x).trans h)
def i_SealData (k : Nat) (x : (Int × ByteArray × ByteArray × Int × List (Int) × Int × Int × ByteArray × ByteArray × Int × List (Int) × Int × Unit) × Int × Int × ByteArray × Unit) : Option (((Int × ByteArray × ByteArray × Int × List (Int) × Int × Int × ByteArray × ByteArray × Int × List (Int) × Int × Unit) × (Int × Int × Int × Int × Int × List (Int) × ByteArray × Unit) × Bool × Unit) × Unit × Unit × Unit × Unit × Unit) :=
((i_copySlots k ((x.1.1, (x.1.2.1, (x.1.2.2.1, (x.1.2.2.2.1, (x.1.2.2.2.2.1, (x.1.2.2.2.2.2.1, (x.1.2.2.2.2.2.2.1, (x.1.2.2.2.2.2.2.2.1, (x.1.2.2.2.2.2.2.2.2.1, (x.1.2.2.2.2.2.2.2.2.2.1, (x.1.2.2.2.2.2.2.2.2.2.2.1, (x.1.2.2.2.2.2.2.2.2.2.2.2.1, ())))))))))))), ())).bind fun p1 =>
((i_SlotsOk k ((x.1.1, (x.1.2.1, (x.1.2.2.1, (x.1.2.2.2.1, (x.1.2.2.2.2.1, (x.1.2.2.2.2.2.1, (x.1.2.2.2.2.2.2.1, (x.1.2.2.2.2.2.2.2.1, (x.1.2.2.2.2.2.2.2.2.1, (x.1.2.2.2.2.2.2.2.2.2.1, (x.1.2.2.2.2.2.2.2.2.2.2.1, (x.1.2.2.2.2.2.2.2.2.2.2.2.1, ())))))))))))), ())).bind fun p2 =>
(if (!p2.1) = false then
((i_Spent k ((x.1.1, (x.1.2.1, (x.1.2.2.1, (x.1.2.2.2.1, (x.1.2.2.2.2.1, (x.1.2.2.2.2.2.1, (x.1.2.2.2.2.2.2.1, (x.1.2.2.2.2.2.2.2.1, (x.1.2.2.2.2.2.2.2.2.1, (x.1.2.2.2.2.2.2.2.2.2.1, (x.1.2.2.2.2.2.2.2.2.2.2.1, (x.1.2.2.2.2.2.2.2.2.2.2.2.1, ())))))))))))), ())).bind fun p3 =>
(if p3.1 = false then
((i_isId k (x.2.1, ())).bind fun p4 =>
(if (!p4.1) = false then
((i_isId k (x.2.2.1, ())).bind fun p5 =>
(if (!p5.1) = false then
(if (decide ((104 : Int) < (ByteArray.size x.2.2.2.1 : Int))) = true then
some (((p1.1.1, (p1.1.2.1, (p1.1.2.2.1, (p1.1.2.2.2.1, (p1.1.2.2.2.2.1, (p1.1.2.2.2.2.2.1, (p1.1.2.2.2.2.2.2.1, (p1.1.2.2.2.2.2.2.2.1, (p1.1.2.2.2.2.2.2.2.2.1, (p1.1.2.2.2.2.2.2.2.2.2.1, (p1.1.2.2.2.2.2.2.2.2.2.2.1, (p1.1.2.2.2.2.2.2.2.2.2.2.2.1, ())))))))))))), (((0 : Int), ((0 : Int), ((0 : Int), ((0 : Int), ((0 : Int), ([], ((⟨#[]⟩ : ByteArray), ()))))))), (false, ()))), ((), ((), ((), ((), ())))))
else
((i_LockText k (x.1.2.1, ((wi64 (p1.1.2.2.2.1 + (1 : Int))), (x.2.2.2.1, ())))).bind fun p6 =>
some (((p1.1.1, (p1.1.2.1, (p1.1.2.2.1, ((wi64 (p1.1.2.2.2.1 + (1 : Int))), (p1.1.2.2.2.2.1, (p1.1.2.2.2.2.2.1, (p1.1.2.2.2.2.2.2.1, (p1.1.2.2.2.2.2.2.2.1, (p1.1.2.2.2.2.2.2.2.2.1, (p1.1.2.2.2.2.2.2.2.2.2.1, (p1.1.2.2.2.2.2.2.2.2.2.2.1, (p1.1.2.2.2.2.2.2.2.2.2.2.2.1, ())))))))))))), (((3 : Int), ((Int.tmod x.1.1 (8 : Int)), (x.2.1, (x.2.2.1, ((wi64 (p1.1.2.2.2.1 + (1 : Int))), ([], (p6.1.1, ()))))))), (true, ()))), ((), ((), ((), ((), ())))))))
else
some (((p1.1.1, (p1.1.2.1, (p1.1.2.2.1, (p1.1.2.2.2.1, (p1.1.2.2.2.2.1, (p1.1.2.2.2.2.2.1, (p1.1.2.2.2.2.2.2.1, (p1.1.2.2.2.2.2.2.2.1, (p1.1.2.2.2.2.2.2.2.2.1, (p1.1.2.2.2.2.2.2.2.2.2.1, (p1.1.2.2.2.2.2.2.2.2.2.2.1, (p1.1.2.2.2.2.2.2.2.2.2.2.2.1, ())))))))))))), (((0 : Int), ((0 : Int), ((0 : Int), ((0 : Int), ((0 : Int), ([], ((⟨#[]⟩ : ByteArray), ()))))))), (false, ()))), ((), ((), ((), ((), ())))))))
else
some (((p1.1.1, (p1.1.2.1, (p1.1.2.2.1, (p1.1.2.2.2.1, (p1.1.2.2.2.2.1, (p1.1.2.2.2.2.2.1, (p1.1.2.2.2.2.2.2.1, (p1.1.2.2.2.2.2.2.2.1, (p1.1.2.2.2.2.2.2.2.2.1, (p1.1.2.2.2.2.2.2.2.2.2.1, (p1.1.2.2.2.2.2.2.2.2.2.2.1, (p1.1.2.2.2.2.2.2.2.2.2.2.2.1, ())))))))))))), (((0 : Int), ((0 : Int), ((0 : Int), ((0 : Int), ((0 : Int), ([], ((⟨#[]⟩ : ByteArray), ()))))))), (false, ()))), ((), ((), ((), ((), ())))))))
else
some (((p1.1.1, (p1.1.2.1, (p1.1.2.2.1, (p1.1.2.2.2.1, (p1.1.2.2.2.2.1, (p1.1.2.2.2.2.2.1, (p1.1.2.2.2.2.2.2.1, (p1.1.2.2.2.2.2.2.2.1, (p1.1.2.2.2.2.2.2.2.2.1, (p1.1.2.2.2.2.2.2.2.2.2.1, (p1.1.2.2.2.2.2.2.2.2.2.2.1, (p1.1.2.2.2.2.2.2.2.2.2.2.2.1, ())))))))))))), (((0 : Int), ((0 : Int), ((0 : Int), ((0 : Int), ((0 : Int), ([], ((⟨#[]⟩ : ByteArray), ()))))))), (false, ()))), ((), ((), ((), ((), ())))))))
else
some (((p1.1.1, (p1.1.2.1, (p1.1.2.2.1, (p1.1.2.2.2.1, (p1.1.2.2.2.2.1, (p1.1.2.2.2.2.2.1, (p1.1.2.2.2.2.2.2.1, (p1.1.2.2.2.2.2.2.2.1, (p1.1.2.2.2.2.2.2.2.2.1, (p1.1.2.2.2.2.2.2.2.2.2.1, (p1.1.2.2.2.2.2.2.2.2.2.2.1, (p1.1.2.2.2.2.2.2.2.2.2.2.2.1, ())))))))))))), (((0 : Int), ((0 : Int), ((0 : Int), ((0 : Int), ((0 : Int), ([], ((⟨#[]⟩ : ByteArray), ()))))))), (false, ()))), ((), ((), ((), ((), ()))))))))
theorem t_i_SealData (k : Nat) (x) : evF TTab k [⟨30, 0, (.cons (.agg (.cons (.int .i64) (.cons .str (.cons .str (.cons (.int .i64) (.cons (.il true (.int .i64)) (.cons (.int .i64) (.cons (.int .i64) (.cons .str (.cons .str (.cons (.int .i64) (.cons (.il true (.int .i64)) (.cons (.int .i64) .nil))))))))))))) .nil), .bool, i_SlotsOk k⟩, ⟨32, 0, (.cons (.agg (.cons (.int .i64) (.cons .str (.cons .str (.cons (.int .i64) (.cons (.il true (.int .i64)) (.cons (.int .i64) (.cons (.int .i64) (.cons .str (.cons .str (.cons (.int .i64) (.cons (.il true (.int .i64)) (.cons (.int .i64) .nil))))))))))))) .nil), .bool, i_Spent k⟩, ⟨47, 0, (.cons (.agg (.cons (.int .i64) (.cons .str (.cons .str (.cons (.int .i64) (.cons (.il true (.int .i64)) (.cons (.int .i64) (.cons (.int .i64) (.cons .str (.cons .str (.cons (.int .i64) (.cons (.il true (.int .i64)) (.cons (.int .i64) .nil))))))))))))) .nil), (.agg (.cons (.int .i64) (.cons .str (.cons .str (.cons (.int .i64) (.cons (.own false 3 (.int .i64)) (.cons (.int .i64) (.cons (.int .i64) (.cons .str (.cons .str (.cons (.int .i64) (.cons (.own false 3 (.int .i64)) (.cons (.int .i64) .nil))))))))))))), i_copySlots k⟩, ⟨48, 0, (.cons (.int .i64) .nil), .bool, i_isId k⟩, ⟨49, 0, (.cons .str (.cons (.int .i64) (.cons .str .nil))), (.tup (.cons .str (.cons .bool .nil))), i_LockText k⟩] [] Try.f18 (.cons (.agg (.cons (.int .i64) (.cons .str (.cons .str (.cons (.int .i64) (.cons (.il true (.int .i64)) (.cons (.int .i64) (.cons (.int .i64) (.cons .str (.cons .str (.cons (.int .i64) (.cons (.il true (.int .i64)) (.cons (.int .i64) .nil))))))))))))) (.cons (.int .i64) (.cons (.int .i64) (.cons .str .nil)))) (.tup (.cons (.agg (.cons (.int .i64) (.cons .str (.cons .str (.cons (.int .i64) (.cons (.own false 3 (.int .i64)) (.cons (.int .i64) (.cons (.int .i64) (.cons .str (.cons .str (.cons (.int .i64) (.cons (.own false 3 (.int .i64)) (.cons (.int .i64) .nil))))))))))))) (.cons (.agg (.cons (.int .i64) (.cons (.int .i64) (.cons (.int .i64) (.cons (.int .i64) (.cons (.int .i64) (.cons (.own false 3 (.int .i64)) (.cons .str .nil)))))))) (.cons .bool .nil)))) x = i_SealData k x := by kernel_rfl
theorem e_i_SealData (k : Nat) : EntryOk Try.prog ⟨18, 0, (.cons (.agg (.cons (.int .i64) (.cons .str (.cons .str (.cons (.int .i64) (.cons (.il true (.int .i64)) (.cons (.int .i64) (.cons (.int .i64) (.cons .str (.cons .str (.cons (.int .i64) (.cons (.il true (.int .i64)) (.cons (.int .i64) .nil))))))))))))) (.cons (.int .i64) (.cons (.int .i64) (.cons .str .nil)))), (.tup (.cons (.agg (.cons (.int .i64) (.cons .str (.cons .str (.cons (.int .i64) (.cons (.own false 3 (.int .i64)) (.cons (.int .i64) (.cons (.int .i64) (.cons .str (.cons .str (.cons (.int .i64) (.cons (.own false 3 (.int .i64)) (.cons (.int .i64) .nil))))))))))))) (.cons (.agg (.cons (.int .i64) (.cons (.int .i64) (.cons (.int .i64) (.cons (.int .i64) (.cons (.int .i64) (.cons (.own false 3 (.int .i64)) (.cons .str .nil)))))))) (.cons .bool .nil)))), i_SealData k⟩ := entry_ok tok (by intro e he; simp only [List.mem_cons, List.not_mem_nil, or_false] at he; rcases he with rfl | rfl | rfl | rfl | rfl <;> first | exact e_i_SlotsOk k | exact e_i_Spent k | exact e_i_copySlots k | exact e_i_isId k | exact e_i_LockText k) (by kernel_rfl) (fn := Try.f18) (k := k) (es := [⟨30, 0, (.cons (.agg (.cons (.int .i64) (.cons .str (.cons .str (.cons (.int .i64) (.cons (.il true (.int .i64)) (.cons (.int .i64) (.cons (.int .i64) (.cons .str (.cons .str (.cons (.int .i64) (.cons (.il true (.int .i64)) (.cons (.int .i64) .nil))))))))))))) .nil), .bool, i_SlotsOk k⟩, ⟨32, 0, (.cons (.agg (.cons (.int .i64) (.cons .str (.cons .str (.cons (.int .i64) (.cons (.il true (.int .i64)) (.cons (.int .i64) (.cons (.int .i64) (.cons .str (.cons .str (.cons (.int .i64) (.cons (.il true (.int .i64)) (.cons (.int .i64) .nil))))))))))))) .nil), .bool, i_Spent k⟩, ⟨47, 0, (.cons (.agg (.cons (.int .i64) (.cons .str (.cons .str (.cons (.int .i64) (.cons (.il true (.int .i64)) (.cons (.int .i64) (.cons (.int .i64) (.cons .str (.cons .str (.cons (.int .i64) (.cons (.il true (.int .i64)) (.cons (.int .i64) .nil))))))))))))) .nil), (.agg (.cons (.int .i64) (.cons .str (.cons .str (.cons (.int .i64) (.cons (.own false 3 (.int .i64)) (.cons (.int .i64) (.cons (.int .i64) (.cons .str (.cons .str (.cons (.int .i64) (.cons (.own false 3 (.int .i64)) (.cons (.int .i64) .nil))))))))))))), i_copySlots k⟩, ⟨48, 0, (.cons (.int .i64) .nil), .bool, i_isId k⟩, ⟨49, 0, (.cons .str (.cons (.int .i64) (.cons .str .nil))), (.tup (.cons .str (.cons .bool .nil))), i_LockText k⟩]) (loops := []) (by kernel_rfl) (by kernel_rfl) (fun x r h => (t_i_SealData k x).trans h)
def w_eqPacket (k : Nat) (x : (Int × Int × Int × Int × Int × List (Int) × ByteArray × Unit) × (Int × Int × Int × Int × Int × List (Int) × ByteArray × Unit) × Unit) : Option (Bool × Unit × Unit × Unit) :=
(if (!decide (x.1.1 = x.2.1.1)) = true then
some (false, ((), ((), ())))
else
(if (!decide (x.1.2.1 = x.2.1.2.1)) = true then
some (false, ((), ((), ())))
else
(if (!decide (x.1.2.2.1 = x.2.1.2.2.1)) = true then
some (false, ((), ((), ())))
else
(if (!decide (x.1.2.2.2.1 = x.2.1.2.2.2.1)) = true then
some (false, ((), ((), ())))
else
(if (!decide (x.1.2.2.2.2.1 = x.2.1.2.2.2.2.1)) = true then
some (false, ((), ((), ())))
else
((w_eqIntS k (x.1.2.2.2.2.2.1, (x.2.1.2.2.2.2.2.1, ()))).bind fun p1 =>
(if (!p1.1) = true then
some (false, ((), ((), ())))
else
(if (!decide (x.1.2.2.2.2.2.2.1 = x.2.1.2.2.2.2.2.2.1)) = true then
some (false, ((), ((), ())))
else
some (true, ((), ((), ())))))))))))
theorem t_w_eqPacket (k : Nat) (x) : evF TTab k [⟨50, 0, (.cons (.il true (.int .i64)) (.cons (.il true (.int .i64)) .nil)), .bool, w_eqIntS k⟩] [] Try.f19 (.cons (.agg (.cons (.int .i64) (.cons (.int .i64) (.cons (.int .i64) (.cons (.int .i64) (.cons (.int .i64) (.cons (.il true (.int .i64)) (.cons .str .nil)))))))) (.cons (.agg (.cons (.int .i64) (.cons (.int .i64) (.cons (.int .i64) (.cons (.int .i64) (.cons (.int .i64) (.cons (.il true (.int .i64)) (.cons .str .nil)))))))) .nil)) .bool x = w_eqPacket k x := by kernel_rfl
theorem e_w_eqPacket (k : Nat) : EntryOk Try.prog ⟨19, 0, (.cons (.agg (.cons (.int .i64) (.cons (.int .i64) (.cons (.int .i64) (.cons (.int .i64) (.cons (.int .i64) (.cons (.il true (.int .i64)) (.cons .str .nil)))))))) (.cons (.agg (.cons (.int .i64) (.cons (.int .i64) (.cons (.int .i64) (.cons (.int .i64) (.cons (.int .i64) (.cons (.il true (.int .i64)) (.cons .str .nil)))))))) .nil)), .bool, w_eqPacket k⟩ := entry_ok tok (by intro e he; simp only [List.mem_cons, List.not_mem_nil, or_false] at he; rcases he with rfl <;> first | exact e_w_eqIntS k) (by kernel_rfl) (fn := Try.f19) (k := k) (es := [⟨50, 0, (.cons (.il true (.int .i64)) (.cons (.il true (.int .i64)) .nil)), .bool, w_eqIntS k⟩]) (loops := []) (by kernel_rfl) (by kernel_rfl) (fun x r h => (t_w_eqPacket k x).trans h)
def w_markPacket (k : Nat) (x : (Int × Int × Int × Int × Int × List (Int) × ByteArray × Unit) × Int × Unit) : Option (Int × (Unit × Unit × Unit × Unit × Unit × List (Int) × Unit × Unit) × Unit × Unit) :=
((w_markIntS k (x.1.2.2.2.2.2.1, (x.2.1, ()))).bind fun p1 =>
some (p1.1, (((), ((), ((), ((), ((), (p1.2.1, ((), ()))))))), ((), ()))))
theorem t_w_markPacket (k : Nat) (x) : evF TTab k [⟨51, 0, (.cons (.mut false 3 (.int .i64)) (.cons (.int .i64) .nil)), (.int .i64), w_markIntS k⟩] [] Try.f20 (.cons (.mag (.cons (.int .i64) (.cons (.int .i64) (.cons (.int .i64) (.cons (.int .i64) (.cons (.int .i64) (.cons (.mut false 3 (.int .i64)) (.cons .str .nil)))))))) (.cons (.int .i64) .nil)) (.int .i64) x = w_markPacket k x := by kernel_rfl
theorem e_w_markPacket (k : Nat) : EntryOk Try.prog ⟨20, 0, (.cons (.mag (.cons (.int .i64) (.cons (.int .i64) (.cons (.int .i64) (.cons (.int .i64) (.cons (.int .i64) (.cons (.mut false 3 (.int .i64)) (.cons .str .nil)))))))) (.cons (.int .i64) .nil)), (.int .i64), w_markPacket k⟩ := entry_ok tok (by intro e he; simp only [List.mem_cons, List.not_mem_nil, or_false] at he; rcases he with rfl <;> first | exact e_w_markIntS k) (by kernel_rfl) (fn := Try.f20) (k := k) (es := [⟨51, 0, (.cons (.mut false 3 (.int .i64)) (.cons (.int .i64) .nil)), (.int .i64), w_markIntS k⟩]) (loops := []) (by kernel_rfl) (by kernel_rfl) (fun x r h => (t_w_markPacket k x).trans h)
def w_heldPacket (k : Nat) (x : (Int × Int × Int × Int × Int × List (Int) × ByteArray × Unit) × Int × Unit) : Option (Int × Unit × Unit × Unit) :=
((w_heldIntS k (x.1.2.2.2.2.2.1, (x.2.1, ()))).bind fun p1 =>
(if (decide (p1.1 < (0 : Int))) = true then
some ((-1 : Int), ((), ((), ())))
else
some (p1.1, ((), ((), ())))))
theorem t_w_heldPacket (k : Nat) (x) : evF TTab k [⟨52, 0, (.cons (.il true (.int .i64)) (.cons (.int .i64) .nil)), (.int .i64), w_heldIntS k⟩] [] Try.f21 (.cons (.agg (.cons (.int .i64) (.cons (.int .i64) (.cons (.int .i64) (.cons (.int .i64) (.cons (.int .i64) (.cons (.il true (.int .i64)) (.cons .str .nil)))))))) (.cons (.int .i64) .nil)) (.int .i64) x = w_heldPacket k x := by kernel_rfl
theorem e_w_heldPacket (k : Nat) : EntryOk Try.prog ⟨21, 0, (.cons (.agg (.cons (.int .i64) (.cons (.int .i64) (.cons (.int .i64) (.cons (.int .i64) (.cons (.int .i64) (.cons (.il true (.int .i64)) (.cons .str .nil)))))))) (.cons (.int .i64) .nil)), (.int .i64), w_heldPacket k⟩ := entry_ok tok (by intro e he; simp only [List.mem_cons, List.not_mem_nil, or_false] at he; rcases he with rfl <;> first | exact e_w_heldIntS k) (by kernel_rfl) (fn := Try.f21) (k := k) (es := [⟨52, 0, (.cons (.il true (.int .i64)) (.cons (.int .i64) .nil)), (.int .i64), w_heldIntS k⟩]) (loops := []) (by kernel_rfl) (by kernel_rfl) (fun x r h => (t_w_heldPacket k x).trans h)
def w_FnExactSealData (k : Nat) (x : (Int × ByteArray × ByteArray × Int × List (Int) × Int × Int × ByteArray × ByteArray × Int × List (Int) × Int × Unit) × Int × Int × ByteArray × Unit) : Option (Bool × Unit × Unit × Unit × Unit × Unit) :=
(if (decide ((1048576 : Int) < (ByteArray.size x.2.2.2.1 : Int))) = true then
some (true, ((), ((), ((), ((), ())))))
else
((w_szSlots k ((x.1.1, (x.1.2.1, (x.1.2.2.1, (x.1.2.2.2.1, (x.1.2.2.2.2.1, (x.1.2.2.2.2.2.1, (x.1.2.2.2.2.2.2.1, (x.1.2.2.2.2.2.2.2.1, (x.1.2.2.2.2.2.2.2.2.1, (x.1.2.2.2.2.2.2.2.2.2.1, (x.1.2.2.2.2.2.2.2.2.2.2.1, (x.1.2.2.2.2.2.2.2.2.2.2.2.1, ())))))))))))), ((1048576 : Int), ()))).bind fun p1 =>
(if (decide (p1.1 < (0 : Int))) = true then
some (true, ((), ((), ((), ((), ())))))
else
((w_toSlots k ((x.1.1, (x.1.2.1, (x.1.2.2.1, (x.1.2.2.2.1, (x.1.2.2.2.2.1, (x.1.2.2.2.2.2.1, (x.1.2.2.2.2.2.2.1, (x.1.2.2.2.2.2.2.2.1, (x.1.2.2.2.2.2.2.2.2.1, (x.1.2.2.2.2.2.2.2.2.2.1, (x.1.2.2.2.2.2.2.2.2.2.2.1, (x.1.2.2.2.2.2.2.2.2.2.2.2.1, ())))))))))))), ())).bind fun p2 =>
((s_SealData k ((p2.1.1, (p2.1.2.1, (p2.1.2.2.1, (p2.1.2.2.2.1, (p2.1.2.2.2.2.1, (p2.1.2.2.2.2.2.1, (p2.1.2.2.2.2.2.2.1, (p2.1.2.2.2.2.2.2.2.1, (p2.1.2.2.2.2.2.2.2.2.1, (p2.1.2.2.2.2.2.2.2.2.2.1, (p2.1.2.2.2.2.2.2.2.2.2.2.1, (p2.1.2.2.2.2.2.2.2.2.2.2.2.1, ())))))))))))), (x.2.1, (x.2.2.1, (x.2.2.2.1, ()))))).bind fun p3 =>
((w_toSlots k ((x.1.1, (x.1.2.1, (x.1.2.2.1, (x.1.2.2.2.1, (x.1.2.2.2.2.1, (x.1.2.2.2.2.2.1, (x.1.2.2.2.2.2.2.1, (x.1.2.2.2.2.2.2.2.1, (x.1.2.2.2.2.2.2.2.2.1, (x.1.2.2.2.2.2.2.2.2.2.1, (x.1.2.2.2.2.2.2.2.2.2.2.1, (x.1.2.2.2.2.2.2.2.2.2.2.2.1, ())))))))))))), ())).bind fun p4 =>
((i_SealData k ((p4.1.1, (p4.1.2.1, (p4.1.2.2.1, (p4.1.2.2.2.1, (p4.1.2.2.2.2.1, (p4.1.2.2.2.2.2.1, (p4.1.2.2.2.2.2.2.1, (p4.1.2.2.2.2.2.2.2.1, (p4.1.2.2.2.2.2.2.2.2.1, (p4.1.2.2.2.2.2.2.2.2.2.1, (p4.1.2.2.2.2.2.2.2.2.2.2.1, (p4.1.2.2.2.2.2.2.2.2.2.2.2.1, ())))))))))))), (x.2.1, (x.2.2.1, (x.2.2.2.1, ()))))).bind fun p5 =>
((w_eqSlots k ((p5.1.1.1, (p5.1.1.2.1, (p5.1.1.2.2.1, (p5.1.1.2.2.2.1, (p5.1.1.2.2.2.2.1, (p5.1.1.2.2.2.2.2.1, (p5.1.1.2.2.2.2.2.2.1, (p5.1.1.2.2.2.2.2.2.2.1, (p5.1.1.2.2.2.2.2.2.2.2.1, (p5.1.1.2.2.2.2.2.2.2.2.2.1, (p5.1.1.2.2.2.2.2.2.2.2.2.2.1, (p5.1.1.2.2.2.2.2.2.2.2.2.2.2.1, ())))))))))))), ((p3.1.1.1, (p3.1.1.2.1, (p3.1.1.2.2.1, (p3.1.1.2.2.2.1, (p3.1.1.2.2.2.2.1, (p3.1.1.2.2.2.2.2.1, (p3.1.1.2.2.2.2.2.2.1, (p3.1.1.2.2.2.2.2.2.2.1, (p3.1.1.2.2.2.2.2.2.2.2.1, (p3.1.1.2.2.2.2.2.2.2.2.2.1, (p3.1.1.2.2.2.2.2.2.2.2.2.2.1, (p3.1.1.2.2.2.2.2.2.2.2.2.2.2.1, ())))))))))))), ()))).bind fun p6 =>
(if (!p6.1) = false then
((w_eqPacket k ((p5.1.2.1.1, (p5.1.2.1.2.1, (p5.1.2.1.2.2.1, (p5.1.2.1.2.2.2.1, (p5.1.2.1.2.2.2.2.1, (p5.1.2.1.2.2.2.2.2.1, (p5.1.2.1.2.2.2.2.2.2.1, ()))))))), ((p3.1.2.1.1, (p3.1.2.1.2.1, (p3.1.2.1.2.2.1, (p3.1.2.1.2.2.2.1, (p3.1.2.1.2.2.2.2.1, (p3.1.2.1.2.2.2.2.2.1, (p3.1.2.1.2.2.2.2.2.2.1, ()))))))), ()))).bind fun p7 =>
(if (!p7.1) = false then
(if (!decide (p5.1.2.2.1 = p3.1.2.2.1)) = true then
some (false, ((), ((), ((), ((), ())))))
else
((w_toSlots k ((x.1.1, (x.1.2.1, (x.1.2.2.1, (x.1.2.2.2.1, (x.1.2.2.2.2.1, (x.1.2.2.2.2.2.1, (x.1.2.2.2.2.2.2.1, (x.1.2.2.2.2.2.2.2.1, (x.1.2.2.2.2.2.2.2.2.1, (x.1.2.2.2.2.2.2.2.2.2.1, (x.1.2.2.2.2.2.2.2.2.2.2.1, (x.1.2.2.2.2.2.2.2.2.2.2.2.1, ())))))))))))), ())).bind fun p8 =>
((w_eqSlots k ((p4.1.1, (p4.1.2.1, (p4.1.2.2.1, (p4.1.2.2.2.1, (p4.1.2.2.2.2.1, (p4.1.2.2.2.2.2.1, (p4.1.2.2.2.2.2.2.1, (p4.1.2.2.2.2.2.2.2.1, (p4.1.2.2.2.2.2.2.2.2.1, (p4.1.2.2.2.2.2.2.2.2.2.1, (p4.1.2.2.2.2.2.2.2.2.2.2.1, (p4.1.2.2.2.2.2.2.2.2.2.2.2.1, ())))))))))))), ((p8.1.1, (p8.1.2.1, (p8.1.2.2.1, (p8.1.2.2.2.1, (p8.1.2.2.2.2.1, (p8.1.2.2.2.2.2.1, (p8.1.2.2.2.2.2.2.1, (p8.1.2.2.2.2.2.2.2.1, (p8.1.2.2.2.2.2.2.2.2.1, (p8.1.2.2.2.2.2.2.2.2.2.1, (p8.1.2.2.2.2.2.2.2.2.2.2.1, (p8.1.2.2.2.2.2.2.2.2.2.2.2.1, ())))))))))))), ()))).bind fun p9 =>
(if (!p9.1) = true then
some (false, ((), ((), ((), ((), ())))))
else
((w_markSlots k ((p4.1.1, (p4.1.2.1, (p4.1.2.2.1, (p4.1.2.2.2.1, (p4.1.2.2.2.2.1, (p4.1.2.2.2.2.2.1, (p4.1.2.2.2.2.2.2.1, (p4.1.2.2.2.2.2.2.2.1, (p4.1.2.2.2.2.2.2.2.2.1, (p4.1.2.2.2.2.2.2.2.2.2.1, (p4.1.2.2.2.2.2.2.2.2.2.2.1, (p4.1.2.2.2.2.2.2.2.2.2.2.2.1, ())))))))))))), ((1 : Int), ()))).bind fun p10 =>
(if (decide (p10.1 < (0 : Int))) = false then
((w_eqSlots k ((p5.1.1.1, (p5.1.1.2.1, (p5.1.1.2.2.1, (p5.1.1.2.2.2.1, (p5.1.1.2.2.2.2.1, (p5.1.1.2.2.2.2.2.1, (p5.1.1.2.2.2.2.2.2.1, (p5.1.1.2.2.2.2.2.2.2.1, (p5.1.1.2.2.2.2.2.2.2.2.1, (p5.1.1.2.2.2.2.2.2.2.2.2.1, (p5.1.1.2.2.2.2.2.2.2.2.2.2.1, (p5.1.1.2.2.2.2.2.2.2.2.2.2.2.1, ())))))))))))), ((p3.1.1.1, (p3.1.1.2.1, (p3.1.1.2.2.1, (p3.1.1.2.2.2.1, (p3.1.1.2.2.2.2.1, (p3.1.1.2.2.2.2.2.1, (p3.1.1.2.2.2.2.2.2.1, (p3.1.1.2.2.2.2.2.2.2.1, (p3.1.1.2.2.2.2.2.2.2.2.1, (p3.1.1.2.2.2.2.2.2.2.2.2.1, (p3.1.1.2.2.2.2.2.2.2.2.2.2.1, (p3.1.1.2.2.2.2.2.2.2.2.2.2.2.1, ())))))))))))), ()))).bind fun p11 =>
(if (!p11.1) = false then
((w_eqPacket k ((p5.1.2.1.1, (p5.1.2.1.2.1, (p5.1.2.1.2.2.1, (p5.1.2.1.2.2.2.1, (p5.1.2.1.2.2.2.2.1, (p5.1.2.1.2.2.2.2.2.1, (p5.1.2.1.2.2.2.2.2.2.1, ()))))))), ((p3.1.2.1.1, (p3.1.2.1.2.1, (p3.1.2.1.2.2.1, (p3.1.2.1.2.2.2.1, (p3.1.2.1.2.2.2.2.1, (p3.1.2.1.2.2.2.2.2.1, (p3.1.2.1.2.2.2.2.2.2.1, ()))))))), ()))).bind fun p12 =>
(if (!p12.1) = false then
(if (!decide (p5.1.2.2.1 = p3.1.2.2.1)) = true then
some (false, ((), ((), ((), ((), ())))))
else
((w_markSlots k ((p5.1.1.1, (p5.1.1.2.1, (p5.1.1.2.2.1, (p5.1.1.2.2.2.1, (p5.1.1.2.2.2.2.1, (p5.1.1.2.2.2.2.2.1, (p5.1.1.2.2.2.2.2.2.1, (p5.1.1.2.2.2.2.2.2.2.1, (p5.1.1.2.2.2.2.2.2.2.2.1, (p5.1.1.2.2.2.2.2.2.2.2.2.1, (p5.1.1.2.2.2.2.2.2.2.2.2.2.1, (p5.1.1.2.2.2.2.2.2.2.2.2.2.2.1, ())))))))))))), ((1 : Int), ()))).bind fun p13 =>
((w_markPacket k ((p5.1.2.1.1, (p5.1.2.1.2.1, (p5.1.2.1.2.2.1, (p5.1.2.1.2.2.2.1, (p5.1.2.1.2.2.2.2.1, (p5.1.2.1.2.2.2.2.2.1, (p5.1.2.1.2.2.2.2.2.2.1, ()))))))), (p13.1, ()))).bind fun p14 =>
((w_heldSlots k ((p5.1.1.1, (p5.1.1.2.1, (p5.1.1.2.2.1, (p5.1.1.2.2.2.1, (p13.2.1.2.2.2.2.1, (p5.1.1.2.2.2.2.2.1, (p5.1.1.2.2.2.2.2.2.1, (p5.1.1.2.2.2.2.2.2.2.1, (p5.1.1.2.2.2.2.2.2.2.2.1, (p5.1.1.2.2.2.2.2.2.2.2.2.1, (p13.2.1.2.2.2.2.2.2.2.2.2.2.1, (p5.1.1.2.2.2.2.2.2.2.2.2.2.2.1, ())))))))))))), ((1 : Int), ()))).bind fun p15 =>
(if (decide (p15.1 < (0 : Int))) = true then
some (false, ((), ((), ((), ((), ())))))
else
((w_heldPacket k ((p5.1.2.1.1, (p5.1.2.1.2.1, (p5.1.2.1.2.2.1, (p5.1.2.1.2.2.2.1, (p5.1.2.1.2.2.2.2.1, (p14.2.1.2.2.2.2.2.1, (p5.1.2.1.2.2.2.2.2.2.1, ()))))))), (p15.1, ()))).bind fun p16 =>
(if (decide (p16.1 < (0 : Int))) = true then
some (false, ((), ((), ((), ((), ())))))
else
(if (!decide (p16.1 = p14.1)) = true then
some (false, ((), ((), ((), ((), ())))))
else
((w_toSlots k ((x.1.1, (x.1.2.1, (x.1.2.2.1, (x.1.2.2.2.1, (x.1.2.2.2.2.1, (x.1.2.2.2.2.2.1, (x.1.2.2.2.2.2.2.1, (x.1.2.2.2.2.2.2.2.1, (x.1.2.2.2.2.2.2.2.2.1, (x.1.2.2.2.2.2.2.2.2.2.1, (x.1.2.2.2.2.2.2.2.2.2.2.1, (x.1.2.2.2.2.2.2.2.2.2.2.2.1, ())))))))))))), ())).bind fun p17 =>
((i_SealData k ((p17.1.1, (p17.1.2.1, (p17.1.2.2.1, (p17.1.2.2.2.1, (p17.1.2.2.2.2.1, (p17.1.2.2.2.2.2.1, (p17.1.2.2.2.2.2.2.1, (p17.1.2.2.2.2.2.2.2.1, (p17.1.2.2.2.2.2.2.2.2.1, (p17.1.2.2.2.2.2.2.2.2.2.1, (p17.1.2.2.2.2.2.2.2.2.2.2.1, (p17.1.2.2.2.2.2.2.2.2.2.2.2.1, ())))))))))))), (x.2.1, (x.2.2.1, (x.2.2.2.1, ()))))).bind fun p18 =>
((w_eqSlots k ((p18.1.1.1, (p18.1.1.2.1, (p18.1.1.2.2.1, (p18.1.1.2.2.2.1, (p18.1.1.2.2.2.2.1, (p18.1.1.2.2.2.2.2.1, (p18.1.1.2.2.2.2.2.2.1, (p18.1.1.2.2.2.2.2.2.2.1, (p18.1.1.2.2.2.2.2.2.2.2.1, (p18.1.1.2.2.2.2.2.2.2.2.2.1, (p18.1.1.2.2.2.2.2.2.2.2.2.2.1, (p18.1.1.2.2.2.2.2.2.2.2.2.2.2.1, ())))))))))))), ((p3.1.1.1, (p3.1.1.2.1, (p3.1.1.2.2.1, (p3.1.1.2.2.2.1, (p3.1.1.2.2.2.2.1, (p3.1.1.2.2.2.2.2.1, (p3.1.1.2.2.2.2.2.2.1, (p3.1.1.2.2.2.2.2.2.2.1, (p3.1.1.2.2.2.2.2.2.2.2.1, (p3.1.1.2.2.2.2.2.2.2.2.2.1, (p3.1.1.2.2.2.2.2.2.2.2.2.2.1, (p3.1.1.2.2.2.2.2.2.2.2.2.2.2.1, ())))))))))))), ()))).bind fun p19 =>
(if (!p19.1) = false then
((w_eqPacket k ((p18.1.2.1.1, (p18.1.2.1.2.1, (p18.1.2.1.2.2.1, (p18.1.2.1.2.2.2.1, (p18.1.2.1.2.2.2.2.1, (p18.1.2.1.2.2.2.2.2.1, (p18.1.2.1.2.2.2.2.2.2.1, ()))))))), ((p3.1.2.1.1, (p3.1.2.1.2.1, (p3.1.2.1.2.2.1, (p3.1.2.1.2.2.2.1, (p3.1.2.1.2.2.2.2.1, (p3.1.2.1.2.2.2.2.2.1, (p3.1.2.1.2.2.2.2.2.2.1, ()))))))), ()))).bind fun p20 =>
(if (!p20.1) = false then
(if (!decide (p18.1.2.2.1 = p3.1.2.2.1)) = true then
some (false, ((), ((), ((), ((), ())))))
else
((w_heldSlots k ((p5.1.1.1, (p5.1.1.2.1, (p5.1.1.2.2.1, (p5.1.1.2.2.2.1, (p13.2.1.2.2.2.2.1, (p5.1.1.2.2.2.2.2.1, (p5.1.1.2.2.2.2.2.2.1, (p5.1.1.2.2.2.2.2.2.2.1, (p5.1.1.2.2.2.2.2.2.2.2.1, (p5.1.1.2.2.2.2.2.2.2.2.2.1, (p13.2.1.2.2.2.2.2.2.2.2.2.2.1, (p5.1.1.2.2.2.2.2.2.2.2.2.2.2.1, ())))))))))))), ((1 : Int), ()))).bind fun p21 =>
(if (decide (p21.1 < (0 : Int))) = true then
some (false, ((), ((), ((), ((), ())))))
else
((w_heldPacket k ((p5.1.2.1.1, (p5.1.2.1.2.1, (p5.1.2.1.2.2.1, (p5.1.2.1.2.2.2.1, (p5.1.2.1.2.2.2.2.1, (p14.2.1.2.2.2.2.2.1, (p5.1.2.1.2.2.2.2.2.2.1, ()))))))), (p21.1, ()))).bind fun p22 =>
(if (decide (p22.1 < (0 : Int))) = true then
some (false, ((), ((), ((), ((), ())))))
else
(if (!decide (p22.1 = p14.1)) = true then
some (false, ((), ((), ((), ((), ())))))
else
some (true, ((), ((), ((), ((), ())))))))))))
else
some (false, ((), ((), ((), ((), ())))))))
else
some (false, ((), ((), ((), ((), ())))))))))))))))))
else
some (false, ((), ((), ((), ((), ())))))))
else
some (false, ((), ((), ((), ((), ())))))))
else
some (false, ((), ((), ((), ((), ())))))))))))
else
some (false, ((), ((), ((), ((), ())))))))
else
some (false, ((), ((), ((), ((), ()))))))))))))))
theorem t_w_FnExactSealData (k : Nat) (x) : evF TTab k [⟨10, 0, (.cons (.agg (.cons (.int .i64) (.cons .str (.cons .str (.cons (.int .i64) (.cons (.il true (.int .i64)) (.cons (.int .i64) (.cons (.int .i64) (.cons .str (.cons .str (.cons (.int .i64) (.cons (.il true (.int .i64)) (.cons (.int .i64) .nil))))))))))))) (.cons (.agg (.cons (.int .i64) (.cons .str (.cons .str (.cons (.int .i64) (.cons (.il true (.int .i64)) (.cons (.int .i64) (.cons (.int .i64) (.cons .str (.cons .str (.cons (.int .i64) (.cons (.il true (.int .i64)) (.cons (.int .i64) .nil))))))))))))) .nil)), .bool, w_eqSlots k⟩, ⟨11, 0, (.cons (.mag (.cons (.int .i64) (.cons .str (.cons .str (.cons (.int .i64) (.cons (.mut false 3 (.int .i64)) (.cons (.int .i64) (.cons (.int .i64) (.cons .str (.cons .str (.cons (.int .i64) (.cons (.mut false 3 (.int .i64)) (.cons (.int .i64) .nil))))))))))))) (.cons (.int .i64) .nil)), (.int .i64), w_markSlots k⟩, ⟨12, 0, (.cons (.agg (.cons (.int .i64) (.cons .str (.cons .str (.cons (.int .i64) (.cons (.il true (.int .i64)) (.cons (.int .i64) (.cons (.int .i64) (.cons .str (.cons .str (.cons (.int .i64) (.cons (.il true (.int .i64)) (.cons (.int .i64) .nil))))))))))))) (.cons (.int .i64) .nil)), (.int .i64), w_heldSlots k⟩, ⟨13, 0, (.cons (.agg (.cons (.int .i64) (.cons .str (.cons .str (.cons (.int .i64) (.cons (.il true (.int .i64)) (.cons (.int .i64) (.cons (.int .i64) (.cons .str (.cons .str (.cons (.int .i64) (.cons (.il true (.int .i64)) (.cons (.int .i64) .nil))))))))))))) (.cons (.int .i64) .nil)), (.int .i64), w_szSlots k⟩, ⟨15, 0, (.cons (.agg (.cons (.int .i64) (.cons .str (.cons .str (.cons (.int .i64) (.cons (.il true (.int .i64)) (.cons (.int .i64) (.cons (.int .i64) (.cons .str (.cons .str (.cons (.int .i64) (.cons (.il true (.int .i64)) (.cons (.int .i64) .nil))))))))))))) .nil), (.agg (.cons (.int .i64) (.cons .str (.cons .str (.cons (.int .i64) (.cons (.own false 3 (.int .i64)) (.cons (.int .i64) (.cons (.int .i64) (.cons .str (.cons .str (.cons (.int .i64) (.cons (.own false 3 (.int .i64)) (.cons (.int .i64) .nil))))))))))))), w_toSlots k⟩, ⟨17, 0, (.cons (.agg (.cons (.int .i64) (.cons .str (.cons .str (.cons (.int .i64) (.cons (.il true (.int .i64)) (.cons (.int .i64) (.cons (.int .i64) (.cons .str (.cons .str (.cons (.int .i64) (.cons (.il true (.int .i64)) (.cons (.int .i64) .nil))))))))))))) (.cons (.int .i64) (.cons (.int .i64) (.cons .str .nil)))), (.tup (.cons (.agg (.cons (.int .i64) (.cons .str (.cons .str (.cons (.int .i64) (.cons (.own false 3 (.int .i64)) (.cons (.int .i64) (.cons (.int .i64) (.cons .str (.cons .str (.cons (.int .i64) (.cons (.own false 3 (.int .i64)) (.cons (.int .i64) .nil))))))))))))) (.cons (.agg (.cons (.int .i64) (.cons (.int .i64) (.cons (.int .i64) (.cons (.int .i64) (.cons (.int .i64) (.cons (.own false 3 (.int .i64)) (.cons .str .nil)))))))) (.cons .bool .nil)))), s_SealData k⟩, ⟨18, 0, (.cons (.agg (.cons (.int .i64) (.cons .str (.cons .str (.cons (.int .i64) (.cons (.il true (.int .i64)) (.cons (.int .i64) (.cons (.int .i64) (.cons .str (.cons .str (.cons (.int .i64) (.cons (.il true (.int .i64)) (.cons (.int .i64) .nil))))))))))))) (.cons (.int .i64) (.cons (.int .i64) (.cons .str .nil)))), (.tup (.cons (.agg (.cons (.int .i64) (.cons .str (.cons .str (.cons (.int .i64) (.cons (.own false 3 (.int .i64)) (.cons (.int .i64) (.cons (.int .i64) (.cons .str (.cons .str (.cons (.int .i64) (.cons (.own false 3 (.int .i64)) (.cons (.int .i64) .nil))))))))))))) (.cons (.agg (.cons (.int .i64) (.cons (.int .i64) (.cons (.int .i64) (.cons (.int .i64) (.cons (.int .i64) (.cons (.own false 3 (.int .i64)) (.cons .str .nil)))))))) (.cons .bool .nil)))), i_SealData k⟩, ⟨19, 0, (.cons (.agg (.cons (.int .i64) (.cons (.int .i64) (.cons (.int .i64) (.cons (.int .i64) (.cons (.int .i64) (.cons (.il true (.int .i64)) (.cons .str .nil)))))))) (.cons (.agg (.cons (.int .i64) (.cons (.int .i64) (.cons (.int .i64) (.cons (.int .i64) (.cons (.int .i64) (.cons (.il true (.int .i64)) (.cons .str .nil)))))))) .nil)), .bool, w_eqPacket k⟩, ⟨20, 0, (.cons (.mag (.cons (.int .i64) (.cons (.int .i64) (.cons (.int .i64) (.cons (.int .i64) (.cons (.int .i64) (.cons (.mut false 3 (.int .i64)) (.cons .str .nil)))))))) (.cons (.int .i64) .nil)), (.int .i64), w_markPacket k⟩, ⟨21, 0, (.cons (.agg (.cons (.int .i64) (.cons (.int .i64) (.cons (.int .i64) (.cons (.int .i64) (.cons (.int .i64) (.cons (.il true (.int .i64)) (.cons .str .nil)))))))) (.cons (.int .i64) .nil)), (.int .i64), w_heldPacket k⟩] [] Try.f5 (.cons (.agg (.cons (.int .i64) (.cons .str (.cons .str (.cons (.int .i64) (.cons (.il true (.int .i64)) (.cons (.int .i64) (.cons (.int .i64) (.cons .str (.cons .str (.cons (.int .i64) (.cons (.il true (.int .i64)) (.cons (.int .i64) .nil))))))))))))) (.cons (.int .i64) (.cons (.int .i64) (.cons .str .nil)))) .bool x = w_FnExactSealData k x := by kernel_rfl
theorem e_w_FnExactSealData (k : Nat) : EntryOk Try.prog ⟨5, 0, (.cons (.agg (.cons (.int .i64) (.cons .str (.cons .str (.cons (.int .i64) (.cons (.il true (.int .i64)) (.cons (.int .i64) (.cons (.int .i64) (.cons .str (.cons .str (.cons (.int .i64) (.cons (.il true (.int .i64)) (.cons (.int .i64) .nil))))))))))))) (.cons (.int .i64) (.cons (.int .i64) (.cons .str .nil)))), .bool, w_FnExactSealData k⟩ := entry_ok tok (by intro e he; simp only [List.mem_cons, List.not_mem_nil, or_false] at he; rcases he with rfl | rfl | rfl | rfl | rfl | rfl | rfl | rfl | rfl | rfl <;> first | exact e_w_eqSlots k | exact e_w_markSlots k | exact e_w_heldSlots k | exact e_w_szSlots k | exact e_w_toSlots k | exact e_s_SealData k | exact e_i_SealData k | exact e_w_eqPacket k | exact e_w_markPacket k | exact e_w_heldPacket k) (by kernel_rfl) (fn := Try.f5) (k := k) (es := [⟨10, 0, (.cons (.agg (.cons (.int .i64) (.cons .str (.cons .str (.cons (.int .i64) (.cons (.il true (.int .i64)) (.cons (.int .i64) (.cons (.int .i64) (.cons .str (.cons .str (.cons (.int .i64) (.cons (.il true (.int .i64)) (.cons (.int .i64) .nil))))))))))))) (.cons (.agg (.cons (.int .i64) (.cons .str (.cons .str (.cons (.int .i64) (.cons (.il true (.int .i64)) (.cons (.int .i64) (.cons (.int .i64) (.cons .str (.cons .str (.cons (.int .i64) (.cons (.il true (.int .i64)) (.cons (.int .i64) .nil))))))))))))) .nil)), .bool, w_eqSlots k⟩, ⟨11, 0, (.cons (.mag (.cons (.int .i64) (.cons .str (.cons .str (.cons (.int .i64) (.cons (.mut false 3 (.int .i64)) (.cons (.int .i64) (.cons (.int .i64) (.cons .str (.cons .str (.cons (.int .i64) (.cons (.mut false 3 (.int .i64)) (.cons (.int .i64) .nil))))))))))))) (.cons (.int .i64) .nil)), (.int .i64), w_markSlots k⟩, ⟨12, 0, (.cons (.agg (.cons (.int .i64) (.cons .str (.cons .str (.cons (.int .i64) (.cons (.il true (.int .i64)) (.cons (.int .i64) (.cons (.int .i64) (.cons .str (.cons .str (.cons (.int .i64) (.cons (.il true (.int .i64)) (.cons (.int .i64) .nil))))))))))))) (.cons (.int .i64) .nil)), (.int .i64), w_heldSlots k⟩, ⟨13, 0, (.cons (.agg (.cons (.int .i64) (.cons .str (.cons .str (.cons (.int .i64) (.cons (.il true (.int .i64)) (.cons (.int .i64) (.cons (.int .i64) (.cons .str (.cons .str (.cons (.int .i64) (.cons (.il true (.int .i64)) (.cons (.int .i64) .nil))))))))))))) (.cons (.int .i64) .nil)), (.int .i64), w_szSlots k⟩, ⟨15, 0, (.cons (.agg (.cons (.int .i64) (.cons .str (.cons .str (.cons (.int .i64) (.cons (.il true (.int .i64)) (.cons (.int .i64) (.cons (.int .i64) (.cons .str (.cons .str (.cons (.int .i64) (.cons (.il true (.int .i64)) (.cons (.int .i64) .nil))))))))))))) .nil), (.agg (.cons (.int .i64) (.cons .str (.cons .str (.cons (.int .i64) (.cons (.own false 3 (.int .i64)) (.cons (.int .i64) (.cons (.int .i64) (.cons .str (.cons .str (.cons (.int .i64) (.cons (.own false 3 (.int .i64)) (.cons (.int .i64) .nil))))))))))))), w_toSlots k⟩, ⟨17, 0, (.cons (.agg (.cons (.int .i64) (.cons .str (.cons .str (.cons (.int .i64) (.cons (.il true (.int .i64)) (.cons (.int .i64) (.cons (.int .i64) (.cons .str (.cons .str (.cons (.int .i64) (.cons (.il true (.int .i64)) (.cons (.int .i64) .nil))))))))))))) (.cons (.int .i64) (.cons (.int .i64) (.cons .str .nil)))), (.tup (.cons (.agg (.cons (.int .i64) (.cons .str (.cons .str (.cons (.int .i64) (.cons (.own false 3 (.int .i64)) (.cons (.int .i64) (.cons (.int .i64) (.cons .str (.cons .str (.cons (.int .i64) (.cons (.own false 3 (.int .i64)) (.cons (.int .i64) .nil))))))))))))) (.cons (.agg (.cons (.int .i64) (.cons (.int .i64) (.cons (.int .i64) (.cons (.int .i64) (.cons (.int .i64) (.cons (.own false 3 (.int .i64)) (.cons .str .nil)))))))) (.cons .bool .nil)))), s_SealData k⟩, ⟨18, 0, (.cons (.agg (.cons (.int .i64) (.cons .str (.cons .str (.cons (.int .i64) (.cons (.il true (.int .i64)) (.cons (.int .i64) (.cons (.int .i64) (.cons .str (.cons .str (.cons (.int .i64) (.cons (.il true (.int .i64)) (.cons (.int .i64) .nil))))))))))))) (.cons (.int .i64) (.cons (.int .i64) (.cons .str .nil)))), (.tup (.cons (.agg (.cons (.int .i64) (.cons .str (.cons .str (.cons (.int .i64) (.cons (.own false 3 (.int .i64)) (.cons (.int .i64) (.cons (.int .i64) (.cons .str (.cons .str (.cons (.int .i64) (.cons (.own false 3 (.int .i64)) (.cons (.int .i64) .nil))))))))))))) (.cons (.agg (.cons (.int .i64) (.cons (.int .i64) (.cons (.int .i64) (.cons (.int .i64) (.cons (.int .i64) (.cons (.own false 3 (.int .i64)) (.cons .str .nil)))))))) (.cons .bool .nil)))), i_SealData k⟩, ⟨19, 0, (.cons (.agg (.cons (.int .i64) (.cons (.int .i64) (.cons (.int .i64) (.cons (.int .i64) (.cons (.int .i64) (.cons (.il true (.int .i64)) (.cons .str .nil)))))))) (.cons (.agg (.cons (.int .i64) (.cons (.int .i64) (.cons (.int .i64) (.cons (.int .i64) (.cons (.int .i64) (.cons (.il true (.int .i64)) (.cons .str .nil)))))))) .nil)), .bool, w_eqPacket k⟩, ⟨20, 0, (.cons (.mag (.cons (.int .i64) (.cons (.int .i64) (.cons (.int .i64) (.cons (.int .i64) (.cons (.int .i64) (.cons (.mut false 3 (.int .i64)) (.cons .str .nil)))))))) (.cons (.int .i64) .nil)), (.int .i64), w_markPacket k⟩, ⟨21, 0, (.cons (.agg (.cons (.int .i64) (.cons (.int .i64) (.cons (.int .i64) (.cons (.int .i64) (.cons (.int .i64) (.cons (.il true (.int .i64)) (.cons .str .nil)))))))) (.cons (.int .i64) .nil)), (.int .i64), w_heldPacket k⟩]) (loops := []) (by kernel_rfl) (by kernel_rfl) (fun x r h => (t_w_FnExactSealData k x).trans h)
def w_big (k : Nat) (x : List (Int) × Unit) : Option (Bool × Unit × Unit) :=
some ((decide ((1048576 : Int) < (List.length x.1 : Int))), ((), ()))
theorem t_w_big (k : Nat) (x) : evF TTab k [] [] Try.f22 (.cons (.il true (.int .u8)) .nil) .bool x = w_big k x := by kernel_rfl
theorem e_w_big (k : Nat) : EntryOk Try.prog ⟨22, 0, (.cons (.il true (.int .u8)) .nil), .bool, w_big k⟩ := entry_ok tok (by simp) (by kernel_rfl) (fn := Try.f22) (k := k) (es := []) (loops := []) (by kernel_rfl) (by kernel_rfl) (fun x r h => (t_w_big k x).trans h)
def s_l01Byte (k : Nat) (x : (List (Int) × Int × Int × Unit) × Unit) : Option (Int × (List (Int) × Int × Int × Unit) × Unit) :=
(if (decide (x.1.2.1 < (List.length x.1.1 : Int))) = true then
(if 0 ≤ x.1.2.1 ∧ x.1.2.1 < (List.length x.1.1 : Int) then
some ((bitsI .and .i64 (wi64 ((bitsI .and .i64 (bitsI .xor .i64 (Int.fdiv (wi64 ((wi64 (x.1.2.2.1 * (6364136223846793005 : Int))) + (1442695040888963407 : Int))) (2 ^ (min (Int.toNat (33 : Int)) (IntKind.bits .i64)))) (Int.fdiv (wi64 ((wi64 (x.1.2.2.1 * (6364136223846793005 : Int))) + (1442695040888963407 : Int))) (2 ^ (min (Int.toNat (45 : Int)) (IntKind.bits .i64))))) (255 : Int)) + (wi64 ((Ty.rd (t := (.int .u8)) x.1.1 x.1.2.1))))) (255 : Int)), ((x.1.1, ((wi64 (x.1.2.1 + (1 : Int))), ((wi64 ((wi64 (x.1.2.2.1 * (6364136223846793005 : Int))) + (1442695040888963407 : Int))), ()))), ()))
else none)
else
some ((bitsI .and .i64 (bitsI .xor .i64 (Int.fdiv (wi64 ((wi64 (x.1.2.2.1 * (6364136223846793005 : Int))) + (1442695040888963407 : Int))) (2 ^ (min (Int.toNat (33 : Int)) (IntKind.bits .i64)))) (Int.fdiv (wi64 ((wi64 (x.1.2.2.1 * (6364136223846793005 : Int))) + (1442695040888963407 : Int))) (2 ^ (min (Int.toNat (45 : Int)) (IntKind.bits .i64))))) (255 : Int)), ((x.1.1, (x.1.2.1, ((wi64 ((wi64 (x.1.2.2.1 * (6364136223846793005 : Int))) + (1442695040888963407 : Int))), ()))), ())))
theorem t_s_l01Byte (k : Nat) (x) : evF TTab k [] [] Try.f55 (.cons (.ptr 0 (.cons (.il true (.int .u8)) (.cons (.int .i64) (.cons (.int .i64) .nil)))) .nil) (.int .i64) x = s_l01Byte k x := by kernel_rfl
theorem e_s_l01Byte (k : Nat) : EntryOk Try.prog ⟨55, 0, (.cons (.ptr 0 (.cons (.il true (.int .u8)) (.cons (.int .i64) (.cons (.int .i64) .nil)))) .nil), (.int .i64), s_l01Byte k⟩ := entry_ok tok (by simp) (by kernel_rfl) (fn := Try.f55) (k := k) (es := []) (loops := []) (by kernel_rfl) (by kernel_rfl) (fun x r h => (t_s_l01Byte k x).trans h)
def s_l01Below (k : Nat) (x : (List (Int) × Int × Int × Unit) × Int × Unit) : Option (Int × (List (Int) × Int × Int × Unit) × Unit × Unit) :=
(if (decide (x.2.1 ≤ (0 : Int))) = true then
some ((0 : Int), ((x.1.1, (x.1.2.1, (x.1.2.2.1, ()))), ((), ())))
else
(if (decide (x.2.1 ≤ (256 : Int))) = true then
((s_l01Byte k ((x.1.1, (x.1.2.1, (x.1.2.2.1, ()))), ())).bind fun p1 =>
(if x.2.1 = 0 then
none
else
some ((Int.tmod p1.1 x.2.1), ((p1.2.1.1, (p1.2.1.2.1, (p1.2.1.2.2.1, ()))), ((), ())))))
else
((s_l01Byte k ((x.1.1, (x.1.2.1, (x.1.2.2.1, ()))), ())).bind fun p2 =>
((s_l01Byte k ((p2.2.1.1, (p2.2.1.2.1, (p2.2.1.2.2.1, ()))), ())).bind fun p3 =>
((s_l01Byte k ((p3.2.1.1, (p3.2.1.2.1, (p3.2.1.2.2.1, ()))), ())).bind fun p4 =>
((s_l01Byte k ((p4.2.1.1, (p4.2.1.2.1, (p4.2.1.2.2.1, ()))), ())).bind fun p5 =>
(if x.2.1 = 0 then
none
else
some ((Int.tmod (wi64 ((wi64 ((wi64 ((wi64 (p2.1 * (16777216 : Int))) + (wi64 (p3.1 * (65536 : Int))))) + (wi64 (p4.1 * (256 : Int))))) + p5.1)) x.2.1), ((p5.2.1.1, (p5.2.1.2.1, (p5.2.1.2.2.1, ()))), ((), ()))))))))))
theorem t_s_l01Below (k : Nat) (x) : evF TTab k [⟨55, 0, (.cons (.ptr 0 (.cons (.il true (.int .u8)) (.cons (.int .i64) (.cons (.int .i64) .nil)))) .nil), (.int .i64), s_l01Byte k⟩] [] Try.f56 (.cons (.ptr 0 (.cons (.il true (.int .u8)) (.cons (.int .i64) (.cons (.int .i64) .nil)))) (.cons (.int .i64) .nil)) (.int .i64) x = s_l01Below k x := by kernel_rfl
theorem e_s_l01Below (k : Nat) : EntryOk Try.prog ⟨56, 0, (.cons (.ptr 0 (.cons (.il true (.int .u8)) (.cons (.int .i64) (.cons (.int .i64) .nil)))) (.cons (.int .i64) .nil)), (.int .i64), s_l01Below k⟩ := entry_ok tok (by intro e he; simp only [List.mem_cons, List.not_mem_nil, or_false] at he; rcases he with rfl <;> first | exact e_s_l01Byte k) (by kernel_rfl) (fn := Try.f56) (k := k) (es := [⟨55, 0, (.cons (.ptr 0 (.cons (.il true (.int .u8)) (.cons (.int .i64) (.cons (.int .i64) .nil)))) .nil), (.int .i64), s_l01Byte k⟩]) (loops := []) (by kernel_rfl) (by kernel_rfl) (fun x r h => (t_s_l01Below k x).trans h)
def s_l01Text (k : Nat) (x : (List (Int) × Int × Int × Unit) × Int × Unit) : Option (ByteArray × (List (Int) × Int × Int × Unit) × Unit × Unit) :=
(jn (fun (j1v0 : Int) =>
(whileK (fun (rec0 : ((List (Int) × Int × Int × Unit) × Int × List (Int) × Int × Unit) → Option _) (y0 : (List (Int) × Int × Int × Unit) × Int × List (Int) × Int × Unit) =>
(if (decide (y0.2.2.2.1 < y0.2.1)) = true then
((s_l01Byte k ((y0.1.1, (y0.1.2.1, (y0.1.2.2.1, ()))), ())).bind fun p2 =>
(if List.length y0.2.2.1 + List.length ([(wu8 (p2.1))] : List (Int)) ≤ capMax then
(rec0 ((p2.2.1.1, (p2.2.1.2.1, (p2.2.1.2.2.1, ()))), (y0.2.1, ((y0.2.2.1 ++ ([(wu8 (p2.1))] : List (Int))), ((wi64 (y0.2.2.2.1 + (1 : Int))), ())))))
else none))
else
((fun (z2 : (List (Int) × Int × Int × Unit) × List (Int) × Unit) =>
some ((strOf z2.2.1), ((z2.1.1, (z2.1.2.1, (z2.1.2.2.1, ()))), ((), ())))) ((y0.1.1, (y0.1.2.1, (y0.1.2.2.1, ()))), (y0.2.2.1, ()))))) k ((x.1.1, (x.1.2.1, (x.1.2.2.1, ()))), (j1v0, (([] : List (Int)), ((0 : Int), ())))))) (fun (j1 : Int → Option _) =>
(if (decide ((5000 : Int) < x.2.1)) = true then
(j1 (5000 : Int))
else
(j1 x.2.1))))
theorem t_s_l01Text (k : Nat) (x) : evF TTab k [⟨55, 0, (.cons (.ptr 0 (.cons (.il true (.int .u8)) (.cons (.int .i64) (.cons (.int .i64) .nil)))) .nil), (.int .i64), s_l01Byte k⟩] [(0, ⟨[0, 1, 5, 6], (.cons (.ptr 0 (.cons (.il true (.int .u8)) (.cons (.int .i64) (.cons (.int .i64) .nil)))) (.cons (.int .i64) (.cons (.own false 5 (.int .u8)) (.cons (.int .i64) .nil))))⟩, ⟨[0, 5], (.cons (.ptr 0 (.cons (.il true (.int .u8)) (.cons (.int .i64) (.cons (.int .i64) .nil)))) (.cons (.own false 5 (.int .u8)) .nil))⟩)] Try.f63 (.cons (.ptr 0 (.cons (.il true (.int .u8)) (.cons (.int .i64) (.cons (.int .i64) .nil)))) (.cons (.int .i64) .nil)) .str x = s_l01Text k x := by kernel_rfl
theorem e_s_l01Text (k : Nat) : EntryOk Try.prog ⟨63, 0, (.cons (.ptr 0 (.cons (.il true (.int .u8)) (.cons (.int .i64) (.cons (.int .i64) .nil)))) (.cons (.int .i64) .nil)), .str, s_l01Text k⟩ := entry_ok tok (by intro e he; simp only [List.mem_cons, List.not_mem_nil, or_false] at he; rcases he with rfl <;> first | exact e_s_l01Byte k) (by kernel_rfl) (fn := Try.f63) (k := k) (es := [⟨55, 0, (.cons (.ptr 0 (.cons (.il true (.int .u8)) (.cons (.int .i64) (.cons (.int .i64) .nil)))) .nil), (.int .i64), s_l01Byte k⟩]) (loops := [(0, ⟨[0, 1, 5, 6], (.cons (.ptr 0 (.cons (.il true (.int .u8)) (.cons (.int .i64) (.cons (.int .i64) .nil)))) (.cons (.int .i64) (.cons (.own false 5 (.int .u8)) (.cons (.int .i64) .nil))))⟩, ⟨[0, 5], (.cons (.ptr 0 (.cons (.il true (.int .u8)) (.cons (.int .i64) (.cons (.int .i64) .nil)))) (.cons (.own false 5 (.int .u8)) .nil))⟩)]) (by kernel_rfl) (by kernel_rfl) (fun x r h => (t_s_l01Text k x).trans h)
def s_l13In (k : Nat) (x : List (Int) × Int × Unit) : Option (Bool × Unit × Unit × Unit) :=
(whileK (fun (rec0 : (List (Int) × Int × Int × Unit) → Option _) (y0 : List (Int) × Int × Int × Unit) =>
(if (decide (y0.2.2.1 < (List.length y0.1 : Int))) = true then
(if 0 ≤ y0.2.2.1 ∧ y0.2.2.1 < (List.length y0.1 : Int) then
(if (decide ((Ty.rd (t := (.int .i64)) y0.1 y0.2.2.1) = y0.2.1)) = true then
some (true, ((), ((), ())))
else
(rec0 (y0.1, (y0.2.1, ((wi64 (y0.2.2.1 + (1 : Int))), ())))))
else none)
else
((fun (z1 : Unit) =>
some (false, ((), ((), ())))) ()))) k (x.1, (x.2.1, ((0 : Int), ()))))
theorem t_s_l13In (k : Nat) (x) : evF TTab k [] [(0, ⟨[0, 1, 5], (.cons (.il true (.int .i64)) (.cons (.int .i64) (.cons (.int .i64) .nil)))⟩, ⟨[], .nil⟩)] Try.f125 (.cons (.il true (.int .i64)) (.cons (.int .i64) .nil)) .bool x = s_l13In k x := by kernel_rfl
theorem e_s_l13In (k : Nat) : EntryOk Try.prog ⟨125, 0, (.cons (.il true (.int .i64)) (.cons (.int .i64) .nil)), .bool, s_l13In k⟩ := entry_ok tok (by simp) (by kernel_rfl) (fn := Try.f125) (k := k) (es := []) (loops := [(0, ⟨[0, 1, 5], (.cons (.il true (.int .i64)) (.cons (.int .i64) (.cons (.int .i64) .nil)))⟩, ⟨[], .nil⟩)]) (by kernel_rfl) (by kernel_rfl) (fun x r h => (t_s_l13In k x).trans h)
def s_IsFresh (k : Nat) (x : List (Int) × Int × Unit) : Option (Bool × Unit × Unit × Unit) :=
((s_SeenOk k (x.1, ())).bind fun p1 =>
(if (!p1.1) = false then
((s_l01In k (x.2.1, ((1 : Int), ((1000000000 : Int), ())))).bind fun p2 =>
(if (!p2.1) = false then
((s_l13In k (x.1, (x.2.1, ()))).bind fun p3 =>
(if p3.1 = true then
some (false, ((), ((), ())))
else
(if (decide ((List.length x.1 : Int) = (0 : Int))) = false then
(if 0 ≤ (0 : Int) ∧ (0 : Int) < (List.length x.1 : Int) then
some ((decide ((wi64 ((Ty.rd (t := (.int .i64)) x.1 (0 : Int)) - (6 : Int))) < x.2.1)), ((), ((), ())))
else none)
else
some (true, ((), ((), ()))))))
else
some (false, ((), ((), ())))))
else
some (false, ((), ((), ())))))
theorem t_s_IsFresh (k : Nat) (x) : evF TTab k [⟨45, 0, (.cons (.int .i64) (.cons (.int .i64) (.cons (.int .i64) .nil))), .bool, s_l01In k⟩, ⟨96, 0, (.cons (.il true (.int .i64)) .nil), .bool, s_SeenOk k⟩, ⟨125, 0, (.cons (.il true (.int .i64)) (.cons (.int .i64) .nil)), .bool, s_l13In k⟩] [] Try.f103 (.cons (.il true (.int .i64)) (.cons (.int .i64) .nil)) .bool x = s_IsFresh k x := by kernel_rfl
theorem e_s_IsFresh (k : Nat) : EntryOk Try.prog ⟨103, 0, (.cons (.il true (.int .i64)) (.cons (.int .i64) .nil)), .bool, s_IsFresh k⟩ := entry_ok tok (by intro e he; simp only [List.mem_cons, List.not_mem_nil, or_false] at he; rcases he with rfl | rfl | rfl <;> first | exact e_s_l01In k | exact e_s_SeenOk k | exact e_s_l13In k) (by kernel_rfl) (fn := Try.f103) (k := k) (es := [⟨45, 0, (.cons (.int .i64) (.cons (.int .i64) (.cons (.int .i64) .nil))), .bool, s_l01In k⟩, ⟨96, 0, (.cons (.il true (.int .i64)) .nil), .bool, s_SeenOk k⟩, ⟨125, 0, (.cons (.il true (.int .i64)) (.cons (.int .i64) .nil)), .bool, s_l13In k⟩]) (loops := []) (by kernel_rfl) (by kernel_rfl) (fun x r h => (t_s_IsFresh k x).trans h)
def s_NoteSeen (k : Nat) (x : List (Int) × Int × Unit) : Option (List (Int) × Unit × Unit × Unit) :=
((s_IsFresh k (x.1, (x.2.1, ()))).bind fun p1 =>
(if (!p1.1) = true then
(if List.length ([] : List (Int)) + List.length x.1 ≤ capMax then
some ((([] : List (Int)) ++ x.1), ((), ((), ())))
else none)
else
(whileK (fun (rec0 : (List (Int) × Int × List (Int) × Int × Unit) → Option _) (y0 : List (Int) × Int × List (Int) × Int × Unit) =>
(if (decide (y0.2.2.2.1 < (List.length y0.1 : Int))) = true then
(if 0 ≤ y0.2.2.2.1 ∧ y0.2.2.2.1 < (List.length y0.1 : Int) then
(if (decide (y0.2.1 < (Ty.rd (t := (.int .i64)) y0.1 y0.2.2.2.1))) = true then
(if 0 ≤ y0.2.2.2.1 ∧ y0.2.2.2.1 < (List.length y0.1 : Int) then
(if List.length y0.2.2.1 + List.length ([(Ty.rd (t := (.int .i64)) y0.1 y0.2.2.2.1)] : List (Int)) ≤ capMax then
(rec0 (y0.1, (y0.2.1, ((y0.2.2.1 ++ ([(Ty.rd (t := (.int .i64)) y0.1 y0.2.2.2.1)] : List (Int))), ((wi64 (y0.2.2.2.1 + (1 : Int))), ())))))
else none)
else none)
else
(rec0 (y0.1, (y0.2.1, (y0.2.2.1, ((wi64 (y0.2.2.2.1 + (1 : Int))), ()))))))
else none)
else
((fun (z1 : List (Int) × Int × List (Int) × Unit) =>
(if List.length z1.2.2.1 + List.length ([z1.2.1] : List (Int)) ≤ capMax then
(whileK (fun (rec2 : (List (Int) × Int × List (Int) × Int × Unit) → Option _) (y2 : List (Int) × Int × List (Int) × Int × Unit) =>
(if (decide (y2.2.2.2.1 < (List.length y2.1 : Int))) = true then
(if 0 ≤ y2.2.2.2.1 ∧ y2.2.2.2.1 < (List.length y2.1 : Int) then
(if (decide ((Ty.rd (t := (.int .i64)) y2.1 y2.2.2.2.1) < y2.2.1)) = true then
(if 0 ≤ y2.2.2.2.1 ∧ y2.2.2.2.1 < (List.length y2.1 : Int) then
(if List.length y2.2.2.1 + List.length ([(Ty.rd (t := (.int .i64)) y2.1 y2.2.2.2.1)] : List (Int)) ≤ capMax then
(rec2 (y2.1, (y2.2.1, ((y2.2.2.1 ++ ([(Ty.rd (t := (.int .i64)) y2.1 y2.2.2.2.1)] : List (Int))), ((wi64 (y2.2.2.2.1 + (1 : Int))), ())))))
else none)
else none)
else
(rec2 (y2.1, (y2.2.1, (y2.2.2.1, ((wi64 (y2.2.2.2.1 + (1 : Int))), ()))))))
else none)
else
((fun (z2 : List (Int) × Unit) =>
(whileK (fun (rec4 : (List (Int) × List (Int) × Int × Unit) → Option _) (y4 : List (Int) × List (Int) × Int × Unit) =>
(if (decide (y4.2.2.1 < (List.length y4.1 : Int))) = true then
(if 0 ≤ y4.2.2.1 ∧ y4.2.2.1 < (List.length y4.1 : Int) then
(if 0 ≤ (0 : Int) ∧ (0 : Int) < (List.length y4.1 : Int) then
(if (decide ((wi64 ((Ty.rd (t := (.int .i64)) y4.1 (0 : Int)) - (6 : Int))) < (Ty.rd (t := (.int .i64)) y4.1 y4.2.2.1))) = true then
(if 0 ≤ y4.2.2.1 ∧ y4.2.2.1 < (List.length y4.1 : Int) then
(if List.length y4.2.1 + List.length ([(Ty.rd (t := (.int .i64)) y4.1 y4.2.2.1)] : List (Int)) ≤ capMax then
(rec4 (y4.1, ((y4.2.1 ++ ([(Ty.rd (t := (.int .i64)) y4.1 y4.2.2.1)] : List (Int))), ((wi64 (y4.2.2.1 + (1 : Int))), ()))))
else none)
else none)
else
(rec4 (y4.1, (y4.2.1, ((wi64 (y4.2.2.1 + (1 : Int))), ())))))
else none)
else none)
else
((fun (z3 : List (Int) × Unit) =>
some (z3.1, ((), ((), ())))) (y4.2.1, ())))) k (z2.1, (([] : List (Int)), ((0 : Int), ()))))) (y2.2.2.1, ())))) k (z1.1, (z1.2.1, ((z1.2.2.1 ++ ([z1.2.1] : List (Int))), ((0 : Int), ())))))
else none)) (y0.1, (y0.2.1, (y0.2.2.1, ())))))) k (x.1, (x.2.1, (([] : List (Int)), ((0 : Int), ())))))))
theorem t_s_NoteSeen (k : Nat) (x) : evF TTab k [⟨103, 0, (.cons (.il true (.int .i64)) (.cons (.int .i64) .nil)), .bool, s_IsFresh k⟩] [(0, ⟨[0, 1, 5, 6], (.cons (.il true (.int .i64)) (.cons (.int .i64) (.cons (.own false 3 (.int .i64)) (.cons (.int .i64) .nil))))⟩, ⟨[0, 1, 5], (.cons (.il true (.int .i64)) (.cons (.int .i64) (.cons (.own false 3 (.int .i64)) .nil)))⟩), (2, ⟨[0, 1, 5, 7], (.cons (.il true (.int .i64)) (.cons (.int .i64) (.cons (.own false 3 (.int .i64)) (.cons (.int .i64) .nil))))⟩, ⟨[5], (.cons (.own false 3 (.int .i64)) .nil)⟩), (4, ⟨[5, 8, 9], (.cons (.own false 3 (.int .i64)) (.cons (.own false 3 (.int .i64)) (.cons (.int .i64) .nil)))⟩, ⟨[8], (.cons (.own false 3 (.int .i64)) .nil)⟩)] Try.f81 (.cons (.il true (.int .i64)) (.cons (.int .i64) .nil)) (.own false 3 (.int .i64)) x = s_NoteSeen k x := by kernel_rfl
theorem e_s_NoteSeen (k : Nat) : EntryOk Try.prog ⟨81, 0, (.cons (.il true (.int .i64)) (.cons (.int .i64) .nil)), (.own false 3 (.int .i64)), s_NoteSeen k⟩ := entry_ok tok (by intro e he; simp only [List.mem_cons, List.not_mem_nil, or_false] at he; rcases he with rfl <;> first | exact e_s_IsFresh k) (by kernel_rfl) (fn := Try.f81) (k := k) (es := [⟨103, 0, (.cons (.il true (.int .i64)) (.cons (.int .i64) .nil)), .bool, s_IsFresh k⟩]) (loops := [(0, ⟨[0, 1, 5, 6], (.cons (.il true (.int .i64)) (.cons (.int .i64) (.cons (.own false 3 (.int .i64)) (.cons (.int .i64) .nil))))⟩, ⟨[0, 1, 5], (.cons (.il true (.int .i64)) (.cons (.int .i64) (.cons (.own false 3 (.int .i64)) .nil)))⟩), (2, ⟨[0, 1, 5, 7], (.cons (.il true (.int .i64)) (.cons (.int .i64) (.cons (.own false 3 (.int .i64)) (.cons (.int .i64) .nil))))⟩, ⟨[5], (.cons (.own false 3 (.int .i64)) .nil)⟩), (4, ⟨[5, 8, 9], (.cons (.own false 3 (.int .i64)) (.cons (.own false 3 (.int .i64)) (.cons (.int .i64) .nil)))⟩, ⟨[8], (.cons (.own false 3 (.int .i64)) .nil)⟩)]) (by kernel_rfl) (by kernel_rfl) (fun x r h => (t_s_NoteSeen k x).trans h)
def s_TidySlots (k : Nat) (x : (Int × ByteArray × ByteArray × Int × List (Int) × Int × Int × ByteArray × ByteArray × Int × List (Int) × Int × Unit) × Int × Unit) : Option ((Int × ByteArray × ByteArray × Int × List (Int) × Int × Int × ByteArray × ByteArray × Int × List (Int) × Int × Unit) × Unit × Unit × Unit) :=
((s_l17Copy k ((x.1.1, (x.1.2.1, (x.1.2.2.1, (x.1.2.2.2.1, (x.1.2.2.2.2.1, (x.1.2.2.2.2.2.1, (x.1.2.2.2.2.2.2.1, (x.1.2.2.2.2.2.2.2.1, (x.1.2.2.2.2.2.2.2.2.1, (x.1.2.2.2.2.2.2.2.2.2.1, (x.1.2.2.2.2.2.2.2.2.2.2.1, (x.1.2.2.2.2.2.2.2.2.2.2.2.1, ())))))))))))), ())).bind fun p1 =>
(if (decide (x.1.2.2.2.2.2.2.2.2.2.2.2.1 ≤ x.2.1)) = true then
some ((p1.1.1, (p1.1.2.1, (p1.1.2.2.1, (p1.1.2.2.2.1, (p1.1.2.2.2.2.1, (p1.1.2.2.2.2.2.1, ((0 : Int), ((⟨#[]⟩ : ByteArray), ((⟨#[]⟩ : ByteArray), ((0 : Int), ([], ((0 : Int), ())))))))))))), ((), ((), ())))
else
some ((p1.1.1, (p1.1.2.1, (p1.1.2.2.1, (p1.1.2.2.2.1, (p1.1.2.2.2.2.1, (p1.1.2.2.2.2.2.1, (p1.1.2.2.2.2.2.2.1, (p1.1.2.2.2.2.2.2.2.1, (p1.1.2.2.2.2.2.2.2.2.1, (p1.1.2.2.2.2.2.2.2.2.2.1, (p1.1.2.2.2.2.2.2.2.2.2.2.1, (p1.1.2.2.2.2.2.2.2.2.2.2.2.1, ())))))))))))), ((), ((), ())))))
theorem t_s_TidySlots (k : Nat) (x) : evF TTab k [⟨42, 0, (.cons (.agg (.cons (.int .i64) (.cons .str (.cons .str (.cons (.int .i64) (.cons (.il true (.int .i64)) (.cons (.int .i64) (.cons (.int .i64) (.cons .str (.cons .str (.cons (.int .i64) (.cons (.il true (.int .i64)) (.cons (.int .i64) .nil))))))))))))) .nil), (.agg (.cons (.int .i64) (.cons .str (.cons .str (.cons (.int .i64) (.cons (.own false 3 (.int .i64)) (.cons (.int .i64) (.cons (.int .i64) (.cons .str (.cons .str (.cons (.int .i64) (.cons (.own false 3 (.int .i64)) (.cons (.int .i64) .nil))))))))))))), s_l17Copy k⟩] [] Try.f82 (.cons (.agg (.cons (.int .i64) (.cons .str (.cons .str (.cons (.int .i64) (.cons (.il true (.int .i64)) (.cons (.int .i64) (.cons (.int .i64) (.cons .str (.cons .str (.cons (.int .i64) (.cons (.il true (.int .i64)) (.cons (.int .i64) .nil))))))))))))) (.cons (.int .i64) .nil)) (.agg (.cons (.int .i64) (.cons .str (.cons .str (.cons (.int .i64) (.cons (.own false 3 (.int .i64)) (.cons (.int .i64) (.cons (.int .i64) (.cons .str (.cons .str (.cons (.int .i64) (.cons (.own false 3 (.int .i64)) (.cons (.int .i64) .nil))))))))))))) x = s_TidySlots k x := by kernel_rfl
theorem e_s_TidySlots (k : Nat) : EntryOk Try.prog ⟨82, 0, (.cons (.agg (.cons (.int .i64) (.cons .str (.cons .str (.cons (.int .i64) (.cons (.il true (.int .i64)) (.cons (.int .i64) (.cons (.int .i64) (.cons .str (.cons .str (.cons (.int .i64) (.cons (.il true (.int .i64)) (.cons (.int .i64) .nil))))))))))))) (.cons (.int .i64) .nil)), (.agg (.cons (.int .i64) (.cons .str (.cons .str (.cons (.int .i64) (.cons (.own false 3 (.int .i64)) (.cons (.int .i64) (.cons (.int .i64) (.cons .str (.cons .str (.cons (.int .i64) (.cons (.own false 3 (.int .i64)) (.cons (.int .i64) .nil))))))))))))), s_TidySlots k⟩ := entry_ok tok (by intro e he; simp only [List.mem_cons, List.not_mem_nil, or_false] at he; rcases he with rfl <;> first | exact e_s_l17Copy k) (by kernel_rfl) (fn := Try.f82) (k := k) (es := [⟨42, 0, (.cons (.agg (.cons (.int .i64) (.cons .str (.cons .str (.cons (.int .i64) (.cons (.il true (.int .i64)) (.cons (.int .i64) (.cons (.int .i64) (.cons .str (.cons .str (.cons (.int .i64) (.cons (.il true (.int .i64)) (.cons (.int .i64) .nil))))))))))))) .nil), (.agg (.cons (.int .i64) (.cons .str (.cons .str (.cons (.int .i64) (.cons (.own false 3 (.int .i64)) (.cons (.int .i64) (.cons (.int .i64) (.cons .str (.cons .str (.cons (.int .i64) (.cons (.own false 3 (.int .i64)) (.cons (.int .i64) .nil))))))))))))), s_l17Copy k⟩]) (loops := []) (by kernel_rfl) (by kernel_rfl) (fun x r h => (t_s_TidySlots k x).trans h)
def s_l17Slots (k : Nat) (x : (List (Int) × Int × Int × Unit) × Unit) : Option ((Int × ByteArray × ByteArray × Int × List (Int) × Int × Int × ByteArray × ByteArray × Int × List (Int) × Int × Unit) × (List (Int) × Int × Int × Unit) × Unit) :=
((s_l01Text k ((x.1.1, (x.1.2.1, (x.1.2.2.1, ()))), ((2 : Int), ()))).bind fun p1 =>
((s_PairSlots k (p1.1, ())).bind fun p2 =>
(whileK (fun (rec0 : ((List (Int) × Int × Int × Unit) × (Int × ByteArray × ByteArray × Int × List (Int) × Int × Int × ByteArray × ByteArray × Int × List (Int) × Int × Unit) × (Int × ByteArray × ByteArray × Int × List (Int) × Int × Int × ByteArray × ByteArray × Int × List (Int) × Int × Unit) × Int × Int × Unit) → Option _) (y0 : (List (Int) × Int × Int × Unit) × (Int × ByteArray × ByteArray × Int × List (Int) × Int × Int × ByteArray × ByteArray × Int × List (Int) × Int × Unit) × (Int × ByteArray × ByteArray × Int × List (Int) × Int × Int × ByteArray × ByteArray × Int × List (Int) × Int × Unit) × Int × Int × Unit) =>
((s_l01Below k ((y0.1.1, (y0.1.2.1, (y0.1.2.2.1, ()))), ((8 : Int), ()))).bind fun p3 =>
(if (decide (y0.2.2.2.2.1 < p3.1)) = true then
((s_l01Below k ((p3.2.1.1, (p3.2.1.2.1, (p3.2.1.2.2.1, ()))), ((6 : Int), ()))).bind fun p4 =>
((s_l01Below k ((p4.2.1.1, (p4.2.1.2.1, (p4.2.1.2.2.1, ()))), ((4 : Int), ()))).bind fun p5 =>
(if (decide (p5.1 = (0 : Int))) = true then
((s_StepBoth k ((y0.2.2.1.1, (y0.2.2.1.2.1, (y0.2.2.1.2.2.1, (y0.2.2.1.2.2.2.1, (y0.2.2.1.2.2.2.2.1, (y0.2.2.1.2.2.2.2.2.1, (y0.2.2.1.2.2.2.2.2.2.1, (y0.2.2.1.2.2.2.2.2.2.2.1, (y0.2.2.1.2.2.2.2.2.2.2.2.1, (y0.2.2.1.2.2.2.2.2.2.2.2.2.1, (y0.2.2.1.2.2.2.2.2.2.2.2.2.2.1, (y0.2.2.1.2.2.2.2.2.2.2.2.2.2.2.1, ())))))))))))), ((wi64 (y0.2.2.2.1 + p4.1)), ()))).bind fun p6 =>
(rec0 ((p5.2.1.1, (p5.2.1.2.1, (p5.2.1.2.2.1, ()))), ((y0.2.1.1, (y0.2.1.2.1, (y0.2.1.2.2.1, (y0.2.1.2.2.2.1, (y0.2.1.2.2.2.2.1, (y0.2.1.2.2.2.2.2.1, (y0.2.1.2.2.2.2.2.2.1, (y0.2.1.2.2.2.2.2.2.2.1, (y0.2.1.2.2.2.2.2.2.2.2.1, (y0.2.1.2.2.2.2.2.2.2.2.2.1, (y0.2.1.2.2.2.2.2.2.2.2.2.2.1, (y0.2.1.2.2.2.2.2.2.2.2.2.2.2.1, ())))))))))))), ((p6.1.1.1, (p6.1.1.2.1, (p6.1.1.2.2.1, (p6.1.1.2.2.2.1, (p6.1.1.2.2.2.2.1, (p6.1.1.2.2.2.2.2.1, (p6.1.1.2.2.2.2.2.2.1, (p6.1.1.2.2.2.2.2.2.2.1, (p6.1.1.2.2.2.2.2.2.2.2.1, (p6.1.1.2.2.2.2.2.2.2.2.2.1, (p6.1.1.2.2.2.2.2.2.2.2.2.2.1, (p6.1.1.2.2.2.2.2.2.2.2.2.2.2.1, ())))))))))))), ((wi64 (y0.2.2.2.1 + p4.1)), ((wi64 (y0.2.2.2.2.1 + (1 : Int))), ())))))))
else
(if (decide (p5.1 = (1 : Int))) = true then
((s_l01Below k ((p5.2.1.1, (p5.2.1.2.1, (p5.2.1.2.2.1, ()))), ((9 : Int), ()))).bind fun p7 =>
((s_NoteSeen k (y0.2.2.1.2.2.2.2.1, ((wi64 ((1 : Int) + p7.1)), ()))).bind fun p8 =>
(rec0 ((p7.2.1.1, (p7.2.1.2.1, (p7.2.1.2.2.1, ()))), ((y0.2.1.1, (y0.2.1.2.1, (y0.2.1.2.2.1, (y0.2.1.2.2.2.1, (y0.2.1.2.2.2.2.1, (y0.2.1.2.2.2.2.2.1, (y0.2.1.2.2.2.2.2.2.1, (y0.2.1.2.2.2.2.2.2.2.1, (y0.2.1.2.2.2.2.2.2.2.2.1, (y0.2.1.2.2.2.2.2.2.2.2.2.1, (y0.2.1.2.2.2.2.2.2.2.2.2.2.1, (y0.2.1.2.2.2.2.2.2.2.2.2.2.2.1, ())))))))))))), ((y0.2.2.1.1, (y0.2.2.1.2.1, (y0.2.2.1.2.2.1, (y0.2.2.1.2.2.2.1, (p8.1, (y0.2.2.1.2.2.2.2.2.1, (y0.2.2.1.2.2.2.2.2.2.1, (y0.2.2.1.2.2.2.2.2.2.2.1, (y0.2.2.1.2.2.2.2.2.2.2.2.1, (y0.2.2.1.2.2.2.2.2.2.2.2.2.1, (y0.2.2.1.2.2.2.2.2.2.2.2.2.2.1, (y0.2.2.1.2.2.2.2.2.2.2.2.2.2.2.1, ())))))))))))), ((wi64 (y0.2.2.2.1 + p4.1)), ((wi64 (y0.2.2.2.2.1 + (1 : Int))), ()))))))))
else
(if (decide (p5.1 = (2 : Int))) = true then
((s_TidySlots k ((y0.2.2.1.1, (y0.2.2.1.2.1, (y0.2.2.1.2.2.1, (y0.2.2.1.2.2.2.1, (y0.2.2.1.2.2.2.2.1, (y0.2.2.1.2.2.2.2.2.1, (y0.2.2.1.2.2.2.2.2.2.1, (y0.2.2.1.2.2.2.2.2.2.2.1, (y0.2.2.1.2.2.2.2.2.2.2.2.1, (y0.2.2.1.2.2.2.2.2.2.2.2.2.1, (y0.2.2.1.2.2.2.2.2.2.2.2.2.2.1, (y0.2.2.1.2.2.2.2.2.2.2.2.2.2.2.1, ())))))))))))), ((wi64 (y0.2.2.2.1 + p4.1)), ()))).bind fun p9 =>
(rec0 ((p5.2.1.1, (p5.2.1.2.1, (p5.2.1.2.2.1, ()))), ((y0.2.1.1, (y0.2.1.2.1, (y0.2.1.2.2.1, (y0.2.1.2.2.2.1, (y0.2.1.2.2.2.2.1, (y0.2.1.2.2.2.2.2.1, (y0.2.1.2.2.2.2.2.2.1, (y0.2.1.2.2.2.2.2.2.2.1, (y0.2.1.2.2.2.2.2.2.2.2.1, (y0.2.1.2.2.2.2.2.2.2.2.2.1, (y0.2.1.2.2.2.2.2.2.2.2.2.2.1, (y0.2.1.2.2.2.2.2.2.2.2.2.2.2.1, ())))))))))))), ((p9.1.1, (p9.1.2.1, (p9.1.2.2.1, (p9.1.2.2.2.1, (p9.1.2.2.2.2.1, (p9.1.2.2.2.2.2.1, (p9.1.2.2.2.2.2.2.1, (p9.1.2.2.2.2.2.2.2.1, (p9.1.2.2.2.2.2.2.2.2.1, (p9.1.2.2.2.2.2.2.2.2.2.1, (p9.1.2.2.2.2.2.2.2.2.2.2.1, (p9.1.2.2.2.2.2.2.2.2.2.2.2.1, ())))))))))))), ((wi64 (y0.2.2.2.1 + p4.1)), ((wi64 (y0.2.2.2.2.1 + (1 : Int))), ())))))))
else
((s_SealData k ((y0.2.2.1.1, (y0.2.2.1.2.1, (y0.2.2.1.2.2.1, (y0.2.2.1.2.2.2.1, (y0.2.2.1.2.2.2.2.1, (y0.2.2.1.2.2.2.2.2.1, (y0.2.2.1.2.2.2.2.2.2.1, (y0.2.2.1.2.2.2.2.2.2.2.1, (y0.2.2.1.2.2.2.2.2.2.2.2.1, (y0.2.2.1.2.2.2.2.2.2.2.2.2.1, (y0.2.2.1.2.2.2.2.2.2.2.2.2.2.1, (y0.2.2.1.2.2.2.2.2.2.2.2.2.2.2.1, ())))))))))))), ((1 : Int), ((2 : Int), ((⟨#[120]⟩ : ByteArray), ()))))).bind fun p10 =>
(rec0 ((p5.2.1.1, (p5.2.1.2.1, (p5.2.1.2.2.1, ()))), ((y0.2.1.1, (y0.2.1.2.1, (y0.2.1.2.2.1, (y0.2.1.2.2.2.1, (y0.2.1.2.2.2.2.1, (y0.2.1.2.2.2.2.2.1, (y0.2.1.2.2.2.2.2.2.1, (y0.2.1.2.2.2.2.2.2.2.1, (y0.2.1.2.2.2.2.2.2.2.2.1, (y0.2.1.2.2.2.2.2.2.2.2.2.1, (y0.2.1.2.2.2.2.2.2.2.2.2.2.1, (y0.2.1.2.2.2.2.2.2.2.2.2.2.2.1, ())))))))))))), ((p10.1.1.1, (p10.1.1.2.1, (p10.1.1.2.2.1, (p10.1.1.2.2.2.1, (p10.1.1.2.2.2.2.1, (p10.1.1.2.2.2.2.2.1, (p10.1.1.2.2.2.2.2.2.1, (p10.1.1.2.2.2.2.2.2.2.1, (p10.1.1.2.2.2.2.2.2.2.2.1, (p10.1.1.2.2.2.2.2.2.2.2.2.1, (p10.1.1.2.2.2.2.2.2.2.2.2.2.1, (p10.1.1.2.2.2.2.2.2.2.2.2.2.2.1, ())))))))))))), ((wi64 (y0.2.2.2.1 + p4.1)), ((wi64 (y0.2.2.2.2.1 + (1 : Int))), ()))))))))))))
else
((fun (z1 : (List (Int) × Int × Int × Unit) × (Int × ByteArray × ByteArray × Int × List (Int) × Int × Int × ByteArray × ByteArray × Int × List (Int) × Int × Unit) × (Int × ByteArray × ByteArray × Int × List (Int) × Int × Int × ByteArray × ByteArray × Int × List (Int) × Int × Unit) × Unit) =>
some ((z1.2.2.1.1, (z1.2.2.1.2.1, (z1.2.2.1.2.2.1, (z1.2.2.1.2.2.2.1, (z1.2.2.1.2.2.2.2.1, (z1.2.2.1.2.2.2.2.2.1, (z1.2.2.1.2.2.2.2.2.2.1, (z1.2.2.1.2.2.2.2.2.2.2.1, (z1.2.2.1.2.2.2.2.2.2.2.2.1, (z1.2.2.1.2.2.2.2.2.2.2.2.2.1, (z1.2.2.1.2.2.2.2.2.2.2.2.2.2.1, (z1.2.2.1.2.2.2.2.2.2.2.2.2.2.2.1, ())))))))))))), ((z1.1.1, (z1.1.2.1, (z1.1.2.2.1, ()))), ()))) ((p3.2.1.1, (p3.2.1.2.1, (p3.2.1.2.2.1, ()))), ((y0.2.1.1, (y0.2.1.2.1, (y0.2.1.2.2.1, (y0.2.1.2.2.2.1, (y0.2.1.2.2.2.2.1, (y0.2.1.2.2.2.2.2.1, (y0.2.1.2.2.2.2.2.2.1, (y0.2.1.2.2.2.2.2.2.2.1, (y0.2.1.2.2.2.2.2.2.2.2.1, (y0.2.1.2.2.2.2.2.2.2.2.2.1, (y0.2.1.2.2.2.2.2.2.2.2.2.2.1, (y0.2.1.2.2.2.2.2.2.2.2.2.2.2.1, ())))))))))))), ((y0.2.2.1.1, (y0.2.2.1.2.1, (y0.2.2.1.2.2.1, (y0.2.2.1.2.2.2.1, (y0.2.2.1.2.2.2.2.1, (y0.2.2.1.2.2.2.2.2.1, (y0.2.2.1.2.2.2.2.2.2.1, (y0.2.2.1.2.2.2.2.2.2.2.1, (y0.2.2.1.2.2.2.2.2.2.2.2.1, (y0.2.2.1.2.2.2.2.2.2.2.2.2.1, (y0.2.2.1.2.2.2.2.2.2.2.2.2.2.1, (y0.2.2.1.2.2.2.2.2.2.2.2.2.2.2.1, ())))))))))))), ()))))))) k ((p1.2.1.1, (p1.2.1.2.1, (p1.2.1.2.2.1, ()))), (((0 : Int), ((⟨#[]⟩ : ByteArray), ((⟨#[]⟩ : ByteArray), ((0 : Int), ([], ((0 : Int), ((0 : Int), ((⟨#[]⟩ : ByteArray), ((⟨#[]⟩ : ByteArray), ((0 : Int), ([], ((0 : Int), ())))))))))))), ((p2.1.1.1, (p2.1.1.2.1, (p2.1.1.2.2.1, (p2.1.1.2.2.2.1, (p2.1.1.2.2.2.2.1, (p2.1.1.2.2.2.2.2.1, (p2.1.1.2.2.2.2.2.2.1, (p2.1.1.2.2.2.2.2.2.2.1, (p2.1.1.2.2.2.2.2.2.2.2.1, (p2.1.1.2.2.2.2.2.2.2.2.2.1, (p2.1.1.2.2.2.2.2.2.2.2.2.2.1, (p2.1.1.2.2.2.2.2.2.2.2.2.2.2.1, ())))))))))))), ((0 : Int), ((0 : Int), ()))))))))
theorem t_s_l17Slots (k : Nat) (x) : evF TTab k [⟨8, 0, (.cons .str .nil), (.tup (.cons (.agg (.cons (.int .i64) (.cons .str (.cons .str (.cons (.int .i64) (.cons (.own false 3 (.int .i64)) (.cons (.int .i64) (.cons (.int .i64) (.cons .str (.cons .str (.cons (.int .i64) (.cons (.own false 3 (.int .i64)) (.cons (.int .i64) .nil))))))))))))) (.cons (.agg (.cons (.int .i64) (.cons .str (.cons .str (.cons (.int .i64) (.cons (.own false 3 (.int .i64)) (.cons (.int .i64) (.cons (.int .i64) (.cons .str (.cons .str (.cons (.int .i64) (.cons (.own false 3 (.int .i64)) (.cons (.int .i64) .nil))))))))))))) .nil))), s_PairSlots k⟩, ⟨14, 0, (.cons (.agg (.cons (.int .i64) (.cons .str (.cons .str (.cons (.int .i64) (.cons (.il true (.int .i64)) (.cons (.int .i64) (.cons (.int .i64) (.cons .str (.cons .str (.cons (.int .i64) (.cons (.il true (.int .i64)) (.cons (.int .i64) .nil))))))))))))) (.cons (.int .i64) .nil)), (.tup (.cons (.agg (.cons (.int .i64) (.cons .str (.cons .str (.cons (.int .i64) (.cons (.own false 3 (.int .i64)) (.cons (.int .i64) (.cons (.int .i64) (.cons .str (.cons .str (.cons (.int .i64) (.cons (.own false 3 (.int .i64)) (.cons (.int .i64) .nil))))))))))))) (.cons .bool .nil))), s_StepBoth k⟩, ⟨17, 0, (.cons (.agg (.cons (.int .i64) (.cons .str (.cons .str (.cons (.int .i64) (.cons (.il true (.int .i64)) (.cons (.int .i64) (.cons (.int .i64) (.cons .str (.cons .str (.cons (.int .i64) (.cons (.il true (.int .i64)) (.cons (.int .i64) .nil))))))))))))) (.cons (.int .i64) (.cons (.int .i64) (.cons .str .nil)))), (.tup (.cons (.agg (.cons (.int .i64) (.cons .str (.cons .str (.cons (.int .i64) (.cons (.own false 3 (.int .i64)) (.cons (.int .i64) (.cons (.int .i64) (.cons .str (.cons .str (.cons (.int .i64) (.cons (.own false 3 (.int .i64)) (.cons (.int .i64) .nil))))))))))))) (.cons (.agg (.cons (.int .i64) (.cons (.int .i64) (.cons (.int .i64) (.cons (.int .i64) (.cons (.int .i64) (.cons (.own false 3 (.int .i64)) (.cons .str .nil)))))))) (.cons .bool .nil)))), s_SealData k⟩, ⟨56, 0, (.cons (.ptr 0 (.cons (.il true (.int .u8)) (.cons (.int .i64) (.cons (.int .i64) .nil)))) (.cons (.int .i64) .nil)), (.int .i64), s_l01Below k⟩, ⟨63, 0, (.cons (.ptr 0 (.cons (.il true (.int .u8)) (.cons (.int .i64) (.cons (.int .i64) .nil)))) (.cons (.int .i64) .nil)), .str, s_l01Text k⟩, ⟨81, 0, (.cons (.il true (.int .i64)) (.cons (.int .i64) .nil)), (.own false 3 (.int .i64)), s_NoteSeen k⟩, ⟨82, 0, (.cons (.agg (.cons (.int .i64) (.cons .str (.cons .str (.cons (.int .i64) (.cons (.il true (.int .i64)) (.cons (.int .i64) (.cons (.int .i64) (.cons .str (.cons .str (.cons (.int .i64) (.cons (.il true (.int .i64)) (.cons (.int .i64) .nil))))))))))))) (.cons (.int .i64) .nil)), (.agg (.cons (.int .i64) (.cons .str (.cons .str (.cons (.int .i64) (.cons (.own false 3 (.int .i64)) (.cons (.int .i64) (.cons (.int .i64) (.cons .str (.cons .str (.cons (.int .i64) (.cons (.own false 3 (.int .i64)) (.cons (.int .i64) .nil))))))))))))), s_TidySlots k⟩] [(0, ⟨[0, 2, 3, 5, 6], (.cons (.ptr 0 (.cons (.il true (.int .u8)) (.cons (.int .i64) (.cons (.int .i64) .nil)))) (.cons (.ptr 0 (.cons (.int .i64) (.cons .str (.cons .str (.cons (.int .i64) (.cons (.own false 3 (.int .i64)) (.cons (.int .i64) (.cons (.int .i64) (.cons .str (.cons .str (.cons (.int .i64) (.cons (.own false 3 (.int .i64)) (.cons (.int .i64) .nil))))))))))))) (.cons (.ptr 0 (.cons (.int .i64) (.cons .str (.cons .str (.cons (.int .i64) (.cons (.own false 3 (.int .i64)) (.cons (.int .i64) (.cons (.int .i64) (.cons .str (.cons .str (.cons (.int .i64) (.cons (.own false 3 (.int .i64)) (.cons (.int .i64) .nil))))))))))))) (.cons (.int .i64) (.cons (.int .i64) .nil)))))⟩, ⟨[0, 2, 3], (.cons (.ptr 0 (.cons (.il true (.int .u8)) (.cons (.int .i64) (.cons (.int .i64) .nil)))) (.cons (.ptr 0 (.cons (.int .i64) (.cons .str (.cons .str (.cons (.int .i64) (.cons (.own false 3 (.int .i64)) (.cons (.int .i64) (.cons (.int .i64) (.cons .str (.cons .str (.cons (.int .i64) (.cons (.own false 3 (.int .i64)) (.cons (.int .i64) .nil))))))))))))) (.cons (.ptr 0 (.cons (.int .i64) (.cons .str (.cons .str (.cons (.int .i64) (.cons (.own false 3 (.int .i64)) (.cons (.int .i64) (.cons (.int .i64) (.cons .str (.cons .str (.cons (.int .i64) (.cons (.own false 3 (.int .i64)) (.cons (.int .i64) .nil))))))))))))) .nil)))⟩)] Try.f53 (.cons (.ptr 0 (.cons (.il true (.int .u8)) (.cons (.int .i64) (.cons (.int .i64) .nil)))) .nil) (.agg (.cons (.int .i64) (.cons .str (.cons .str (.cons (.int .i64) (.cons (.own false 3 (.int .i64)) (.cons (.int .i64) (.cons (.int .i64) (.cons .str (.cons .str (.cons (.int .i64) (.cons (.own false 3 (.int .i64)) (.cons (.int .i64) .nil))))))))))))) x = s_l17Slots k x := by kernel_rfl
theorem e_s_l17Slots (k : Nat) : EntryOk Try.prog ⟨53, 0, (.cons (.ptr 0 (.cons (.il true (.int .u8)) (.cons (.int .i64) (.cons (.int .i64) .nil)))) .nil), (.agg (.cons (.int .i64) (.cons .str (.cons .str (.cons (.int .i64) (.cons (.own false 3 (.int .i64)) (.cons (.int .i64) (.cons (.int .i64) (.cons .str (.cons .str (.cons (.int .i64) (.cons (.own false 3 (.int .i64)) (.cons (.int .i64) .nil))))))))))))), s_l17Slots k⟩ := entry_ok tok (by intro e he; simp only [List.mem_cons, List.not_mem_nil, or_false] at he; rcases he with rfl | rfl | rfl | rfl | rfl | rfl | rfl <;> first | exact e_s_PairSlots k | exact e_s_StepBoth k | exact e_s_SealData k | exact e_s_l01Below k | exact e_s_l01Text k | exact e_s_NoteSeen k | exact e_s_TidySlots k) (by kernel_rfl) (fn := Try.f53) (k := k) (es := [⟨8, 0, (.cons .str .nil), (.tup (.cons (.agg (.cons (.int .i64) (.cons .str (.cons .str (.cons (.int .i64) (.cons (.own false 3 (.int .i64)) (.cons (.int .i64) (.cons (.int .i64) (.cons .str (.cons .str (.cons (.int .i64) (.cons (.own false 3 (.int .i64)) (.cons (.int .i64) .nil))))))))))))) (.cons (.agg (.cons (.int .i64) (.cons .str (.cons .str (.cons (.int .i64) (.cons (.own false 3 (.int .i64)) (.cons (.int .i64) (.cons (.int .i64) (.cons .str (.cons .str (.cons (.int .i64) (.cons (.own false 3 (.int .i64)) (.cons (.int .i64) .nil))))))))))))) .nil))), s_PairSlots k⟩, ⟨14, 0, (.cons (.agg (.cons (.int .i64) (.cons .str (.cons .str (.cons (.int .i64) (.cons (.il true (.int .i64)) (.cons (.int .i64) (.cons (.int .i64) (.cons .str (.cons .str (.cons (.int .i64) (.cons (.il true (.int .i64)) (.cons (.int .i64) .nil))))))))))))) (.cons (.int .i64) .nil)), (.tup (.cons (.agg (.cons (.int .i64) (.cons .str (.cons .str (.cons (.int .i64) (.cons (.own false 3 (.int .i64)) (.cons (.int .i64) (.cons (.int .i64) (.cons .str (.cons .str (.cons (.int .i64) (.cons (.own false 3 (.int .i64)) (.cons (.int .i64) .nil))))))))))))) (.cons .bool .nil))), s_StepBoth k⟩, ⟨17, 0, (.cons (.agg (.cons (.int .i64) (.cons .str (.cons .str (.cons (.int .i64) (.cons (.il true (.int .i64)) (.cons (.int .i64) (.cons (.int .i64) (.cons .str (.cons .str (.cons (.int .i64) (.cons (.il true (.int .i64)) (.cons (.int .i64) .nil))))))))))))) (.cons (.int .i64) (.cons (.int .i64) (.cons .str .nil)))), (.tup (.cons (.agg (.cons (.int .i64) (.cons .str (.cons .str (.cons (.int .i64) (.cons (.own false 3 (.int .i64)) (.cons (.int .i64) (.cons (.int .i64) (.cons .str (.cons .str (.cons (.int .i64) (.cons (.own false 3 (.int .i64)) (.cons (.int .i64) .nil))))))))))))) (.cons (.agg (.cons (.int .i64) (.cons (.int .i64) (.cons (.int .i64) (.cons (.int .i64) (.cons (.int .i64) (.cons (.own false 3 (.int .i64)) (.cons .str .nil)))))))) (.cons .bool .nil)))), s_SealData k⟩, ⟨56, 0, (.cons (.ptr 0 (.cons (.il true (.int .u8)) (.cons (.int .i64) (.cons (.int .i64) .nil)))) (.cons (.int .i64) .nil)), (.int .i64), s_l01Below k⟩, ⟨63, 0, (.cons (.ptr 0 (.cons (.il true (.int .u8)) (.cons (.int .i64) (.cons (.int .i64) .nil)))) (.cons (.int .i64) .nil)), .str, s_l01Text k⟩, ⟨81, 0, (.cons (.il true (.int .i64)) (.cons (.int .i64) .nil)), (.own false 3 (.int .i64)), s_NoteSeen k⟩, ⟨82, 0, (.cons (.agg (.cons (.int .i64) (.cons .str (.cons .str (.cons (.int .i64) (.cons (.il true (.int .i64)) (.cons (.int .i64) (.cons (.int .i64) (.cons .str (.cons .str (.cons (.int .i64) (.cons (.il true (.int .i64)) (.cons (.int .i64) .nil))))))))))))) (.cons (.int .i64) .nil)), (.agg (.cons (.int .i64) (.cons .str (.cons .str (.cons (.int .i64) (.cons (.own false 3 (.int .i64)) (.cons (.int .i64) (.cons (.int .i64) (.cons .str (.cons .str (.cons (.int .i64) (.cons (.own false 3 (.int .i64)) (.cons (.int .i64) .nil))))))))))))), s_TidySlots k⟩]) (loops := [(0, ⟨[0, 2, 3, 5, 6], (.cons (.ptr 0 (.cons (.il true (.int .u8)) (.cons (.int .i64) (.cons (.int .i64) .nil)))) (.cons (.ptr 0 (.cons (.int .i64) (.cons .str (.cons .str (.cons (.int .i64) (.cons (.own false 3 (.int .i64)) (.cons (.int .i64) (.cons (.int .i64) (.cons .str (.cons .str (.cons (.int .i64) (.cons (.own false 3 (.int .i64)) (.cons (.int .i64) .nil))))))))))))) (.cons (.ptr 0 (.cons (.int .i64) (.cons .str (.cons .str (.cons (.int .i64) (.cons (.own false 3 (.int .i64)) (.cons (.int .i64) (.cons (.int .i64) (.cons .str (.cons .str (.cons (.int .i64) (.cons (.own false 3 (.int .i64)) (.cons (.int .i64) .nil))))))))))))) (.cons (.int .i64) (.cons (.int .i64) .nil)))))⟩, ⟨[0, 2, 3], (.cons (.ptr 0 (.cons (.il true (.int .u8)) (.cons (.int .i64) (.cons (.int .i64) .nil)))) (.cons (.ptr 0 (.cons (.int .i64) (.cons .str (.cons .str (.cons (.int .i64) (.cons (.own false 3 (.int .i64)) (.cons (.int .i64) (.cons (.int .i64) (.cons .str (.cons .str (.cons (.int .i64) (.cons (.own false 3 (.int .i64)) (.cons (.int .i64) .nil))))))))))))) (.cons (.ptr 0 (.cons (.int .i64) (.cons .str (.cons .str (.cons (.int .i64) (.cons (.own false 3 (.int .i64)) (.cons (.int .i64) (.cons (.int .i64) (.cons .str (.cons .str (.cons (.int .i64) (.cons (.own false 3 (.int .i64)) (.cons (.int .i64) .nil))))))))))))) .nil)))⟩)]) (by kernel_rfl) (by kernel_rfl) (fun x r h => (t_s_l17Slots k x).trans h)
def s_l01New (k : Nat) (x : List (Int) × Unit) : Option ((List (Int) × Int × Int × Unit) × Unit × Unit) :=
(whileK (fun (rec0 : (List (Int) × Int × Int × Unit) → Option _) (y0 : List (Int) × Int × Int × Unit) =>
(if (decide (y0.2.2.1 < (List.length y0.1 : Int))) = true then
(if (decide (y0.2.2.1 < (4000 : Int))) = true then
(if 0 ≤ y0.2.2.1 ∧ y0.2.2.1 < (List.length y0.1 : Int) then
(rec0 (y0.1, ((bitsI .and .i64 (wi64 ((wi64 ((wi64 (y0.2.1 * (131 : Int))) + (wi64 ((Ty.rd (t := (.int .u8)) y0.1 y0.2.2.1))))) + (7 : Int))) (1073741823 : Int)), ((wi64 (y0.2.2.1 + (1 : Int))), ()))))
else none)
else
((fun (z1 : List (Int) × Int × Unit) =>
some ((z1.1, ((0 : Int), (z1.2.1, ()))), ((), ()))) (y0.1, (y0.2.1, ()))))
else
((fun (z1 : List (Int) × Int × Unit) =>
some ((z1.1, ((0 : Int), (z1.2.1, ()))), ((), ()))) (y0.1, (y0.2.1, ()))))) k (x.1, ((wi64 ((36201 : Int) + (List.length x.1 : Int))), ((0 : Int), ()))))
theorem t_s_l01New (k : Nat) (x) : evF TTab k [] [(0, ⟨[0, 3, 4], (.cons (.il true (.int .u8)) (.cons (.int .i64) (.cons (.int .i64) .nil)))⟩, ⟨[0, 3], (.cons (.il true (.int .u8)) (.cons (.int .i64) .nil))⟩)] Try.f54 (.cons (.il true (.int .u8)) .nil) (.ptr 0 (.cons (.il true (.int .u8)) (.cons (.int .i64) (.cons (.int .i64) .nil)))) x = s_l01New k x := by kernel_rfl
theorem e_s_l01New (k : Nat) : EntryOk Try.prog ⟨54, 0, (.cons (.il true (.int .u8)) .nil), (.ptr 0 (.cons (.il true (.int .u8)) (.cons (.int .i64) (.cons (.int .i64) .nil)))), s_l01New k⟩ := entry_ok tok (by simp) (by kernel_rfl) (fn := Try.f54) (k := k) (es := []) (loops := [(0, ⟨[0, 3, 4], (.cons (.il true (.int .u8)) (.cons (.int .i64) (.cons (.int .i64) .nil)))⟩, ⟨[0, 3], (.cons (.il true (.int .u8)) (.cons (.int .i64) .nil))⟩)]) (by kernel_rfl) (by kernel_rfl) (fun x r h => (t_s_l01New k x).trans h)
def s_DrawSlots (k : Nat) (x : List (Int) × Unit) : Option ((Int × ByteArray × ByteArray × Int × List (Int) × Int × Int × ByteArray × ByteArray × Int × List (Int) × Int × Unit) × Unit × Unit) :=
((s_l01New k (x.1, ())).bind fun p1 =>
((s_l17Slots k ((p1.1.1, (p1.1.2.1, (p1.1.2.2.1, ()))), ())).bind fun p2 =>
some ((p2.1.1, (p2.1.2.1, (p2.1.2.2.1, (p2.1.2.2.2.1, (p2.1.2.2.2.2.1, (p2.1.2.2.2.2.2.1, (p2.1.2.2.2.2.2.2.1, (p2.1.2.2.2.2.2.2.2.1, (p2.1.2.2.2.2.2.2.2.2.1, (p2.1.2.2.2.2.2.2.2.2.2.1, (p2.1.2.2.2.2.2.2.2.2.2.2.1, (p2.1.2.2.2.2.2.2.2.2.2.2.2.1, ())))))))))))), ((), ()))))
theorem t_s_DrawSlots (k : Nat) (x) : evF TTab k [⟨53, 0, (.cons (.ptr 0 (.cons (.il true (.int .u8)) (.cons (.int .i64) (.cons (.int .i64) .nil)))) .nil), (.agg (.cons (.int .i64) (.cons .str (.cons .str (.cons (.int .i64) (.cons (.own false 3 (.int .i64)) (.cons (.int .i64) (.cons (.int .i64) (.cons .str (.cons .str (.cons (.int .i64) (.cons (.own false 3 (.int .i64)) (.cons (.int .i64) .nil))))))))))))), s_l17Slots k⟩, ⟨54, 0, (.cons (.il true (.int .u8)) .nil), (.ptr 0 (.cons (.il true (.int .u8)) (.cons (.int .i64) (.cons (.int .i64) .nil)))), s_l01New k⟩] [] Try.f23 (.cons (.il true (.int .u8)) .nil) (.agg (.cons (.int .i64) (.cons .str (.cons .str (.cons (.int .i64) (.cons (.own false 3 (.int .i64)) (.cons (.int .i64) (.cons (.int .i64) (.cons .str (.cons .str (.cons (.int .i64) (.cons (.own false 3 (.int .i64)) (.cons (.int .i64) .nil))))))))))))) x = s_DrawSlots k x := by kernel_rfl
theorem e_s_DrawSlots (k : Nat) : EntryOk Try.prog ⟨23, 0, (.cons (.il true (.int .u8)) .nil), (.agg (.cons (.int .i64) (.cons .str (.cons .str (.cons (.int .i64) (.cons (.own false 3 (.int .i64)) (.cons (.int .i64) (.cons (.int .i64) (.cons .str (.cons .str (.cons (.int .i64) (.cons (.own false 3 (.int .i64)) (.cons (.int .i64) .nil))))))))))))), s_DrawSlots k⟩ := entry_ok tok (by intro e he; simp only [List.mem_cons, List.not_mem_nil, or_false] at he; rcases he with rfl | rfl <;> first | exact e_s_l17Slots k | exact e_s_l01New k) (by kernel_rfl) (fn := Try.f23) (k := k) (es := [⟨53, 0, (.cons (.ptr 0 (.cons (.il true (.int .u8)) (.cons (.int .i64) (.cons (.int .i64) .nil)))) .nil), (.agg (.cons (.int .i64) (.cons .str (.cons .str (.cons (.int .i64) (.cons (.own false 3 (.int .i64)) (.cons (.int .i64) (.cons (.int .i64) (.cons .str (.cons .str (.cons (.int .i64) (.cons (.own false 3 (.int .i64)) (.cons (.int .i64) .nil))))))))))))), s_l17Slots k⟩, ⟨54, 0, (.cons (.il true (.int .u8)) .nil), (.ptr 0 (.cons (.il true (.int .u8)) (.cons (.int .i64) (.cons (.int .i64) .nil)))), s_l01New k⟩]) (loops := []) (by kernel_rfl) (by kernel_rfl) (fun x r h => (t_s_DrawSlots k x).trans h)
def s_DrawPlaces (k : Nat) (x : List (Int) × Unit) : Option (List (Int) × Unit × Unit) :=
((s_l01New k (x.1, ())).bind fun p1 =>
((s_l01Byte k ((p1.1.1, (p1.1.2.1, (p1.1.2.2.1, ()))), ())).bind fun p2 =>
(whileK (fun (rec0 : ((List (Int) × Int × Int × Unit) × List (Int) × Int × Unit) → Option _) (y0 : (List (Int) × Int × Int × Unit) × List (Int) × Int × Unit) =>
(if (decide (y0.2.2.1 < (12 : Int))) = true then
((s_l01Below k ((y0.1.1, (y0.1.2.1, (y0.1.2.2.1, ()))), ((10000 : Int), ()))).bind fun p3 =>
(if List.length y0.2.1 + List.length ([p3.1] : List (Int)) ≤ capMax then
(rec0 ((p3.2.1.1, (p3.2.1.2.1, (p3.2.1.2.2.1, ()))), ((y0.2.1 ++ ([p3.1] : List (Int))), ((wi64 (y0.2.2.1 + (1 : Int))), ()))))
else none))
else
((fun (z1 : List (Int) × Unit) =>
some (z1.1, ((), ()))) (y0.2.1, ())))) k ((p2.2.1.1, (p2.2.1.2.1, (p2.2.1.2.2.1, ()))), (([] : List (Int)), ((0 : Int), ()))))))
theorem t_s_DrawPlaces (k : Nat) (x) : evF TTab k [⟨54, 0, (.cons (.il true (.int .u8)) .nil), (.ptr 0 (.cons (.il true (.int .u8)) (.cons (.int .i64) (.cons (.int .i64) .nil)))), s_l01New k⟩, ⟨55, 0, (.cons (.ptr 0 (.cons (.il true (.int .u8)) (.cons (.int .i64) (.cons (.int .i64) .nil)))) .nil), (.int .i64), s_l01Byte k⟩, ⟨56, 0, (.cons (.ptr 0 (.cons (.il true (.int .u8)) (.cons (.int .i64) (.cons (.int .i64) .nil)))) (.cons (.int .i64) .nil)), (.int .i64), s_l01Below k⟩] [(0, ⟨[3, 4, 5], (.cons (.ptr 0 (.cons (.il true (.int .u8)) (.cons (.int .i64) (.cons (.int .i64) .nil)))) (.cons (.own false 3 (.int .i64)) (.cons (.int .i64) .nil)))⟩, ⟨[4], (.cons (.own false 3 (.int .i64)) .nil)⟩)] Try.f24 (.cons (.il true (.int .u8)) .nil) (.own false 3 (.int .i64)) x = s_DrawPlaces k x := by kernel_rfl
theorem e_s_DrawPlaces (k : Nat) : EntryOk Try.prog ⟨24, 0, (.cons (.il true (.int .u8)) .nil), (.own false 3 (.int .i64)), s_DrawPlaces k⟩ := entry_ok tok (by intro e he; simp only [List.mem_cons, List.not_mem_nil, or_false] at he; rcases he with rfl | rfl | rfl <;> first | exact e_s_l01New k | exact e_s_l01Byte k | exact e_s_l01Below k) (by kernel_rfl) (fn := Try.f24) (k := k) (es := [⟨54, 0, (.cons (.il true (.int .u8)) .nil), (.ptr 0 (.cons (.il true (.int .u8)) (.cons (.int .i64) (.cons (.int .i64) .nil)))), s_l01New k⟩, ⟨55, 0, (.cons (.ptr 0 (.cons (.il true (.int .u8)) (.cons (.int .i64) (.cons (.int .i64) .nil)))) .nil), (.int .i64), s_l01Byte k⟩, ⟨56, 0, (.cons (.ptr 0 (.cons (.il true (.int .u8)) (.cons (.int .i64) (.cons (.int .i64) .nil)))) (.cons (.int .i64) .nil)), (.int .i64), s_l01Below k⟩]) (loops := [(0, ⟨[3, 4, 5], (.cons (.ptr 0 (.cons (.il true (.int .u8)) (.cons (.int .i64) (.cons (.int .i64) .nil)))) (.cons (.own false 3 (.int .i64)) (.cons (.int .i64) .nil)))⟩, ⟨[4], (.cons (.own false 3 (.int .i64)) .nil)⟩)]) (by kernel_rfl) (by kernel_rfl) (fun x r h => (t_s_DrawPlaces k x).trans h)
def i_TidySlots (k : Nat) (x : (Int × ByteArray × ByteArray × Int × List (Int) × Int × Int × ByteArray × ByteArray × Int × List (Int) × Int × Unit) × Int × Unit) : Option ((Int × ByteArray × ByteArray × Int × List (Int) × Int × Int × ByteArray × ByteArray × Int × List (Int) × Int × Unit) × Unit × Unit × Unit) :=
((i_copySlots k ((x.1.1, (x.1.2.1, (x.1.2.2.1, (x.1.2.2.2.1, (x.1.2.2.2.2.1, (x.1.2.2.2.2.2.1, (x.1.2.2.2.2.2.2.1, (x.1.2.2.2.2.2.2.2.1, (x.1.2.2.2.2.2.2.2.2.1, (x.1.2.2.2.2.2.2.2.2.2.1, (x.1.2.2.2.2.2.2.2.2.2.2.1, (x.1.2.2.2.2.2.2.2.2.2.2.2.1, ())))))))))))), ())).bind fun p1 =>
(if (decide (x.1.2.2.2.2.2.2.2.2.2.2.2.1 ≤ x.2.1)) = true then
some ((p1.1.1, (p1.1.2.1, (p1.1.2.2.1, (p1.1.2.2.2.1, (p1.1.2.2.2.2.1, (p1.1.2.2.2.2.2.1, ((0 : Int), ((⟨#[]⟩ : ByteArray), ((⟨#[]⟩ : ByteArray), ((0 : Int), ([], ((0 : Int), ())))))))))))), ((), ((), ())))
else
some ((p1.1.1, (p1.1.2.1, (p1.1.2.2.1, (p1.1.2.2.2.1, (p1.1.2.2.2.2.1, (p1.1.2.2.2.2.2.1, (p1.1.2.2.2.2.2.2.1, (p1.1.2.2.2.2.2.2.2.1, (p1.1.2.2.2.2.2.2.2.2.1, (p1.1.2.2.2.2.2.2.2.2.2.1, (p1.1.2.2.2.2.2.2.2.2.2.2.1, (p1.1.2.2.2.2.2.2.2.2.2.2.2.1, ())))))))))))), ((), ((), ())))))
theorem t_i_TidySlots (k : Nat) (x) : evF TTab k [⟨47, 0, (.cons (.agg (.cons (.int .i64) (.cons .str (.cons .str (.cons (.int .i64) (.cons (.il true (.int .i64)) (.cons (.int .i64) (.cons (.int .i64) (.cons .str (.cons .str (.cons (.int .i64) (.cons (.il true (.int .i64)) (.cons (.int .i64) .nil))))))))))))) .nil), (.agg (.cons (.int .i64) (.cons .str (.cons .str (.cons (.int .i64) (.cons (.own false 3 (.int .i64)) (.cons (.int .i64) (.cons (.int .i64) (.cons .str (.cons .str (.cons (.int .i64) (.cons (.own false 3 (.int .i64)) (.cons (.int .i64) .nil))))))))))))), i_copySlots k⟩] [] Try.f27 (.cons (.agg (.cons (.int .i64) (.cons .str (.cons .str (.cons (.int .i64) (.cons (.il true (.int .i64)) (.cons (.int .i64) (.cons (.int .i64) (.cons .str (.cons .str (.cons (.int .i64) (.cons (.il true (.int .i64)) (.cons (.int .i64) .nil))))))))))))) (.cons (.int .i64) .nil)) (.agg (.cons (.int .i64) (.cons .str (.cons .str (.cons (.int .i64) (.cons (.own false 3 (.int .i64)) (.cons (.int .i64) (.cons (.int .i64) (.cons .str (.cons .str (.cons (.int .i64) (.cons (.own false 3 (.int .i64)) (.cons (.int .i64) .nil))))))))))))) x = i_TidySlots k x := by kernel_rfl
theorem e_i_TidySlots (k : Nat) : EntryOk Try.prog ⟨27, 0, (.cons (.agg (.cons (.int .i64) (.cons .str (.cons .str (.cons (.int .i64) (.cons (.il true (.int .i64)) (.cons (.int .i64) (.cons (.int .i64) (.cons .str (.cons .str (.cons (.int .i64) (.cons (.il true (.int .i64)) (.cons (.int .i64) .nil))))))))))))) (.cons (.int .i64) .nil)), (.agg (.cons (.int .i64) (.cons .str (.cons .str (.cons (.int .i64) (.cons (.own false 3 (.int .i64)) (.cons (.int .i64) (.cons (.int .i64) (.cons .str (.cons .str (.cons (.int .i64) (.cons (.own false 3 (.int .i64)) (.cons (.int .i64) .nil))))))))))))), i_TidySlots k⟩ := entry_ok tok (by intro e he; simp only [List.mem_cons, List.not_mem_nil, or_false] at he; rcases he with rfl <;> first | exact e_i_copySlots k) (by kernel_rfl) (fn := Try.f27) (k := k) (es := [⟨47, 0, (.cons (.agg (.cons (.int .i64) (.cons .str (.cons .str (.cons (.int .i64) (.cons (.il true (.int .i64)) (.cons (.int .i64) (.cons (.int .i64) (.cons .str (.cons .str (.cons (.int .i64) (.cons (.il true (.int .i64)) (.cons (.int .i64) .nil))))))))))))) .nil), (.agg (.cons (.int .i64) (.cons .str (.cons .str (.cons (.int .i64) (.cons (.own false 3 (.int .i64)) (.cons (.int .i64) (.cons (.int .i64) (.cons .str (.cons .str (.cons (.int .i64) (.cons (.own false 3 (.int .i64)) (.cons (.int .i64) .nil))))))))))))), i_copySlots k⟩]) (loops := []) (by kernel_rfl) (by kernel_rfl) (fun x r h => (t_i_TidySlots k x).trans h)
end Go.Proofs.Ytfgdejabocealaa
