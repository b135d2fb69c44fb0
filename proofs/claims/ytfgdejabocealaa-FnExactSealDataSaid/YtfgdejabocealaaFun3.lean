import Derived.Test.YtfgdejabocealaaFun2
/- What functions of the program compute, as plain functions, and that their calls do so (part 3). Conditions: the plain function answers. -/
set_option linter.unusedVariables false
namespace Go.Proofs.Ytfgdejabocealaa
open Go Go.Eng Go.Proofs
def w_FnSlots (k : Nat) (x : List (Int) × Unit) : Option (Bool × Unit × Unit) :=
((w_big k (x.1, ())).bind fun p1 =>
(if p1.1 = true then
some (true, ((), ()))
else
((s_DrawSlots k (x.1, ())).bind fun p2 =>
((s_DrawPlaces k (x.1, ())).bind fun p3 =>
(if 0 ≤ (0 : Int) ∧ (0 : Int) < (List.length p3.1 : Int) then
((s_DigestOf k ((⟨#[97]⟩ : ByteArray), ())).bind fun p4 =>
((s_DigestOf k ((⟨#[98]⟩ : ByteArray), ())).bind fun p5 =>
((i_Install k ((p2.1.1, (p2.1.2.1, (p2.1.2.2.1, (p2.1.2.2.2.1, (p2.1.2.2.2.2.1, (p2.1.2.2.2.2.2.1, (p2.1.2.2.2.2.2.2.1, (p2.1.2.2.2.2.2.2.2.1, (p2.1.2.2.2.2.2.2.2.2.1, (p2.1.2.2.2.2.2.2.2.2.2.1, (p2.1.2.2.2.2.2.2.2.2.2.2.1, (p2.1.2.2.2.2.2.2.2.2.2.2.2.1, ())))))))))))), (p4.1, (p5.1, ((Int.tmod (Ty.rd (t := (.int .i64)) p3.1 (0 : Int)) (90 : Int)), ()))))).bind fun p6 =>
((i_TidySlots k ((p6.1.1.1, (p6.1.1.2.1, (p6.1.1.2.2.1, (p6.1.1.2.2.2.1, (p6.1.1.2.2.2.2.1, (p6.1.1.2.2.2.2.2.1, (p6.1.1.2.2.2.2.2.2.1, (p6.1.1.2.2.2.2.2.2.2.1, (p6.1.1.2.2.2.2.2.2.2.2.1, (p6.1.1.2.2.2.2.2.2.2.2.2.1, (p6.1.1.2.2.2.2.2.2.2.2.2.2.1, (p6.1.1.2.2.2.2.2.2.2.2.2.2.2.1, ())))))))))))), ((wi64 ((Int.tmod (Ty.rd (t := (.int .i64)) p3.1 (0 : Int)) (90 : Int)) + (10 : Int))), ()))).bind fun p7 =>
((i_TidySlots k ((p6.1.1.1, (p6.1.1.2.1, (p6.1.1.2.2.1, (p6.1.1.2.2.2.1, (p6.1.1.2.2.2.2.1, (p6.1.1.2.2.2.2.2.1, (p6.1.1.2.2.2.2.2.2.1, (p6.1.1.2.2.2.2.2.2.2.1, (p6.1.1.2.2.2.2.2.2.2.2.1, (p6.1.1.2.2.2.2.2.2.2.2.2.1, (p6.1.1.2.2.2.2.2.2.2.2.2.2.1, (p6.1.1.2.2.2.2.2.2.2.2.2.2.2.1, ())))))))))))), ((wi64 ((wi64 ((Int.tmod (Ty.rd (t := (.int .i64)) p3.1 (0 : Int)) (90 : Int)) + (10 : Int))) - (1 : Int))), ()))).bind fun p8 =>
((s_DigestOf k ((⟨#[98]⟩ : ByteArray), ())).bind fun p9 =>
((i_Install k ((p2.1.1, (p2.1.2.1, (p2.1.2.2.1, (p2.1.2.2.2.1, (p2.1.2.2.2.2.1, (p2.1.2.2.2.2.2.1, (p2.1.2.2.2.2.2.2.1, (p2.1.2.2.2.2.2.2.2.1, (p2.1.2.2.2.2.2.2.2.2.1, (p2.1.2.2.2.2.2.2.2.2.2.1, (p2.1.2.2.2.2.2.2.2.2.2.2.1, (p2.1.2.2.2.2.2.2.2.2.2.2.2.1, ())))))))))))), ((⟨#[115, 104, 111, 114, 116]⟩ : ByteArray), (p9.1, ((Int.tmod (Ty.rd (t := (.int .i64)) p3.1 (0 : Int)) (90 : Int)), ()))))).bind fun p10 =>
((i_NextKeys k (p2.1.2.1, (p2.1.2.2.1, ()))).bind fun p11 =>
((s_NextKeys k (p2.1.2.1, (p2.1.2.2.1, ()))).bind fun p12 =>
(if p6.1.2.1 = true then
(if (!p10.1.2.1) = true then
((i_SlotsOk k ((p2.1.1, (p2.1.2.1, (p2.1.2.2.1, (p2.1.2.2.2.1, (p2.1.2.2.2.2.1, (p2.1.2.2.2.2.2.1, (p2.1.2.2.2.2.2.2.1, (p2.1.2.2.2.2.2.2.2.1, (p2.1.2.2.2.2.2.2.2.2.1, (p2.1.2.2.2.2.2.2.2.2.2.1, (p2.1.2.2.2.2.2.2.2.2.2.2.1, (p2.1.2.2.2.2.2.2.2.2.2.2.2.1, ())))))))))))), ())).bind fun p13 =>
(if p13.1 = true then
((i_SlotsOk k ((p6.1.1.1, (p6.1.1.2.1, (p6.1.1.2.2.1, (p6.1.1.2.2.2.1, (p6.1.1.2.2.2.2.1, (p6.1.1.2.2.2.2.2.1, (p6.1.1.2.2.2.2.2.2.1, (p6.1.1.2.2.2.2.2.2.2.1, (p6.1.1.2.2.2.2.2.2.2.2.1, (p6.1.1.2.2.2.2.2.2.2.2.2.1, (p6.1.1.2.2.2.2.2.2.2.2.2.2.1, (p6.1.1.2.2.2.2.2.2.2.2.2.2.2.1, ())))))))))))), ())).bind fun p14 =>
(if p14.1 = true then
((i_SlotsOk k ((p7.1.1, (p7.1.2.1, (p7.1.2.2.1, (p7.1.2.2.2.1, (p7.1.2.2.2.2.1, (p7.1.2.2.2.2.2.1, (p7.1.2.2.2.2.2.2.1, (p7.1.2.2.2.2.2.2.2.1, (p7.1.2.2.2.2.2.2.2.2.1, (p7.1.2.2.2.2.2.2.2.2.2.1, (p7.1.2.2.2.2.2.2.2.2.2.2.1, (p7.1.2.2.2.2.2.2.2.2.2.2.2.1, ())))))))))))), ())).bind fun p15 =>
(if p15.1 = true then
((i_SlotOk k ((p6.1.1.2.2.2.2.2.2.1, (p6.1.1.2.2.2.2.2.2.2.1, (p6.1.1.2.2.2.2.2.2.2.2.1, (p6.1.1.2.2.2.2.2.2.2.2.2.1, (p6.1.1.2.2.2.2.2.2.2.2.2.2.1, (p6.1.1.2.2.2.2.2.2.2.2.2.2.2.1, ())))))), ())).bind fun p16 =>
(if p16.1 = true then
(if (decide (p6.1.1.1 = (wi64 (p2.1.1 + (1 : Int))))) = true then
(if (decide (p6.1.1.2.2.2.2.2.2.2.1 = p2.1.2.1)) = true then
(if (decide (p6.1.1.2.2.2.2.2.2.2.2.2.2.2.1 = (wi64 ((Int.tmod (Ty.rd (t := (.int .i64)) p3.1 (0 : Int)) (90 : Int)) + (10 : Int))))) = true then
(if (decide (p7.1.2.2.2.2.2.2.1 = (0 : Int))) = true then
(if (decide (p8.1.2.2.2.2.2.2.1 = p2.1.1)) = true then
((i_Spent k ((p6.1.1.1, (p6.1.1.2.1, (p6.1.1.2.2.1, (p6.1.1.2.2.2.1, (p6.1.1.2.2.2.2.1, (p6.1.1.2.2.2.2.2.1, (p6.1.1.2.2.2.2.2.2.1, (p6.1.1.2.2.2.2.2.2.2.1, (p6.1.1.2.2.2.2.2.2.2.2.1, (p6.1.1.2.2.2.2.2.2.2.2.2.1, (p6.1.1.2.2.2.2.2.2.2.2.2.2.1, (p6.1.1.2.2.2.2.2.2.2.2.2.2.2.1, ())))))))))))), ())).bind fun p17 =>
(if (!p17.1) = true then
((i_Spent k (((0 : Int), ((⟨#[]⟩ : ByteArray), ((⟨#[]⟩ : ByteArray), ((0 : Int), ([], ((0 : Int), ((0 : Int), ((⟨#[]⟩ : ByteArray), ((⟨#[]⟩ : ByteArray), ((0 : Int), ([], ((0 : Int), ())))))))))))), ())).bind fun p18 =>
(if p18.1 = true then
(if (decide (p11.1.1 = p12.1.1)) = true then
some ((decide (p11.1.2.1 = p12.1.2.1)), ((), ()))
else
some (false, ((), ())))
else
some (false, ((), ()))))
else
some (false, ((), ()))))
else
some (false, ((), ())))
else
some (false, ((), ())))
else
some (false, ((), ())))
else
some (false, ((), ())))
else
some (false, ((), ())))
else
some (false, ((), ()))))
else
some (false, ((), ()))))
else
some (false, ((), ()))))
else
some (false, ((), ()))))
else
some (false, ((), ())))
else
some (false, ((), ()))))))))))))
else none)))))
theorem t_w_FnSlots (k : Nat) (x) : evF TTab k [⟨22, 0, (.cons (.il true (.int .u8)) .nil), .bool, w_big k⟩, ⟨23, 0, (.cons (.il true (.int .u8)) .nil), (.agg (.cons (.int .i64) (.cons .str (.cons .str (.cons (.int .i64) (.cons (.own false 3 (.int .i64)) (.cons (.int .i64) (.cons (.int .i64) (.cons .str (.cons .str (.cons (.int .i64) (.cons (.own false 3 (.int .i64)) (.cons (.int .i64) .nil))))))))))))), s_DrawSlots k⟩, ⟨24, 0, (.cons (.il true (.int .u8)) .nil), (.own false 3 (.int .i64)), s_DrawPlaces k⟩, ⟨25, 0, (.cons (.agg (.cons (.int .i64) (.cons .str (.cons .str (.cons (.int .i64) (.cons (.il true (.int .i64)) (.cons (.int .i64) (.cons (.int .i64) (.cons .str (.cons .str (.cons (.int .i64) (.cons (.il true (.int .i64)) (.cons (.int .i64) .nil))))))))))))) (.cons .str (.cons .str (.cons (.int .i64) .nil)))), (.tup (.cons (.agg (.cons (.int .i64) (.cons .str (.cons .str (.cons (.int .i64) (.cons (.own false 3 (.int .i64)) (.cons (.int .i64) (.cons (.int .i64) (.cons .str (.cons .str (.cons (.int .i64) (.cons (.own false 3 (.int .i64)) (.cons (.int .i64) .nil))))))))))))) (.cons .bool .nil))), i_Install k⟩, ⟨26, 0, (.cons .str .nil), .str, s_DigestOf k⟩, ⟨27, 0, (.cons (.agg (.cons (.int .i64) (.cons .str (.cons .str (.cons (.int .i64) (.cons (.il true (.int .i64)) (.cons (.int .i64) (.cons (.int .i64) (.cons .str (.cons .str (.cons (.int .i64) (.cons (.il true (.int .i64)) (.cons (.int .i64) .nil))))))))))))) (.cons (.int .i64) .nil)), (.agg (.cons (.int .i64) (.cons .str (.cons .str (.cons (.int .i64) (.cons (.own false 3 (.int .i64)) (.cons (.int .i64) (.cons (.int .i64) (.cons .str (.cons .str (.cons (.int .i64) (.cons (.own false 3 (.int .i64)) (.cons (.int .i64) .nil))))))))))))), i_TidySlots k⟩, ⟨28, 0, (.cons .str (.cons .str .nil)), (.tup (.cons .str (.cons .str .nil))), i_NextKeys k⟩, ⟨29, 0, (.cons .str (.cons .str .nil)), (.tup (.cons .str (.cons .str .nil))), s_NextKeys k⟩, ⟨30, 0, (.cons (.agg (.cons (.int .i64) (.cons .str (.cons .str (.cons (.int .i64) (.cons (.il true (.int .i64)) (.cons (.int .i64) (.cons (.int .i64) (.cons .str (.cons .str (.cons (.int .i64) (.cons (.il true (.int .i64)) (.cons (.int .i64) .nil))))))))))))) .nil), .bool, i_SlotsOk k⟩, ⟨31, 0, (.cons (.agg (.cons (.int .i64) (.cons .str (.cons .str (.cons (.int .i64) (.cons (.il true (.int .i64)) (.cons (.int .i64) .nil))))))) .nil), .bool, i_SlotOk k⟩, ⟨32, 0, (.cons (.agg (.cons (.int .i64) (.cons .str (.cons .str (.cons (.int .i64) (.cons (.il true (.int .i64)) (.cons (.int .i64) (.cons (.int .i64) (.cons .str (.cons .str (.cons (.int .i64) (.cons (.il true (.int .i64)) (.cons (.int .i64) .nil))))))))))))) .nil), .bool, i_Spent k⟩] [] Try.f6 (.cons (.il true (.int .u8)) .nil) .bool x = w_FnSlots k x := by kernel_rfl
theorem e_w_FnSlots (k : Nat) : EntryOk Try.prog ⟨6, 0, (.cons (.il true (.int .u8)) .nil), .bool, w_FnSlots k⟩ := entry_ok tok (by intro e he; simp only [List.mem_cons, List.not_mem_nil, or_false] at he; rcases he with rfl | rfl | rfl | rfl | rfl | rfl | rfl | rfl | rfl | rfl | rfl <;> first | exact e_w_big k | exact e_s_DrawSlots k | exact e_s_DrawPlaces k | exact e_i_Install k | exact e_s_DigestOf k | exact e_i_TidySlots k | exact e_i_NextKeys k | exact e_s_NextKeys k | exact e_i_SlotsOk k | exact e_i_SlotOk k | exact e_i_Spent k) (by kernel_rfl) (fn := Try.f6) (k := k) (es := [⟨22, 0, (.cons (.il true (.int .u8)) .nil), .bool, w_big k⟩, ⟨23, 0, (.cons (.il true (.int .u8)) .nil), (.agg (.cons (.int .i64) (.cons .str (.cons .str (.cons (.int .i64) (.cons (.own false 3 (.int .i64)) (.cons (.int .i64) (.cons (.int .i64) (.cons .str (.cons .str (.cons (.int .i64) (.cons (.own false 3 (.int .i64)) (.cons (.int .i64) .nil))))))))))))), s_DrawSlots k⟩, ⟨24, 0, (.cons (.il true (.int .u8)) .nil), (.own false 3 (.int .i64)), s_DrawPlaces k⟩, ⟨25, 0, (.cons (.agg (.cons (.int .i64) (.cons .str (.cons .str (.cons (.int .i64) (.cons (.il true (.int .i64)) (.cons (.int .i64) (.cons (.int .i64) (.cons .str (.cons .str (.cons (.int .i64) (.cons (.il true (.int .i64)) (.cons (.int .i64) .nil))))))))))))) (.cons .str (.cons .str (.cons (.int .i64) .nil)))), (.tup (.cons (.agg (.cons (.int .i64) (.cons .str (.cons .str (.cons (.int .i64) (.cons (.own false 3 (.int .i64)) (.cons (.int .i64) (.cons (.int .i64) (.cons .str (.cons .str (.cons (.int .i64) (.cons (.own false 3 (.int .i64)) (.cons (.int .i64) .nil))))))))))))) (.cons .bool .nil))), i_Install k⟩, ⟨26, 0, (.cons .str .nil), .str, s_DigestOf k⟩, ⟨27, 0, (.cons (.agg (.cons (.int .i64) (.cons .str (.cons .str (.cons (.int .i64) (.cons (.il true (.int .i64)) (.cons (.int .i64) (.cons (.int .i64) (.cons .str (.cons .str (.cons (.int .i64) (.cons (.il true (.int .i64)) (.cons (.int .i64) .nil))))))))))))) (.cons (.int .i64) .nil)), (.agg (.cons (.int .i64) (.cons .str (.cons .str (.cons (.int .i64) (.cons (.own false 3 (.int .i64)) (.cons (.int .i64) (.cons (.int .i64) (.cons .str (.cons .str (.cons (.int .i64) (.cons (.own false 3 (.int .i64)) (.cons (.int .i64) .nil))))))))))))), i_TidySlots k⟩, ⟨28, 0, (.cons .str (.cons .str .nil)), (.tup (.cons .str (.cons .str .nil))), i_NextKeys k⟩, ⟨29, 0, (.cons .str (.cons .str .nil)), (.tup (.cons .str (.cons .str .nil))), s_NextKeys k⟩, ⟨30, 0, (.cons (.agg (.cons (.int .i64) (.cons .str (.cons .str (.cons (.int .i64) (.cons (.il true (.int .i64)) (.cons (.int .i64) (.cons (.int .i64) (.cons .str (.cons .str (.cons (.int .i64) (.cons (.il true (.int .i64)) (.cons (.int .i64) .nil))))))))))))) .nil), .bool, i_SlotsOk k⟩, ⟨31, 0, (.cons (.agg (.cons (.int .i64) (.cons .str (.cons .str (.cons (.int .i64) (.cons (.il true (.int .i64)) (.cons (.int .i64) .nil))))))) .nil), .bool, i_SlotOk k⟩, ⟨32, 0, (.cons (.agg (.cons (.int .i64) (.cons .str (.cons .str (.cons (.int .i64) (.cons (.il true (.int .i64)) (.cons (.int .i64) (.cons (.int .i64) (.cons .str (.cons .str (.cons (.int .i64) (.cons (.il true (.int .i64)) (.cons (.int .i64) .nil))))))))))))) .nil), .bool, i_Spent k⟩]) (loops := []) (by kernel_rfl) (by kernel_rfl) (fun x r h => (t_w_FnSlots k x).trans h)
end Go.Proofs.Ytfgdejabocealaa
