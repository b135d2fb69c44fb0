import Derived.Test.YtaamcelinnnncaaFun0
/- What functions of the program compute, as plain functions, and that their calls do so (part 1). Conditions: the plain function answers. -/
set_option linter.unusedVariables false
namespace Go.Proofs.Ytaamcelinnnncaa
open Go Go.Eng Go.Proofs
/- Names of types and patterns that come often. -/
abbrev yT0 : Ty := (.pair (.int .i64) (.pair (.int .i64) (.pair (.int .i64) (.pair (.ols 9 .str) (.pair (.ols 4 .bool) (.int .i64))))))
abbrev yT1 : Ty := (.pair (.int .i64) (.pair (.int .i64) (.pair (.int .i64) (.pair (.list .str) (.pair (.list .bool) (.int .i64))))))
abbrev yP2 : Pat := (.cons (.int .i64) .nil)
abbrev yT3 : Ty := (.pair (.int .i64) (.pair (.int .i64) (.pair (.int .i64) (.pair .nm (.pair .nm (.int .i64))))))
abbrev yP4 : Pat := (.cons (.int .i64) (.cons (.int .i64) (.cons (.int .i64) (.cons (.il true .str) (.cons (.il true .bool) yP2)))))
abbrev yT5 : Ty := (.pair (.int .i64) (.pair (.int .i64) (.pair (.int .i64) (.pair (.olq 9 .str) (.pair (.olq 4 .bool) (.int .i64))))))
abbrev yP6 : Pat := (.cons (.il true (.int .u8)) (.cons (.int .i64) yP2))
abbrev yP7 : Pat := (.cons (.own false 53 yT0) .nil)
abbrev yP8 : Pat := (.cons (.il true yT1) .nil)
abbrev yP9 : Pat := (.cons (.int .i64) (.cons (.int .i64) yP2))
abbrev yP10 : Pat := (.cons (.ptr 0 yP2) .nil)
abbrev yP11 : Pat := (.tup (.cons (.int .i64) (.cons (.int .i64) (.cons (.int .i64) (.cons .str (.cons .bool .nil))))))
abbrev yP12 : Pat := (.cons (.int .i64) (.cons (.int .i64) (.cons (.int .i64) (.cons (.own false 9 .str) (.cons (.own false 4 .bool) yP2)))))
abbrev yP13 : Pat := (.cons (.agg (.cons (.int .i64) (.cons (.int .i64) (.cons (.int .i64) (.cons .nm (.cons .nm yP2)))))) yP10)
abbrev yP14 : Pat := (.tup (.cons (.agg yP7) (.cons .str (.cons .bool .nil))))
abbrev yP15 : Pat := (.cons (.int .i64) (.cons .str yP2))

def w_big (k : Nat) (x : List (Int) × Unit) : Option (Bool × Unit × Unit) :=
some ((decide ((1048576 : Int) < (List.length x.1 : Int))), ((), ()))
theorem t_w_big (k : Nat) (x) : evF TTab k [] [] Try.f11 (.cons (.il true (.int .u8)) .nil) .bool x = w_big k x := by kernel_rfl
theorem e_w_big [Names] (k : Nat) : EntryOk Try.prog ⟨11, 0, (.cons (.il true (.int .u8)) .nil), .bool, w_big k⟩ := entry_ok tok (by simp) (by kernel_rfl) (fn := Try.f11) (k := k) (es := []) (loops := []) (by kernel_rfl) (by kernel_rfl) (fun x r h => (t_w_big k x).trans h)
def s_l01New (k : Nat) (x : List (Int) × Unit) : Option ((List (Int) × Int × Int × Unit) × Unit × Unit) :=
(whileK (fun (rec0 : (List (Int) × Int × Int × Unit) → Option _) (y0 : List (Int) × Int × Int × Unit) =>
(if (decide (y0.2.2.1 < (List.length y0.1 : Int))) = true then
(if (decide (y0.2.2.1 < (4000 : Int))) = true then
(if 0 ≤ y0.2.2.1 ∧ y0.2.2.1 < (List.length y0.1 : Int) then
(rec0 (y0.1, ((bitsI .and .i64 (wi64 ((wi64 ((wi64 (y0.2.1 * (131 : Int))) + (wi64 ((Ty.rd (t := (.int .u8)) y0.1 y0.2.2.1))))) + (7 : Int))) (1073741823 : Int)), ((wi64 (y0.2.2.1 + (1 : Int))), ()))))
else none)
else
((fun (z1 : List (Int) × Int × Unit) =>
some ((z1.1, ((0 : Int), (z1.2.1, ()))), ((), ()))) (y0.1, (y0.2.1, ()))))
else
((fun (z1 : List (Int) × Int × Unit) =>
some ((z1.1, ((0 : Int), (z1.2.1, ()))), ((), ()))) (y0.1, (y0.2.1, ()))))) k (x.1, ((wi64 ((36201 : Int) + (List.length x.1 : Int))), ((0 : Int), ()))))
theorem t_s_l01New (k : Nat) (x) : evF TTab k [] [(0, ⟨[0, 3, 4], yP6⟩, ⟨[0, 3], (.cons (.il true (.int .u8)) yP2)⟩)] Try.f51 (.cons (.il true (.int .u8)) .nil) (.ptr 0 yP6) x = s_l01New k x := by kernel_rfl
theorem e_s_l01New [Names] (k : Nat) : EntryOk Try.prog ⟨51, 0, (.cons (.il true (.int .u8)) .nil), (.ptr 0 yP6), s_l01New k⟩ := entry_ok tok (by simp) (by kernel_rfl) (fn := Try.f51) (k := k) (es := []) (loops := [(0, ⟨[0, 3, 4], yP6⟩, ⟨[0, 3], (.cons (.il true (.int .u8)) yP2)⟩)]) (by kernel_rfl) (by kernel_rfl) (fun x r h => (t_s_l01New k x).trans h)
def s_l01Byte (k : Nat) (x : (List (Int) × Int × Int × Unit) × Unit) : Option (Int × (List (Int) × Int × Int × Unit) × Unit) :=
(if (decide (x.1.2.1 < (List.length x.1.1 : Int))) = true then
(if 0 ≤ x.1.2.1 ∧ x.1.2.1 < (List.length x.1.1 : Int) then
some ((bitsI .and .i64 (wi64 ((bitsI .and .i64 (bitsI .xor .i64 (Int.fdiv (wi64 ((wi64 (x.1.2.2.1 * (6364136223846793005 : Int))) + (1442695040888963407 : Int))) (2 ^ (min (Int.toNat (33 : Int)) (IntKind.bits .i64)))) (Int.fdiv (wi64 ((wi64 (x.1.2.2.1 * (6364136223846793005 : Int))) + (1442695040888963407 : Int))) (2 ^ (min (Int.toNat (45 : Int)) (IntKind.bits .i64))))) (255 : Int)) + (wi64 ((Ty.rd (t := (.int .u8)) x.1.1 x.1.2.1))))) (255 : Int)), ((x.1.1, ((wi64 (x.1.2.1 + (1 : Int))), ((wi64 ((wi64 (x.1.2.2.1 * (6364136223846793005 : Int))) + (1442695040888963407 : Int))), ()))), ()))
else none)
else
some ((bitsI .and .i64 (bitsI .xor .i64 (Int.fdiv (wi64 ((wi64 (x.1.2.2.1 * (6364136223846793005 : Int))) + (1442695040888963407 : Int))) (2 ^ (min (Int.toNat (33 : Int)) (IntKind.bits .i64)))) (Int.fdiv (wi64 ((wi64 (x.1.2.2.1 * (6364136223846793005 : Int))) + (1442695040888963407 : Int))) (2 ^ (min (Int.toNat (45 : Int)) (IntKind.bits .i64))))) (255 : Int)), ((x.1.1, (x.1.2.1, ((wi64 ((wi64 (x.1.2.2.1 * (6364136223846793005 : Int))) + (1442695040888963407 : Int))), ()))), ())))
theorem t_s_l01Byte (k : Nat) (x) : evF TTab k [] [] Try.f58 (.cons (.ptr 0 yP6) .nil) (.int .i64) x = s_l01Byte k x := by kernel_rfl
theorem e_s_l01Byte [Names] (k : Nat) : EntryOk Try.prog ⟨58, 0, (.cons (.ptr 0 yP6) .nil), (.int .i64), s_l01Byte k⟩ := entry_ok tok (by simp) (by kernel_rfl) (fn := Try.f58) (k := k) (es := []) (loops := []) (by kernel_rfl) (by kernel_rfl) (fun x r h => (t_s_l01Byte k x).trans h)
def s_l01Below (k : Nat) (x : (List (Int) × Int × Int × Unit) × Int × Unit) : Option (Int × (List (Int) × Int × Int × Unit) × Unit × Unit) :=
(if (decide (x.2.1 ≤ (0 : Int))) = true then
some ((0 : Int), ((x.1.1, (x.1.2.1, (x.1.2.2.1, ()))), ((), ())))
else
(if (decide (x.2.1 ≤ (256 : Int))) = true then
((s_l01Byte k ((x.1.1, (x.1.2.1, (x.1.2.2.1, ()))), ())).bind fun p1 =>
(if x.2.1 = 0 then
none
else
some ((Int.tmod p1.1 x.2.1), ((p1.2.1.1, (p1.2.1.2.1, (p1.2.1.2.2.1, ()))), ((), ())))))
else
((s_l01Byte k ((x.1.1, (x.1.2.1, (x.1.2.2.1, ()))), ())).bind fun p2 =>
((s_l01Byte k ((p2.2.1.1, (p2.2.1.2.1, (p2.2.1.2.2.1, ()))), ())).bind fun p3 =>
((s_l01Byte k ((p3.2.1.1, (p3.2.1.2.1, (p3.2.1.2.2.1, ()))), ())).bind fun p4 =>
((s_l01Byte k ((p4.2.1.1, (p4.2.1.2.1, (p4.2.1.2.2.1, ()))), ())).bind fun p5 =>
(if x.2.1 = 0 then
none
else
some ((Int.tmod (wi64 ((wi64 ((wi64 ((wi64 (p2.1 * (16777216 : Int))) + (wi64 (p3.1 * (65536 : Int))))) + (wi64 (p4.1 * (256 : Int))))) + p5.1)) x.2.1), ((p5.2.1.1, (p5.2.1.2.1, (p5.2.1.2.2.1, ()))), ((), ()))))))))))
theorem t_s_l01Below (k : Nat) (x) : evF TTab k [⟨58, 0, (.cons (.ptr 0 yP6) .nil), (.int .i64), s_l01Byte k⟩] [] Try.f53 (.cons (.ptr 0 yP6) yP2) (.int .i64) x = s_l01Below k x := by kernel_rfl
theorem e_s_l01Below [Names] (k : Nat) : EntryOk Try.prog ⟨53, 0, (.cons (.ptr 0 yP6) yP2), (.int .i64), s_l01Below k⟩ := entry_ok tok (by intro e he; simp only [List.mem_cons, List.not_mem_nil, or_false] at he; rcases he with rfl <;> first | exact e_s_l01Byte k) (by kernel_rfl) (fn := Try.f53) (k := k) (es := [⟨58, 0, (.cons (.ptr 0 yP6) .nil), (.int .i64), s_l01Byte k⟩]) (loops := []) (by kernel_rfl) (by kernel_rfl) (fun x r h => (t_s_l01Below k x).trans h)
def s_l01Text (k : Nat) (x : (List (Int) × Int × Int × Unit) × Int × Unit) : Option (ByteArray × (List (Int) × Int × Int × Unit) × Unit × Unit) :=
(jn (fun (j1v0 : Int) =>
(whileK (fun (rec0 : ((List (Int) × Int × Int × Unit) × Int × List (Int) × Int × Unit) → Option _) (y0 : (List (Int) × Int × Int × Unit) × Int × List (Int) × Int × Unit) =>
(if (decide (y0.2.2.2.1 < y0.2.1)) = true then
((s_l01Byte k ((y0.1.1, (y0.1.2.1, (y0.1.2.2.1, ()))), ())).bind fun p2 =>
(if List.length y0.2.2.1 + List.length ([(wu8 (p2.1))] : List (Int)) ≤ capMax then
(rec0 ((p2.2.1.1, (p2.2.1.2.1, (p2.2.1.2.2.1, ()))), (y0.2.1, ((y0.2.2.1 ++ ([(wu8 (p2.1))] : List (Int))), ((wi64 (y0.2.2.2.1 + (1 : Int))), ())))))
else none))
else
((fun (z2 : (List (Int) × Int × Int × Unit) × List (Int) × Unit) =>
some ((strOf z2.2.1), ((z2.1.1, (z2.1.2.1, (z2.1.2.2.1, ()))), ((), ())))) ((y0.1.1, (y0.1.2.1, (y0.1.2.2.1, ()))), (y0.2.2.1, ()))))) k ((x.1.1, (x.1.2.1, (x.1.2.2.1, ()))), (j1v0, (([] : List (Int)), ((0 : Int), ())))))) (fun (j1 : Int → Option _) =>
(if (decide ((5000 : Int) < x.2.1)) = true then
(j1 (5000 : Int))
else
(j1 x.2.1))))
theorem t_s_l01Text (k : Nat) (x) : evF TTab k [⟨58, 0, (.cons (.ptr 0 yP6) .nil), (.int .i64), s_l01Byte k⟩] [(0, ⟨[0, 1, 5, 6], (.cons (.ptr 0 yP6) (.cons (.int .i64) (.cons (.own false 5 (.int .u8)) yP2)))⟩, ⟨[0, 5], (.cons (.ptr 0 yP6) (.cons (.own false 5 (.int .u8)) .nil))⟩)] Try.f111 (.cons (.ptr 0 yP6) yP2) .str x = s_l01Text k x := by kernel_rfl
theorem e_s_l01Text [Names] (k : Nat) : EntryOk Try.prog ⟨111, 0, (.cons (.ptr 0 yP6) yP2), .str, s_l01Text k⟩ := entry_ok tok (by intro e he; simp only [List.mem_cons, List.not_mem_nil, or_false] at he; rcases he with rfl <;> first | exact e_s_l01Byte k) (by kernel_rfl) (fn := Try.f111) (k := k) (es := [⟨58, 0, (.cons (.ptr 0 yP6) .nil), (.int .i64), s_l01Byte k⟩]) (loops := [(0, ⟨[0, 1, 5, 6], (.cons (.ptr 0 yP6) (.cons (.int .i64) (.cons (.own false 5 (.int .u8)) yP2)))⟩, ⟨[0, 5], (.cons (.ptr 0 yP6) (.cons (.own false 5 (.int .u8)) .nil))⟩)]) (by kernel_rfl) (by kernel_rfl) (fun x r h => (t_s_l01Text k x).trans h)
def s_l01Long (k : Nat) (x : Int × Int × Unit) : Option (ByteArray × Unit × Unit × Unit) :=
(if x.1 = x.1 then
(if 0 ≤ x.1 ∧ x.1 ≤ (capMax : Int) then
(whileK (fun (rec0 : (Int × Int × List (Int) × Int × Unit) → Option _) (y0 : Int × Int × List (Int) × Int × Unit) =>
(if (decide (y0.2.2.2.1 < y0.1)) = true then
(if 0 ≤ y0.2.2.2.1 ∧ y0.2.2.2.1 < (List.length y0.2.2.1 : Int) then
(rec0 (y0.1, (y0.2.1, ((List.set y0.2.2.1 (Int.toNat y0.2.2.2.1) y0.2.1), ((wi64 (y0.2.2.2.1 + (1 : Int))), ())))))
else none)
else
((fun (z1 : List (Int) × Unit) =>
some ((strOf z1.1), ((), ((), ())))) (y0.2.2.1, ())))) k (x.1, (x.2.1, ((List.replicate (Int.toNat x.1) (0 : Int)), ((0 : Int), ())))))
else none)
else none)
theorem t_s_l01Long (k : Nat) (x) : evF TTab k [] [(0, ⟨[0, 1, 5, 6], (.cons (.int .i64) (.cons (.int .u8) (.cons (.own false 5 (.int .u8)) yP2)))⟩, ⟨[5], (.cons (.own false 5 (.int .u8)) .nil)⟩)] Try.f112 (.cons (.int .i64) (.cons (.int .u8) .nil)) .str x = s_l01Long k x := by kernel_rfl
theorem e_s_l01Long [Names] (k : Nat) : EntryOk Try.prog ⟨112, 0, (.cons (.int .i64) (.cons (.int .u8) .nil)), .str, s_l01Long k⟩ := entry_ok tok (by simp) (by kernel_rfl) (fn := Try.f112) (k := k) (es := []) (loops := [(0, ⟨[0, 1, 5, 6], (.cons (.int .i64) (.cons (.int .u8) (.cons (.own false 5 (.int .u8)) yP2)))⟩, ⟨[5], (.cons (.own false 5 (.int .u8)) .nil)⟩)]) (by kernel_rfl) (by kernel_rfl) (fun x r h => (t_s_l01Long k x).trans h)
def s_l01PickInt (k : Nat) (x : (List (Int) × Int × Int × Unit) × List (Int) × Unit) : Option (Int × (List (Int) × Int × Int × Unit) × Unit × Unit) :=
((s_l01Below k ((x.1.1, (x.1.2.1, (x.1.2.2.1, ()))), ((List.length x.2.1 : Int), ()))).bind fun p1 =>
(if 0 ≤ p1.1 ∧ p1.1 < (List.length x.2.1 : Int) then
some ((Ty.rd (t := (.int .i64)) x.2.1 p1.1), ((p1.2.1.1, (p1.2.1.2.1, (p1.2.1.2.2.1, ()))), ((), ())))
else none))
theorem t_s_l01PickInt (k : Nat) (x) : evF TTab k [⟨53, 0, (.cons (.ptr 0 yP6) yP2), (.int .i64), s_l01Below k⟩] [] Try.f113 (.cons (.ptr 0 yP6) (.cons (.il false (.int .i64)) .nil)) (.int .i64) x = s_l01PickInt k x := by kernel_rfl
theorem e_s_l01PickInt [Names] (k : Nat) : EntryOk Try.prog ⟨113, 0, (.cons (.ptr 0 yP6) (.cons (.il false (.int .i64)) .nil)), (.int .i64), s_l01PickInt k⟩ := entry_ok tok (by intro e he; simp only [List.mem_cons, List.not_mem_nil, or_false] at he; rcases he with rfl <;> first | exact e_s_l01Below k) (by kernel_rfl) (fn := Try.f113) (k := k) (es := [⟨53, 0, (.cons (.ptr 0 yP6) yP2), (.int .i64), s_l01Below k⟩]) (loops := []) (by kernel_rfl) (by kernel_rfl) (fun x r h => (t_s_l01PickInt k x).trans h)
def s_l20Long (k : Nat) (x : (List (Int) × Int × Int × Unit) × Unit) : Option (ByteArray × (List (Int) × Int × Int × Unit) × Unit) :=
((s_l01Below k ((x.1.1, (x.1.2.1, (x.1.2.2.1, ()))), ((9 : Int), ()))).bind fun p1 =>
((s_l01Text k ((p1.2.1.1, (p1.2.1.2.1, (p1.2.1.2.2.1, ()))), (p1.1, ()))).bind fun p2 =>
((s_l01PickInt k ((p2.2.1.1, (p2.2.1.2.1, (p2.2.1.2.2.1, ()))), (([(0 : Int), (10 : Int), (20 : Int), (40 : Int), (55 : Int), (90 : Int), (200 : Int)] : List (Int)), ()))).bind fun p3 =>
((s_l01Below k ((p3.2.1.1, (p3.2.1.2.1, (p3.2.1.2.2.1, ()))), ((9 : Int), ()))).bind fun p4 =>
((s_l01Long k (p3.1, ((wu8 ((wi64 ((65 : Int) + p4.1)))), ()))).bind fun p5 =>
(if ByteArray.size p2.1 + ByteArray.size p5.1 ≤ maxStr then
some ((p2.1 ++ p5.1), ((p4.2.1.1, (p4.2.1.2.1, (p4.2.1.2.2.1, ()))), ()))
else none))))))
theorem t_s_l20Long (k : Nat) (x) : evF TTab k [⟨53, 0, (.cons (.ptr 0 yP6) yP2), (.int .i64), s_l01Below k⟩, ⟨111, 0, (.cons (.ptr 0 yP6) yP2), .str, s_l01Text k⟩, ⟨112, 0, (.cons (.int .i64) (.cons (.int .u8) .nil)), .str, s_l01Long k⟩, ⟨113, 0, (.cons (.ptr 0 yP6) (.cons (.il false (.int .i64)) .nil)), (.int .i64), s_l01PickInt k⟩] [] Try.f52 (.cons (.ptr 0 yP6) .nil) .str x = s_l20Long k x := by kernel_rfl
theorem e_s_l20Long [Names] (k : Nat) : EntryOk Try.prog ⟨52, 0, (.cons (.ptr 0 yP6) .nil), .str, s_l20Long k⟩ := entry_ok tok (by intro e he; simp only [List.mem_cons, List.not_mem_nil, or_false] at he; rcases he with rfl | rfl | rfl | rfl <;> first | exact e_s_l01Below k | exact e_s_l01Text k | exact e_s_l01Long k | exact e_s_l01PickInt k) (by kernel_rfl) (fn := Try.f52) (k := k) (es := [⟨53, 0, (.cons (.ptr 0 yP6) yP2), (.int .i64), s_l01Below k⟩, ⟨111, 0, (.cons (.ptr 0 yP6) yP2), .str, s_l01Text k⟩, ⟨112, 0, (.cons (.int .i64) (.cons (.int .u8) .nil)), .str, s_l01Long k⟩, ⟨113, 0, (.cons (.ptr 0 yP6) (.cons (.il false (.int .i64)) .nil)), (.int .i64), s_l01PickInt k⟩]) (loops := []) (by kernel_rfl) (by kernel_rfl) (fun x r h => (t_s_l20Long k x).trans h)
def i_within (k : Nat) (x : Int × Int × Int × Unit) : Option (Bool × Unit × Unit × Unit × Unit) :=
(if (decide (x.2.1 ≤ x.1)) = true then
some ((decide (x.1 ≤ x.2.2.1)), ((), ((), ((), ()))))
else
some (false, ((), ((), ((), ())))))
theorem t_i_within (k : Nat) (x) : evF TTab k [] [] Try.f54 yP9 .bool x = i_within k x := by kernel_rfl
theorem e_i_within [Names] (k : Nat) : EntryOk Try.prog ⟨54, 0, yP9, .bool, i_within k⟩ := entry_ok tok (by simp) (by kernel_rfl) (fn := Try.f54) (k := k) (es := []) (loops := []) (by kernel_rfl) (by kernel_rfl) (fun x r h => (t_i_within k x).trans h)
def s_l01In (k : Nat) (x : Int × Int × Int × Unit) : Option (Bool × Unit × Unit × Unit × Unit) :=
(if (decide (x.2.1 ≤ x.1)) = true then
some ((decide (x.1 ≤ x.2.2.1)), ((), ((), ((), ()))))
else
some (false, ((), ((), ((), ())))))
theorem t_s_l01In (k : Nat) (x) : evF TTab k [] [] Try.f56 yP9 .bool x = s_l01In k x := by kernel_rfl
theorem e_s_l01In [Names] (k : Nat) : EntryOk Try.prog ⟨56, 0, yP9, .bool, s_l01In k⟩ := entry_ok tok (by simp) (by kernel_rfl) (fn := Try.f56) (k := k) (es := []) (loops := []) (by kernel_rfl) (by kernel_rfl) (fun x r h => (t_s_l01In k x).trans h)
def s_l05Byte (k : Nat) (x : Int × Unit) : Option (ByteArray × Unit × Unit) :=
(if (decide ((Int.tmod x.1 (256 : Int)) < (0 : Int))) = true then
some ((strOf ([(wu8 ((wi64 ((Int.tmod x.1 (256 : Int)) + (256 : Int)))))] : List (Int))), ((), ()))
else
some ((strOf ([(wu8 ((Int.tmod x.1 (256 : Int))))] : List (Int))), ((), ())))
theorem t_s_l05Byte (k : Nat) (x) : evF TTab k [] [] Try.f57 yP2 .str x = s_l05Byte k x := by kernel_rfl
theorem e_s_l05Byte [Names] (k : Nat) : EntryOk Try.prog ⟨57, 0, yP2, .str, s_l05Byte k⟩ := entry_ok tok (by simp) (by kernel_rfl) (fn := Try.f57) (k := k) (es := []) (loops := []) (by kernel_rfl) (by kernel_rfl) (fun x r h => (t_s_l05Byte k x).trans h)
def s_Split (k : Nat) (x : Int × ByteArray × Int × Unit) : Option ((List (ByteArray) × Bool × Unit) × Unit × Unit × Unit × Unit) :=
((s_l01In k (x.1, ((0 : Int), ((255 : Int), ())))).bind fun p1 =>
(if (!p1.1) = false then
((s_l01In k (x.2.2.1, ((20 : Int), ((120 : Int), ())))).bind fun p2 =>
(if (!p2.1) = false then
(if (decide ((300 : Int) < (ByteArray.size x.2.1 : Int))) = true then
some ((([] : List (ByteArray)), (false, ())), ((), ((), ((), ()))))
else
(if x.2.2.1 = 0 then
none
else
(jn (fun (j2v0 : Int) =>
(if (decide ((15 : Int) < j2v0)) = true then
some ((([] : List (ByteArray)), (false, ())), ((), ((), ((), ()))))
else
(whileK (fun (rec0 : (Int × ByteArray × Int × Int × List (ByteArray) × Int × Unit) → Option _) (y0 : Int × ByteArray × Int × Int × List (ByteArray) × Int × Unit) =>
(if (decide (y0.2.2.2.2.2.1 < y0.2.2.2.1)) = true then
(jn (fun (j3v0 : Int) =>
((s_l05Byte k (y0.1, ())).bind fun p12 =>
((s_l05Byte k (y0.2.2.2.2.2.1, ())).bind fun p13 =>
(if ByteArray.size p12.1 + ByteArray.size p13.1 ≤ maxStr then
((s_l05Byte k (y0.2.2.2.1, ())).bind fun p14 =>
(if ByteArray.size (p12.1 ++ p13.1) + ByteArray.size p14.1 ≤ maxStr then
(if 0 ≤ j3v0 ∧ j3v0 ≤ (ByteArray.size y0.2.1 : Int) then
(if 0 ≤ (wi64 (y0.2.2.2.2.2.1 * y0.2.2.1)) ∧ (wi64 (y0.2.2.2.2.2.1 * y0.2.2.1)) ≤ j3v0 then
(if ByteArray.size ((p12.1 ++ p13.1) ++ p14.1) + ByteArray.size (ByteArray.extract y0.2.1 (Int.toNat (wi64 (y0.2.2.2.2.2.1 * y0.2.2.1))) (Int.toNat j3v0)) ≤ maxStr then
(if List.length y0.2.2.2.2.1 + List.length ([(((p12.1 ++ p13.1) ++ p14.1) ++ (ByteArray.extract y0.2.1 (Int.toNat (wi64 (y0.2.2.2.2.2.1 * y0.2.2.1))) (Int.toNat j3v0)))] : List (ByteArray)) ≤ capMax then
(rec0 (y0.1, (y0.2.1, (y0.2.2.1, (y0.2.2.2.1, ((y0.2.2.2.2.1 ++ ([(((p12.1 ++ p13.1) ++ p14.1) ++ (ByteArray.extract y0.2.1 (Int.toNat (wi64 (y0.2.2.2.2.2.1 * y0.2.2.1))) (Int.toNat j3v0)))] : List (ByteArray))), ((wi64 (y0.2.2.2.2.2.1 + (1 : Int))), ())))))))
else none)
else none)
else none)
else none)
else none))
else none)))) (fun (j3 : Int → Option _) =>
(if (decide ((ByteArray.size y0.2.1 : Int) < (wi64 ((wi64 (y0.2.2.2.2.2.1 + (1 : Int))) * y0.2.2.1)))) = true then
(j3 (ByteArray.size y0.2.1 : Int))
else
(j3 (wi64 ((wi64 (y0.2.2.2.2.2.1 + (1 : Int))) * y0.2.2.1))))))
else
((fun (z2 : List (ByteArray) × Unit) =>
some ((z2.1, (true, ())), ((), ((), ((), ()))))) (y0.2.2.2.2.1, ())))) k (x.1, (x.2.1, (x.2.2.1, (j2v0, (([] : List (ByteArray)), ((0 : Int), ()))))))))) (fun (j2 : Int → Option _) =>
(if (decide ((wi64 (Int.tdiv (wi64 ((wi64 ((ByteArray.size x.2.1 : Int) + x.2.2.1)) - (1 : Int))) x.2.2.1)) = (0 : Int))) = true then
(j2 (1 : Int))
else
(j2 (wi64 (Int.tdiv (wi64 ((wi64 ((ByteArray.size x.2.1 : Int) + x.2.2.1)) - (1 : Int))) x.2.2.1))))))))
else
some ((([] : List (ByteArray)), (false, ())), ((), ((), ((), ()))))))
else
some ((([] : List (ByteArray)), (false, ())), ((), ((), ((), ()))))))
theorem t_s_Split (k : Nat) (x) : evF TTab k [⟨56, 0, yP9, .bool, s_l01In k⟩, ⟨57, 0, yP2, .str, s_l05Byte k⟩] [(0, ⟨[0, 1, 2, 8, 9, 10], (.cons (.int .i64) (.cons .str (.cons (.int .i64) (.cons (.int .i64) (.cons (.own false 9 .str) yP2)))))⟩, ⟨[9], (.cons (.own false 9 .str) .nil)⟩)] Try.f14 yP15 (.tup (.cons (.own false 9 .str) (.cons .bool .nil))) x = s_Split k x := by kernel_rfl
theorem e_s_Split [Names] (k : Nat) : EntryOk Try.prog ⟨14, 0, yP15, (.tup (.cons (.own false 9 .str) (.cons .bool .nil))), s_Split k⟩ := entry_ok tok (by intro e he; simp only [List.mem_cons, List.not_mem_nil, or_false] at he; rcases he with rfl | rfl <;> first | exact e_s_l01In k | exact e_s_l05Byte k) (by kernel_rfl) (fn := Try.f14) (k := k) (es := [⟨56, 0, yP9, .bool, s_l01In k⟩, ⟨57, 0, yP2, .str, s_l05Byte k⟩]) (loops := [(0, ⟨[0, 1, 2, 8, 9, 10], (.cons (.int .i64) (.cons .str (.cons (.int .i64) (.cons (.int .i64) (.cons (.own false 9 .str) yP2)))))⟩, ⟨[9], (.cons (.own false 9 .str) .nil)⟩)]) (by kernel_rfl) (by kernel_rfl) (fun x r h => (t_s_Split k x).trans h)
def i_ReadPart (k : Nat) (x : ByteArray × Unit) : Option ((Int × Int × Int × ByteArray × Bool × Unit) × Unit × Unit) :=
(if (decide ((ByteArray.size x.1 : Int) < (3 : Int))) = false then
(if 0 ≤ (2 : Int) ∧ (2 : Int) < (ByteArray.size x.1 : Int) then
((i_within k ((wi64 ((bt x.1 (2 : Int)))), ((1 : Int), ((15 : Int), ())))).bind fun p1 =>
(if (!p1.1) = false then
(if 0 ≤ (1 : Int) ∧ (1 : Int) < (ByteArray.size x.1 : Int) then
(if 0 ≤ (2 : Int) ∧ (2 : Int) < (ByteArray.size x.1 : Int) then
(if (decide ((bt x.1 (2 : Int)) ≤ (bt x.1 (1 : Int)))) = true then
some (((0 : Int), ((0 : Int), ((0 : Int), ((⟨#[]⟩ : ByteArray), (false, ()))))), ((), ()))
else
(if 0 ≤ (0 : Int) ∧ (0 : Int) < (ByteArray.size x.1 : Int) then
(if 0 ≤ (1 : Int) ∧ (1 : Int) < (ByteArray.size x.1 : Int) then
(if 0 ≤ (2 : Int) ∧ (2 : Int) < (ByteArray.size x.1 : Int) then
(if 0 ≤ (3 : Int) ∧ (3 : Int) ≤ (ByteArray.size x.1 : Int) then
some (((wi64 ((bt x.1 (0 : Int)))), ((wi64 ((bt x.1 (1 : Int)))), ((wi64 ((bt x.1 (2 : Int)))), ((ByteArray.extract x.1 (Int.toNat (3 : Int)) (Int.toNat (ByteArray.size x.1 : Int))), (true, ()))))), ((), ()))
else none)
else none)
else none)
else none))
else none)
else none)
else
some (((0 : Int), ((0 : Int), ((0 : Int), ((⟨#[]⟩ : ByteArray), (false, ()))))), ((), ()))))
else none)
else
some (((0 : Int), ((0 : Int), ((0 : Int), ((⟨#[]⟩ : ByteArray), (false, ()))))), ((), ())))
theorem t_i_ReadPart (k : Nat) (x) : evF TTab k [⟨54, 0, yP9, .bool, i_within k⟩] [] Try.f17 (.cons .str .nil) yP11 x = i_ReadPart k x := by kernel_rfl
theorem e_i_ReadPart [Names] (k : Nat) : EntryOk Try.prog ⟨17, 0, (.cons .str .nil), yP11, i_ReadPart k⟩ := entry_ok tok (by intro e he; simp only [List.mem_cons, List.not_mem_nil, or_false] at he; rcases he with rfl <;> first | exact e_i_within k) (by kernel_rfl) (fn := Try.f17) (k := k) (es := [⟨54, 0, yP9, .bool, i_within k⟩]) (loops := []) (by kernel_rfl) (by kernel_rfl) (fun x r h => (t_i_ReadPart k x).trans h)
def i_heldAt_1 (k : Nat) (x : (Int × Int × Int × List (ByteArray) × List (Bool) × Int × Unit) × (Int × Unit) × (Int × Unit) × Unit) : Option (Bool × Unit × (Int × Unit) × (Int × Unit) × Unit) :=
(if (decide (x.1.1 = x.2.1.1)) = true then
some ((decide (x.1.2.1 = x.2.2.1.1)), ((), ((x.2.1.1, ()), ((x.2.2.1.1, ()), ()))))
else
some (false, ((), ((x.2.1.1, ()), ((x.2.2.1.1, ()), ())))))
theorem t_i_heldAt_1 (k : Nat) (x) : evF TTabO k [] [] Try.f116 (.cons (.agg yP4) (.cons (.ptr 0 yP2) yP10)) .bool x = i_heldAt_1 k x := by kernel_rfl
theorem e_i_heldAt_1 [Names] (k : Nat) : EntryOk Try.prog ⟨116, 0, (.cons (.agg yP4) (.cons (.ptr 0 yP2) yP10)), .bool, i_heldAt_1 k⟩ := entry_ok tokO (by simp) (by kernel_rfl) (fn := Try.f116) (k := k) (es := []) (loops := []) (by kernel_rfl) (by kernel_rfl) (fun x r h => (t_i_heldAt_1 k x).trans h)
def x_slices_IndexFunc_impl_Held_impl_Held_of_i_heldAt_1 (k : Nat) (x : (List (Int × Int × Int × List (ByteArray) × List (Bool) × Int)) × ((Int × Unit) × (Int × Unit) × Unit) × Unit) : Option (Int × Unit × ((Int × Unit) × (Int × Unit) × Unit) × Unit) :=
(whileK (fun (rec0 : ((List (Int × Int × Int × List (ByteArray) × List (Bool) × Int)) × ((Int × Unit) × (Int × Unit) × Unit) × Int × Int × Unit) → Option _) (y0 : (List (Int × Int × Int × List (ByteArray) × List (Bool) × Int)) × ((Int × Unit) × (Int × Unit) × Unit) × Int × Int × Unit) =>
(if (decide (y0.2.2.2.1 < y0.2.2.1)) = true then
(if 0 ≤ y0.2.2.2.1 ∧ y0.2.2.2.1 < (List.length y0.1 : Int) then
((i_heldAt_1 k (((Ty.rd (t := yT1) y0.1 y0.2.2.2.1).1, ((Ty.rd (t := yT1) y0.1 y0.2.2.2.1).2.1, ((Ty.rd (t := yT1) y0.1 y0.2.2.2.1).2.2.1, ((Ty.rd (t := yT1) y0.1 y0.2.2.2.1).2.2.2.1, ((Ty.rd (t := yT1) y0.1 y0.2.2.2.1).2.2.2.2.1, ((Ty.rd (t := yT1) y0.1 y0.2.2.2.1).2.2.2.2.2, ())))))), ((y0.2.1.1.1, ()), ((y0.2.1.2.1.1, ()), ())))).bind fun p1 =>
(if p1.1 = true then
some (y0.2.2.2.1, ((), (((p1.2.2.1.1, ()), ((p1.2.2.2.1.1, ()), ())), ())))
else
(rec0 (y0.1, (((p1.2.2.1.1, ()), ((p1.2.2.2.1.1, ()), ())), (y0.2.2.1, ((wi64 (y0.2.2.2.1 + (1 : Int))), ())))))))
else none)
else
((fun (z1 : ((Int × Unit) × (Int × Unit) × Unit) × Unit) =>
some ((-1 : Int), ((), (((z1.1.1.1, ()), ((z1.1.2.1.1, ()), ())), ())))) (((y0.2.1.1.1, ()), ((y0.2.1.2.1.1, ()), ())), ())))) k (x.1, (((x.2.1.1.1, ()), ((x.2.1.2.1.1, ()), ())), ((List.length x.1 : Int), ((0 : Int), ())))))
theorem t_x_slices_IndexFunc_impl_Held_impl_Held_of_i_heldAt_1 (k : Nat) (x) : evF TTabO k [⟨116, 0, (.cons (.agg yP4) (.cons (.ptr 0 yP2) yP10)), .bool, i_heldAt_1 k⟩] [(0, ⟨[0, 1, 7, 8], (.cons (.il true yT1) (.cons (.fn 116 (.cons (.ptr 0 yP2) yP10)) (.cons (.int .i64) yP2)))⟩, ⟨[1], (.cons (.fn 116 (.cons (.ptr 0 yP2) yP10)) .nil)⟩)] Try.f115 (.cons (.il true yT1) (.cons (.fn 116 (.cons (.ptr 0 yP2) yP10)) .nil)) (.int .i64) x = x_slices_IndexFunc_impl_Held_impl_Held_of_i_heldAt_1 k x := by kernel_rfl
theorem e_x_slices_IndexFunc_impl_Held_impl_Held_of_i_heldAt_1 [Names] (k : Nat) : EntryOk Try.prog ⟨115, 117, (.cons (.il true yT1) (.cons (.fn 116 (.cons (.ptr 0 yP2) yP10)) .nil)), (.int .i64), x_slices_IndexFunc_impl_Held_impl_Held_of_i_heldAt_1 k⟩ := entry_ok tokO (by intro e he; simp only [List.mem_cons, List.not_mem_nil, or_false] at he; rcases he with rfl <;> first | exact e_i_heldAt_1 k) (by kernel_rfl) (fn := Try.f115) (k := k) (es := [⟨116, 0, (.cons (.agg yP4) (.cons (.ptr 0 yP2) yP10)), .bool, i_heldAt_1 k⟩]) (loops := [(0, ⟨[0, 1, 7, 8], (.cons (.il true yT1) (.cons (.fn 116 (.cons (.ptr 0 yP2) yP10)) (.cons (.int .i64) yP2)))⟩, ⟨[1], (.cons (.fn 116 (.cons (.ptr 0 yP2) yP10)) .nil)⟩)]) (by kernel_rfl) (by kernel_rfl) (fun x r h => (t_x_slices_IndexFunc_impl_Held_impl_Held_of_i_heldAt_1 k x).trans h)
def i_heldAt (k : Nat) (x : ((List (Int × Int × Int × List (ByteArray) × List (Bool) × Int)) × Unit) × Int × Int × Unit) : Option (Int × Unit × Unit × Unit × Unit) :=
((x_slices_IndexFunc_impl_Held_impl_Held_of_i_heldAt_1 k (x.1.1, (((x.2.1, ()), ((x.2.2.1, ()), ())), ()))).bind fun p1 =>
some (p1.1, ((), ((), ((), ())))))
theorem t_i_heldAt (k : Nat) (x) : evF TTabO k [⟨115, 117, (.cons (.il true yT1) (.cons (.fn 116 (.cons (.ptr 0 yP2) yP10)) .nil)), (.int .i64), x_slices_IndexFunc_impl_Held_impl_Held_of_i_heldAt_1 k⟩] [] Try.f61 (.cons (.agg yP8) (.cons (.int .i64) yP2)) (.int .i64) x = i_heldAt k x := by kernel_rfl
theorem e_i_heldAt [Names] (k : Nat) : EntryOk Try.prog ⟨61, 0, (.cons (.agg yP8) (.cons (.int .i64) yP2)), (.int .i64), i_heldAt k⟩ := entry_ok tokO (by intro e he; simp only [List.mem_cons, List.not_mem_nil, or_false] at he; rcases he with rfl <;> first | exact e_x_slices_IndexFunc_impl_Held_impl_Held_of_i_heldAt_1 k) (by kernel_rfl) (fn := Try.f61) (k := k) (es := [⟨115, 117, (.cons (.il true yT1) (.cons (.fn 116 (.cons (.ptr 0 yP2) yP10)) .nil)), (.int .i64), x_slices_IndexFunc_impl_Held_impl_Held_of_i_heldAt_1 k⟩]) (loops := []) (by kernel_rfl) (by kernel_rfl) (fun x r h => (t_i_heldAt k x).trans h)
def i_isId (k : Nat) (x : Int × Unit) : Option (Bool × Unit × Unit) :=
((i_within k (x.1, ((1 : Int), ((99 : Int), ())))).bind fun p1 =>
some (p1.1, ((), ())))
theorem t_i_isId (k : Nat) (x) : evF TTab k [⟨54, 0, yP9, .bool, i_within k⟩] [] Try.f60 yP2 .bool x = i_isId k x := by kernel_rfl
theorem e_i_isId [Names] (k : Nat) : EntryOk Try.prog ⟨60, 0, yP2, .bool, i_isId k⟩ := entry_ok tok (by intro e he; simp only [List.mem_cons, List.not_mem_nil, or_false] at he; rcases he with rfl <;> first | exact e_i_within k) (by kernel_rfl) (fn := Try.f60) (k := k) (es := [⟨54, 0, yP9, .bool, i_within k⟩]) (loops := []) (by kernel_rfl) (by kernel_rfl) (fun x r h => (t_i_isId k x).trans h)
def i_heldOk (k : Nat) (x : (Int × Int × Int × List (ByteArray) × List (Bool) × Int × Unit) × Unit) : Option (Bool × Unit × Unit) :=
((i_isId k (x.1.1, ())).bind fun p1 =>
(if (!p1.1) = false then
((i_within k (x.1.2.1, ((0 : Int), ((255 : Int), ())))).bind fun p2 =>
(if (!p2.1) = false then
((i_within k (x.1.2.2.1, ((2 : Int), ((15 : Int), ())))).bind fun p3 =>
(if (!p3.1) = false then
(if (!decide ((List.length x.1.2.2.2.1 : Int) = x.1.2.2.1)) = false then
(if (!decide ((List.length x.1.2.2.2.2.1 : Int) = x.1.2.2.1)) = true then
some (false, ((), ()))
else
(whileK (fun (rec0 : ((Int × Int × Int × List (ByteArray) × List (Bool) × Int × Unit) × Int × List (Bool) × Int × Int × Unit) → Option _) (y0 : (Int × Int × Int × List (ByteArray) × List (Bool) × Int × Unit) × Int × List (Bool) × Int × Int × Unit) =>
(if (decide (y0.2.2.2.2.1 < y0.2.2.2.1)) = true then
(if 0 ≤ y0.2.2.2.2.1 ∧ y0.2.2.2.2.1 < (List.length y0.2.2.1 : Int) then
(if (Ty.rd (t := .bool) y0.2.2.1 y0.2.2.2.2.1) = true then
(if 0 ≤ y0.2.2.2.2.1 ∧ y0.2.2.2.2.1 < (List.length y0.1.2.2.2.1 : Int) then
(if (decide ((120 : Int) < (ByteArray.size (Ty.rd (t := .str) y0.1.2.2.2.1 y0.2.2.2.2.1) : Int))) = false then
(if (!(Ty.rd (t := .bool) y0.2.2.1 y0.2.2.2.2.1)) = true then
(if 0 ≤ y0.2.2.2.2.1 ∧ y0.2.2.2.2.1 < (List.length y0.1.2.2.2.1 : Int) then
(if (!decide ((Ty.rd (t := .str) y0.1.2.2.2.1 y0.2.2.2.2.1) = (⟨#[]⟩ : ByteArray))) = true then
some (false, ((), ()))
else
(rec0 ((y0.1.1, (y0.1.2.1, (y0.1.2.2.1, (y0.1.2.2.2.1, (y0.1.2.2.2.2.1, (y0.1.2.2.2.2.2.1, ())))))), ((wi64 (y0.2.1 + (1 : Int))), (y0.2.2.1, (y0.2.2.2.1, ((wi64 (y0.2.2.2.2.1 + (1 : Int))), ())))))))
else none)
else
(rec0 ((y0.1.1, (y0.1.2.1, (y0.1.2.2.1, (y0.1.2.2.2.1, (y0.1.2.2.2.2.1, (y0.1.2.2.2.2.2.1, ())))))), ((wi64 (y0.2.1 + (1 : Int))), (y0.2.2.1, (y0.2.2.2.1, ((wi64 (y0.2.2.2.2.1 + (1 : Int))), ())))))))
else
some (false, ((), ())))
else none)
else
(if 0 ≤ y0.2.2.2.2.1 ∧ y0.2.2.2.2.1 < (List.length y0.1.2.2.2.1 : Int) then
(if (decide ((120 : Int) < (ByteArray.size (Ty.rd (t := .str) y0.1.2.2.2.1 y0.2.2.2.2.1) : Int))) = false then
(if (!(Ty.rd (t := .bool) y0.2.2.1 y0.2.2.2.2.1)) = true then
(if 0 ≤ y0.2.2.2.2.1 ∧ y0.2.2.2.2.1 < (List.length y0.1.2.2.2.1 : Int) then
(if (!decide ((Ty.rd (t := .str) y0.1.2.2.2.1 y0.2.2.2.2.1) = (⟨#[]⟩ : ByteArray))) = true then
some (false, ((), ()))
else
(rec0 ((y0.1.1, (y0.1.2.1, (y0.1.2.2.1, (y0.1.2.2.2.1, (y0.1.2.2.2.2.1, (y0.1.2.2.2.2.2.1, ())))))), (y0.2.1, (y0.2.2.1, (y0.2.2.2.1, ((wi64 (y0.2.2.2.2.1 + (1 : Int))), ())))))))
else none)
else
(rec0 ((y0.1.1, (y0.1.2.1, (y0.1.2.2.1, (y0.1.2.2.2.1, (y0.1.2.2.2.2.1, (y0.1.2.2.2.2.2.1, ())))))), (y0.2.1, (y0.2.2.1, (y0.2.2.2.1, ((wi64 (y0.2.2.2.2.1 + (1 : Int))), ())))))))
else
some (false, ((), ())))
else none))
else none)
else
((fun (z1 : (Int × Int × Int × List (ByteArray) × List (Bool) × Int × Unit) × Int × Unit) =>
((i_within k (z1.2.1, ((1 : Int), ((wi64 (z1.1.2.2.1 - (1 : Int))), ())))).bind fun p4 =>
(if p4.1 = true then
((i_within k (z1.1.2.2.2.2.2.1, ((0 : Int), ((1000000000 : Int), ())))).bind fun p5 =>
some (p5.1, ((), ())))
else
some (false, ((), ()))))) ((y0.1.1, (y0.1.2.1, (y0.1.2.2.1, (y0.1.2.2.2.1, (y0.1.2.2.2.2.1, (y0.1.2.2.2.2.2.1, ())))))), (y0.2.1, ()))))) k ((x.1.1, (x.1.2.1, (x.1.2.2.1, (x.1.2.2.2.1, (x.1.2.2.2.2.1, (x.1.2.2.2.2.2.1, ())))))), ((0 : Int), (x.1.2.2.2.2.1, ((List.length x.1.2.2.2.2.1 : Int), ((0 : Int), ())))))))
else
some (false, ((), ())))
else
some (false, ((), ()))))
else
some (false, ((), ()))))
else
some (false, ((), ()))))
theorem t_i_heldOk (k : Nat) (x) : evF TTab k [⟨54, 0, yP9, .bool, i_within k⟩, ⟨60, 0, yP2, .bool, i_isId k⟩] [(0, ⟨[1, 3, 39, 40, 41], (.cons (.ptr 0 yP4) (.cons (.int .i64) (.cons (.il true .bool) (.cons (.int .i64) yP2))))⟩, ⟨[1, 3], (.cons (.ptr 0 yP4) yP2)⟩)] Try.f65 (.cons (.agg yP4) .nil) .bool x = i_heldOk k x := by kernel_rfl
theorem e_i_heldOk [Names] (k : Nat) : EntryOk Try.prog ⟨65, 0, (.cons (.agg yP4) .nil), .bool, i_heldOk k⟩ := entry_ok tok (by intro e he; simp only [List.mem_cons, List.not_mem_nil, or_false] at he; rcases he with rfl | rfl <;> first | exact e_i_within k | exact e_i_isId k) (by kernel_rfl) (fn := Try.f65) (k := k) (es := [⟨54, 0, yP9, .bool, i_within k⟩, ⟨60, 0, yP2, .bool, i_isId k⟩]) (loops := [(0, ⟨[1, 3, 39, 40, 41], (.cons (.ptr 0 yP4) (.cons (.int .i64) (.cons (.il true .bool) (.cons (.int .i64) yP2))))⟩, ⟨[1, 3], (.cons (.ptr 0 yP4) yP2)⟩)]) (by kernel_rfl) (by kernel_rfl) (fun x r h => (t_i_heldOk k x).trans h)
def i_ShelfOk (k : Nat) (x : ((List (Int × Int × Int × List (ByteArray) × List (Bool) × Int)) × Unit) × Unit) : Option (Bool × Unit × Unit) :=
(whileK (fun (rec0 : (((List (Int × Int × Int × List (ByteArray) × List (Bool) × Int)) × Unit) × (List (Int × Int × Int × List (ByteArray) × List (Bool) × Int)) × Int × Int × Unit) → Option _) (y0 : ((List (Int × Int × Int × List (ByteArray) × List (Bool) × Int)) × Unit) × (List (Int × Int × Int × List (ByteArray) × List (Bool) × Int)) × Int × Int × Unit) =>
(if (decide (y0.2.2.2.1 < y0.2.2.1)) = true then
(if 0 ≤ y0.2.2.2.1 ∧ y0.2.2.2.1 < (List.length y0.2.1 : Int) then
((i_heldOk k (((Ty.rd (t := yT1) y0.2.1 y0.2.2.2.1).1, ((Ty.rd (t := yT1) y0.2.1 y0.2.2.2.1).2.1, ((Ty.rd (t := yT1) y0.2.1 y0.2.2.2.1).2.2.1, ((Ty.rd (t := yT1) y0.2.1 y0.2.2.2.1).2.2.2.1, ((Ty.rd (t := yT1) y0.2.1 y0.2.2.2.1).2.2.2.2.1, ((Ty.rd (t := yT1) y0.2.1 y0.2.2.2.1).2.2.2.2.2, ())))))), ())).bind fun p1 =>
(if (!p1.1) = false then
((i_heldAt k ((y0.1.1, ()), ((Ty.rd (t := yT1) y0.2.1 y0.2.2.2.1).1, ((Ty.rd (t := yT1) y0.2.1 y0.2.2.2.1).2.1, ())))).bind fun p2 =>
(if (!decide (p2.1 = y0.2.2.2.1)) = true then
some (false, ((), ()))
else
(rec0 ((y0.1.1, ()), (y0.2.1, (y0.2.2.1, ((wi64 (y0.2.2.2.1 + (1 : Int))), ())))))))
else
some (false, ((), ()))))
else none)
else
((fun (z1 : ((List (Int × Int × Int × List (ByteArray) × List (Bool) × Int)) × Unit) × Unit) =>
some ((decide ((List.length z1.1.1 : Int) ≤ (3 : Int))), ((), ()))) ((y0.1.1, ()), ())))) k ((x.1.1, ()), (x.1.1, ((List.length x.1.1 : Int), ((0 : Int), ())))))
theorem t_i_ShelfOk (k : Nat) (x) : evF TTabO k [⟨61, 0, (.cons (.agg yP8) (.cons (.int .i64) yP2)), (.int .i64), i_heldAt k⟩, ⟨65, 0, (.cons (.agg yP4) .nil), .bool, i_heldOk k⟩] [(0, ⟨[1, 6, 7, 8], (.cons (.ptr 0 yP8) (.cons (.il true yT1) (.cons (.int .i64) yP2)))⟩, ⟨[1], (.cons (.ptr 0 yP8) .nil)⟩)] Try.f19 (.cons (.agg yP8) .nil) .bool x = i_ShelfOk k x := by kernel_rfl
theorem e_i_ShelfOk [Names] (k : Nat) : EntryOk Try.prog ⟨19, 0, (.cons (.agg yP8) .nil), .bool, i_ShelfOk k⟩ := entry_ok tokO (by intro e he; simp only [List.mem_cons, List.not_mem_nil, or_false] at he; rcases he with rfl | rfl <;> first | exact e_i_heldAt k | exact e_i_heldOk k) (by kernel_rfl) (fn := Try.f19) (k := k) (es := [⟨61, 0, (.cons (.agg yP8) (.cons (.int .i64) yP2)), (.int .i64), i_heldAt k⟩, ⟨65, 0, (.cons (.agg yP4) .nil), .bool, i_heldOk k⟩]) (loops := [(0, ⟨[1, 6, 7, 8], (.cons (.ptr 0 yP8) (.cons (.il true yT1) (.cons (.int .i64) yP2)))⟩, ⟨[1], (.cons (.ptr 0 yP8) .nil)⟩)]) (by kernel_rfl) (by kernel_rfl) (fun x r h => (t_i_ShelfOk k x).trans h)
def i_copyTexts (k : Nat) (x : List (ByteArray) × Unit) : Option (List (ByteArray) × Unit × Unit) :=
(if List.length ([] : List (ByteArray)) + List.length x.1 ≤ capMax then
some ((([] : List (ByteArray)) ++ x.1), ((), ()))
else none)
theorem t_i_copyTexts (k : Nat) (x) : evF TTab k [] [] Try.f114 (.cons (.il true .str) .nil) (.own false 9 .str) x = i_copyTexts k x := by kernel_rfl
theorem e_i_copyTexts [Names] (k : Nat) : EntryOk Try.prog ⟨114, 0, (.cons (.il true .str) .nil), (.own false 9 .str), i_copyTexts k⟩ := entry_ok tok (by simp) (by kernel_rfl) (fn := Try.f114) (k := k) (es := []) (loops := []) (by kernel_rfl) (by kernel_rfl) (fun x r h => (t_i_copyTexts k x).trans h)
def i_copyShelf (k : Nat) (x : ((List (Int × Int × Int × List (ByteArray) × List (Bool) × Int)) × Unit) × Unit) : Option (((List (Int × Int × Int × List (ByteArray) × List (Bool) × Int)) × Unit) × Unit × Unit) :=
(whileK (fun (rec0 : (((List (Int × Int × Int × List (ByteArray) × List (Bool) × Int)) × Unit) × ((List (Int × Int × Int × List (ByteArray) × List (Bool) × Int)) × Unit) × (List (Int × Int × Int × List (ByteArray) × List (Bool) × Int)) × Int × Int × Unit) → Option _) (y0 : ((List (Int × Int × Int × List (ByteArray) × List (Bool) × Int)) × Unit) × ((List (Int × Int × Int × List (ByteArray) × List (Bool) × Int)) × Unit) × (List (Int × Int × Int × List (ByteArray) × List (Bool) × Int)) × Int × Int × Unit) =>
(if (decide (y0.2.2.2.2.1 < y0.2.2.2.1)) = true then
(if 0 ≤ y0.2.2.2.2.1 ∧ y0.2.2.2.2.1 < (List.length y0.2.2.1 : Int) then
((i_copyTexts k ((Ty.rd (t := yT1) y0.2.2.1 y0.2.2.2.2.1).2.2.2.1, ())).bind fun p1 =>
(if List.length ([] : List (Bool)) + List.length (Ty.rd (t := yT1) y0.2.2.1 y0.2.2.2.2.1).2.2.2.2.1 ≤ capMax then
(if List.length y0.2.1.1 + List.length ([((Ty.rd (t := yT1) y0.2.2.1 y0.2.2.2.2.1).1, ((Ty.rd (t := yT1) y0.2.2.1 y0.2.2.2.2.1).2.1, ((Ty.rd (t := yT1) y0.2.2.1 y0.2.2.2.2.1).2.2.1, (p1.1, ((([] : List (Bool)) ++ (Ty.rd (t := yT1) y0.2.2.1 y0.2.2.2.2.1).2.2.2.2.1), (Ty.rd (t := yT1) y0.2.2.1 y0.2.2.2.2.1).2.2.2.2.2)))))] : List (Int × Int × Int × List (ByteArray) × List (Bool) × Int)) ≤ capMax then
(rec0 ((y0.1.1, ()), (((y0.2.1.1 ++ ([((Ty.rd (t := yT1) y0.2.2.1 y0.2.2.2.2.1).1, ((Ty.rd (t := yT1) y0.2.2.1 y0.2.2.2.2.1).2.1, ((Ty.rd (t := yT1) y0.2.2.1 y0.2.2.2.2.1).2.2.1, (p1.1, ((([] : List (Bool)) ++ (Ty.rd (t := yT1) y0.2.2.1 y0.2.2.2.2.1).2.2.2.2.1), (Ty.rd (t := yT1) y0.2.2.1 y0.2.2.2.2.1).2.2.2.2.2)))))] : List (Int × Int × Int × List (ByteArray) × List (Bool) × Int))), ()), (y0.2.2.1, (y0.2.2.2.1, ((wi64 (y0.2.2.2.2.1 + (1 : Int))), ()))))))
else none)
else none))
else none)
else
((fun (z1 : ((List (Int × Int × Int × List (ByteArray) × List (Bool) × Int)) × Unit) × ((List (Int × Int × Int × List (ByteArray) × List (Bool) × Int)) × Unit) × Unit) =>
some ((z1.2.1.1, ()), ((), ()))) ((y0.1.1, ()), ((y0.2.1.1, ()), ()))))) k (([], ()), (([], ()), (x.1.1, ((List.length x.1.1 : Int), ((0 : Int), ()))))))
theorem t_i_copyShelf (k : Nat) (x) : evF TTabO k [⟨114, 0, (.cons (.il true .str) .nil), (.own false 9 .str), i_copyTexts k⟩] [(0, ⟨[2, 3, 8, 9, 10], (.cons (.ptr 0 yP7) (.cons (.ptr 0 yP7) (.cons (.il true yT1) (.cons (.int .i64) yP2))))⟩, ⟨[2, 3], (.cons (.ptr 0 yP7) (.cons (.ptr 0 yP7) .nil))⟩)] Try.f59 (.cons (.agg yP8) .nil) (.agg yP7) x = i_copyShelf k x := by kernel_rfl
theorem e_i_copyShelf [Names] (k : Nat) : EntryOk Try.prog ⟨59, 0, (.cons (.agg yP8) .nil), (.agg yP7), i_copyShelf k⟩ := entry_ok tokO (by intro e he; simp only [List.mem_cons, List.not_mem_nil, or_false] at he; rcases he with rfl <;> first | exact e_i_copyTexts k) (by kernel_rfl) (fn := Try.f59) (k := k) (es := [⟨114, 0, (.cons (.il true .str) .nil), (.own false 9 .str), i_copyTexts k⟩]) (loops := [(0, ⟨[2, 3, 8, 9, 10], (.cons (.ptr 0 yP7) (.cons (.ptr 0 yP7) (.cons (.il true yT1) (.cons (.int .i64) yP2))))⟩, ⟨[2, 3], (.cons (.ptr 0 yP7) (.cons (.ptr 0 yP7) .nil))⟩)]) (by kernel_rfl) (by kernel_rfl) (fun x r h => (t_i_copyShelf k x).trans h)
def x_slices_Delete_impl_Held_impl_Held_n (k : Nat) (x : (List (Int × Int × Int × Nat × Nat × Int)) × Int × Int × Unit) : Option ((List (Int × Int × Int × Nat × Nat × Int)) × Unit × Unit × Unit × Unit) :=
(if 0 ≤ (List.length x.1 : Int) ∧ (List.length x.1 : Int) ≤ (List.length x.1 : Int) then
(if 0 ≤ x.2.2.1 ∧ x.2.2.1 ≤ (List.length x.1 : Int) then
(if 0 ≤ x.2.1 ∧ x.2.1 ≤ x.2.2.1 then
(if (decide (x.2.1 = x.2.2.1)) = true then
some (x.1, ((), ((), ((), ()))))
else
(if 0 ≤ x.2.1 ∧ x.2.1 ≤ (List.length x.1 : Int) then
(if 0 ≤ x.2.2.1 ∧ x.2.2.1 ≤ (List.length x.1 : Int) then
(if x.2.1 + List.length (List.drop (Int.toNat x.2.2.1) (List.take (Int.toNat (List.length x.1 : Int)) x.1)) ≤ List.length x.1 ∧ x.2.1 - (0 : Int) + List.length (List.drop (Int.toNat x.2.2.1) (List.take (Int.toNat (List.length x.1 : Int)) x.1)) ≤ capMax then
(if 0 ≤ (List.length x.1 : Int) ∧ (List.length x.1 : Int) ≤ ((List.length (List.take (Int.toNat x.2.1) x.1 ++ ((List.drop (Int.toNat x.2.2.1) (List.take (Int.toNat (List.length x.1 : Int)) x.1)) ++ List.drop (Int.toNat x.2.1 + List.length (List.drop (Int.toNat x.2.2.1) (List.take (Int.toNat (List.length x.1 : Int)) x.1))) x.1)) : Int) - (0 : Int)) then
(if 0 ≤ ((x.2.1 + List.length (List.drop (Int.toNat x.2.2.1) (List.take (Int.toNat (List.length x.1 : Int)) x.1))) - (0 : Int)) ∧ ((x.2.1 + List.length (List.drop (Int.toNat x.2.2.1) (List.take (Int.toNat (List.length x.1 : Int)) x.1))) - (0 : Int)) ≤ (List.length x.1 : Int) then
some ((List.drop (Int.toNat (0 : Int)) (List.take (Int.toNat (x.2.1 + List.length (List.drop (Int.toNat x.2.2.1) (List.take (Int.toNat (List.length x.1 : Int)) x.1)))) (List.take (Int.toNat ((0 : Int) + ((x.2.1 + List.length (List.drop (Int.toNat x.2.2.1) (List.take (Int.toNat (List.length x.1 : Int)) x.1))) - (0 : Int)))) (List.take (Int.toNat x.2.1) x.1 ++ ((List.drop (Int.toNat x.2.2.1) (List.take (Int.toNat (List.length x.1 : Int)) x.1)) ++ List.drop (Int.toNat x.2.1 + List.length (List.drop (Int.toNat x.2.2.1) (List.take (Int.toNat (List.length x.1 : Int)) x.1))) x.1)) ++ (List.replicate (Int.toNat (((0 : Int) + (List.length x.1 : Int)) - ((0 : Int) + ((x.2.1 + List.length (List.drop (Int.toNat x.2.2.1) (List.take (Int.toNat (List.length x.1 : Int)) x.1))) - (0 : Int))))) ((0 : Int), ((0 : Int), ((0 : Int), ((0 : Nat), ((0 : Nat), (0 : Int)))))) ++ List.drop (Int.toNat ((0 : Int) + (List.length x.1 : Int))) (List.take (Int.toNat x.2.1) x.1 ++ ((List.drop (Int.toNat x.2.2.1) (List.take (Int.toNat (List.length x.1 : Int)) x.1)) ++ List.drop (Int.toNat x.2.1 + List.length (List.drop (Int.toNat x.2.2.1) (List.take (Int.toNat (List.length x.1 : Int)) x.1))) x.1)))))), ((), ((), ((), ()))))
else none)
else none)
else none)
else none)
else none))
else none)
else none)
else none)
theorem t_x_slices_Delete_impl_Held_impl_Held_n (k : Nat) (x) : evF TTabN k [] [] Try.f62 (.cons (.own false 53 yT3) (.cons (.int .i64) yP2)) (.own false 53 yT3) x = x_slices_Delete_impl_Held_impl_Held_n k x := by kernel_rfl
theorem e_x_slices_Delete_impl_Held_impl_Held_n [Names] (k : Nat) : EntryOk Try.prog ⟨62, 0, (.cons (.own false 53 yT3) (.cons (.int .i64) yP2)), (.own false 53 yT3), x_slices_Delete_impl_Held_impl_Held_n k⟩ := entry_ok tokN (by simp) (by kernel_rfl) (fn := Try.f62) (k := k) (es := []) (loops := []) (by kernel_rfl) (by kernel_rfl) (fun x r h => (t_x_slices_Delete_impl_Held_impl_Held_n k x).trans h)
def x_slices_Delete_impl_Held_impl_Held (k : Nat) (x : (List (Int × Int × Int × List (ByteArray) × List (Bool) × Int)) × Int × Int × Unit) : Option ((List (Int × Int × Int × List (ByteArray) × List (Bool) × Int)) × Unit × Unit × Unit × Unit) :=
treeF yT0 (x_slices_Delete_impl_Held_impl_Held_n k) x
theorem e_x_slices_Delete_impl_Held_impl_Held [Names] (k : Nat) : EntryOk Try.prog ⟨62, 0, (.cons (.own false 53 yT0) (.cons (.int .i64) yP2)), (.own false 53 yT0), x_slices_Delete_impl_Held_impl_Held k⟩ := names_entry (t := yT0) (by kernel_rfl) (by kernel_rfl) (fun N => @e_x_slices_Delete_impl_Held_impl_Held_n N k) inferInstance
def x_slices_Index_bool_bool (k : Nat) (x : List (Bool) × Bool × Unit) : Option (Int × Unit × Unit × Unit) :=
(whileK (fun (rec0 : (List (Bool) × Bool × Int × Int × Unit) → Option _) (y0 : List (Bool) × Bool × Int × Int × Unit) =>
(if (decide (y0.2.2.2.1 < y0.2.2.1)) = true then
(if 0 ≤ y0.2.2.2.1 ∧ y0.2.2.2.1 < (List.length y0.1 : Int) then
(if (decide (y0.2.1 = (Ty.rd (t := .bool) y0.1 y0.2.2.2.1))) = true then
some (y0.2.2.2.1, ((), ((), ())))
else
(rec0 (y0.1, (y0.2.1, (y0.2.2.1, ((wi64 (y0.2.2.2.1 + (1 : Int))), ()))))))
else none)
else
((fun (z1 : Unit) =>
some ((-1 : Int), ((), ((), ())))) ()))) k (x.1, (x.2.1, ((List.length x.1 : Int), ((0 : Int), ())))))
theorem t_x_slices_Index_bool_bool (k : Nat) (x) : evF TTab k [] [(0, ⟨[0, 1, 7, 8], (.cons (.il true .bool) (.cons .bool (.cons (.int .i64) yP2)))⟩, ⟨[], .nil⟩)] Try.f117 (.cons (.il true .bool) (.cons .bool .nil)) (.int .i64) x = x_slices_Index_bool_bool k x := by kernel_rfl
theorem e_x_slices_Index_bool_bool [Names] (k : Nat) : EntryOk Try.prog ⟨117, 0, (.cons (.il true .bool) (.cons .bool .nil)), (.int .i64), x_slices_Index_bool_bool k⟩ := entry_ok tok (by simp) (by kernel_rfl) (fn := Try.f117) (k := k) (es := []) (loops := [(0, ⟨[0, 1, 7, 8], (.cons (.il true .bool) (.cons .bool (.cons (.int .i64) yP2)))⟩, ⟨[], .nil⟩)]) (by kernel_rfl) (by kernel_rfl) (fun x r h => (t_x_slices_Index_bool_bool k x).trans h)
def x_slices_Contains_bool_bool (k : Nat) (x : List (Bool) × Bool × Unit) : Option (Bool × Unit × Unit × Unit) :=
((x_slices_Index_bool_bool k (x.1, (x.2.1, ()))).bind fun p1 =>
some ((decide ((0 : Int) ≤ p1.1)), ((), ((), ()))))
theorem t_x_slices_Contains_bool_bool (k : Nat) (x) : evF TTab k [⟨117, 0, (.cons (.il true .bool) (.cons .bool .nil)), (.int .i64), x_slices_Index_bool_bool k⟩] [] Try.f63 (.cons (.il true .bool) (.cons .bool .nil)) .bool x = x_slices_Contains_bool_bool k x := by kernel_rfl
theorem e_x_slices_Contains_bool_bool [Names] (k : Nat) : EntryOk Try.prog ⟨63, 0, (.cons (.il true .bool) (.cons .bool .nil)), .bool, x_slices_Contains_bool_bool k⟩ := entry_ok tok (by intro e he; simp only [List.mem_cons, List.not_mem_nil, or_false] at he; rcases he with rfl <;> first | exact e_x_slices_Index_bool_bool k) (by kernel_rfl) (fn := Try.f63) (k := k) (es := [⟨117, 0, (.cons (.il true .bool) (.cons .bool .nil)), (.int .i64), x_slices_Index_bool_bool k⟩]) (loops := []) (by kernel_rfl) (by kernel_rfl) (fun x r h => (t_x_slices_Contains_bool_bool k x).trans h)
def x_strings_Join (k : Nat) (x : List (ByteArray) × ByteArray × Unit) : Option (ByteArray × Unit × Unit × Unit) := joinF x
theorem e_x_strings_Join [Names] (k : Nat) : EntryOk Try.prog ⟨64, 0, (.cons (.il true .str) (.cons .str .nil)), .str, x_strings_Join k⟩ := entry_join Try.func64 (by kernel_rfl) Try.strings_Join_none Try.strings_Join true
def i_AddPart (k : Nat) (x : ((List (Int × Int × Int × List (ByteArray) × List (Bool) × Int)) × Unit) × Int × ByteArray × Int × Unit) : Option ((((List (Int × Int × Int × List (ByteArray) × List (Bool) × Int)) × Unit) × ByteArray × Bool × Unit) × Unit × Unit × Unit × Unit × Unit) :=
((i_copyShelf k ((x.1.1, ()), ())).bind fun p1 =>
((i_ReadPart k (x.2.2.1, ())).bind fun p2 =>
((i_ShelfOk k ((x.1.1, ()), ())).bind fun p3 =>
(if (!p3.1) = false then
((i_isId k (x.2.1, ())).bind fun p4 =>
(if (!p4.1) = false then
(if (!p2.1.2.2.2.2.1) = false then
(if (decide ((120 : Int) < (ByteArray.size p2.1.2.2.2.1 : Int))) = false then
((i_within k (x.2.2.2.1, ((0 : Int), ((999999992 : Int), ())))).bind fun p5 =>
(if (!p5.1) = true then
some (((p1.1.1, ()), ((⟨#[]⟩ : ByteArray), (false, ()))), ((), ((), ((), ((), ())))))
else
(if (decide (p2.1.2.2.1 = (1 : Int))) = true then
some (((p1.1.1, ()), (p2.1.2.2.2.1, (true, ()))), ((), ((), ((), ((), ())))))
else
((i_heldAt k ((p1.1.1, ()), (x.2.1, (p2.1.1, ())))).bind fun p6 =>
(jn (
(jn (fun (j11v0 : Int) (j11v1 : List (Int × Int × Int × List (ByteArray) × List (Bool) × Int)) =>
(if 0 ≤ j11v0 ∧ j11v0 < (List.length j11v1 : Int) then
(jn (fun (j12v0 : List (Int × Int × Int × List (ByteArray) × List (Bool) × Int)) =>
((x_slices_Contains_bool_bool k ((Ty.rd (t := yT0) j12v0 j11v0).2.2.2.2.1, (false, ()))).bind fun p53 =>
(if p53.1 = true then
some (((j12v0, ()), ((⟨#[]⟩ : ByteArray), (false, ()))), ((), ((), ((), ((), ())))))
else
((x_strings_Join k ((Ty.rd (t := yT0) j12v0 j11v0).2.2.2.1, ((⟨#[]⟩ : ByteArray), ()))).bind fun p54 =>
((x_slices_Delete_impl_Held_impl_Held k (j12v0, (j11v0, ((wi64 (j11v0 + (1 : Int))), ())))).bind fun p55 =>
some (((p55.1, ()), (p54.1, (true, ()))), ((), ((), ((), ((), ())))))))))) (fun (j12 : (List (Int × Int × Int × List (ByteArray) × List (Bool) × Int)) → Option _) =>
(if 0 ≤ p2.1.2.1 ∧ p2.1.2.1 < (List.length (Ty.rd (t := yT0) j11v1 j11v0).2.2.2.2.1 : Int) then
(if (!(Ty.rd (t := .bool) (Ty.rd (t := yT0) j11v1 j11v0).2.2.2.2.1 p2.1.2.1)) = true then
(if 0 ≤ p2.1.2.1 ∧ p2.1.2.1 < (List.length (Ty.rd (t := yT0) j11v1 j11v0).2.2.2.2.1 : Int) then
(jn (List.set j11v1 (Int.toNat j11v0) ((Ty.rd (t := yT0) j11v1 j11v0).1, ((Ty.rd (t := yT0) j11v1 j11v0).2.1, ((Ty.rd (t := yT0) j11v1 j11v0).2.2.1, ((Ty.rd (t := yT0) j11v1 j11v0).2.2.2.1, ((List.set (Ty.rd (t := yT0) j11v1 j11v0).2.2.2.2.1 (Int.toNat p2.1.2.1) true), (Ty.rd (t := yT0) j11v1 j11v0).2.2.2.2.2)))))) (fun (q15 : List (Int × Int × Int × List (ByteArray) × List (Bool) × Int)) =>
(if 0 ≤ p2.1.2.1 ∧ p2.1.2.1 < (List.length (Ty.rd (t := yT0) q15 j11v0).2.2.2.1 : Int) then
(jn (List.set q15 (Int.toNat j11v0) ((Ty.rd (t := yT0) q15 j11v0).1, ((Ty.rd (t := yT0) q15 j11v0).2.1, ((Ty.rd (t := yT0) q15 j11v0).2.2.1, ((List.set (Ty.rd (t := yT0) q15 j11v0).2.2.2.1 (Int.toNat p2.1.2.1) p2.1.2.2.2.1), (Ty.rd (t := yT0) q15 j11v0).2.2.2.2))))) (fun (q16 : List (Int × Int × Int × List (ByteArray) × List (Bool) × Int)) =>
(j12 q16)))
else none)))
else none)
else
(j12 j11v1))
else none)))
else none)) (fun (j11 : Int → (List (Int × Int × Int × List (ByteArray) × List (Bool) × Int)) → Option _) =>
(if (decide (p6.1 < (0 : Int))) = true then
(if (decide ((List.length p1.1.1 : Int) = (3 : Int))) = true then
(if 0 ≤ (1 : Int) ∧ (1 : Int) ≤ (List.length p1.1.1 : Int) then
(if p2.1.2.2.1 = p2.1.2.2.1 then
(if 0 ≤ p2.1.2.2.1 ∧ p2.1.2.2.1 ≤ (capMax : Int) then
(if p2.1.2.2.1 = p2.1.2.2.1 then
(if 0 ≤ p2.1.2.2.1 ∧ p2.1.2.2.1 ≤ (capMax : Int) then
(if (List.length p1.1.1 : Int) = (List.length p1.1.1 : Int) ∧ List.length p1.1.1 + List.length ([(x.2.1, (p2.1.1, (p2.1.2.2.1, ((List.replicate (Int.toNat p2.1.2.2.1) (⟨#[]⟩ : ByteArray)), ((List.replicate (Int.toNat p2.1.2.2.1) false), (wi64 (x.2.2.2.1 + (8 : Int))))))))] : List (Int × Int × Int × List (ByteArray) × List (Bool) × Int)) ≤ capMax then
(j11 ((List.length p1.1.1 : Int) - (1 : Int)) ((List.drop (Int.toNat (1 : Int)) p1.1.1) ++ ([(x.2.1, (p2.1.1, (p2.1.2.2.1, ((List.replicate (Int.toNat p2.1.2.2.1) (⟨#[]⟩ : ByteArray)), ((List.replicate (Int.toNat p2.1.2.2.1) false), (wi64 (x.2.2.2.1 + (8 : Int))))))))] : List (Int × Int × Int × List (ByteArray) × List (Bool) × Int))))
else none)
else none)
else none)
else none)
else none)
else none)
else
(if p2.1.2.2.1 = p2.1.2.2.1 then
(if 0 ≤ p2.1.2.2.1 ∧ p2.1.2.2.1 ≤ (capMax : Int) then
(if p2.1.2.2.1 = p2.1.2.2.1 then
(if 0 ≤ p2.1.2.2.1 ∧ p2.1.2.2.1 ≤ (capMax : Int) then
(if List.length p1.1.1 + List.length ([(x.2.1, (p2.1.1, (p2.1.2.2.1, ((List.replicate (Int.toNat p2.1.2.2.1) (⟨#[]⟩ : ByteArray)), ((List.replicate (Int.toNat p2.1.2.2.1) false), (wi64 (x.2.2.2.1 + (8 : Int))))))))] : List (Int × Int × Int × List (ByteArray) × List (Bool) × Int)) ≤ capMax then
(j11 (List.length p1.1.1 : Int) (p1.1.1 ++ ([(x.2.1, (p2.1.1, (p2.1.2.2.1, ((List.replicate (Int.toNat p2.1.2.2.1) (⟨#[]⟩ : ByteArray)), ((List.replicate (Int.toNat p2.1.2.2.1) false), (wi64 (x.2.2.2.1 + (8 : Int))))))))] : List (Int × Int × Int × List (ByteArray) × List (Bool) × Int))))
else none)
else none)
else none)
else none)
else none))
else
(if 0 ≤ p6.1 ∧ p6.1 < (List.length p1.1.1 : Int) then
(jn (fun (j13v0 : List (Int × Int × Int × List (ByteArray) × List (Bool) × Int)) =>
((x_slices_Contains_bool_bool k ((Ty.rd (t := yT0) j13v0 p6.1).2.2.2.2.1, (false, ()))).bind fun p59 =>
(if p59.1 = true then
some (((j13v0, ()), ((⟨#[]⟩ : ByteArray), (false, ()))), ((), ((), ((), ((), ())))))
else
((x_strings_Join k ((Ty.rd (t := yT0) j13v0 p6.1).2.2.2.1, ((⟨#[]⟩ : ByteArray), ()))).bind fun p60 =>
((x_slices_Delete_impl_Held_impl_Held k (j13v0, (p6.1, ((wi64 (p6.1 + (1 : Int))), ())))).bind fun p61 =>
some (((p61.1, ()), (p60.1, (true, ()))), ((), ((), ((), ((), ())))))))))) (fun (j13 : (List (Int × Int × Int × List (ByteArray) × List (Bool) × Int)) → Option _) =>
(if 0 ≤ p2.1.2.1 ∧ p2.1.2.1 < (List.length (Ty.rd (t := yT0) p1.1.1 p6.1).2.2.2.2.1 : Int) then
(if (!(Ty.rd (t := .bool) (Ty.rd (t := yT0) p1.1.1 p6.1).2.2.2.2.1 p2.1.2.1)) = true then
(if 0 ≤ p2.1.2.1 ∧ p2.1.2.1 < (List.length (Ty.rd (t := yT0) p1.1.1 p6.1).2.2.2.2.1 : Int) then
(jn (List.set p1.1.1 (Int.toNat p6.1) ((Ty.rd (t := yT0) p1.1.1 p6.1).1, ((Ty.rd (t := yT0) p1.1.1 p6.1).2.1, ((Ty.rd (t := yT0) p1.1.1 p6.1).2.2.1, ((Ty.rd (t := yT0) p1.1.1 p6.1).2.2.2.1, ((List.set (Ty.rd (t := yT0) p1.1.1 p6.1).2.2.2.2.1 (Int.toNat p2.1.2.1) true), (Ty.rd (t := yT0) p1.1.1 p6.1).2.2.2.2.2)))))) (fun (q17 : List (Int × Int × Int × List (ByteArray) × List (Bool) × Int)) =>
(if 0 ≤ p2.1.2.1 ∧ p2.1.2.1 < (List.length (Ty.rd (t := yT0) q17 p6.1).2.2.2.1 : Int) then
(jn (List.set q17 (Int.toNat p6.1) ((Ty.rd (t := yT0) q17 p6.1).1, ((Ty.rd (t := yT0) q17 p6.1).2.1, ((Ty.rd (t := yT0) q17 p6.1).2.2.1, ((List.set (Ty.rd (t := yT0) q17 p6.1).2.2.2.1 (Int.toNat p2.1.2.1) p2.1.2.2.2.1), (Ty.rd (t := yT0) q17 p6.1).2.2.2.2))))) (fun (q18 : List (Int × Int × Int × List (ByteArray) × List (Bool) × Int)) =>
(j13 q18)))
else none)))
else none)
else
(j13 p1.1.1))
else none)))
else none))))) (fun (j9 : Option _) =>
(if (decide ((0 : Int) ≤ p6.1)) = true then
(if 0 ≤ p6.1 ∧ p6.1 < (List.length p1.1.1 : Int) then
(if (!decide ((Ty.rd (t := yT0) p1.1.1 p6.1).2.2.1 = p2.1.2.2.1)) = true then
((x_slices_Delete_impl_Held_impl_Held k (p1.1.1, (p6.1, ((wi64 (p6.1 + (1 : Int))), ())))).bind fun p7 =>
(jn (fun (j2v0 : Int) (j2v1 : List (Int × Int × Int × List (ByteArray) × List (Bool) × Int)) =>
(if 0 ≤ j2v0 ∧ j2v0 < (List.length j2v1 : Int) then
(jn (fun (j3v0 : List (Int × Int × Int × List (ByteArray) × List (Bool) × Int)) =>
((x_slices_Contains_bool_bool k ((Ty.rd (t := yT0) j3v0 j2v0).2.2.2.2.1, (false, ()))).bind fun p17 =>
(if p17.1 = true then
some (((j3v0, ()), ((⟨#[]⟩ : ByteArray), (false, ()))), ((), ((), ((), ((), ())))))
else
((x_strings_Join k ((Ty.rd (t := yT0) j3v0 j2v0).2.2.2.1, ((⟨#[]⟩ : ByteArray), ()))).bind fun p18 =>
((x_slices_Delete_impl_Held_impl_Held k (j3v0, (j2v0, ((wi64 (j2v0 + (1 : Int))), ())))).bind fun p19 =>
some (((p19.1, ()), (p18.1, (true, ()))), ((), ((), ((), ((), ())))))))))) (fun (j3 : (List (Int × Int × Int × List (ByteArray) × List (Bool) × Int)) → Option _) =>
(if 0 ≤ p2.1.2.1 ∧ p2.1.2.1 < (List.length (Ty.rd (t := yT0) j2v1 j2v0).2.2.2.2.1 : Int) then
(if (!(Ty.rd (t := .bool) (Ty.rd (t := yT0) j2v1 j2v0).2.2.2.2.1 p2.1.2.1)) = true then
(if 0 ≤ p2.1.2.1 ∧ p2.1.2.1 < (List.length (Ty.rd (t := yT0) j2v1 j2v0).2.2.2.2.1 : Int) then
(jn (List.set j2v1 (Int.toNat j2v0) ((Ty.rd (t := yT0) j2v1 j2v0).1, ((Ty.rd (t := yT0) j2v1 j2v0).2.1, ((Ty.rd (t := yT0) j2v1 j2v0).2.2.1, ((Ty.rd (t := yT0) j2v1 j2v0).2.2.2.1, ((List.set (Ty.rd (t := yT0) j2v1 j2v0).2.2.2.2.1 (Int.toNat p2.1.2.1) true), (Ty.rd (t := yT0) j2v1 j2v0).2.2.2.2.2)))))) (fun (q3 : List (Int × Int × Int × List (ByteArray) × List (Bool) × Int)) =>
(if 0 ≤ p2.1.2.1 ∧ p2.1.2.1 < (List.length (Ty.rd (t := yT0) q3 j2v0).2.2.2.1 : Int) then
(jn (List.set q3 (Int.toNat j2v0) ((Ty.rd (t := yT0) q3 j2v0).1, ((Ty.rd (t := yT0) q3 j2v0).2.1, ((Ty.rd (t := yT0) q3 j2v0).2.2.1, ((List.set (Ty.rd (t := yT0) q3 j2v0).2.2.2.1 (Int.toNat p2.1.2.1) p2.1.2.2.2.1), (Ty.rd (t := yT0) q3 j2v0).2.2.2.2))))) (fun (q4 : List (Int × Int × Int × List (ByteArray) × List (Bool) × Int)) =>
(j3 q4)))
else none)))
else none)
else
(j3 j2v1))
else none)))
else none)) (fun (j2 : Int → (List (Int × Int × Int × List (ByteArray) × List (Bool) × Int)) → Option _) =>
(if (decide ((-1 : Int) < (0 : Int))) = true then
(if (decide ((List.length p7.1 : Int) = (3 : Int))) = true then
(if 0 ≤ (1 : Int) ∧ (1 : Int) ≤ (List.length p7.1 : Int) then
(if p2.1.2.2.1 = p2.1.2.2.1 then
(if 0 ≤ p2.1.2.2.1 ∧ p2.1.2.2.1 ≤ (capMax : Int) then
(if p2.1.2.2.1 = p2.1.2.2.1 then
(if 0 ≤ p2.1.2.2.1 ∧ p2.1.2.2.1 ≤ (capMax : Int) then
(if (List.length p7.1 : Int) = (List.length p7.1 : Int) ∧ List.length p7.1 + List.length ([(x.2.1, (p2.1.1, (p2.1.2.2.1, ((List.replicate (Int.toNat p2.1.2.2.1) (⟨#[]⟩ : ByteArray)), ((List.replicate (Int.toNat p2.1.2.2.1) false), (wi64 (x.2.2.2.1 + (8 : Int))))))))] : List (Int × Int × Int × List (ByteArray) × List (Bool) × Int)) ≤ capMax then
(j2 ((List.length p7.1 : Int) - (1 : Int)) ((List.drop (Int.toNat (1 : Int)) p7.1) ++ ([(x.2.1, (p2.1.1, (p2.1.2.2.1, ((List.replicate (Int.toNat p2.1.2.2.1) (⟨#[]⟩ : ByteArray)), ((List.replicate (Int.toNat p2.1.2.2.1) false), (wi64 (x.2.2.2.1 + (8 : Int))))))))] : List (Int × Int × Int × List (ByteArray) × List (Bool) × Int))))
else none)
else none)
else none)
else none)
else none)
else none)
else
(if p2.1.2.2.1 = p2.1.2.2.1 then
(if 0 ≤ p2.1.2.2.1 ∧ p2.1.2.2.1 ≤ (capMax : Int) then
(if p2.1.2.2.1 = p2.1.2.2.1 then
(if 0 ≤ p2.1.2.2.1 ∧ p2.1.2.2.1 ≤ (capMax : Int) then
(if List.length p7.1 + List.length ([(x.2.1, (p2.1.1, (p2.1.2.2.1, ((List.replicate (Int.toNat p2.1.2.2.1) (⟨#[]⟩ : ByteArray)), ((List.replicate (Int.toNat p2.1.2.2.1) false), (wi64 (x.2.2.2.1 + (8 : Int))))))))] : List (Int × Int × Int × List (ByteArray) × List (Bool) × Int)) ≤ capMax then
(j2 (List.length p7.1 : Int) (p7.1 ++ ([(x.2.1, (p2.1.1, (p2.1.2.2.1, ((List.replicate (Int.toNat p2.1.2.2.1) (⟨#[]⟩ : ByteArray)), ((List.replicate (Int.toNat p2.1.2.2.1) false), (wi64 (x.2.2.2.1 + (8 : Int))))))))] : List (Int × Int × Int × List (ByteArray) × List (Bool) × Int))))
else none)
else none)
else none)
else none)
else none))
else
(if 0 ≤ (-1 : Int) ∧ (-1 : Int) < (List.length p7.1 : Int) then
(jn (fun (j4v0 : List (Int × Int × Int × List (ByteArray) × List (Bool) × Int)) =>
((x_slices_Contains_bool_bool k ((Ty.rd (t := yT0) j4v0 (-1 : Int)).2.2.2.2.1, (false, ()))).bind fun p23 =>
(if p23.1 = true then
some (((j4v0, ()), ((⟨#[]⟩ : ByteArray), (false, ()))), ((), ((), ((), ((), ())))))
else
((x_strings_Join k ((Ty.rd (t := yT0) j4v0 (-1 : Int)).2.2.2.1, ((⟨#[]⟩ : ByteArray), ()))).bind fun p24 =>
((x_slices_Delete_impl_Held_impl_Held k (j4v0, ((-1 : Int), ((wi64 ((-1 : Int) + (1 : Int))), ())))).bind fun p25 =>
some (((p25.1, ()), (p24.1, (true, ()))), ((), ((), ((), ((), ())))))))))) (fun (j4 : (List (Int × Int × Int × List (ByteArray) × List (Bool) × Int)) → Option _) =>
(if 0 ≤ p2.1.2.1 ∧ p2.1.2.1 < (List.length (Ty.rd (t := yT0) p7.1 (-1 : Int)).2.2.2.2.1 : Int) then
(if (!(Ty.rd (t := .bool) (Ty.rd (t := yT0) p7.1 (-1 : Int)).2.2.2.2.1 p2.1.2.1)) = true then
(if 0 ≤ p2.1.2.1 ∧ p2.1.2.1 < (List.length (Ty.rd (t := yT0) p7.1 (-1 : Int)).2.2.2.2.1 : Int) then
(jn (List.set p7.1 (Int.toNat (-1 : Int)) ((Ty.rd (t := yT0) p7.1 (-1 : Int)).1, ((Ty.rd (t := yT0) p7.1 (-1 : Int)).2.1, ((Ty.rd (t := yT0) p7.1 (-1 : Int)).2.2.1, ((Ty.rd (t := yT0) p7.1 (-1 : Int)).2.2.2.1, ((List.set (Ty.rd (t := yT0) p7.1 (-1 : Int)).2.2.2.2.1 (Int.toNat p2.1.2.1) true), (Ty.rd (t := yT0) p7.1 (-1 : Int)).2.2.2.2.2)))))) (fun (q5 : List (Int × Int × Int × List (ByteArray) × List (Bool) × Int)) =>
(if 0 ≤ p2.1.2.1 ∧ p2.1.2.1 < (List.length (Ty.rd (t := yT0) q5 (-1 : Int)).2.2.2.1 : Int) then
(jn (List.set q5 (Int.toNat (-1 : Int)) ((Ty.rd (t := yT0) q5 (-1 : Int)).1, ((Ty.rd (t := yT0) q5 (-1 : Int)).2.1, ((Ty.rd (t := yT0) q5 (-1 : Int)).2.2.1, ((List.set (Ty.rd (t := yT0) q5 (-1 : Int)).2.2.2.1 (Int.toNat p2.1.2.1) p2.1.2.2.2.1), (Ty.rd (t := yT0) q5 (-1 : Int)).2.2.2.2))))) (fun (q6 : List (Int × Int × Int × List (ByteArray) × List (Bool) × Int)) =>
(j4 q6)))
else none)))
else none)
else
(j4 p7.1))
else none)))
else none)))))
else
j9)
else none)
else
j9)))))))
else
some (((p1.1.1, ()), ((⟨#[]⟩ : ByteArray), (false, ()))), ((), ((), ((), ((), ()))))))
else
some (((p1.1.1, ()), ((⟨#[]⟩ : ByteArray), (false, ()))), ((), ((), ((), ((), ()))))))
else
some (((p1.1.1, ()), ((⟨#[]⟩ : ByteArray), (false, ()))), ((), ((), ((), ((), ())))))))
else
some (((p1.1.1, ()), ((⟨#[]⟩ : ByteArray), (false, ()))), ((), ((), ((), ((), ())))))))))
theorem t_i_AddPart (k : Nat) (x) : evF TTabO k [⟨17, 0, (.cons .str .nil), yP11, i_ReadPart k⟩, ⟨19, 0, (.cons (.agg yP8) .nil), .bool, i_ShelfOk k⟩, ⟨54, 0, yP9, .bool, i_within k⟩, ⟨59, 0, (.cons (.agg yP8) .nil), (.agg yP7), i_copyShelf k⟩, ⟨60, 0, yP2, .bool, i_isId k⟩, ⟨61, 0, (.cons (.agg yP8) (.cons (.int .i64) yP2)), (.int .i64), i_heldAt k⟩, ⟨62, 0, (.cons (.own false 53 yT0) (.cons (.int .i64) yP2)), (.own false 53 yT0), x_slices_Delete_impl_Held_impl_Held k⟩, ⟨63, 0, (.cons (.il true .bool) (.cons .bool .nil)), .bool, x_slices_Contains_bool_bool k⟩, ⟨64, 0, (.cons (.il true .str) (.cons .str .nil)), .str, x_strings_Join k⟩] [] Try.f18 (.cons (.agg yP8) yP15) yP14 x = i_AddPart k x := by kernel_rfl
theorem e_i_AddPart [Names] (k : Nat) : EntryOk Try.prog ⟨18, 0, (.cons (.agg yP8) yP15), yP14, i_AddPart k⟩ := entry_ok tokO (by intro e he; simp only [List.mem_cons, List.not_mem_nil, or_false] at he; rcases he with rfl | rfl | rfl | rfl | rfl | rfl | rfl | rfl | rfl <;> first | exact e_i_ReadPart k | exact e_i_ShelfOk k | exact e_i_within k | exact e_i_copyShelf k | exact e_i_isId k | exact e_i_heldAt k | exact e_x_slices_Delete_impl_Held_impl_Held k | exact e_x_slices_Contains_bool_bool k | exact e_x_strings_Join k) (by kernel_rfl) (fn := Try.f18) (k := k) (es := [⟨17, 0, (.cons .str .nil), yP11, i_ReadPart k⟩, ⟨19, 0, (.cons (.agg yP8) .nil), .bool, i_ShelfOk k⟩, ⟨54, 0, yP9, .bool, i_within k⟩, ⟨59, 0, (.cons (.agg yP8) .nil), (.agg yP7), i_copyShelf k⟩, ⟨60, 0, yP2, .bool, i_isId k⟩, ⟨61, 0, (.cons (.agg yP8) (.cons (.int .i64) yP2)), (.int .i64), i_heldAt k⟩, ⟨62, 0, (.cons (.own false 53 yT0) (.cons (.int .i64) yP2)), (.own false 53 yT0), x_slices_Delete_impl_Held_impl_Held k⟩, ⟨63, 0, (.cons (.il true .bool) (.cons .bool .nil)), .bool, x_slices_Contains_bool_bool k⟩, ⟨64, 0, (.cons (.il true .str) (.cons .str .nil)), .str, x_strings_Join k⟩]) (loops := []) (by kernel_rfl) (by kernel_rfl) (fun x r h => (t_i_AddPart k x).trans h)
def i_TidyShelf_1 (k : Nat) (x : (Int × Int × Int × Nat × Nat × Int × Unit) × (Int × Unit) × Unit) : Option (Bool × Unit × (Int × Unit) × Unit) :=
some ((decide (x.1.2.2.2.2.2.1 ≤ x.2.1.1)), ((), ((x.2.1.1, ()), ())))
theorem t_i_TidyShelf_1 (k : Nat) (x) : evF TTabN k [] [] Try.f70 yP13 .bool x = i_TidyShelf_1 k x := by kernel_rfl
theorem e_i_TidyShelf_1 [Names] (k : Nat) : EntryOk Try.prog ⟨70, 0, yP13, .bool, i_TidyShelf_1 k⟩ := entry_ok tokN (by simp) (by kernel_rfl) (fn := Try.f70) (k := k) (es := []) (loops := []) (by kernel_rfl) (by kernel_rfl) (fun x r h => (t_i_TidyShelf_1 k x).trans h)
def x_slices_IndexFunc_impl_Held_impl_Held_of_i_TidyShelf_1 (k : Nat) (x : (List (Int × Int × Int × Nat × Nat × Int)) × ((Int × Unit) × Unit) × Unit) : Option (Int × Unit × ((Int × Unit) × Unit) × Unit) :=
(whileK (fun (rec0 : ((List (Int × Int × Int × Nat × Nat × Int)) × ((Int × Unit) × Unit) × Int × Int × Unit) → Option _) (y0 : (List (Int × Int × Int × Nat × Nat × Int)) × ((Int × Unit) × Unit) × Int × Int × Unit) =>
(if (decide (y0.2.2.2.1 < y0.2.2.1)) = true then
(if 0 ≤ y0.2.2.2.1 ∧ y0.2.2.2.1 < (List.length y0.1 : Int) then
((i_TidyShelf_1 k (((Ty.rd (t := yT3) y0.1 y0.2.2.2.1).1, ((Ty.rd (t := yT3) y0.1 y0.2.2.2.1).2.1, ((Ty.rd (t := yT3) y0.1 y0.2.2.2.1).2.2.1, ((Ty.rd (t := yT3) y0.1 y0.2.2.2.1).2.2.2.1, ((Ty.rd (t := yT3) y0.1 y0.2.2.2.1).2.2.2.2.1, ((Ty.rd (t := yT3) y0.1 y0.2.2.2.1).2.2.2.2.2, ())))))), ((y0.2.1.1.1, ()), ()))).bind fun p1 =>
(if p1.1 = true then
some (y0.2.2.2.1, ((), (((p1.2.2.1.1, ()), ()), ())))
else
(rec0 (y0.1, (((p1.2.2.1.1, ()), ()), (y0.2.2.1, ((wi64 (y0.2.2.2.1 + (1 : Int))), ())))))))
else none)
else
((fun (z1 : ((Int × Unit) × Unit) × Unit) =>
some ((-1 : Int), ((), (((z1.1.1.1, ()), ()), ())))) (((y0.2.1.1.1, ()), ()), ())))) k (x.1, (((x.2.1.1.1, ()), ()), ((List.length x.1 : Int), ((0 : Int), ())))))
theorem t_x_slices_IndexFunc_impl_Held_impl_Held_of_i_TidyShelf_1 (k : Nat) (x) : evF TTabN k [⟨70, 0, yP13, .bool, i_TidyShelf_1 k⟩] [(0, ⟨[0, 1, 7, 8], (.cons (.il true yT3) (.cons (.fn 70 yP10) (.cons (.int .i64) yP2)))⟩, ⟨[1], (.cons (.fn 70 yP10) .nil)⟩)] Try.f115 (.cons (.il true yT3) (.cons (.fn 70 yP10) .nil)) (.int .i64) x = x_slices_IndexFunc_impl_Held_impl_Held_of_i_TidyShelf_1 k x := by kernel_rfl
theorem e_x_slices_IndexFunc_impl_Held_impl_Held_of_i_TidyShelf_1 [Names] (k : Nat) : EntryOk Try.prog ⟨115, 71, (.cons (.il true yT3) (.cons (.fn 70 yP10) .nil)), (.int .i64), x_slices_IndexFunc_impl_Held_impl_Held_of_i_TidyShelf_1 k⟩ := entry_ok tokN (by intro e he; simp only [List.mem_cons, List.not_mem_nil, or_false] at he; rcases he with rfl <;> first | exact e_i_TidyShelf_1 k) (by kernel_rfl) (fn := Try.f115) (k := k) (es := [⟨70, 0, yP13, .bool, i_TidyShelf_1 k⟩]) (loops := [(0, ⟨[0, 1, 7, 8], (.cons (.il true yT3) (.cons (.fn 70 yP10) (.cons (.int .i64) yP2)))⟩, ⟨[1], (.cons (.fn 70 yP10) .nil)⟩)]) (by kernel_rfl) (by kernel_rfl) (fun x r h => (t_x_slices_IndexFunc_impl_Held_impl_Held_of_i_TidyShelf_1 k x).trans h)
def x_slices_DeleteFunc_impl_Held_impl_Held_of_i_TidyShelf_1_n (k : Nat) (x : (List (Int × Int × Int × Nat × Nat × Int)) × ((Int × Unit) × Unit) × Unit) : Option ((List (Int × Int × Int × Nat × Nat × Int)) × Unit × ((Int × Unit) × Unit) × Unit) :=
((x_slices_IndexFunc_impl_Held_impl_Held_of_i_TidyShelf_1 k (x.1, (((x.2.1.1.1, ()), ()), ()))).bind fun p1 =>
(if (decide (p1.1 = (-1 : Int))) = true then
some (x.1, ((), (((p1.2.2.1.1.1, ()), ()), ())))
else
(whileK (fun (rec0 : ((List (Int × Int × Int × Nat × Nat × Int)) × ((Int × Unit) × Unit) × Int × Int × Unit) → Option _) (y0 : (List (Int × Int × Int × Nat × Nat × Int)) × ((Int × Unit) × Unit) × Int × Int × Unit) =>
(if (decide (y0.2.2.2.1 < (List.length y0.1 : Int))) = true then
(if 0 ≤ y0.2.2.2.1 ∧ y0.2.2.2.1 < (List.length y0.1 : Int) then
((i_TidyShelf_1 k (((Ty.rd (t := yT3) y0.1 y0.2.2.2.1).1, ((Ty.rd (t := yT3) y0.1 y0.2.2.2.1).2.1, ((Ty.rd (t := yT3) y0.1 y0.2.2.2.1).2.2.1, ((Ty.rd (t := yT3) y0.1 y0.2.2.2.1).2.2.2.1, ((Ty.rd (t := yT3) y0.1 y0.2.2.2.1).2.2.2.2.1, ((Ty.rd (t := yT3) y0.1 y0.2.2.2.1).2.2.2.2.2, ())))))), ((y0.2.1.1.1, ()), ()))).bind fun p2 =>
(if (!p2.1) = true then
(if 0 ≤ y0.2.2.1 ∧ y0.2.2.1 < (List.length y0.1 : Int) then
(jn (List.set y0.1 (Int.toNat y0.2.2.1) ((Ty.rd (t := yT3) y0.1 y0.2.2.2.1).1, ((Ty.rd (t := yT3) y0.1 y0.2.2.2.1).2.1, ((Ty.rd (t := yT3) y0.1 y0.2.2.2.1).2.2.1, ((Ty.rd (t := yT3) y0.1 y0.2.2.2.1).2.2.2.1, ((Ty.rd (t := yT3) y0.1 y0.2.2.2.1).2.2.2.2.1, (Ty.rd (t := yT3) y0.1 y0.2.2.2.1).2.2.2.2.2)))))) (fun (q19 : List (Int × Int × Int × Nat × Nat × Int)) =>
(rec0 (q19, (((p2.2.2.1.1, ()), ()), ((wi64 (y0.2.2.1 + (1 : Int))), ((wi64 (y0.2.2.2.1 + (1 : Int))), ())))))))
else none)
else
(rec0 (y0.1, (((p2.2.2.1.1, ()), ()), (y0.2.2.1, ((wi64 (y0.2.2.2.1 + (1 : Int))), ())))))))
else none)
else
((fun (z1 : (List (Int × Int × Int × Nat × Nat × Int)) × ((Int × Unit) × Unit) × Int × Unit) =>
(if 0 ≤ z1.2.2.1 ∧ z1.2.2.1 ≤ (List.length z1.1 : Int) then
(if 0 ≤ z1.2.2.1 ∧ z1.2.2.1 ≤ (List.length (List.take (Int.toNat z1.2.2.1) z1.1 ++ (List.replicate (Int.toNat ((List.length z1.1 : Int) - z1.2.2.1)) ((0 : Int), ((0 : Int), ((0 : Int), ((0 : Nat), ((0 : Nat), (0 : Int)))))) ++ List.drop (Int.toNat (List.length z1.1 : Int)) z1.1)) : Int) then
some ((List.drop (Int.toNat (0 : Int)) (List.take (Int.toNat z1.2.2.1) (List.take (Int.toNat z1.2.2.1) z1.1 ++ (List.replicate (Int.toNat ((List.length z1.1 : Int) - z1.2.2.1)) ((0 : Int), ((0 : Int), ((0 : Int), ((0 : Nat), ((0 : Nat), (0 : Int)))))) ++ List.drop (Int.toNat (List.length z1.1 : Int)) z1.1)))), ((), (((z1.2.1.1.1, ()), ()), ())))
else none)
else none)) (y0.1, (((y0.2.1.1.1, ()), ()), (y0.2.2.1, ())))))) k (x.1, (((p1.2.2.1.1.1, ()), ()), (p1.1, ((wi64 (p1.1 + (1 : Int))), ())))))))
theorem t_x_slices_DeleteFunc_impl_Held_impl_Held_of_i_TidyShelf_1_n (k : Nat) (x) : evF TTabN k [⟨70, 0, yP13, .bool, i_TidyShelf_1 k⟩, ⟨115, 71, (.cons (.il true yT3) (.cons (.fn 70 yP10) .nil)), (.int .i64), x_slices_IndexFunc_impl_Held_impl_Held_of_i_TidyShelf_1 k⟩] [(0, ⟨[0, 1, 5, 6], (.cons (.own false 53 yT3) (.cons (.fn 70 yP10) (.cons (.int .i64) yP2)))⟩, ⟨[0, 1, 5], (.cons (.own false 53 yT3) (.cons (.fn 70 yP10) yP2))⟩)] Try.f69 (.cons (.own false 53 yT3) (.cons (.fn 70 yP10) .nil)) (.own false 53 yT3) x = x_slices_DeleteFunc_impl_Held_impl_Held_of_i_TidyShelf_1_n k x := by kernel_rfl
theorem e_x_slices_DeleteFunc_impl_Held_impl_Held_of_i_TidyShelf_1_n [Names] (k : Nat) : EntryOk Try.prog ⟨69, 71, (.cons (.own false 53 yT3) (.cons (.fn 70 yP10) .nil)), (.own false 53 yT3), x_slices_DeleteFunc_impl_Held_impl_Held_of_i_TidyShelf_1_n k⟩ := entry_ok tokN (by intro e he; simp only [List.mem_cons, List.not_mem_nil, or_false] at he; rcases he with rfl | rfl <;> first | exact e_i_TidyShelf_1 k | exact e_x_slices_IndexFunc_impl_Held_impl_Held_of_i_TidyShelf_1 k) (by kernel_rfl) (fn := Try.f69) (k := k) (es := [⟨70, 0, yP13, .bool, i_TidyShelf_1 k⟩, ⟨115, 71, (.cons (.il true yT3) (.cons (.fn 70 yP10) .nil)), (.int .i64), x_slices_IndexFunc_impl_Held_impl_Held_of_i_TidyShelf_1 k⟩]) (loops := [(0, ⟨[0, 1, 5, 6], (.cons (.own false 53 yT3) (.cons (.fn 70 yP10) (.cons (.int .i64) yP2)))⟩, ⟨[0, 1, 5], (.cons (.own false 53 yT3) (.cons (.fn 70 yP10) yP2))⟩)]) (by kernel_rfl) (by kernel_rfl) (fun x r h => (t_x_slices_DeleteFunc_impl_Held_impl_Held_of_i_TidyShelf_1_n k x).trans h)
def x_slices_DeleteFunc_impl_Held_impl_Held_of_i_TidyShelf_1 (k : Nat) (x : (List (Int × Int × Int × List (ByteArray) × List (Bool) × Int)) × ((Int × Unit) × Unit) × Unit) : Option ((List (Int × Int × Int × List (ByteArray) × List (Bool) × Int)) × Unit × ((Int × Unit) × Unit) × Unit) :=
treeF yT0 (x_slices_DeleteFunc_impl_Held_impl_Held_of_i_TidyShelf_1_n k) x
theorem e_x_slices_DeleteFunc_impl_Held_impl_Held_of_i_TidyShelf_1 [Names] (k : Nat) : EntryOk Try.prog ⟨69, 71, (.cons (.own false 53 yT0) (.cons (.fn 70 yP10) .nil)), (.own false 53 yT0), x_slices_DeleteFunc_impl_Held_impl_Held_of_i_TidyShelf_1 k⟩ := names_entry (t := yT0) (by kernel_rfl) (by kernel_rfl) (fun N => @e_x_slices_DeleteFunc_impl_Held_impl_Held_of_i_TidyShelf_1_n N k) inferInstance
def i_TidyShelf (k : Nat) (x : ((List (Int × Int × Int × List (ByteArray) × List (Bool) × Int)) × Unit) × Int × Unit) : Option (((List (Int × Int × Int × List (ByteArray) × List (Bool) × Int)) × Unit) × Unit × Unit × Unit) :=
((i_copyShelf k ((x.1.1, ()), ())).bind fun p1 =>
((x_slices_DeleteFunc_impl_Held_impl_Held_of_i_TidyShelf_1 k (p1.1.1, (((x.2.1, ()), ()), ()))).bind fun p2 =>
some ((p2.1, ()), ((), ((), ())))))
theorem t_i_TidyShelf (k : Nat) (x) : evF TTabO k [⟨59, 0, (.cons (.agg yP8) .nil), (.agg yP7), i_copyShelf k⟩, ⟨69, 71, (.cons (.own false 53 yT0) (.cons (.fn 70 yP10) .nil)), (.own false 53 yT0), x_slices_DeleteFunc_impl_Held_impl_Held_of_i_TidyShelf_1 k⟩] [] Try.f23 (.cons (.agg yP8) yP2) (.agg yP7) x = i_TidyShelf k x := by kernel_rfl
theorem e_i_TidyShelf [Names] (k : Nat) : EntryOk Try.prog ⟨23, 0, (.cons (.agg yP8) yP2), (.agg yP7), i_TidyShelf k⟩ := entry_ok tokO (by intro e he; simp only [List.mem_cons, List.not_mem_nil, or_false] at he; rcases he with rfl | rfl <;> first | exact e_i_copyShelf k | exact e_x_slices_DeleteFunc_impl_Held_impl_Held_of_i_TidyShelf_1 k) (by kernel_rfl) (fn := Try.f23) (k := k) (es := [⟨59, 0, (.cons (.agg yP8) .nil), (.agg yP7), i_copyShelf k⟩, ⟨69, 71, (.cons (.own false 53 yT0) (.cons (.fn 70 yP10) .nil)), (.own false 53 yT0), x_slices_DeleteFunc_impl_Held_impl_Held_of_i_TidyShelf_1 k⟩]) (loops := []) (by kernel_rfl) (by kernel_rfl) (fun x r h => (t_i_TidyShelf k x).trans h)
def s_ReadPart (k : Nat) (x : ByteArray × Unit) : Option ((Int × Int × Int × ByteArray × Bool × Unit) × Unit × Unit) :=
(if (decide ((ByteArray.size x.1 : Int) < (3 : Int))) = false then
(if 0 ≤ (2 : Int) ∧ (2 : Int) < (ByteArray.size x.1 : Int) then
((s_l01In k ((wi64 ((bt x.1 (2 : Int)))), ((1 : Int), ((15 : Int), ())))).bind fun p1 =>
(if (!p1.1) = false then
(if 0 ≤ (1 : Int) ∧ (1 : Int) < (ByteArray.size x.1 : Int) then
(if 0 ≤ (2 : Int) ∧ (2 : Int) < (ByteArray.size x.1 : Int) then
(if (decide ((bt x.1 (2 : Int)) ≤ (bt x.1 (1 : Int)))) = true then
some (((0 : Int), ((0 : Int), ((0 : Int), ((⟨#[]⟩ : ByteArray), (false, ()))))), ((), ()))
else
(if 0 ≤ (0 : Int) ∧ (0 : Int) < (ByteArray.size x.1 : Int) then
(if 0 ≤ (1 : Int) ∧ (1 : Int) < (ByteArray.size x.1 : Int) then
(if 0 ≤ (2 : Int) ∧ (2 : Int) < (ByteArray.size x.1 : Int) then
(if 0 ≤ (3 : Int) ∧ (3 : Int) ≤ (ByteArray.size x.1 : Int) then
some (((wi64 ((bt x.1 (0 : Int)))), ((wi64 ((bt x.1 (1 : Int)))), ((wi64 ((bt x.1 (2 : Int)))), ((ByteArray.extract x.1 (Int.toNat (3 : Int)) (Int.toNat (ByteArray.size x.1 : Int))), (true, ()))))), ((), ()))
else none)
else none)
else none)
else none))
else none)
else none)
else
some (((0 : Int), ((0 : Int), ((0 : Int), ((⟨#[]⟩ : ByteArray), (false, ()))))), ((), ()))))
else none)
else
some (((0 : Int), ((0 : Int), ((0 : Int), ((⟨#[]⟩ : ByteArray), (false, ()))))), ((), ())))
theorem t_s_ReadPart (k : Nat) (x) : evF TTab k [⟨56, 0, yP9, .bool, s_l01In k⟩] [] Try.f75 (.cons .str .nil) yP11 x = s_ReadPart k x := by kernel_rfl
theorem e_s_ReadPart [Names] (k : Nat) : EntryOk Try.prog ⟨75, 0, (.cons .str .nil), yP11, s_ReadPart k⟩ := entry_ok tok (by intro e he; simp only [List.mem_cons, List.not_mem_nil, or_false] at he; rcases he with rfl <;> first | exact e_s_l01In k) (by kernel_rfl) (fn := Try.f75) (k := k) (es := [⟨56, 0, yP9, .bool, s_l01In k⟩]) (loops := []) (by kernel_rfl) (by kernel_rfl) (fun x r h => (t_s_ReadPart k x).trans h)
def s_l20Held (k : Nat) (x : (Int × Int × Int × List (ByteArray) × List (Bool) × Int × Unit) × Unit) : Option (Bool × Unit × Unit) :=
((s_l01In k (x.1.1, ((1 : Int), ((99 : Int), ())))).bind fun p1 =>
(if (!p1.1) = false then
((s_l01In k (x.1.2.1, ((0 : Int), ((255 : Int), ())))).bind fun p2 =>
(if (!p2.1) = false then
((s_l01In k (x.1.2.2.1, ((2 : Int), ((15 : Int), ())))).bind fun p3 =>
(if (!p3.1) = false then
(if (!decide ((List.length x.1.2.2.2.1 : Int) = x.1.2.2.1)) = false then
(if (!decide ((List.length x.1.2.2.2.2.1 : Int) = x.1.2.2.1)) = false then
((s_l01In k (x.1.2.2.2.2.2.1, ((0 : Int), ((1000000000 : Int), ())))).bind fun p4 =>
(if (!p4.1) = true then
some (false, ((), ()))
else
(whileK (fun (rec0 : ((Int × Int × Int × List (ByteArray) × List (Bool) × Int × Unit) × Int × Int × Unit) → Option _) (y0 : (Int × Int × Int × List (ByteArray) × List (Bool) × Int × Unit) × Int × Int × Unit) =>
(if (decide (y0.2.2.1 < y0.1.2.2.1)) = true then
(jn (fun (j1v0 : Int) =>
(if 0 ≤ y0.2.2.1 ∧ y0.2.2.1 < (List.length y0.1.2.2.2.2.1 : Int) then
(if (!(Ty.rd (t := .bool) y0.1.2.2.2.2.1 y0.2.2.1)) = true then
(if 0 ≤ y0.2.2.1 ∧ y0.2.2.1 < (List.length y0.1.2.2.2.1 : Int) then
(if (!decide ((Ty.rd (t := .str) y0.1.2.2.2.1 y0.2.2.1) = (⟨#[]⟩ : ByteArray))) = false then
(if 0 ≤ y0.2.2.1 ∧ y0.2.2.1 < (List.length y0.1.2.2.2.1 : Int) then
(if (decide ((120 : Int) < (ByteArray.size (Ty.rd (t := .str) y0.1.2.2.2.1 y0.2.2.1) : Int))) = true then
some (false, ((), ()))
else
(rec0 ((y0.1.1, (y0.1.2.1, (y0.1.2.2.1, (y0.1.2.2.2.1, (y0.1.2.2.2.2.1, (y0.1.2.2.2.2.2.1, ())))))), (j1v0, ((wi64 (y0.2.2.1 + (1 : Int))), ())))))
else none)
else
some (false, ((), ())))
else none)
else
(if 0 ≤ y0.2.2.1 ∧ y0.2.2.1 < (List.length y0.1.2.2.2.1 : Int) then
(if (decide ((120 : Int) < (ByteArray.size (Ty.rd (t := .str) y0.1.2.2.2.1 y0.2.2.1) : Int))) = true then
some (false, ((), ()))
else
(rec0 ((y0.1.1, (y0.1.2.1, (y0.1.2.2.1, (y0.1.2.2.2.1, (y0.1.2.2.2.2.1, (y0.1.2.2.2.2.2.1, ())))))), (j1v0, ((wi64 (y0.2.2.1 + (1 : Int))), ())))))
else none))
else none)) (fun (j1 : Int → Option _) =>
(if 0 ≤ y0.2.2.1 ∧ y0.2.2.1 < (List.length y0.1.2.2.2.2.1 : Int) then
(if (Ty.rd (t := .bool) y0.1.2.2.2.2.1 y0.2.2.1) = true then
(j1 (wi64 (y0.2.1 + (1 : Int))))
else
(j1 y0.2.1))
else none)))
else
((fun (z1 : (Int × Int × Int × List (ByteArray) × List (Bool) × Int × Unit) × Int × Unit) =>
(if (decide ((1 : Int) ≤ z1.2.1)) = true then
some ((decide (z1.2.1 < z1.1.2.2.1)), ((), ()))
else
some (false, ((), ())))) ((y0.1.1, (y0.1.2.1, (y0.1.2.2.1, (y0.1.2.2.2.1, (y0.1.2.2.2.2.1, (y0.1.2.2.2.2.2.1, ())))))), (y0.2.1, ()))))) k ((x.1.1, (x.1.2.1, (x.1.2.2.1, (x.1.2.2.2.1, (x.1.2.2.2.2.1, (x.1.2.2.2.2.2.1, ())))))), ((0 : Int), ((0 : Int), ()))))))
else
some (false, ((), ())))
else
some (false, ((), ())))
else
some (false, ((), ()))))
else
some (false, ((), ()))))
else
some (false, ((), ()))))
theorem t_s_l20Held (k : Nat) (x) : evF TTab k [⟨56, 0, yP9, .bool, s_l01In k⟩] [(0, ⟨[1, 3, 4], (.cons (.ptr 0 yP4) (.cons (.int .i64) yP2))⟩, ⟨[1, 3], (.cons (.ptr 0 yP4) yP2)⟩)] Try.f127 (.cons (.agg yP4) .nil) .bool x = s_l20Held k x := by kernel_rfl
theorem e_s_l20Held [Names] (k : Nat) : EntryOk Try.prog ⟨127, 0, (.cons (.agg yP4) .nil), .bool, s_l20Held k⟩ := entry_ok tok (by intro e he; simp only [List.mem_cons, List.not_mem_nil, or_false] at he; rcases he with rfl <;> first | exact e_s_l01In k) (by kernel_rfl) (fn := Try.f127) (k := k) (es := [⟨56, 0, yP9, .bool, s_l01In k⟩]) (loops := [(0, ⟨[1, 3, 4], (.cons (.ptr 0 yP4) (.cons (.int .i64) yP2))⟩, ⟨[1, 3], (.cons (.ptr 0 yP4) yP2)⟩)]) (by kernel_rfl) (by kernel_rfl) (fun x r h => (t_s_l20Held k x).trans h)
def s_ShelfOk (k : Nat) (x : ((List (Int × Int × Int × List (ByteArray) × List (Bool) × Int)) × Unit) × Unit) : Option (Bool × Unit × Unit) :=
(whileK (fun (rec0 : (((List (Int × Int × Int × List (ByteArray) × List (Bool) × Int)) × Unit) × Int × Unit) → Option _) (y0 : ((List (Int × Int × Int × List (ByteArray) × List (Bool) × Int)) × Unit) × Int × Unit) =>
(if (decide (y0.2.1 < (List.length y0.1.1 : Int))) = true then
(if 0 ≤ y0.2.1 ∧ y0.2.1 < (List.length y0.1.1 : Int) then
((s_l20Held k (((Ty.rd (t := yT1) y0.1.1 y0.2.1).1, ((Ty.rd (t := yT1) y0.1.1 y0.2.1).2.1, ((Ty.rd (t := yT1) y0.1.1 y0.2.1).2.2.1, ((Ty.rd (t := yT1) y0.1.1 y0.2.1).2.2.2.1, ((Ty.rd (t := yT1) y0.1.1 y0.2.1).2.2.2.2.1, ((Ty.rd (t := yT1) y0.1.1 y0.2.1).2.2.2.2.2, ())))))), ())).bind fun p1 =>
(if (!p1.1) = true then
some (false, ((), ()))
else
(whileK (fun (rec2 : (((List (Int × Int × Int × List (ByteArray) × List (Bool) × Int)) × Unit) × Int × Int × Unit) → Option _) (y2 : ((List (Int × Int × Int × List (ByteArray) × List (Bool) × Int)) × Unit) × Int × Int × Unit) =>
(if (decide (y2.2.2.1 < y2.2.1)) = true then
(if 0 ≤ y2.2.2.1 ∧ y2.2.2.1 < (List.length y2.1.1 : Int) then
(if 0 ≤ y2.2.1 ∧ y2.2.1 < (List.length y2.1.1 : Int) then
(if (decide ((Ty.rd (t := yT1) y2.1.1 y2.2.2.1).1 = (Ty.rd (t := yT1) y2.1.1 y2.2.1).1)) = true then
(if 0 ≤ y2.2.2.1 ∧ y2.2.2.1 < (List.length y2.1.1 : Int) then
(if 0 ≤ y2.2.1 ∧ y2.2.1 < (List.length y2.1.1 : Int) then
(if (decide ((Ty.rd (t := yT1) y2.1.1 y2.2.2.1).2.1 = (Ty.rd (t := yT1) y2.1.1 y2.2.1).2.1)) = true then
some (false, ((), ()))
else
(rec2 ((y2.1.1, ()), (y2.2.1, ((wi64 (y2.2.2.1 + (1 : Int))), ())))))
else none)
else none)
else
(rec2 ((y2.1.1, ()), (y2.2.1, ((wi64 (y2.2.2.1 + (1 : Int))), ())))))
else none)
else none)
else
((fun (z1 : ((List (Int × Int × Int × List (ByteArray) × List (Bool) × Int)) × Unit) × Int × Unit) =>
(rec0 ((z1.1.1, ()), ((wi64 (z1.2.1 + (1 : Int))), ())))) ((y2.1.1, ()), (y2.2.1, ()))))) k ((y0.1.1, ()), (y0.2.1, ((0 : Int), ()))))))
else none)
else
((fun (z2 : ((List (Int × Int × Int × List (ByteArray) × List (Bool) × Int)) × Unit) × Unit) =>
some ((decide ((List.length z2.1.1 : Int) ≤ (3 : Int))), ((), ()))) ((y0.1.1, ()), ())))) k ((x.1.1, ()), ((0 : Int), ())))
theorem t_s_ShelfOk (k : Nat) (x) : evF TTab k [⟨127, 0, (.cons (.agg yP4) .nil), .bool, s_l20Held k⟩] [(0, ⟨[1, 3], (.cons (.ptr 0 yP8) yP2)⟩, ⟨[1], (.cons (.ptr 0 yP8) .nil)⟩), (2, ⟨[1, 3, 4], (.cons (.ptr 0 yP8) (.cons (.int .i64) yP2))⟩, ⟨[1, 3], (.cons (.ptr 0 yP8) yP2)⟩)] Try.f76 (.cons (.agg yP8) .nil) .bool x = s_ShelfOk k x := by kernel_rfl
theorem e_s_ShelfOk [Names] (k : Nat) : EntryOk Try.prog ⟨76, 0, (.cons (.agg yP8) .nil), .bool, s_ShelfOk k⟩ := entry_ok tok (by intro e he; simp only [List.mem_cons, List.not_mem_nil, or_false] at he; rcases he with rfl <;> first | exact e_s_l20Held k) (by kernel_rfl) (fn := Try.f76) (k := k) (es := [⟨127, 0, (.cons (.agg yP4) .nil), .bool, s_l20Held k⟩]) (loops := [(0, ⟨[1, 3], (.cons (.ptr 0 yP8) yP2)⟩, ⟨[1], (.cons (.ptr 0 yP8) .nil)⟩), (2, ⟨[1, 3, 4], (.cons (.ptr 0 yP8) (.cons (.int .i64) yP2))⟩, ⟨[1, 3], (.cons (.ptr 0 yP8) yP2)⟩)]) (by kernel_rfl) (by kernel_rfl) (fun x r h => (t_s_ShelfOk k x).trans h)
def s_l20All (k : Nat) (x : (Int × Int × Int × List (ByteArray) × List (Bool) × Int × Unit) × Unit) : Option (Bool × Unit × Unit) :=
(whileK (fun (rec0 : ((Int × Int × Int × List (ByteArray) × List (Bool) × Int × Unit) × Int × Unit) → Option _) (y0 : (Int × Int × Int × List (ByteArray) × List (Bool) × Int × Unit) × Int × Unit) =>
(if (decide (y0.2.1 < (List.length y0.1.2.2.2.2.1 : Int))) = true then
(if 0 ≤ y0.2.1 ∧ y0.2.1 < (List.length y0.1.2.2.2.2.1 : Int) then
(if (!(Ty.rd (t := .bool) y0.1.2.2.2.2.1 y0.2.1)) = true then
some (false, ((), ()))
else
(rec0 ((y0.1.1, (y0.1.2.1, (y0.1.2.2.1, (y0.1.2.2.2.1, (y0.1.2.2.2.2.1, (y0.1.2.2.2.2.2.1, ())))))), ((wi64 (y0.2.1 + (1 : Int))), ()))))
else none)
else
((fun (z1 : Unit) =>
some (true, ((), ()))) ()))) k ((x.1.1, (x.1.2.1, (x.1.2.2.1, (x.1.2.2.2.1, (x.1.2.2.2.2.1, (x.1.2.2.2.2.2.1, ())))))), ((0 : Int), ())))
theorem t_s_l20All (k : Nat) (x) : evF TTab k [] [(0, ⟨[1, 3], (.cons (.ptr 0 yP4) yP2)⟩, ⟨[], .nil⟩)] Try.f77 (.cons (.agg yP4) .nil) .bool x = s_l20All k x := by kernel_rfl
theorem e_s_l20All [Names] (k : Nat) : EntryOk Try.prog ⟨77, 0, (.cons (.agg yP4) .nil), .bool, s_l20All k⟩ := entry_ok tok (by simp) (by kernel_rfl) (fn := Try.f77) (k := k) (es := []) (loops := [(0, ⟨[1, 3], (.cons (.ptr 0 yP4) yP2)⟩, ⟨[], .nil⟩)]) (by kernel_rfl) (by kernel_rfl) (fun x r h => (t_s_l20All k x).trans h)
def s_l20Copy_t (k : Nat) (x : ((List (Int × Int × Int × List (ByteArray) × List (Bool) × Int)) × Unit) × Unit) : Option (((List (Int × Int × Int × List (ByteArray) × List (Bool) × Int)) × Unit) × Unit × Unit) :=
(whileK (fun (rec0 : (((List (Int × Int × Int × List (ByteArray) × List (Bool) × Int)) × Unit) × ((List (Int × Int × Int × List (ByteArray) × List (Bool) × Int)) × Unit) × ((List (Int × Int × Int × List (ByteArray) × List (Bool) × Int)) × Unit) × Int × Unit) → Option _) (y0 : ((List (Int × Int × Int × List (ByteArray) × List (Bool) × Int)) × Unit) × ((List (Int × Int × Int × List (ByteArray) × List (Bool) × Int)) × Unit) × ((List (Int × Int × Int × List (ByteArray) × List (Bool) × Int)) × Unit) × Int × Unit) =>
(if (decide (y0.2.2.2.1 < (List.length y0.1.1 : Int))) = true then
(if 0 ≤ y0.2.2.2.1 ∧ y0.2.2.2.1 < (List.length y0.1.1 : Int) then
(if List.length ([] : List (ByteArray)) + List.length (Ty.rd (t := yT1) y0.1.1 y0.2.2.2.1).2.2.2.1 ≤ capMax then
(if List.length ([] : List (Bool)) + List.length (Ty.rd (t := yT1) y0.1.1 y0.2.2.2.1).2.2.2.2.1 ≤ capMax then
(if List.length y0.2.2.1.1 + List.length ([((Ty.rd (t := yT1) y0.1.1 y0.2.2.2.1).1, ((Ty.rd (t := yT1) y0.1.1 y0.2.2.2.1).2.1, ((Ty.rd (t := yT1) y0.1.1 y0.2.2.2.1).2.2.1, ((([] : List (ByteArray)) ++ (Ty.rd (t := yT1) y0.1.1 y0.2.2.2.1).2.2.2.1), ((([] : List (Bool)) ++ (Ty.rd (t := yT1) y0.1.1 y0.2.2.2.1).2.2.2.2.1), (Ty.rd (t := yT1) y0.1.1 y0.2.2.2.1).2.2.2.2.2)))))] : List (Int × Int × Int × List (ByteArray) × List (Bool) × Int)) ≤ capMax then
(rec0 ((y0.1.1, ()), ((y0.2.1.1, ()), (((y0.2.2.1.1 ++ ([((Ty.rd (t := yT1) y0.1.1 y0.2.2.2.1).1, ((Ty.rd (t := yT1) y0.1.1 y0.2.2.2.1).2.1, ((Ty.rd (t := yT1) y0.1.1 y0.2.2.2.1).2.2.1, ((([] : List (ByteArray)) ++ (Ty.rd (t := yT1) y0.1.1 y0.2.2.2.1).2.2.2.1), ((([] : List (Bool)) ++ (Ty.rd (t := yT1) y0.1.1 y0.2.2.2.1).2.2.2.2.1), (Ty.rd (t := yT1) y0.1.1 y0.2.2.2.1).2.2.2.2.2)))))] : List (Int × Int × Int × List (ByteArray) × List (Bool) × Int))), ()), ((wi64 (y0.2.2.2.1 + (1 : Int))), ())))))
else none)
else none)
else none)
else none)
else
((fun (z1 : ((List (Int × Int × Int × List (ByteArray) × List (Bool) × Int)) × Unit) × ((List (Int × Int × Int × List (ByteArray) × List (Bool) × Int)) × Unit) × Unit) =>
some ((z1.2.1.1, ()), ((), ()))) ((y0.2.1.1, ()), ((y0.2.2.1.1, ()), ()))))) k ((x.1.1, ()), (([], ()), (([], ()), ((0 : Int), ())))))
theorem t_s_l20Copy_t (k : Nat) (x) : evF TTabO k [] [(0, ⟨[1, 2, 3, 4], (.cons (.ptr 0 yP8) (.cons (.ptr 0 yP7) (.cons (.ptr 0 yP7) yP2)))⟩, ⟨[2, 3], (.cons (.ptr 0 yP7) (.cons (.ptr 0 yP7) .nil))⟩)] Try.f67 (.cons (.agg yP8) .nil) (.agg yP7) x = s_l20Copy_t k x := by kernel_rfl
theorem e_s_l20Copy_t [Names] (k : Nat) : EntryOk Try.prog ⟨67, 0, (.cons (.agg yP8) .nil), (.agg yP7), s_l20Copy_t k⟩ := entry_ok tokO (by simp) (by kernel_rfl) (fn := Try.f67) (k := k) (es := []) (loops := [(0, ⟨[1, 2, 3, 4], (.cons (.ptr 0 yP8) (.cons (.ptr 0 yP7) (.cons (.ptr 0 yP7) yP2)))⟩, ⟨[2, 3], (.cons (.ptr 0 yP7) (.cons (.ptr 0 yP7) .nil))⟩)]) (by kernel_rfl) (by kernel_rfl) (fun x r h => (t_s_l20Copy_t k x).trans h)
def s_AddPart (k : Nat) (x : ((List (Int × Int × Int × List (ByteArray) × List (Bool) × Int)) × Unit) × Int × ByteArray × Int × Unit) : Option ((((List (Int × Int × Int × List (ByteArray) × List (Bool) × Int)) × Unit) × ByteArray × Bool × Unit) × Unit × Unit × Unit × Unit × Unit) :=
((s_ReadPart k (x.2.2.1, ())).bind fun p1 =>
((s_l20Copy_t k ((x.1.1, ()), ())).bind fun p2 =>
((s_ShelfOk k ((x.1.1, ()), ())).bind fun p3 =>
(if (!p3.1) = false then
((s_l01In k (x.2.1, ((1 : Int), ((99 : Int), ())))).bind fun p4 =>
(if (!p4.1) = false then
(if (!p1.1.2.2.2.2.1) = false then
(if (decide ((120 : Int) < (ByteArray.size p1.1.2.2.2.1 : Int))) = false then
((s_l01In k (x.2.2.2.1, ((0 : Int), ((999999992 : Int), ())))).bind fun p5 =>
(if (!p5.1) = true then
some (((p2.1.1, ()), ((⟨#[]⟩ : ByteArray), (false, ()))), ((), ((), ((), ((), ())))))
else
(if (decide (p1.1.2.2.1 = (1 : Int))) = true then
some (((p2.1.1, ()), (p1.1.2.2.2.1, (true, ()))), ((), ((), ((), ((), ())))))
else
(if p1.1.2.2.1 = p1.1.2.2.1 then
(if 0 ≤ p1.1.2.2.1 ∧ p1.1.2.2.1 ≤ (capMax : Int) then
(if p1.1.2.2.1 = p1.1.2.2.1 then
(if 0 ≤ p1.1.2.2.1 ∧ p1.1.2.2.1 ≤ (capMax : Int) then
(whileK (fun (rec0 : (Int × ((List (Int × Int × Int × List (ByteArray) × List (Bool) × Int)) × Unit) × Int × Int × Int × ByteArray × ((List (Int × Int × Int × Option (List (ByteArray)) × Option (List (Bool)) × Int)) × Unit) × (Int × Int × Int × List (ByteArray) × List (Bool) × Int × Unit) × (List (Int × Int × Int × List (ByteArray) × List (Bool) × Int)) × Int × Int × Unit) → Option _) (y0 : Int × ((List (Int × Int × Int × List (ByteArray) × List (Bool) × Int)) × Unit) × Int × Int × Int × ByteArray × ((List (Int × Int × Int × Option (List (ByteArray)) × Option (List (Bool)) × Int)) × Unit) × (Int × Int × Int × List (ByteArray) × List (Bool) × Int × Unit) × (List (Int × Int × Int × List (ByteArray) × List (Bool) × Int)) × Int × Int × Unit) =>
(if (decide (y0.2.2.2.2.2.2.2.2.2.2.1 < (List.length y0.2.2.2.2.2.2.1.1 : Int))) = true then
(jn (fun (j2v0 : List (Int × Int × Int × List (ByteArray) × List (Bool) × Int)) =>
(rec0 (y0.1, ((y0.2.1.1, ()), (y0.2.2.1, (y0.2.2.2.1, (y0.2.2.2.2.1, (y0.2.2.2.2.2.1, (((List.set y0.2.2.2.2.2.2.1.1 (Int.toNat y0.2.2.2.2.2.2.2.2.2.2.1) (Ty.left yT5 (Ty.rd (t := yT5) y0.2.2.2.2.2.2.1.1 y0.2.2.2.2.2.2.2.2.2.2.1))), ()), ((y0.2.2.2.2.2.2.2.1.1, (y0.2.2.2.2.2.2.2.1.2.1, (y0.2.2.2.2.2.2.2.1.2.2.1, (y0.2.2.2.2.2.2.2.1.2.2.2.1, (y0.2.2.2.2.2.2.2.1.2.2.2.2.1, (y0.2.2.2.2.2.2.2.1.2.2.2.2.2.1, ())))))), (j2v0, (y0.2.2.2.2.2.2.2.2.2.1, ((wi64 (y0.2.2.2.2.2.2.2.2.2.2.1 + (1 : Int))), ()))))))))))))) (fun (j2 : (List (Int × Int × Int × List (ByteArray) × List (Bool) × Int)) → Option _) =>
(if 0 ≤ y0.2.2.2.2.2.2.2.2.2.2.1 ∧ y0.2.2.2.2.2.2.2.2.2.2.1 < (List.length y0.2.2.2.2.2.2.1.1 : Int) then
(Option.bind (Ty.rd (t := yT5) y0.2.2.2.2.2.2.1.1 y0.2.2.2.2.2.2.2.2.2.2.1).2.2.2.1 fun (l1 : List (ByteArray)) =>
(Option.bind (Ty.rd (t := yT5) y0.2.2.2.2.2.2.1.1 y0.2.2.2.2.2.2.2.2.2.2.1).2.2.2.2.1 fun (l2 : List (Bool)) =>
(jn (
(if List.length y0.2.2.2.2.2.2.2.2.1 + List.length ([((Ty.rd (t := yT5) y0.2.2.2.2.2.2.1.1 y0.2.2.2.2.2.2.2.2.2.2.1).1, ((Ty.rd (t := yT5) y0.2.2.2.2.2.2.1.1 y0.2.2.2.2.2.2.2.2.2.2.1).2.1, ((Ty.rd (t := yT5) y0.2.2.2.2.2.2.1.1 y0.2.2.2.2.2.2.2.2.2.2.1).2.2.1, (l1, (l2, (Ty.rd (t := yT5) y0.2.2.2.2.2.2.1.1 y0.2.2.2.2.2.2.2.2.2.2.1).2.2.2.2.2)))))] : List (Int × Int × Int × List (ByteArray) × List (Bool) × Int)) ≤ capMax then
(j2 (y0.2.2.2.2.2.2.2.2.1 ++ ([((Ty.rd (t := yT5) y0.2.2.2.2.2.2.1.1 y0.2.2.2.2.2.2.2.2.2.2.1).1, ((Ty.rd (t := yT5) y0.2.2.2.2.2.2.1.1 y0.2.2.2.2.2.2.2.2.2.2.1).2.1, ((Ty.rd (t := yT5) y0.2.2.2.2.2.2.1.1 y0.2.2.2.2.2.2.2.2.2.2.1).2.2.1, (l1, (l2, (Ty.rd (t := yT5) y0.2.2.2.2.2.2.1.1 y0.2.2.2.2.2.2.2.2.2.2.1).2.2.2.2.2)))))] : List (Int × Int × Int × List (ByteArray) × List (Bool) × Int))))
else none)) (fun (j1 : Option _) =>
(if (decide ((Ty.rd (t := yT5) y0.2.2.2.2.2.2.1.1 y0.2.2.2.2.2.2.2.2.2.2.1).1 = y0.1)) = true then
(if (decide ((Ty.rd (t := yT5) y0.2.2.2.2.2.2.1.1 y0.2.2.2.2.2.2.2.2.2.2.1).2.1 = y0.2.2.1)) = true then
(if (decide ((Ty.rd (t := yT5) y0.2.2.2.2.2.2.1.1 y0.2.2.2.2.2.2.2.2.2.2.1).2.2.1 = y0.2.2.2.2.1)) = true then
(rec0 (y0.1, ((y0.2.1.1, ()), (y0.2.2.1, (y0.2.2.2.1, (y0.2.2.2.2.1, (y0.2.2.2.2.2.1, (((List.set y0.2.2.2.2.2.2.1.1 (Int.toNat y0.2.2.2.2.2.2.2.2.2.2.1) (Ty.left yT5 (Ty.rd (t := yT5) y0.2.2.2.2.2.2.1.1 y0.2.2.2.2.2.2.2.2.2.2.1))), ()), (((Ty.rd (t := yT5) y0.2.2.2.2.2.2.1.1 y0.2.2.2.2.2.2.2.2.2.2.1).1, ((Ty.rd (t := yT5) y0.2.2.2.2.2.2.1.1 y0.2.2.2.2.2.2.2.2.2.2.1).2.1, ((Ty.rd (t := yT5) y0.2.2.2.2.2.2.1.1 y0.2.2.2.2.2.2.2.2.2.2.1).2.2.1, (l1, (l2, ((Ty.rd (t := yT5) y0.2.2.2.2.2.2.1.1 y0.2.2.2.2.2.2.2.2.2.2.1).2.2.2.2.2, ())))))), (y0.2.2.2.2.2.2.2.2.1, ((List.length y0.2.2.2.2.2.2.2.2.1 : Int), ((wi64 (y0.2.2.2.2.2.2.2.2.2.2.1 + (1 : Int))), ()))))))))))))
else
(rec0 (y0.1, ((y0.2.1.1, ()), (y0.2.2.1, (y0.2.2.2.1, (y0.2.2.2.2.1, (y0.2.2.2.2.2.1, (((List.set y0.2.2.2.2.2.2.1.1 (Int.toNat y0.2.2.2.2.2.2.2.2.2.2.1) (Ty.left yT5 (Ty.rd (t := yT5) y0.2.2.2.2.2.2.1.1 y0.2.2.2.2.2.2.2.2.2.2.1))), ()), ((y0.2.2.2.2.2.2.2.1.1, (y0.2.2.2.2.2.2.2.1.2.1, (y0.2.2.2.2.2.2.2.1.2.2.1, (y0.2.2.2.2.2.2.2.1.2.2.2.1, (y0.2.2.2.2.2.2.2.1.2.2.2.2.1, (y0.2.2.2.2.2.2.2.1.2.2.2.2.2.1, ())))))), (y0.2.2.2.2.2.2.2.2.1, (y0.2.2.2.2.2.2.2.2.2.1, ((wi64 (y0.2.2.2.2.2.2.2.2.2.2.1 + (1 : Int))), ())))))))))))))
else
j1)
else
j1)))))
else none)))
else
((fun (z1 : ((List (Int × Int × Int × List (ByteArray) × List (Bool) × Int)) × Unit) × Int × Int × ByteArray × (Int × Int × Int × List (ByteArray) × List (Bool) × Int × Unit) × (List (Int × Int × Int × List (ByteArray) × List (Bool) × Int)) × Int × Unit) =>
(jn (fun (j3v0 : List (ByteArray)) (j3v1 : List (Bool)) =>
((s_l20All k ((z1.2.2.2.2.1.1, (z1.2.2.2.2.1.2.1, (z1.2.2.2.2.1.2.2.1, (j3v0, (j3v1, (z1.2.2.2.2.1.2.2.2.2.2.1, ())))))), ())).bind fun p11 =>
(if p11.1 = true then
(whileK (fun (rec2 : (((List (Int × Int × Int × List (ByteArray) × List (Bool) × Int)) × Unit) × Int × (Int × Int × Int × List (ByteArray) × List (Bool) × Int × Unit) × (List (Int × Int × Int × List (ByteArray) × List (Bool) × Int)) × ByteArray × Int × Unit) → Option _) (y2 : ((List (Int × Int × Int × List (ByteArray) × List (Bool) × Int)) × Unit) × Int × (Int × Int × Int × List (ByteArray) × List (Bool) × Int × Unit) × (List (Int × Int × Int × List (ByteArray) × List (Bool) × Int)) × ByteArray × Int × Unit) =>
(if (decide (y2.2.2.2.2.2.1 < y2.2.1)) = true then
(if 0 ≤ y2.2.2.2.2.2.1 ∧ y2.2.2.2.2.2.1 < (List.length y2.2.2.1.2.2.2.1 : Int) then
(if ByteArray.size y2.2.2.2.2.1 + ByteArray.size (Ty.rd (t := .str) y2.2.2.1.2.2.2.1 y2.2.2.2.2.2.1) ≤ maxStr then
(rec2 ((y2.1.1, ()), (y2.2.1, ((y2.2.2.1.1, (y2.2.2.1.2.1, (y2.2.2.1.2.2.1, (y2.2.2.1.2.2.2.1, (y2.2.2.1.2.2.2.2.1, (y2.2.2.1.2.2.2.2.2.1, ())))))), (y2.2.2.2.1, ((y2.2.2.2.2.1 ++ (Ty.rd (t := .str) y2.2.2.1.2.2.2.1 y2.2.2.2.2.2.1)), ((wi64 (y2.2.2.2.2.2.1 + (1 : Int))), ())))))))
else none)
else none)
else
((fun (z3 : ((List (Int × Int × Int × List (ByteArray) × List (Bool) × Int)) × Unit) × (List (Int × Int × Int × List (ByteArray) × List (Bool) × Int)) × ByteArray × Unit) =>
((s_l20Copy_t k ((z3.2.1, ()), ())).bind fun p12 =>
some (((p12.1.1, ()), (z3.2.2.1, (true, ()))), ((), ((), ((), ((), ()))))))) ((y2.1.1, ()), (y2.2.2.2.1, (y2.2.2.2.2.1, ())))))) k ((z1.1.1, ()), (z1.2.2.1, ((z1.2.2.2.2.1.1, (z1.2.2.2.2.1.2.1, (z1.2.2.2.2.1.2.2.1, (j3v0, (j3v1, (z1.2.2.2.2.1.2.2.2.2.2.1, ())))))), (z1.2.2.2.2.2.1, ((⟨#[]⟩ : ByteArray), ((0 : Int), ())))))))
else
(if (decide ((0 : Int) ≤ z1.2.2.2.2.2.2.1)) = true then
(if 0 ≤ z1.2.2.2.2.2.2.1 ∧ z1.2.2.2.2.2.2.1 ≤ (List.length z1.2.2.2.2.2.1 : Int) then
(if List.length ([] : List (Int × Int × Int × List (ByteArray) × List (Bool) × Int)) + List.length (List.drop (Int.toNat (0 : Int)) (List.take (Int.toNat z1.2.2.2.2.2.2.1) z1.2.2.2.2.2.1)) ≤ capMax then
(if List.length (([] : List (Int × Int × Int × List (ByteArray) × List (Bool) × Int)) ++ (List.drop (Int.toNat (0 : Int)) (List.take (Int.toNat z1.2.2.2.2.2.2.1) z1.2.2.2.2.2.1))) + List.length ([(z1.2.2.2.2.1.1, (z1.2.2.2.2.1.2.1, (z1.2.2.2.2.1.2.2.1, (j3v0, (j3v1, z1.2.2.2.2.1.2.2.2.2.2.1)))))] : List (Int × Int × Int × List (ByteArray) × List (Bool) × Int)) ≤ capMax then
(if 0 ≤ z1.2.2.2.2.2.2.1 ∧ z1.2.2.2.2.2.2.1 ≤ (List.length z1.2.2.2.2.2.1 : Int) then
(if List.length ((([] : List (Int × Int × Int × List (ByteArray) × List (Bool) × Int)) ++ (List.drop (Int.toNat (0 : Int)) (List.take (Int.toNat z1.2.2.2.2.2.2.1) z1.2.2.2.2.2.1))) ++ ([(z1.2.2.2.2.1.1, (z1.2.2.2.2.1.2.1, (z1.2.2.2.2.1.2.2.1, (j3v0, (j3v1, z1.2.2.2.2.1.2.2.2.2.2.1)))))] : List (Int × Int × Int × List (ByteArray) × List (Bool) × Int))) + List.length (List.drop (Int.toNat z1.2.2.2.2.2.2.1) (List.take (Int.toNat (List.length z1.2.2.2.2.2.1 : Int)) z1.2.2.2.2.2.1)) ≤ capMax then
((s_l20Copy_t k (((((([] : List (Int × Int × Int × List (ByteArray) × List (Bool) × Int)) ++ (List.drop (Int.toNat (0 : Int)) (List.take (Int.toNat z1.2.2.2.2.2.2.1) z1.2.2.2.2.2.1))) ++ ([(z1.2.2.2.2.1.1, (z1.2.2.2.2.1.2.1, (z1.2.2.2.2.1.2.2.1, (j3v0, (j3v1, z1.2.2.2.2.1.2.2.2.2.2.1)))))] : List (Int × Int × Int × List (ByteArray) × List (Bool) × Int))) ++ (List.drop (Int.toNat z1.2.2.2.2.2.2.1) (List.take (Int.toNat (List.length z1.2.2.2.2.2.1 : Int)) z1.2.2.2.2.2.1))), ()), ())).bind fun p13 =>
some (((p13.1.1, ()), ((⟨#[]⟩ : ByteArray), (false, ()))), ((), ((), ((), ((), ()))))))
else none)
else none)
else none)
else none)
else none)
else
(if (decide ((List.length z1.2.2.2.2.2.1 : Int) = (3 : Int))) = true then
(if 0 ≤ (1 : Int) ∧ (1 : Int) ≤ (List.length z1.2.2.2.2.2.1 : Int) then
(if (List.length z1.2.2.2.2.2.1 : Int) = (List.length z1.2.2.2.2.2.1 : Int) ∧ List.length z1.2.2.2.2.2.1 + List.length ([(z1.2.2.2.2.1.1, (z1.2.2.2.2.1.2.1, (z1.2.2.2.2.1.2.2.1, (j3v0, (j3v1, z1.2.2.2.2.1.2.2.2.2.2.1)))))] : List (Int × Int × Int × List (ByteArray) × List (Bool) × Int)) ≤ capMax then
((s_l20Copy_t k ((((List.drop (Int.toNat (1 : Int)) z1.2.2.2.2.2.1) ++ ([(z1.2.2.2.2.1.1, (z1.2.2.2.2.1.2.1, (z1.2.2.2.2.1.2.2.1, (j3v0, (j3v1, z1.2.2.2.2.1.2.2.2.2.2.1)))))] : List (Int × Int × Int × List (ByteArray) × List (Bool) × Int))), ()), ())).bind fun p14 =>
some (((p14.1.1, ()), ((⟨#[]⟩ : ByteArray), (false, ()))), ((), ((), ((), ((), ()))))))
else none)
else none)
else
(if List.length z1.2.2.2.2.2.1 + List.length ([(z1.2.2.2.2.1.1, (z1.2.2.2.2.1.2.1, (z1.2.2.2.2.1.2.2.1, (j3v0, (j3v1, z1.2.2.2.2.1.2.2.2.2.2.1)))))] : List (Int × Int × Int × List (ByteArray) × List (Bool) × Int)) ≤ capMax then
((s_l20Copy_t k (((z1.2.2.2.2.2.1 ++ ([(z1.2.2.2.2.1.1, (z1.2.2.2.2.1.2.1, (z1.2.2.2.2.1.2.2.1, (j3v0, (j3v1, z1.2.2.2.2.1.2.2.2.2.2.1)))))] : List (Int × Int × Int × List (ByteArray) × List (Bool) × Int))), ()), ())).bind fun p15 =>
some (((p15.1.1, ()), ((⟨#[]⟩ : ByteArray), (false, ()))), ((), ((), ((), ((), ()))))))
else none)))))) (fun (j3 : List (ByteArray) → List (Bool) → Option _) =>
(if 0 ≤ z1.2.1 ∧ z1.2.1 < (List.length z1.2.2.2.2.1.2.2.2.2.1 : Int) then
(if (!(Ty.rd (t := .bool) z1.2.2.2.2.1.2.2.2.2.1 z1.2.1)) = true then
(if 0 ≤ z1.2.1 ∧ z1.2.1 < (List.length z1.2.2.2.2.1.2.2.2.2.1 : Int) then
(if 0 ≤ z1.2.1 ∧ z1.2.1 < (List.length z1.2.2.2.2.1.2.2.2.1 : Int) then
(j3 (List.set z1.2.2.2.2.1.2.2.2.1 (Int.toNat z1.2.1) z1.2.2.2.1) (List.set z1.2.2.2.2.1.2.2.2.2.1 (Int.toNat z1.2.1) true))
else none)
else none)
else
(j3 z1.2.2.2.2.1.2.2.2.1 z1.2.2.2.2.1.2.2.2.2.1))
else none)))) ((y0.2.1.1, ()), (y0.2.2.2.1, (y0.2.2.2.2.1, (y0.2.2.2.2.2.1, ((y0.2.2.2.2.2.2.2.1.1, (y0.2.2.2.2.2.2.2.1.2.1, (y0.2.2.2.2.2.2.2.1.2.2.1, (y0.2.2.2.2.2.2.2.1.2.2.2.1, (y0.2.2.2.2.2.2.2.1.2.2.2.2.1, (y0.2.2.2.2.2.2.2.1.2.2.2.2.2.1, ())))))), (y0.2.2.2.2.2.2.2.2.1, (y0.2.2.2.2.2.2.2.2.2.1, ())))))))))) k (x.2.1, (([], ()), (p1.1.1, (p1.1.2.1, (p1.1.2.2.1, (p1.1.2.2.2.1, (((List.map (Ty.toq yT0) p2.1.1), ()), ((x.2.1, (p1.1.1, (p1.1.2.2.1, ((List.replicate (Int.toNat p1.1.2.2.1) (⟨#[]⟩ : ByteArray)), ((List.replicate (Int.toNat p1.1.2.2.1) false), ((wi64 (x.2.2.2.1 + (8 : Int))), ())))))), (([] : List (Int × Int × Int × List (ByteArray) × List (Bool) × Int)), ((-1 : Int), ((0 : Int), ()))))))))))))
else none)
else none)
else none)
else none))))
else
some (((p2.1.1, ()), ((⟨#[]⟩ : ByteArray), (false, ()))), ((), ((), ((), ((), ()))))))
else
some (((p2.1.1, ()), ((⟨#[]⟩ : ByteArray), (false, ()))), ((), ((), ((), ((), ()))))))
else
some (((p2.1.1, ()), ((⟨#[]⟩ : ByteArray), (false, ()))), ((), ((), ((), ((), ())))))))
else
some (((p2.1.1, ()), ((⟨#[]⟩ : ByteArray), (false, ()))), ((), ((), ((), ((), ())))))))))
theorem t_s_AddPart (k : Nat) (x) : evF TTabQ k [⟨56, 0, yP9, .bool, s_l01In k⟩, ⟨67, 0, (.cons (.agg yP8) .nil), (.agg yP7), s_l20Copy_t k⟩, ⟨75, 0, (.cons .str .nil), yP11, s_ReadPart k⟩, ⟨76, 0, (.cons (.agg yP8) .nil), .bool, s_ShelfOk k⟩, ⟨77, 0, (.cons (.agg yP4) .nil), .bool, s_l20All k⟩] [(0, ⟨[1, 8, 11, 12, 13, 14, 16, 17, 18, 19, 20], (.cons (.int .i64) (.cons (.ptr 0 (.cons (.own false 53 yT1) .nil)) (.cons (.int .i64) (.cons (.int .i64) (.cons (.int .i64) (.cons .str (.cons (.ptr 0 (.cons (.own false 53 yT5) .nil)) (.cons (.ptr 0 yP12) (.cons (.own false 53 yT1) (.cons (.int .i64) yP2))))))))))⟩, ⟨[8, 12, 13, 14, 17, 18, 19], (.cons (.ptr 0 (.cons (.own false 53 yT1) .nil)) (.cons (.int .i64) (.cons (.int .i64) (.cons .str (.cons (.ptr 0 yP12) (.cons (.own false 53 yT1) yP2))))))⟩), (2, ⟨[8, 13, 17, 18, 22, 23], (.cons (.ptr 0 (.cons (.own false 53 yT1) .nil)) (.cons (.int .i64) (.cons (.ptr 0 yP12) (.cons (.own false 53 yT1) (.cons .str yP2)))))⟩, ⟨[8, 18, 22], (.cons (.ptr 0 (.cons (.own false 53 yT1) .nil)) (.cons (.own false 53 yT1) (.cons .str .nil)))⟩)] Try.f28 (.cons (.agg yP8) yP15) yP14 x = s_AddPart k x := by kernel_rfl
theorem e_s_AddPart [Names] (k : Nat) : EntryOk Try.prog ⟨28, 0, (.cons (.agg yP8) yP15), yP14, s_AddPart k⟩ := entry_ok tokQ (by intro e he; simp only [List.mem_cons, List.not_mem_nil, or_false] at he; rcases he with rfl | rfl | rfl | rfl | rfl <;> first | exact e_s_l01In k | exact e_s_l20Copy_t k | exact e_s_ReadPart k | exact e_s_ShelfOk k | exact e_s_l20All k) (by kernel_rfl) (fn := Try.f28) (k := k) (es := [⟨56, 0, yP9, .bool, s_l01In k⟩, ⟨67, 0, (.cons (.agg yP8) .nil), (.agg yP7), s_l20Copy_t k⟩, ⟨75, 0, (.cons .str .nil), yP11, s_ReadPart k⟩, ⟨76, 0, (.cons (.agg yP8) .nil), .bool, s_ShelfOk k⟩, ⟨77, 0, (.cons (.agg yP4) .nil), .bool, s_l20All k⟩]) (loops := [(0, ⟨[1, 8, 11, 12, 13, 14, 16, 17, 18, 19, 20], (.cons (.int .i64) (.cons (.ptr 0 (.cons (.own false 53 yT1) .nil)) (.cons (.int .i64) (.cons (.int .i64) (.cons (.int .i64) (.cons .str (.cons (.ptr 0 (.cons (.own false 53 yT5) .nil)) (.cons (.ptr 0 yP12) (.cons (.own false 53 yT1) (.cons (.int .i64) yP2))))))))))⟩, ⟨[8, 12, 13, 14, 17, 18, 19], (.cons (.ptr 0 (.cons (.own false 53 yT1) .nil)) (.cons (.int .i64) (.cons (.int .i64) (.cons .str (.cons (.ptr 0 yP12) (.cons (.own false 53 yT1) yP2))))))⟩), (2, ⟨[8, 13, 17, 18, 22, 23], (.cons (.ptr 0 (.cons (.own false 53 yT1) .nil)) (.cons (.int .i64) (.cons (.ptr 0 yP12) (.cons (.own false 53 yT1) (.cons .str yP2)))))⟩, ⟨[8, 18, 22], (.cons (.ptr 0 (.cons (.own false 53 yT1) .nil)) (.cons (.own false 53 yT1) (.cons .str .nil)))⟩)]) (by kernel_rfl) (by kernel_rfl) (fun x r h => (t_s_AddPart k x).trans h)
def s_l20Shelf (k : Nat) (x : (List (Int) × Int × Int × Unit) × Unit) : Option (((List (Int × Int × Int × List (ByteArray) × List (Bool) × Int)) × Unit) × (List (Int) × Int × Int × Unit) × Unit) :=
(whileK (fun (rec0 : ((List (Int) × Int × Int × Unit) × ((List (Int × Int × Int × List (ByteArray) × List (Bool) × Int)) × Unit) × ((List (Int × Int × Int × List (ByteArray) × List (Bool) × Int)) × Unit) × Int × Unit) → Option _) (y0 : (List (Int) × Int × Int × Unit) × ((List (Int × Int × Int × List (ByteArray) × List (Bool) × Int)) × Unit) × ((List (Int × Int × Int × List (ByteArray) × List (Bool) × Int)) × Unit) × Int × Unit) =>
((s_l01Below k ((y0.1.1, (y0.1.2.1, (y0.1.2.2.1, ()))), ((9 : Int), ()))).bind fun p1 =>
(if (decide (y0.2.2.2.1 < p1.1)) = true then
((s_l01Below k ((p1.2.1.1, (p1.2.1.2.1, (p1.2.1.2.2.1, ()))), ((3 : Int), ()))).bind fun p2 =>
((s_l20Long k ((p2.2.1.1, (p2.2.1.2.1, (p2.2.1.2.2.1, ()))), ())).bind fun p3 =>
((s_l01Below k ((p3.2.1.1, (p3.2.1.2.1, (p3.2.1.2.2.1, ()))), ((20 : Int), ()))).bind fun p4 =>
((s_Split k (p2.1, (p3.1, ((wi64 ((20 : Int) + p4.1)), ())))).bind fun p5 =>
(if p5.1.2.1 = true then
((s_l01Below k ((p4.2.1.1, (p4.2.1.2.1, (p4.2.1.2.2.1, ()))), ((2 : Int), ()))).bind fun p6 =>
((s_l01Below k ((p6.2.1.1, (p6.2.1.2.1, (p6.2.1.2.2.1, ()))), ((List.length p5.1.1 : Int), ()))).bind fun p7 =>
(if 0 ≤ p7.1 ∧ p7.1 < (List.length p5.1.1 : Int) then
((s_l01Below k ((p7.2.1.1, (p7.2.1.2.1, (p7.2.1.2.2.1, ()))), ((20 : Int), ()))).bind fun p8 =>
((s_AddPart k ((y0.2.2.1.1, ()), ((wi64 ((1 : Int) + p6.1)), ((Ty.rd (t := .str) p5.1.1 p7.1), (p8.1, ()))))).bind fun p9 =>
(rec0 ((p8.2.1.1, (p8.2.1.2.1, (p8.2.1.2.2.1, ()))), ((y0.2.1.1, ()), ((p9.1.1.1, ()), ((wi64 (y0.2.2.2.1 + (1 : Int))), ())))))))
else none)))
else
(rec0 ((p4.2.1.1, (p4.2.1.2.1, (p4.2.1.2.2.1, ()))), ((y0.2.1.1, ()), ((y0.2.2.1.1, ()), ((wi64 (y0.2.2.2.1 + (1 : Int))), ()))))))))))
else
((fun (z1 : (List (Int) × Int × Int × Unit) × ((List (Int × Int × Int × List (ByteArray) × List (Bool) × Int)) × Unit) × ((List (Int × Int × Int × List (ByteArray) × List (Bool) × Int)) × Unit) × Unit) =>
some ((z1.2.2.1.1, ()), ((z1.1.1, (z1.1.2.1, (z1.1.2.2.1, ()))), ()))) ((p1.2.1.1, (p1.2.1.2.1, (p1.2.1.2.2.1, ()))), ((y0.2.1.1, ()), ((y0.2.2.1.1, ()), ()))))))) k ((x.1.1, (x.1.2.1, (x.1.2.2.1, ()))), (([], ()), (([], ()), ((0 : Int), ())))))
theorem t_s_l20Shelf (k : Nat) (x) : evF TTabO k [⟨14, 0, yP15, (.tup (.cons (.own false 9 .str) (.cons .bool .nil))), s_Split k⟩, ⟨28, 0, (.cons (.agg yP8) yP15), yP14, s_AddPart k⟩, ⟨52, 0, (.cons (.ptr 0 yP6) .nil), .str, s_l20Long k⟩, ⟨53, 0, (.cons (.ptr 0 yP6) yP2), (.int .i64), s_l01Below k⟩] [(0, ⟨[0, 2, 3, 4], (.cons (.ptr 0 yP6) (.cons (.ptr 0 yP7) (.cons (.ptr 0 yP7) yP2)))⟩, ⟨[0, 2, 3], (.cons (.ptr 0 yP6) (.cons (.ptr 0 yP7) (.cons (.ptr 0 yP7) .nil)))⟩)] Try.f74 (.cons (.ptr 0 yP6) .nil) (.agg yP7) x = s_l20Shelf k x := by kernel_rfl
theorem e_s_l20Shelf [Names] (k : Nat) : EntryOk Try.prog ⟨74, 0, (.cons (.ptr 0 yP6) .nil), (.agg yP7), s_l20Shelf k⟩ := entry_ok tokO (by intro e he; simp only [List.mem_cons, List.not_mem_nil, or_false] at he; rcases he with rfl | rfl | rfl | rfl <;> first | exact e_s_Split k | exact e_s_AddPart k | exact e_s_l20Long k | exact e_s_l01Below k) (by kernel_rfl) (fn := Try.f74) (k := k) (es := [⟨14, 0, yP15, (.tup (.cons (.own false 9 .str) (.cons .bool .nil))), s_Split k⟩, ⟨28, 0, (.cons (.agg yP8) yP15), yP14, s_AddPart k⟩, ⟨52, 0, (.cons (.ptr 0 yP6) .nil), .str, s_l20Long k⟩, ⟨53, 0, (.cons (.ptr 0 yP6) yP2), (.int .i64), s_l01Below k⟩]) (loops := [(0, ⟨[0, 2, 3, 4], (.cons (.ptr 0 yP6) (.cons (.ptr 0 yP7) (.cons (.ptr 0 yP7) yP2)))⟩, ⟨[0, 2, 3], (.cons (.ptr 0 yP6) (.cons (.ptr 0 yP7) (.cons (.ptr 0 yP7) .nil)))⟩)]) (by kernel_rfl) (by kernel_rfl) (fun x r h => (t_s_l20Shelf k x).trans h)
def s_DrawShelf (k : Nat) (x : List (Int) × Unit) : Option ((((List (Int × Int × Int × List (ByteArray) × List (Bool) × Int)) × Unit) × ByteArray × Int × Unit) × Unit × Unit) :=
((s_l01New k (x.1, ())).bind fun p1 =>
((s_l20Shelf k ((p1.1.1, (p1.1.2.1, (p1.1.2.2.1, ()))), ())).bind fun p2 =>
((s_l01Below k ((p2.2.1.1, (p2.2.1.2.1, (p2.2.1.2.2.1, ()))), ((3 : Int), ()))).bind fun p3 =>
((s_l20Long k ((p3.2.1.1, (p3.2.1.2.1, (p3.2.1.2.2.1, ()))), ())).bind fun p4 =>
((s_l01Below k ((p4.2.1.1, (p4.2.1.2.1, (p4.2.1.2.2.1, ()))), ((20 : Int), ()))).bind fun p5 =>
((s_Split k (p3.1, (p4.1, ((wi64 ((20 : Int) + p5.1)), ())))).bind fun p6 =>
(if (!p6.1.2.1) = true then
some (((p2.1.1, ()), ((⟨#[97, 98, 99]⟩ : ByteArray), ((3 : Int), ()))), ((), ()))
else
((s_l01Below k ((p5.2.1.1, (p5.2.1.2.1, (p5.2.1.2.2.1, ()))), ((List.length p6.1.1 : Int), ()))).bind fun p7 =>
(if 0 ≤ p7.1 ∧ p7.1 < (List.length p6.1.1 : Int) then
((s_l01Below k ((p7.2.1.1, (p7.2.1.2.1, (p7.2.1.2.2.1, ()))), ((30 : Int), ()))).bind fun p8 =>
some (((p2.1.1, ()), ((Ty.rd (t := .str) p6.1.1 p7.1), (p8.1, ()))), ((), ())))
else none)))))))))
theorem t_s_DrawShelf (k : Nat) (x) : evF TTab k [⟨14, 0, yP15, (.tup (.cons (.own false 9 .str) (.cons .bool .nil))), s_Split k⟩, ⟨51, 0, (.cons (.il true (.int .u8)) .nil), (.ptr 0 yP6), s_l01New k⟩, ⟨52, 0, (.cons (.ptr 0 yP6) .nil), .str, s_l20Long k⟩, ⟨53, 0, (.cons (.ptr 0 yP6) yP2), (.int .i64), s_l01Below k⟩, ⟨74, 0, (.cons (.ptr 0 yP6) .nil), (.agg yP7), s_l20Shelf k⟩] [] Try.f27 (.cons (.il true (.int .u8)) .nil) (.tup (.cons (.agg (.cons (.il false yT1) .nil)) (.cons .str yP2))) x = s_DrawShelf k x := by kernel_rfl
theorem e_s_DrawShelf [Names] (k : Nat) : EntryOk Try.prog ⟨27, 0, (.cons (.il true (.int .u8)) .nil), (.tup (.cons (.agg (.cons (.il false yT1) .nil)) (.cons .str yP2))), s_DrawShelf k⟩ := entry_ok tok (by intro e he; simp only [List.mem_cons, List.not_mem_nil, or_false] at he; rcases he with rfl | rfl | rfl | rfl | rfl <;> first | exact e_s_Split k | exact e_s_l01New k | exact e_s_l20Long k | exact e_s_l01Below k | exact e_s_l20Shelf k) (by kernel_rfl) (fn := Try.f27) (k := k) (es := [⟨14, 0, yP15, (.tup (.cons (.own false 9 .str) (.cons .bool .nil))), s_Split k⟩, ⟨51, 0, (.cons (.il true (.int .u8)) .nil), (.ptr 0 yP6), s_l01New k⟩, ⟨52, 0, (.cons (.ptr 0 yP6) .nil), .str, s_l20Long k⟩, ⟨53, 0, (.cons (.ptr 0 yP6) yP2), (.int .i64), s_l01Below k⟩, ⟨74, 0, (.cons (.ptr 0 yP6) .nil), (.agg yP7), s_l20Shelf k⟩]) (loops := []) (by kernel_rfl) (by kernel_rfl) (fun x r h => (t_s_DrawShelf k x).trans h)
def w_FnShelves (k : Nat) (x : List (Int) × Unit) : Option (Bool × Unit × Unit) :=
((w_big k (x.1, ())).bind fun p1 =>
(if p1.1 = true then
some (true, ((), ()))
else
((s_DrawShelf k (x.1, ())).bind fun p2 =>
((i_AddPart k ((p2.1.1.1, ()), ((1 : Int), (p2.1.2.1, (p2.1.2.2.1, ()))))).bind fun p3 =>
((s_AddPart k ((p2.1.1.1, ()), ((1 : Int), (p2.1.2.1, (p2.1.2.2.1, ()))))).bind fun p4 =>
((i_TidyShelf k ((p3.1.1.1, ()), ((wi64 (p2.1.2.2.1 + (3 : Int))), ()))).bind fun p5 =>
(whileK (fun (rec0 : (((List (Int × Int × Int × List (ByteArray) × List (Bool) × Int)) × Unit) × Int × ((List (Int × Int × Int × List (ByteArray) × List (Bool) × Int)) × Unit) × ByteArray × Bool × ByteArray × Bool × ((List (Int × Int × Int × List (ByteArray) × List (Bool) × Int)) × Unit) × Int × Unit) → Option _) (y0 : ((List (Int × Int × Int × List (ByteArray) × List (Bool) × Int)) × Unit) × Int × ((List (Int × Int × Int × List (ByteArray) × List (Bool) × Int)) × Unit) × ByteArray × Bool × ByteArray × Bool × ((List (Int × Int × Int × List (ByteArray) × List (Bool) × Int)) × Unit) × Int × Unit) =>
(if (decide (y0.2.2.2.2.2.2.2.2.1 < (List.length y0.2.2.2.2.2.2.2.1.1 : Int))) = true then
(if 0 ≤ y0.2.2.2.2.2.2.2.2.1 ∧ y0.2.2.2.2.2.2.2.2.1 < (List.length y0.2.2.2.2.2.2.2.1.1 : Int) then
(if (decide ((Ty.rd (t := yT0) y0.2.2.2.2.2.2.2.1.1 y0.2.2.2.2.2.2.2.2.1).2.2.2.2.2 ≤ (wi64 (y0.2.1 + (3 : Int))))) = true then
some (false, ((), ()))
else
(rec0 ((y0.1.1, ()), (y0.2.1, ((y0.2.2.1.1, ()), (y0.2.2.2.1, (y0.2.2.2.2.1, (y0.2.2.2.2.2.1, (y0.2.2.2.2.2.2.1, ((y0.2.2.2.2.2.2.2.1.1, ()), ((wi64 (y0.2.2.2.2.2.2.2.2.1 + (1 : Int))), ())))))))))))
else none)
else
((fun (z1 : ((List (Int × Int × Int × List (ByteArray) × List (Bool) × Int)) × Unit) × Int × ((List (Int × Int × Int × List (ByteArray) × List (Bool) × Int)) × Unit) × ByteArray × Bool × ByteArray × Bool × ((List (Int × Int × Int × List (ByteArray) × List (Bool) × Int)) × Unit) × Unit) =>
(whileK (fun (rec2 : (((List (Int × Int × Int × List (ByteArray) × List (Bool) × Int)) × Unit) × Int × ((List (Int × Int × Int × List (ByteArray) × List (Bool) × Int)) × Unit) × ByteArray × Bool × ByteArray × Bool × ((List (Int × Int × Int × List (ByteArray) × List (Bool) × Int)) × Unit) × Int × Int × Unit) → Option _) (y2 : ((List (Int × Int × Int × List (ByteArray) × List (Bool) × Int)) × Unit) × Int × ((List (Int × Int × Int × List (ByteArray) × List (Bool) × Int)) × Unit) × ByteArray × Bool × ByteArray × Bool × ((List (Int × Int × Int × List (ByteArray) × List (Bool) × Int)) × Unit) × Int × Int × Unit) =>
(if (decide (y2.2.2.2.2.2.2.2.2.2.1 < (List.length y2.2.2.1.1 : Int))) = true then
(if 0 ≤ y2.2.2.2.2.2.2.2.2.2.1 ∧ y2.2.2.2.2.2.2.2.2.2.1 < (List.length y2.2.2.1.1 : Int) then
(if (decide ((wi64 (y2.2.1 + (3 : Int))) < (Ty.rd (t := yT0) y2.2.2.1.1 y2.2.2.2.2.2.2.2.2.2.1).2.2.2.2.2)) = true then
(rec2 ((y2.1.1, ()), (y2.2.1, ((y2.2.2.1.1, ()), (y2.2.2.2.1, (y2.2.2.2.2.1, (y2.2.2.2.2.2.1, (y2.2.2.2.2.2.2.1, ((y2.2.2.2.2.2.2.2.1.1, ()), ((wi64 (y2.2.2.2.2.2.2.2.2.1 + (1 : Int))), ((wi64 (y2.2.2.2.2.2.2.2.2.2.1 + (1 : Int))), ())))))))))))
else
(rec2 ((y2.1.1, ()), (y2.2.1, ((y2.2.2.1.1, ()), (y2.2.2.2.1, (y2.2.2.2.2.1, (y2.2.2.2.2.2.1, (y2.2.2.2.2.2.2.1, ((y2.2.2.2.2.2.2.2.1.1, ()), (y2.2.2.2.2.2.2.2.2.1, ((wi64 (y2.2.2.2.2.2.2.2.2.2.1 + (1 : Int))), ()))))))))))))
else none)
else
((fun (z2 : ((List (Int × Int × Int × List (ByteArray) × List (Bool) × Int)) × Unit) × ((List (Int × Int × Int × List (ByteArray) × List (Bool) × Int)) × Unit) × ByteArray × Bool × ByteArray × Bool × ((List (Int × Int × Int × List (ByteArray) × List (Bool) × Int)) × Unit) × Int × Unit) =>
(if (decide (z2.2.2.2.1 = z2.2.2.2.2.2.1)) = true then
(if (decide (z2.2.2.1 = z2.2.2.2.2.1)) = true then
((i_ShelfOk k ((z2.1.1, ()), ())).bind fun p6 =>
(if p6.1 = true then
((i_ShelfOk k ((z2.2.1.1, ()), ())).bind fun p7 =>
(if p7.1 = true then
((i_ShelfOk k ((z2.2.2.2.2.2.2.1.1, ()), ())).bind fun p8 =>
(if p8.1 = true then
some ((decide ((List.length z2.2.2.2.2.2.2.1.1 : Int) = z2.2.2.2.2.2.2.2.1)), ((), ()))
else
some (false, ((), ()))))
else
some (false, ((), ()))))
else
some (false, ((), ()))))
else
some (false, ((), ())))
else
some (false, ((), ())))) ((y2.1.1, ()), ((y2.2.2.1.1, ()), (y2.2.2.2.1, (y2.2.2.2.2.1, (y2.2.2.2.2.2.1, (y2.2.2.2.2.2.2.1, ((y2.2.2.2.2.2.2.2.1.1, ()), (y2.2.2.2.2.2.2.2.2.1, ()))))))))))) k ((z1.1.1, ()), (z1.2.1, ((z1.2.2.1.1, ()), (z1.2.2.2.1, (z1.2.2.2.2.1, (z1.2.2.2.2.2.1, (z1.2.2.2.2.2.2.1, ((z1.2.2.2.2.2.2.2.1.1, ()), ((0 : Int), ((0 : Int), ())))))))))))) ((y0.1.1, ()), (y0.2.1, ((y0.2.2.1.1, ()), (y0.2.2.2.1, (y0.2.2.2.2.1, (y0.2.2.2.2.2.1, (y0.2.2.2.2.2.2.1, ((y0.2.2.2.2.2.2.2.1.1, ()), ()))))))))))) k ((p2.1.1.1, ()), (p2.1.2.2.1, ((p3.1.1.1, ()), (p3.1.2.1, (p3.1.2.2.1, (p4.1.2.1, (p4.1.2.2.1, ((p5.1.1, ()), ((0 : Int), ()))))))))))))))))
theorem t_w_FnShelves (k : Nat) (x) : evF TTab k [⟨11, 0, (.cons (.il true (.int .u8)) .nil), .bool, w_big k⟩, ⟨18, 0, (.cons (.agg yP8) yP15), yP14, i_AddPart k⟩, ⟨19, 0, (.cons (.agg yP8) .nil), .bool, i_ShelfOk k⟩, ⟨23, 0, (.cons (.agg yP8) yP2), (.agg yP7), i_TidyShelf k⟩, ⟨27, 0, (.cons (.il true (.int .u8)) .nil), (.tup (.cons (.agg (.cons (.il false yT1) .nil)) (.cons .str yP2))), s_DrawShelf k⟩, ⟨28, 0, (.cons (.agg yP8) yP15), yP14, s_AddPart k⟩] [(0, ⟨[3, 5, 6, 7, 8, 10, 11, 12, 13], (.cons (.ptr 0 (.cons (.il false yT1) .nil)) (.cons (.int .i64) (.cons (.ptr 0 yP7) (.cons .str (.cons .bool (.cons .str (.cons .bool (.cons (.ptr 0 yP7) yP2))))))))⟩, ⟨[3, 5, 6, 7, 8, 10, 11, 12], (.cons (.ptr 0 (.cons (.il false yT1) .nil)) (.cons (.int .i64) (.cons (.ptr 0 yP7) (.cons .str (.cons .bool (.cons .str (.cons .bool (.cons (.ptr 0 yP7) .nil))))))))⟩), (2, ⟨[3, 5, 6, 7, 8, 10, 11, 12, 14, 15], (.cons (.ptr 0 (.cons (.il false yT1) .nil)) (.cons (.int .i64) (.cons (.ptr 0 yP7) (.cons .str (.cons .bool (.cons .str (.cons .bool (.cons (.ptr 0 yP7) (.cons (.int .i64) yP2)))))))))⟩, ⟨[3, 6, 7, 8, 10, 11, 12, 14], (.cons (.ptr 0 (.cons (.il false yT1) .nil)) (.cons (.ptr 0 yP7) (.cons .str (.cons .bool (.cons .str (.cons .bool (.cons (.ptr 0 yP7) yP2)))))))⟩)] Try.f5 (.cons (.il true (.int .u8)) .nil) .bool x = w_FnShelves k x := by kernel_rfl
theorem e_w_FnShelves [Names] (k : Nat) : EntryOk Try.prog ⟨5, 0, (.cons (.il true (.int .u8)) .nil), .bool, w_FnShelves k⟩ := entry_ok tok (by intro e he; simp only [List.mem_cons, List.not_mem_nil, or_false] at he; rcases he with rfl | rfl | rfl | rfl | rfl | rfl <;> first | exact e_w_big k | exact e_i_AddPart k | exact e_i_ShelfOk k | exact e_i_TidyShelf k | exact e_s_DrawShelf k | exact e_s_AddPart k) (by kernel_rfl) (fn := Try.f5) (k := k) (es := [⟨11, 0, (.cons (.il true (.int .u8)) .nil), .bool, w_big k⟩, ⟨18, 0, (.cons (.agg yP8) yP15), yP14, i_AddPart k⟩, ⟨19, 0, (.cons (.agg yP8) .nil), .bool, i_ShelfOk k⟩, ⟨23, 0, (.cons (.agg yP8) yP2), (.agg yP7), i_TidyShelf k⟩, ⟨27, 0, (.cons (.il true (.int .u8)) .nil), (.tup (.cons (.agg (.cons (.il false yT1) .nil)) (.cons .str yP2))), s_DrawShelf k⟩, ⟨28, 0, (.cons (.agg yP8) yP15), yP14, s_AddPart k⟩]) (loops := [(0, ⟨[3, 5, 6, 7, 8, 10, 11, 12, 13], (.cons (.ptr 0 (.cons (.il false yT1) .nil)) (.cons (.int .i64) (.cons (.ptr 0 yP7) (.cons .str (.cons .bool (.cons .str (.cons .bool (.cons (.ptr 0 yP7) yP2))))))))⟩, ⟨[3, 5, 6, 7, 8, 10, 11, 12], (.cons (.ptr 0 (.cons (.il false yT1) .nil)) (.cons (.int .i64) (.cons (.ptr 0 yP7) (.cons .str (.cons .bool (.cons .str (.cons .bool (.cons (.ptr 0 yP7) .nil))))))))⟩), (2, ⟨[3, 5, 6, 7, 8, 10, 11, 12, 14, 15], (.cons (.ptr 0 (.cons (.il false yT1) .nil)) (.cons (.int .i64) (.cons (.ptr 0 yP7) (.cons .str (.cons .bool (.cons .str (.cons .bool (.cons (.ptr 0 yP7) (.cons (.int .i64) yP2)))))))))⟩, ⟨[3, 6, 7, 8, 10, 11, 12, 14], (.cons (.ptr 0 (.cons (.il false yT1) .nil)) (.cons (.ptr 0 yP7) (.cons .str (.cons .bool (.cons .str (.cons .bool (.cons (.ptr 0 yP7) yP2)))))))⟩)]) (by kernel_rfl) (by kernel_rfl) (fun x r h => (t_w_FnShelves k x).trans h)
end Go.Proofs.Ytaamcelinnnncaa
