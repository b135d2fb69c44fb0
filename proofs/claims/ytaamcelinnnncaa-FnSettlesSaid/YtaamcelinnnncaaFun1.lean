import Derived.Test.YtaamcelinnnncaaFun0
/- What functions of the program compute, as plain functions, and that their calls do so (part 1). Conditions: the plain function answers. -/
set_option linter.unusedVariables false
namespace Go.Proofs.Ytaamcelinnnncaa
open Go Go.Eng Go.Proofs
/- Names of types and patterns that come often. -/
abbrev yT3 : Ty := (.pair (.int .i64) (.pair .str (.pair (.int .i64) (.int .i64))))
abbrev yT17 : Ty := (.pair (.int .i64) .str)
abbrev yT0 : Ty := (.pair (.int .i64) (.pair (.int .i64) (.pair (.int .i64) (.pair (.ols 9 .str) (.pair (.ols 129 yT3) (.pair (.int .i64) (.pair (.ols 131 yT17) (.pair (.ols 3 (.int .i64)) (.ols 9 .str)))))))))
abbrev yT5 : Ty := (.pair (.int .i64) (.pair (.int .i64) (.pair (.int .i64) (.pair (.int .i64) (.pair (.int .i64) (.pair (.ols 3 (.int .i64)) .str))))))
abbrev yP1 : Pat := (.cons (.own false 68 yT0) (.cons (.int .i64) (.cons (.own false 122 yT5) .nil)))
abbrev yP2 : Pat := (.cons (.int .i64) (.cons (.int .i64) (.cons (.int .i64) (.cons (.own false 9 .str) (.cons (.own false 129 yT3) (.cons (.int .i64) (.cons (.own false 131 yT17) (.cons (.own false 3 (.int .i64)) (.cons (.own false 9 .str) .nil)))))))))
abbrev yT4 : Ty := (.pair (.int .i64) (.pair (.int .i64) (.pair (.int .i64) (.pair (.list .str) (.pair (.list yT3) (.pair (.int .i64) (.pair (.list yT17) (.pair (.list (.int .i64)) (.list .str)))))))))
abbrev yP6 : Pat := (.cons (.int .i64) (.cons (.int .i64) (.cons (.int .i64) (.cons (.il true .str) (.cons (.il true yT3) (.cons (.int .i64) (.cons (.il true yT17) (.cons (.il true (.int .i64)) (.cons (.il true .str) .nil)))))))))
abbrev yP7 : Pat := (.cons (.int .i64) (.cons (.int .i64) (.cons (.int .i64) (.cons (.il false .str) (.cons (.il false yT3) (.cons (.int .i64) (.cons (.il false yT17) (.cons (.il false (.int .i64)) (.cons (.il false .str) .nil)))))))))
abbrev yP14 : Pat := (.cons (.int .i64) .nil)
abbrev yP8 : Pat := (.cons (.int .i64) yP14)
abbrev yT9 : Ty := (.pair (.int .i64) (.pair (.int .i64) (.pair (.int .i64) (.pair (.int .i64) (.pair (.int .i64) (.pair (.list (.int .i64)) .str))))))
abbrev yP10 : Pat := (.cons (.int .i64) (.cons (.int .i64) (.cons (.int .i64) (.cons (.int .i64) (.cons (.int .i64) (.cons (.il false (.int .i64)) (.cons .str .nil)))))))
abbrev yP11 : Pat := (.cons (.int .i64) (.cons (.int .i64) (.cons (.int .i64) (.cons (.int .i64) (.cons (.int .i64) (.cons (.il true (.int .i64)) (.cons .str .nil)))))))
abbrev yT12 : Ty := (.pair (.int .i64) (.pair (.int .i64) (.int .i64)))
abbrev yT13 : Ty := (.pair (.int .i64) (.pair (.int .i64) (.pair (.int .i64) (.pair (.int .i64) (.pair (.int .i64) (.pair .nm .str))))))
abbrev yP15 : Pat := (.agg (.cons (.int .i64) (.cons (.int .i64) (.cons (.int .i64) (.cons (.int .i64) (.cons (.int .i64) (.cons (.own false 3 (.int .i64)) (.cons .str .nil))))))))
abbrev yP16 : Pat := (.cons (.il true (.int .u8)) yP8)

def w_big (k : Nat) (x : List (Int) × Unit) : Option (Bool × Unit × Unit) :=
some ((decide ((1048576 : Int) < (List.length x.1 : Int))), ((), ()))
abbrev E_w_big (k : Nat) : Entry := ⟨11, 0, (.cons (.il true (.int .u8)) .nil), .bool, w_big k⟩
theorem t_w_big (k : Nat) (x) : evF TTab k [] [] Try.f11 (.cons (.il true (.int .u8)) .nil) .bool x = w_big k x := by kernel_rfl
theorem e_w_big [Names] (k : Nat) : EntryOk Try.prog (E_w_big k) := entry_ok tok es_nil (by kernel_rfl) (by kernel_rfl) (by kernel_rfl) fun x r h => (t_w_big k x).trans h
def s_l01New (k : Nat) (x : List (Int) × Unit) : Option ((List (Int) × Int × Int × Unit) × Unit × Unit) :=
(whileK (fun (rec0 : (List (Int) × Int × Int × Unit) → Option _) (y0 : List (Int) × Int × Int × Unit) =>
(if (decide (y0.2.2.1 < (List.length y0.1 : Int))) = true then
(if (decide (y0.2.2.1 < (4000 : Int))) = true then
(if 0 ≤ y0.2.2.1 ∧ y0.2.2.1 < (List.length y0.1 : Int) then
(rec0 (y0.1, ((bitsI .and .i64 (wi64 ((wi64 ((wi64 (y0.2.1 * (131 : Int))) + (wi64 ((Ty.rd (t := (.int .u8)) y0.1 y0.2.2.1))))) + (7 : Int))) (1073741823 : Int)), ((wi64 (y0.2.2.1 + (1 : Int))), ()))))
else none)
else
((fun (z1 : List (Int) × Int × Unit) =>
some ((z1.1, ((0 : Int), (z1.2.1, ()))), ((), ()))) (y0.1, (y0.2.1, ()))))
else
((fun (z1 : List (Int) × Int × Unit) =>
some ((z1.1, ((0 : Int), (z1.2.1, ()))), ((), ()))) (y0.1, (y0.2.1, ()))))) k (x.1, ((wi64 ((36201 : Int) + (List.length x.1 : Int))), ((0 : Int), ()))))
abbrev E_s_l01New (k : Nat) : Entry := ⟨51, 0, (.cons (.il true (.int .u8)) .nil), (.ptr 0 yP16), s_l01New k⟩
theorem t_s_l01New (k : Nat) (x) : evF TTab k [] [(0, ⟨[0, 3, 4], yP16⟩, ⟨[0, 3], (.cons (.il true (.int .u8)) yP14)⟩)] Try.f51 (.cons (.il true (.int .u8)) .nil) (.ptr 0 yP16) x = s_l01New k x := by kernel_rfl
theorem e_s_l01New [Names] (k : Nat) : EntryOk Try.prog (E_s_l01New k) := entry_ok tok es_nil (by kernel_rfl) (by kernel_rfl) (by kernel_rfl) fun x r h => (t_s_l01New k x).trans h
def s_l01Byte (k : Nat) (x : (List (Int) × Int × Int × Unit) × Unit) : Option (Int × (List (Int) × Int × Int × Unit) × Unit) :=
(if (decide (x.1.2.1 < (List.length x.1.1 : Int))) = true then
(if 0 ≤ x.1.2.1 ∧ x.1.2.1 < (List.length x.1.1 : Int) then
some ((bitsI .and .i64 (wi64 ((bitsI .and .i64 (bitsI .xor .i64 (Int.fdiv (wi64 ((wi64 (x.1.2.2.1 * (6364136223846793005 : Int))) + (1442695040888963407 : Int))) (2 ^ (min (Int.toNat (33 : Int)) (IntKind.bits .i64)))) (Int.fdiv (wi64 ((wi64 (x.1.2.2.1 * (6364136223846793005 : Int))) + (1442695040888963407 : Int))) (2 ^ (min (Int.toNat (45 : Int)) (IntKind.bits .i64))))) (255 : Int)) + (wi64 ((Ty.rd (t := (.int .u8)) x.1.1 x.1.2.1))))) (255 : Int)), ((x.1.1, ((wi64 (x.1.2.1 + (1 : Int))), ((wi64 ((wi64 (x.1.2.2.1 * (6364136223846793005 : Int))) + (1442695040888963407 : Int))), ()))), ()))
else none)
else
some ((bitsI .and .i64 (bitsI .xor .i64 (Int.fdiv (wi64 ((wi64 (x.1.2.2.1 * (6364136223846793005 : Int))) + (1442695040888963407 : Int))) (2 ^ (min (Int.toNat (33 : Int)) (IntKind.bits .i64)))) (Int.fdiv (wi64 ((wi64 (x.1.2.2.1 * (6364136223846793005 : Int))) + (1442695040888963407 : Int))) (2 ^ (min (Int.toNat (45 : Int)) (IntKind.bits .i64))))) (255 : Int)), ((x.1.1, (x.1.2.1, ((wi64 ((wi64 (x.1.2.2.1 * (6364136223846793005 : Int))) + (1442695040888963407 : Int))), ()))), ())))
abbrev E_s_l01Byte (k : Nat) : Entry := ⟨58, 0, (.cons (.ptr 0 yP16) .nil), (.int .i64), s_l01Byte k⟩
theorem t_s_l01Byte (k : Nat) (x) : evF TTab k [] [] Try.f58 (.cons (.ptr 0 yP16) .nil) (.int .i64) x = s_l01Byte k x := by kernel_rfl
theorem e_s_l01Byte [Names] (k : Nat) : EntryOk Try.prog (E_s_l01Byte k) := entry_ok tok es_nil (by kernel_rfl) (by kernel_rfl) (by kernel_rfl) fun x r h => (t_s_l01Byte k x).trans h
def s_l01Below (k : Nat) (x : (List (Int) × Int × Int × Unit) × Int × Unit) : Option (Int × (List (Int) × Int × Int × Unit) × Unit × Unit) :=
(if (decide (x.2.1 ≤ (0 : Int))) = true then
some ((0 : Int), ((x.1.1, (x.1.2.1, (x.1.2.2.1, ()))), ((), ())))
else
(if (decide (x.2.1 ≤ (256 : Int))) = true then
((s_l01Byte k ((x.1.1, (x.1.2.1, (x.1.2.2.1, ()))), ())).bind fun p1 =>
(if x.2.1 = 0 then
none
else
some ((Int.tmod p1.1 x.2.1), ((p1.2.1.1, (p1.2.1.2.1, (p1.2.1.2.2.1, ()))), ((), ())))))
else
((s_l01Byte k ((x.1.1, (x.1.2.1, (x.1.2.2.1, ()))), ())).bind fun p2 =>
((s_l01Byte k ((p2.2.1.1, (p2.2.1.2.1, (p2.2.1.2.2.1, ()))), ())).bind fun p3 =>
((s_l01Byte k ((p3.2.1.1, (p3.2.1.2.1, (p3.2.1.2.2.1, ()))), ())).bind fun p4 =>
((s_l01Byte k ((p4.2.1.1, (p4.2.1.2.1, (p4.2.1.2.2.1, ()))), ())).bind fun p5 =>
(if x.2.1 = 0 then
none
else
some ((Int.tmod (wi64 ((wi64 ((wi64 ((wi64 (p2.1 * (16777216 : Int))) + (wi64 (p3.1 * (65536 : Int))))) + (wi64 (p4.1 * (256 : Int))))) + p5.1)) x.2.1), ((p5.2.1.1, (p5.2.1.2.1, (p5.2.1.2.2.1, ()))), ((), ()))))))))))
abbrev E_s_l01Below (k : Nat) : Entry := ⟨53, 0, (.cons (.ptr 0 yP16) yP14), (.int .i64), s_l01Below k⟩
theorem t_s_l01Below (k : Nat) (x) : evF TTab k [E_s_l01Byte k] [] Try.f53 (.cons (.ptr 0 yP16) yP14) (.int .i64) x = s_l01Below k x := by kernel_rfl
theorem e_s_l01Below [Names] (k : Nat) : EntryOk Try.prog (E_s_l01Below k) := entry_ok tok (es_cons (e_s_l01Byte k) es_nil) (by kernel_rfl) (by kernel_rfl) (by kernel_rfl) fun x r h => (t_s_l01Below k x).trans h
def s_l01Text (k : Nat) (x : (List (Int) × Int × Int × Unit) × Int × Unit) : Option (ByteArray × (List (Int) × Int × Int × Unit) × Unit × Unit) :=
(jn (fun (j1v0 : Int) =>
(whileK (fun (rec0 : ((List (Int) × Int × Int × Unit) × Int × List (Int) × Int × Unit) → Option _) (y0 : (List (Int) × Int × Int × Unit) × Int × List (Int) × Int × Unit) =>
(if (decide (y0.2.2.2.1 < y0.2.1)) = true then
((s_l01Byte k ((y0.1.1, (y0.1.2.1, (y0.1.2.2.1, ()))), ())).bind fun p2 =>
(if List.length y0.2.2.1 + List.length ([(wu8 (p2.1))] : List (Int)) ≤ capMax then
(rec0 ((p2.2.1.1, (p2.2.1.2.1, (p2.2.1.2.2.1, ()))), (y0.2.1, ((y0.2.2.1 ++ ([(wu8 (p2.1))] : List (Int))), ((wi64 (y0.2.2.2.1 + (1 : Int))), ())))))
else none))
else
((fun (z2 : (List (Int) × Int × Int × Unit) × List (Int) × Unit) =>
some ((strOf z2.2.1), ((z2.1.1, (z2.1.2.1, (z2.1.2.2.1, ()))), ((), ())))) ((y0.1.1, (y0.1.2.1, (y0.1.2.2.1, ()))), (y0.2.2.1, ()))))) k ((x.1.1, (x.1.2.1, (x.1.2.2.1, ()))), (j1v0, (([] : List (Int)), ((0 : Int), ())))))) (fun (j1 : Int → Option _) =>
(if (decide ((5000 : Int) < x.2.1)) = true then
(j1 (5000 : Int))
else
(j1 x.2.1))))
abbrev E_s_l01Text (k : Nat) : Entry := ⟨111, 0, (.cons (.ptr 0 yP16) yP14), .str, s_l01Text k⟩
theorem t_s_l01Text (k : Nat) (x) : evF TTab k [E_s_l01Byte k] [(0, ⟨[0, 1, 5, 6], (.cons (.ptr 0 yP16) (.cons (.int .i64) (.cons (.own false 5 (.int .u8)) yP14)))⟩, ⟨[0, 5], (.cons (.ptr 0 yP16) (.cons (.own false 5 (.int .u8)) .nil))⟩)] Try.f111 (.cons (.ptr 0 yP16) yP14) .str x = s_l01Text k x := by kernel_rfl
theorem e_s_l01Text [Names] (k : Nat) : EntryOk Try.prog (E_s_l01Text k) := entry_ok tok (es_cons (e_s_l01Byte k) es_nil) (by kernel_rfl) (by kernel_rfl) (by kernel_rfl) fun x r h => (t_s_l01Text k x).trans h
def s_l01PickInt (k : Nat) (x : (List (Int) × Int × Int × Unit) × List (Int) × Unit) : Option (Int × (List (Int) × Int × Int × Unit) × Unit × Unit) :=
((s_l01Below k ((x.1.1, (x.1.2.1, (x.1.2.2.1, ()))), ((List.length x.2.1 : Int), ()))).bind fun p1 =>
(if 0 ≤ p1.1 ∧ p1.1 < (List.length x.2.1 : Int) then
some ((Ty.rd (t := (.int .i64)) x.2.1 p1.1), ((p1.2.1.1, (p1.2.1.2.1, (p1.2.1.2.2.1, ()))), ((), ())))
else none))
abbrev E_s_l01PickInt (k : Nat) : Entry := ⟨113, 0, (.cons (.ptr 0 yP16) (.cons (.il false (.int .i64)) .nil)), (.int .i64), s_l01PickInt k⟩
theorem t_s_l01PickInt (k : Nat) (x) : evF TTab k [E_s_l01Below k] [] Try.f113 (.cons (.ptr 0 yP16) (.cons (.il false (.int .i64)) .nil)) (.int .i64) x = s_l01PickInt k x := by kernel_rfl
theorem e_s_l01PickInt [Names] (k : Nat) : EntryOk Try.prog (E_s_l01PickInt k) := entry_ok tok (es_cons (e_s_l01Below k) es_nil) (by kernel_rfl) (by kernel_rfl) (by kernel_rfl) fun x r h => (t_s_l01PickInt k x).trans h
def i_within (k : Nat) (x : Int × Int × Int × Unit) : Option (Bool × Unit × Unit × Unit × Unit) :=
(if (decide (x.2.1 ≤ x.1)) = true then
some ((decide (x.1 ≤ x.2.2.1)), ((), ((), ((), ()))))
else
some (false, ((), ((), ((), ())))))
abbrev E_i_within (k : Nat) : Entry := ⟨54, 0, (.cons (.int .i64) yP8), .bool, i_within k⟩
theorem t_i_within (k : Nat) (x) : evF TTab k [] [] Try.f54 (.cons (.int .i64) yP8) .bool x = i_within k x := by kernel_rfl
theorem e_i_within [Names] (k : Nat) : EntryOk Try.prog (E_i_within k) := entry_ok tok es_nil (by kernel_rfl) (by kernel_rfl) (by kernel_rfl) fun x r h => (t_i_within k x).trans h
def s_l01In (k : Nat) (x : Int × Int × Int × Unit) : Option (Bool × Unit × Unit × Unit × Unit) :=
(if (decide (x.2.1 ≤ x.1)) = true then
some ((decide (x.1 ≤ x.2.2.1)), ((), ((), ((), ()))))
else
some (false, ((), ((), ((), ())))))
abbrev E_s_l01In (k : Nat) : Entry := ⟨56, 0, (.cons (.int .i64) yP8), .bool, s_l01In k⟩
theorem t_s_l01In (k : Nat) (x) : evF TTab k [] [] Try.f56 (.cons (.int .i64) yP8) .bool x = s_l01In k x := by kernel_rfl
theorem e_s_l01In [Names] (k : Nat) : EntryOk Try.prog (E_s_l01In k) := entry_ok tok es_nil (by kernel_rfl) (by kernel_rfl) (by kernel_rfl) fun x r h => (t_s_l01In k x).trans h
def w_sameTexts (k : Nat) (x : List (ByteArray) × List (ByteArray) × Unit) : Option (Bool × Unit × Unit × Unit) :=
(if (!decide ((List.length x.1 : Int) = (List.length x.2.1 : Int))) = true then
some (false, ((), ((), ())))
else
(whileK (fun (rec0 : (List (ByteArray) × List (ByteArray) × Int × Unit) → Option _) (y0 : List (ByteArray) × List (ByteArray) × Int × Unit) =>
(if (decide (y0.2.2.1 < (List.length y0.1 : Int))) = true then
(if 0 ≤ y0.2.2.1 ∧ y0.2.2.1 < (List.length y0.1 : Int) then
(if 0 ≤ y0.2.2.1 ∧ y0.2.2.1 < (List.length y0.2.1 : Int) then
(if (!decide ((Ty.rd (t := .str) y0.1 y0.2.2.1) = (Ty.rd (t := .str) y0.2.1 y0.2.2.1))) = true then
some (false, ((), ((), ())))
else
(rec0 (y0.1, (y0.2.1, ((wi64 (y0.2.2.1 + (1 : Int))), ())))))
else none)
else none)
else
((fun (z1 : Unit) =>
some (true, ((), ((), ())))) ()))) k (x.1, (x.2.1, ((0 : Int), ())))))
abbrev E_w_sameTexts (k : Nat) : Entry := ⟨15, 0, (.cons (.il true .str) (.cons (.il true .str) .nil)), .bool, w_sameTexts k⟩
theorem t_w_sameTexts (k : Nat) (x) : evF TTab k [] [(0, ⟨[0, 1, 5], (.cons (.il true .str) (.cons (.il true .str) yP14))⟩, ⟨[], .nil⟩)] Try.f15 (.cons (.il true .str) (.cons (.il true .str) .nil)) .bool x = w_sameTexts k x := by kernel_rfl
theorem e_w_sameTexts [Names] (k : Nat) : EntryOk Try.prog (E_w_sameTexts k) := entry_ok tok es_nil (by kernel_rfl) (by kernel_rfl) (by kernel_rfl) fun x r h => (t_w_sameTexts k x).trans h
def i_isId (k : Nat) (x : Int × Unit) : Option (Bool × Unit × Unit) :=
((i_within k (x.1, ((1 : Int), ((99 : Int), ())))).bind fun p1 =>
some (p1.1, ((), ())))
abbrev E_i_isId (k : Nat) : Entry := ⟨60, 0, yP14, .bool, i_isId k⟩
theorem t_i_isId (k : Nat) (x) : evF TTab k [E_i_within k] [] Try.f60 yP14 .bool x = i_isId k x := by kernel_rfl
theorem e_i_isId [Names] (k : Nat) : EntryOk Try.prog (E_i_isId k) := entry_ok tok (es_cons (e_i_within k) es_nil) (by kernel_rfl) (by kernel_rfl) (by kernel_rfl) fun x r h => (t_i_isId k x).trans h
def i_copyTexts (k : Nat) (x : List (ByteArray) × Unit) : Option (List (ByteArray) × Unit × Unit) :=
(if List.length ([] : List (ByteArray)) + List.length x.1 ≤ capMax then
some ((([] : List (ByteArray)) ++ x.1), ((), ()))
else none)
abbrev E_i_copyTexts (k : Nat) : Entry := ⟨114, 0, (.cons (.il true .str) .nil), (.own false 9 .str), i_copyTexts k⟩
theorem t_i_copyTexts (k : Nat) (x) : evF TTab k [] [] Try.f114 (.cons (.il true .str) .nil) (.own false 9 .str) x = i_copyTexts k x := by kernel_rfl
theorem e_i_copyTexts [Names] (k : Nat) : EntryOk Try.prog (E_i_copyTexts k) := entry_ok tok es_nil (by kernel_rfl) (by kernel_rfl) (by kernel_rfl) fun x r h => (t_i_copyTexts k x).trans h
def s_l14Texts (k : Nat) (x : (List (Int) × Int × Int × Unit) × Unit) : Option (List (ByteArray) × (List (Int) × Int × Int × Unit) × Unit) :=
(whileK (fun (rec0 : ((List (Int) × Int × Int × Unit) × List (ByteArray) × Int × Unit) → Option _) (y0 : (List (Int) × Int × Int × Unit) × List (ByteArray) × Int × Unit) =>
((s_l01Below k ((y0.1.1, (y0.1.2.1, (y0.1.2.2.1, ()))), ((9 : Int), ()))).bind fun p1 =>
(if (decide (y0.2.2.1 < p1.1)) = true then
((s_l01Below k ((p1.2.1.1, (p1.2.1.2.1, (p1.2.1.2.2.1, ()))), ((3 : Int), ()))).bind fun p2 =>
((s_l01Text k ((p2.2.1.1, (p2.2.1.2.1, (p2.2.1.2.2.1, ()))), (p2.1, ()))).bind fun p3 =>
(if List.length y0.2.1 + List.length ([p3.1] : List (ByteArray)) ≤ capMax then
(rec0 ((p3.2.1.1, (p3.2.1.2.1, (p3.2.1.2.2.1, ()))), ((y0.2.1 ++ ([p3.1] : List (ByteArray))), ((wi64 (y0.2.2.1 + (1 : Int))), ()))))
else none)))
else
((fun (z1 : (List (Int) × Int × Int × Unit) × List (ByteArray) × Unit) =>
some (z1.2.1, ((z1.1.1, (z1.1.2.1, (z1.1.2.2.1, ()))), ()))) ((p1.2.1.1, (p1.2.1.2.1, (p1.2.1.2.2.1, ()))), (y0.2.1, ())))))) k ((x.1.1, (x.1.2.1, (x.1.2.2.1, ()))), (([] : List (ByteArray)), ((0 : Int), ()))))
abbrev E_s_l14Texts (k : Nat) : Entry := ⟨78, 0, (.cons (.ptr 0 yP16) .nil), (.own false 9 .str), s_l14Texts k⟩
theorem t_s_l14Texts (k : Nat) (x) : evF TTab k [E_s_l01Below k, E_s_l01Text k] [(0, ⟨[0, 3, 4], (.cons (.ptr 0 yP16) (.cons (.own false 9 .str) yP14))⟩, ⟨[0, 3], (.cons (.ptr 0 yP16) (.cons (.own false 9 .str) .nil))⟩)] Try.f78 (.cons (.ptr 0 yP16) .nil) (.own false 9 .str) x = s_l14Texts k x := by kernel_rfl
theorem e_s_l14Texts [Names] (k : Nat) : EntryOk Try.prog (E_s_l14Texts k) := entry_ok tok (es_cons (e_s_l01Below k) (es_cons (e_s_l01Text k) es_nil)) (by kernel_rfl) (by kernel_rfl) (by kernel_rfl) fun x r h => (t_s_l14Texts k x).trans h
def s_l14Turns_v1 (k : Nat) (x : (List (Int) × Int × Int × Unit) × List (Int) × Unit) : Option ((List (Int × Int × Int)) × (List (Int) × Int × Int × Unit) × Unit × Unit) :=
(jn (fun (j1v0 : Int) =>
(whileK (fun (rec0 : ((List (Int) × Int × Int × Unit) × (List (Int × Int × Int)) × Int × Int × Unit) → Option _) (y0 : (List (Int) × Int × Int × Unit) × (List (Int × Int × Int)) × Int × Int × Unit) =>
(if (decide (y0.2.2.2.1 < y0.2.2.1)) = true then
((s_l01PickInt k ((y0.1.1, (y0.1.2.1, (y0.1.2.2.1, ()))), (([(1 : Int), (1 : Int), (1 : Int), (2 : Int), (2 : Int), (2 : Int), (2 : Int), (2 : Int), (3 : Int), (4 : Int)] : List (Int)), ()))).bind fun p4 =>
((s_l01Below k ((p4.2.1.1, (p4.2.1.2.1, (p4.2.1.2.2.1, ()))), ((2 : Int), ()))).bind fun p5 =>
((s_l01PickInt k ((p5.2.1.1, (p5.2.1.2.1, (p5.2.1.2.2.1, ()))), (([(0 : Int), (0 : Int), (1 : Int), (5 : Int), (9 : Int)] : List (Int)), ()))).bind fun p6 =>
(if List.length y0.2.1 + List.length ([(p4.1, (p5.1, p6.1))] : List (Int × Int × Int)) ≤ capMax then
(rec0 ((p6.2.1.1, (p6.2.1.2.1, (p6.2.1.2.2.1, ()))), ((y0.2.1 ++ ([(p4.1, (p5.1, p6.1))] : List (Int × Int × Int))), (y0.2.2.1, ((wi64 (y0.2.2.2.1 + (1 : Int))), ())))))
else none))))
else
((fun (z2 : (List (Int) × Int × Int × Unit) × (List (Int × Int × Int)) × Unit) =>
some (z2.2.1, ((z2.1.1, (z2.1.2.1, (z2.1.2.2.1, ()))), ((), ())))) ((y0.1.1, (y0.1.2.1, (y0.1.2.2.1, ()))), (y0.2.1, ()))))) k ((x.1.1, (x.1.2.1, (x.1.2.2.1, ()))), (([] : List (Int × Int × Int)), (j1v0, ((0 : Int), ())))))) (fun (j1 : Int → Option _) =>
(if (decide ((99 : Int) < (wi64 ((12 : Int) + (wi64 (Int.tdiv (List.length x.2.1 : Int) (4 : Int))))))) = true then
(j1 (99 : Int))
else
(j1 (wi64 ((12 : Int) + (wi64 (Int.tdiv (List.length x.2.1 : Int) (4 : Int)))))))))
abbrev E_s_l14Turns_v1 (k : Nat) : Entry := ⟨79, 0, (.cons (.ptr 0 yP16) (.cons (.il true (.int .u8)) .nil)), (.own false 112 yT12), s_l14Turns_v1 k⟩
theorem t_s_l14Turns_v1 (k : Nat) (x) : evF TTab k [E_s_l01Below k, E_s_l01PickInt k] [(0, ⟨[0, 5, 6, 7], (.cons (.ptr 0 yP16) (.cons (.own false 112 yT12) yP8))⟩, ⟨[0, 5], (.cons (.ptr 0 yP16) (.cons (.own false 112 yT12) .nil))⟩)] Try.f79 (.cons (.ptr 0 yP16) (.cons (.il true (.int .u8)) .nil)) (.own false 112 yT12) x = s_l14Turns_v1 k x := by kernel_rfl
theorem e_s_l14Turns_v1 [Names] (k : Nat) : EntryOk Try.prog (E_s_l14Turns_v1 k) := entry_ok tok (es_cons (e_s_l01Below k) (es_cons (e_s_l01PickInt k) es_nil)) (by kernel_rfl) (by kernel_rfl) (by kernel_rfl) fun x r h => (t_s_l14Turns_v1 k x).trans h
def s_DrawTalks (k : Nat) (x : List (Int) × Unit) : Option ((List (ByteArray) × List (ByteArray) × (List (Int × Int × Int)) × Unit) × Unit × Unit) :=
((s_l01New k (x.1, ())).bind fun p1 =>
((s_l14Texts k ((p1.1.1, (p1.1.2.1, (p1.1.2.2.1, ()))), ())).bind fun p2 =>
((s_l14Texts k ((p2.2.1.1, (p2.2.1.2.1, (p2.2.1.2.2.1, ()))), ())).bind fun p3 =>
((s_l14Turns_v1 k ((p3.2.1.1, (p3.2.1.2.1, (p3.2.1.2.2.1, ()))), (x.1, ()))).bind fun p4 =>
some ((p2.1, (p3.1, (p4.1, ()))), ((), ()))))))
abbrev E_s_DrawTalks (k : Nat) : Entry := ⟨29, 0, (.cons (.il true (.int .u8)) .nil), (.tup (.cons (.own false 9 .str) (.cons (.own false 9 .str) (.cons (.own false 112 yT12) .nil)))), s_DrawTalks k⟩
theorem t_s_DrawTalks (k : Nat) (x) : evF TTab k [E_s_l01New k, E_s_l14Texts k, E_s_l14Turns_v1 k] [] Try.f29 (.cons (.il true (.int .u8)) .nil) (.tup (.cons (.own false 9 .str) (.cons (.own false 9 .str) (.cons (.own false 112 yT12) .nil)))) x = s_DrawTalks k x := by kernel_rfl
theorem e_s_DrawTalks [Names] (k : Nat) : EntryOk Try.prog (E_s_DrawTalks k) := entry_ok tok (es_cons (e_s_l01New k) (es_cons (e_s_l14Texts k) (es_cons (e_s_l14Turns_v1 k) es_nil))) (by kernel_rfl) (by kernel_rfl) (by kernel_rfl) fun x r h => (t_s_DrawTalks k x).trans h
def i_TurnOk (k : Nat) (x : (Int × Int × Int × Unit) × Unit) : Option (Bool × Unit × Unit) :=
((i_within k (x.1.1, ((1 : Int), ((4 : Int), ())))).bind fun p1 =>
(if p1.1 = true then
((i_within k (x.1.2.1, ((0 : Int), ((1 : Int), ())))).bind fun p2 =>
(if p2.1 = true then
some ((decide ((0 : Int) ≤ x.1.2.2.1)), ((), ()))
else
some (false, ((), ()))))
else
some (false, ((), ()))))
abbrev E_i_TurnOk (k : Nat) : Entry := ⟨80, 0, (.cons (.agg (.cons (.int .i64) yP8)) .nil), .bool, i_TurnOk k⟩
theorem t_i_TurnOk (k : Nat) (x) : evF TTab k [E_i_within k] [] Try.f80 (.cons (.agg (.cons (.int .i64) yP8)) .nil) .bool x = i_TurnOk k x := by kernel_rfl
theorem e_i_TurnOk [Names] (k : Nat) : EntryOk Try.prog (E_i_TurnOk k) := entry_ok tok (es_cons (e_i_within k) es_nil) (by kernel_rfl) (by kernel_rfl) (by kernel_rfl) fun x r h => (t_i_TurnOk k x).trans h
def i_ChanNew (k : Nat) (x : Int × Int × Unit) : Option (((Int × Int × Int × List (ByteArray) × (List (Int × ByteArray × Int × Int)) × Int × (List (Int × ByteArray)) × List (Int) × List (ByteArray) × Unit) × Bool × Unit) × Unit × Unit × Unit) :=
((i_isId k (x.1, ())).bind fun p1 =>
(if (!p1.1) = false then
((i_isId k (x.2.1, ())).bind fun p2 =>
(if (!p2.1) = true then
some ((((0 : Int), ((0 : Int), ((0 : Int), ([], ([], ((0 : Int), ([], ([], ([], ()))))))))), (false, ())), ((), ((), ())))
else
some (((x.1, (x.2.1, ((0 : Int), ([], ([], ((0 : Int), ([], ([], ([], ()))))))))), (true, ())), ((), ((), ())))))
else
some ((((0 : Int), ((0 : Int), ((0 : Int), ([], ([], ((0 : Int), ([], ([], ([], ()))))))))), (false, ())), ((), ((), ())))))
abbrev E_i_ChanNew (k : Nat) : Entry := ⟨81, 0, yP8, (.tup (.cons (.agg yP2) (.cons .bool .nil))), i_ChanNew k⟩
theorem t_i_ChanNew (k : Nat) (x) : evF TTab k [E_i_isId k] [] Try.f81 yP8 (.tup (.cons (.agg yP2) (.cons .bool .nil))) x = i_ChanNew k x := by kernel_rfl
theorem e_i_ChanNew [Names] (k : Nat) : EntryOk Try.prog (E_i_ChanNew k) := entry_ok tok (es_cons (e_i_isId k) es_nil) (by kernel_rfl) (by kernel_rfl) (by kernel_rfl) fun x r h => (t_i_ChanNew k x).trans h
def i_textsOk (k : Nat) (x : List (List (ByteArray)) × Unit) : Option (Bool × Unit × Unit) :=
(whileK (fun (rec0 : (List (List (ByteArray)) × Int × Int × Unit) → Option _) (y0 : List (List (ByteArray)) × Int × Int × Unit) =>
(if (decide (y0.2.2.1 < y0.2.1)) = true then
(if 0 ≤ y0.2.2.1 ∧ y0.2.2.1 < (List.length y0.1 : Int) then
(whileK (fun (rec2 : (List (List (ByteArray)) × Int × Int × List (ByteArray) × Int × Int × Unit) → Option _) (y2 : List (List (ByteArray)) × Int × Int × List (ByteArray) × Int × Int × Unit) =>
(if (decide (y2.2.2.2.2.2.1 < y2.2.2.2.2.1)) = true then
(if 0 ≤ y2.2.2.2.2.2.1 ∧ y2.2.2.2.2.2.1 < (List.length y2.2.2.2.1 : Int) then
(if (decide ((120 : Int) < (ByteArray.size (Ty.rd (t := .str) y2.2.2.2.1 y2.2.2.2.2.2.1) : Int))) = true then
some (false, ((), ()))
else
(rec2 (y2.1, (y2.2.1, (y2.2.2.1, (y2.2.2.2.1, (y2.2.2.2.2.1, ((wi64 (y2.2.2.2.2.2.1 + (1 : Int))), ()))))))))
else none)
else
((fun (z1 : List (List (ByteArray)) × Int × Int × Unit) =>
(rec0 (z1.1, (z1.2.1, ((wi64 (z1.2.2.1 + (1 : Int))), ()))))) (y2.1, (y2.2.1, (y2.2.2.1, ())))))) k (y0.1, (y0.2.1, (y0.2.2.1, ((Ty.rd (t := (.list .str)) y0.1 y0.2.2.1), ((List.length (Ty.rd (t := (.list .str)) y0.1 y0.2.2.1) : Int), ((0 : Int), ())))))))
else none)
else
((fun (z2 : Unit) =>
some (true, ((), ()))) ()))) k (x.1, ((List.length x.1 : Int), ((0 : Int), ()))))
abbrev E_i_textsOk (k : Nat) : Entry := ⟨95, 0, (.cons (.il true (.list .str)) .nil), .bool, i_textsOk k⟩
theorem t_i_textsOk (k : Nat) (x) : evF TTab k [] [(0, ⟨[7, 8, 9], (.cons (.il true (.list .str)) yP8)⟩, ⟨[], .nil⟩), (2, ⟨[7, 8, 9, 13, 14, 15], (.cons (.il true (.list .str)) (.cons (.int .i64) (.cons (.int .i64) (.cons (.il true .str) yP8))))⟩, ⟨[7, 8, 9], (.cons (.il true (.list .str)) yP8)⟩)] Try.f95 (.cons (.il true (.list .str)) .nil) .bool x = i_textsOk k x := by kernel_rfl
theorem e_i_textsOk [Names] (k : Nat) : EntryOk Try.prog (E_i_textsOk k) := entry_ok tok es_nil (by kernel_rfl) (by kernel_rfl) (by kernel_rfl) fun x r h => (t_i_textsOk k x).trans h
def i_ChanOk_z (k : Nat) (x : (Int × Int × Int × List (ByteArray) × (List (Int × ByteArray × Int × Int)) × Int × (List (Int × ByteArray)) × List (Int) × List (ByteArray) × Unit) × Unit) : Option (Bool × Unit × Unit) :=
(whileK (fun (rec0 : ((Int × Int × Int × List (ByteArray) × (List (Int × ByteArray × Int × Int)) × Int × (List (Int × ByteArray)) × List (Int) × List (ByteArray) × Unit) × (List (Int × ByteArray × Int × Int)) × Int × Int × Unit) → Option _) (y0 : (Int × Int × Int × List (ByteArray) × (List (Int × ByteArray × Int × Int)) × Int × (List (Int × ByteArray)) × List (Int) × List (ByteArray) × Unit) × (List (Int × ByteArray × Int × Int)) × Int × Int × Unit) =>
(if (decide (y0.2.2.2.1 < y0.2.2.1)) = true then
(if 0 ≤ y0.2.2.2.1 ∧ y0.2.2.2.1 < (List.length y0.2.1 : Int) then
(if (decide ((0 : Int) < y0.2.2.2.1)) = true then
(if 0 ≤ (wi64 (y0.2.2.2.1 - (1 : Int))) ∧ (wi64 (y0.2.2.2.1 - (1 : Int))) < (List.length y0.1.2.2.2.2.1 : Int) then
(if (decide ((Ty.rd (t := yT3) y0.2.1 y0.2.2.2.1).1 ≤ (Ty.rd (t := yT3) y0.1.2.2.2.2.1 (wi64 (y0.2.2.2.1 - (1 : Int)))).1)) = false then
((i_within k ((Ty.rd (t := yT3) y0.2.1 y0.2.2.2.1).1, ((1 : Int), (y0.1.2.2.1, ())))).bind fun p1 =>
(if (!p1.1) = false then
((i_within k ((Ty.rd (t := yT3) y0.2.1 y0.2.2.2.1).2.2.1, ((0 : Int), ((1000000000 : Int), ())))).bind fun p2 =>
(if (!p2.1) = false then
((i_within k ((Ty.rd (t := yT3) y0.2.1 y0.2.2.2.1).2.2.2, ((1 : Int), ((8 : Int), ())))).bind fun p3 =>
(if (!p3.1) = false then
(if (decide ((120 : Int) < (ByteArray.size (Ty.rd (t := yT3) y0.2.1 y0.2.2.2.1).2.1 : Int))) = true then
some (false, ((), ()))
else
(rec0 ((y0.1.1, (y0.1.2.1, (y0.1.2.2.1, (y0.1.2.2.2.1, (y0.1.2.2.2.2.1, (y0.1.2.2.2.2.2.1, (y0.1.2.2.2.2.2.2.1, (y0.1.2.2.2.2.2.2.2.1, (y0.1.2.2.2.2.2.2.2.2.1, ()))))))))), (y0.2.1, (y0.2.2.1, ((wi64 (y0.2.2.2.1 + (1 : Int))), ()))))))
else
some (false, ((), ()))))
else
some (false, ((), ()))))
else
some (false, ((), ()))))
else
some (false, ((), ())))
else none)
else
((i_within k ((Ty.rd (t := yT3) y0.2.1 y0.2.2.2.1).1, ((1 : Int), (y0.1.2.2.1, ())))).bind fun p4 =>
(if (!p4.1) = false then
((i_within k ((Ty.rd (t := yT3) y0.2.1 y0.2.2.2.1).2.2.1, ((0 : Int), ((1000000000 : Int), ())))).bind fun p5 =>
(if (!p5.1) = false then
((i_within k ((Ty.rd (t := yT3) y0.2.1 y0.2.2.2.1).2.2.2, ((1 : Int), ((8 : Int), ())))).bind fun p6 =>
(if (!p6.1) = false then
(if (decide ((120 : Int) < (ByteArray.size (Ty.rd (t := yT3) y0.2.1 y0.2.2.2.1).2.1 : Int))) = true then
some (false, ((), ()))
else
(rec0 ((y0.1.1, (y0.1.2.1, (y0.1.2.2.1, (y0.1.2.2.2.1, (y0.1.2.2.2.2.1, (y0.1.2.2.2.2.2.1, (y0.1.2.2.2.2.2.2.1, (y0.1.2.2.2.2.2.2.2.1, (y0.1.2.2.2.2.2.2.2.2.1, ()))))))))), (y0.2.1, (y0.2.2.1, ((wi64 (y0.2.2.2.1 + (1 : Int))), ()))))))
else
some (false, ((), ()))))
else
some (false, ((), ()))))
else
some (false, ((), ())))))
else none)
else
((fun (z1 : (Int × Int × Int × List (ByteArray) × (List (Int × ByteArray × Int × Int)) × Int × (List (Int × ByteArray)) × List (Int) × List (ByteArray) × Unit) × Unit) =>
(whileK (fun (rec2 : ((Int × Int × Int × List (ByteArray) × (List (Int × ByteArray × Int × Int)) × Int × (List (Int × ByteArray)) × List (Int) × List (ByteArray) × Unit) × (List (Int × ByteArray)) × Int × Int × Unit) → Option _) (y2 : (Int × Int × Int × List (ByteArray) × (List (Int × ByteArray × Int × Int)) × Int × (List (Int × ByteArray)) × List (Int) × List (ByteArray) × Unit) × (List (Int × ByteArray)) × Int × Int × Unit) =>
(if (decide (y2.2.2.2.1 < y2.2.2.1)) = true then
(if 0 ≤ y2.2.2.2.1 ∧ y2.2.2.2.1 < (List.length y2.2.1 : Int) then
(if (decide ((0 : Int) < y2.2.2.2.1)) = true then
(if 0 ≤ (wi64 (y2.2.2.2.1 - (1 : Int))) ∧ (wi64 (y2.2.2.2.1 - (1 : Int))) < (List.length y2.1.2.2.2.2.2.2.1 : Int) then
(if (decide ((Ty.rd (t := yT17) y2.2.1 y2.2.2.2.1).1 ≤ (Ty.rd (t := yT17) y2.1.2.2.2.2.2.2.1 (wi64 (y2.2.2.2.1 - (1 : Int)))).1)) = false then
((i_within k ((Ty.rd (t := yT17) y2.2.1 y2.2.2.2.1).1, ((wi64 (y2.1.2.2.2.2.2.1 + (2 : Int))), ((wi64 (y2.1.2.2.2.2.2.1 + (4 : Int))), ())))).bind fun p7 =>
(if (!p7.1) = false then
(if (decide ((120 : Int) < (ByteArray.size (Ty.rd (t := yT17) y2.2.1 y2.2.2.2.1).2 : Int))) = true then
some (false, ((), ()))
else
(rec2 ((y2.1.1, (y2.1.2.1, (y2.1.2.2.1, (y2.1.2.2.2.1, (y2.1.2.2.2.2.1, (y2.1.2.2.2.2.2.1, (y2.1.2.2.2.2.2.2.1, (y2.1.2.2.2.2.2.2.2.1, (y2.1.2.2.2.2.2.2.2.2.1, ()))))))))), (y2.2.1, (y2.2.2.1, ((wi64 (y2.2.2.2.1 + (1 : Int))), ()))))))
else
some (false, ((), ()))))
else
some (false, ((), ())))
else none)
else
((i_within k ((Ty.rd (t := yT17) y2.2.1 y2.2.2.2.1).1, ((wi64 (y2.1.2.2.2.2.2.1 + (2 : Int))), ((wi64 (y2.1.2.2.2.2.2.1 + (4 : Int))), ())))).bind fun p8 =>
(if (!p8.1) = false then
(if (decide ((120 : Int) < (ByteArray.size (Ty.rd (t := yT17) y2.2.1 y2.2.2.2.1).2 : Int))) = true then
some (false, ((), ()))
else
(rec2 ((y2.1.1, (y2.1.2.1, (y2.1.2.2.1, (y2.1.2.2.2.1, (y2.1.2.2.2.2.1, (y2.1.2.2.2.2.2.1, (y2.1.2.2.2.2.2.2.1, (y2.1.2.2.2.2.2.2.2.1, (y2.1.2.2.2.2.2.2.2.2.1, ()))))))))), (y2.2.1, (y2.2.2.1, ((wi64 (y2.2.2.2.1 + (1 : Int))), ()))))))
else
some (false, ((), ())))))
else none)
else
((fun (z2 : (Int × Int × Int × List (ByteArray) × (List (Int × ByteArray × Int × Int)) × Int × (List (Int × ByteArray)) × List (Int) × List (ByteArray) × Unit) × Unit) =>
(whileK (fun (rec4 : ((Int × Int × Int × List (ByteArray) × (List (Int × ByteArray × Int × Int)) × Int × (List (Int × ByteArray)) × List (Int) × List (ByteArray) × Unit) × List (Int) × Int × Int × Unit) → Option _) (y4 : (Int × Int × Int × List (ByteArray) × (List (Int × ByteArray × Int × Int)) × Int × (List (Int × ByteArray)) × List (Int) × List (ByteArray) × Unit) × List (Int) × Int × Int × Unit) =>
(if (decide (y4.2.2.2.1 < y4.2.2.1)) = true then
(if 0 ≤ y4.2.2.2.1 ∧ y4.2.2.2.1 < (List.length y4.2.1 : Int) then
((i_within k ((Ty.rd (t := (.int .i64)) y4.2.1 y4.2.2.2.1), ((1 : Int), ((wi64 (y4.1.2.2.2.2.2.1 + (4 : Int))), ())))).bind fun p9 =>
(if (!p9.1) = true then
some (false, ((), ()))
else
(rec4 ((y4.1.1, (y4.1.2.1, (y4.1.2.2.1, (y4.1.2.2.2.1, (y4.1.2.2.2.2.1, (y4.1.2.2.2.2.2.1, (y4.1.2.2.2.2.2.2.1, (y4.1.2.2.2.2.2.2.2.1, (y4.1.2.2.2.2.2.2.2.2.1, ()))))))))), (y4.2.1, (y4.2.2.1, ((wi64 (y4.2.2.2.1 + (1 : Int))), ())))))))
else none)
else
((fun (z3 : (Int × Int × Int × List (ByteArray) × (List (Int × ByteArray × Int × Int)) × Int × (List (Int × ByteArray)) × List (Int) × List (ByteArray) × Unit) × Unit) =>
((i_isId k (z3.1.1, ())).bind fun p10 =>
(if p10.1 = true then
((i_isId k (z3.1.2.1, ())).bind fun p11 =>
(if p11.1 = true then
((i_within k (z3.1.2.2.1, ((0 : Int), ((1000 : Int), ())))).bind fun p12 =>
(if p12.1 = true then
((i_within k (z3.1.2.2.2.2.2.1, ((0 : Int), ((1000 : Int), ())))).bind fun p13 =>
(if p13.1 = true then
(if (decide ((List.length z3.1.2.2.2.2.2.2.2.2.1 : Int) = z3.1.2.2.2.2.2.1)) = true then
(if (decide ((List.length z3.1.2.2.2.1 : Int) ≤ (30 : Int))) = true then
((i_textsOk k (([z3.1.2.2.2.1, z3.1.2.2.2.2.2.2.2.2.1] : List (List (ByteArray))), ())).bind fun p14 =>
(if p14.1 = true then
(if (decide ((List.length z3.1.2.2.2.2.1 : Int) ≤ (4 : Int))) = true then
some ((decide ((List.length z3.1.2.2.2.2.2.2.2.1 : Int) ≤ (4 : Int))), ((), ()))
else
some (false, ((), ())))
else
some (false, ((), ()))))
else
some (false, ((), ())))
else
some (false, ((), ())))
else
some (false, ((), ()))))
else
some (false, ((), ()))))
else
some (false, ((), ()))))
else
some (false, ((), ()))))) ((y4.1.1, (y4.1.2.1, (y4.1.2.2.1, (y4.1.2.2.2.1, (y4.1.2.2.2.2.1, (y4.1.2.2.2.2.2.1, (y4.1.2.2.2.2.2.2.1, (y4.1.2.2.2.2.2.2.2.1, (y4.1.2.2.2.2.2.2.2.2.1, ()))))))))), ())))) k ((z2.1.1, (z2.1.2.1, (z2.1.2.2.1, (z2.1.2.2.2.1, (z2.1.2.2.2.2.1, (z2.1.2.2.2.2.2.1, (z2.1.2.2.2.2.2.2.1, (z2.1.2.2.2.2.2.2.2.1, (z2.1.2.2.2.2.2.2.2.2.1, ()))))))))), (z2.1.2.2.2.2.2.2.2.1, ((List.length z2.1.2.2.2.2.2.2.2.1 : Int), ((0 : Int), ())))))) ((y2.1.1, (y2.1.2.1, (y2.1.2.2.1, (y2.1.2.2.2.1, (y2.1.2.2.2.2.1, (y2.1.2.2.2.2.2.1, (y2.1.2.2.2.2.2.2.1, (y2.1.2.2.2.2.2.2.2.1, (y2.1.2.2.2.2.2.2.2.2.1, ()))))))))), ())))) k ((z1.1.1, (z1.1.2.1, (z1.1.2.2.1, (z1.1.2.2.2.1, (z1.1.2.2.2.2.1, (z1.1.2.2.2.2.2.1, (z1.1.2.2.2.2.2.2.1, (z1.1.2.2.2.2.2.2.2.1, (z1.1.2.2.2.2.2.2.2.2.1, ()))))))))), (z1.1.2.2.2.2.2.2.1, ((List.length z1.1.2.2.2.2.2.2.1 : Int), ((0 : Int), ())))))) ((y0.1.1, (y0.1.2.1, (y0.1.2.2.1, (y0.1.2.2.2.1, (y0.1.2.2.2.2.1, (y0.1.2.2.2.2.2.1, (y0.1.2.2.2.2.2.2.1, (y0.1.2.2.2.2.2.2.2.1, (y0.1.2.2.2.2.2.2.2.2.1, ()))))))))), ())))) k ((x.1.1, (x.1.2.1, (x.1.2.2.1, (x.1.2.2.2.1, (x.1.2.2.2.2.1, (x.1.2.2.2.2.2.1, (x.1.2.2.2.2.2.2.1, (x.1.2.2.2.2.2.2.2.1, (x.1.2.2.2.2.2.2.2.2.1, ()))))))))), (x.1.2.2.2.2.1, ((List.length x.1.2.2.2.2.1 : Int), ((0 : Int), ())))))
abbrev E_i_ChanOk_z (k : Nat) : Entry := ⟨36, 0, (.cons (.agg yP7) .nil), .bool, i_ChanOk_z k⟩
theorem t_i_ChanOk_z (k : Nat) (x) : evF TTab k [E_i_within k, E_i_isId k, E_i_textsOk k] [(0, ⟨[1, 11, 12, 13], (.cons (.ptr 0 yP7) (.cons (.il false yT3) yP8))⟩, ⟨[1], (.cons (.ptr 0 yP7) .nil)⟩), (2, ⟨[1, 60, 61, 62], (.cons (.ptr 0 yP7) (.cons (.il false yT17) yP8))⟩, ⟨[1], (.cons (.ptr 0 yP7) .nil)⟩), (4, ⟨[1, 101, 102, 103], (.cons (.ptr 0 yP7) (.cons (.il false (.int .i64)) yP8))⟩, ⟨[1], (.cons (.ptr 0 yP7) .nil)⟩)] Try.f36 (.cons (.agg yP7) .nil) .bool x = i_ChanOk_z k x := by kernel_rfl
theorem e_i_ChanOk_z [Names] (k : Nat) : EntryOk Try.prog (E_i_ChanOk_z k) := entry_ok tok (es_cons (e_i_within k) (es_cons (e_i_isId k) (es_cons (e_i_textsOk k) es_nil))) (by kernel_rfl) (by kernel_rfl) (by kernel_rfl) fun x r h => (t_i_ChanOk_z k x).trans h
def i_ChanOk (k : Nat) (x : (Int × Int × Int × List (ByteArray) × (List (Int × ByteArray × Int × Int)) × Int × (List (Int × ByteArray)) × List (Int) × List (ByteArray) × Unit) × Unit) : Option (Bool × Unit × Unit) := i_ChanOk_z k x
abbrev E_i_ChanOk (k : Nat) : Entry := ⟨36, 0, (.cons (.agg yP6) .nil), .bool, i_ChanOk k⟩
theorem e_i_ChanOk [Names] (k : Nat) : EntryOk Try.prog (E_i_ChanOk k) := frz_entry (p := (.cons (.agg yP6) .nil)) (by kernel_rfl) (fun x r h => ⟨r.2, h, rfl⟩) (e_i_ChanOk_z k)
def i_copyInts (k : Nat) (x : List (Int) × Unit) : Option (List (Int) × Unit × Unit) :=
(if List.length ([] : List (Int)) + List.length x.1 ≤ capMax then
some ((([] : List (Int)) ++ x.1), ((), ()))
else none)
abbrev E_i_copyInts (k : Nat) : Entry := ⟨155, 0, (.cons (.il true (.int .i64)) .nil), (.own false 3 (.int .i64)), i_copyInts k⟩
theorem t_i_copyInts (k : Nat) (x) : evF TTab k [] [] Try.f155 (.cons (.il true (.int .i64)) .nil) (.own false 3 (.int .i64)) x = i_copyInts k x := by kernel_rfl
theorem e_i_copyInts [Names] (k : Nat) : EntryOk Try.prog (E_i_copyInts k) := entry_ok tok es_nil (by kernel_rfl) (by kernel_rfl) (by kernel_rfl) fun x r h => (t_i_copyInts k x).trans h
def i_copyChan (k : Nat) (x : (Int × Int × Int × List (ByteArray) × (List (Int × ByteArray × Int × Int)) × Int × (List (Int × ByteArray)) × List (Int) × List (ByteArray) × Unit) × Unit) : Option ((Int × Int × Int × List (ByteArray) × (List (Int × ByteArray × Int × Int)) × Int × (List (Int × ByteArray)) × List (Int) × List (ByteArray) × Unit) × Unit × Unit) :=
((i_copyTexts k (x.1.2.2.2.1, ())).bind fun p1 =>
((i_copyTexts k (x.1.2.2.2.2.2.2.2.2.1, ())).bind fun p2 =>
((i_copyInts k (x.1.2.2.2.2.2.2.2.1, ())).bind fun p3 =>
(if List.length ([] : List (Int × ByteArray × Int × Int)) + List.length x.1.2.2.2.2.1 ≤ capMax then
(if List.length ([] : List (Int × ByteArray)) + List.length x.1.2.2.2.2.2.2.1 ≤ capMax then
some ((x.1.1, (x.1.2.1, (x.1.2.2.1, (p1.1, ((([] : List (Int × ByteArray × Int × Int)) ++ x.1.2.2.2.2.1), (x.1.2.2.2.2.2.1, ((([] : List (Int × ByteArray)) ++ x.1.2.2.2.2.2.2.1), (p3.1, (p2.1, ()))))))))), ((), ()))
else none)
else none))))
abbrev E_i_copyChan (k : Nat) : Entry := ⟨128, 0, (.cons (.agg yP6) .nil), (.agg yP2), i_copyChan k⟩
theorem t_i_copyChan (k : Nat) (x) : evF TTab k [E_i_copyTexts k, E_i_copyInts k] [] Try.f128 (.cons (.agg yP6) .nil) (.agg yP2) x = i_copyChan k x := by kernel_rfl
theorem e_i_copyChan [Names] (k : Nat) : EntryOk Try.prog (E_i_copyChan k) := entry_ok tok (es_cons (e_i_copyTexts k) (es_cons (e_i_copyInts k) es_nil)) (by kernel_rfl) (by kernel_rfl) (by kernel_rfl) fun x r h => (t_i_copyChan k x).trans h
def i_Push (k : Nat) (x : (Int × Int × Int × List (ByteArray) × (List (Int × ByteArray × Int × Int)) × Int × (List (Int × ByteArray)) × List (Int) × List (ByteArray) × Unit) × ByteArray × Unit) : Option (((Int × Int × Int × List (ByteArray) × (List (Int × ByteArray × Int × Int)) × Int × (List (Int × ByteArray)) × List (Int) × List (ByteArray) × Unit) × Bool × Unit) × Unit × Unit × Unit) :=
((i_copyChan k ((x.1.1, (x.1.2.1, (x.1.2.2.1, (x.1.2.2.2.1, (x.1.2.2.2.2.1, (x.1.2.2.2.2.2.1, (x.1.2.2.2.2.2.2.1, (x.1.2.2.2.2.2.2.2.1, (x.1.2.2.2.2.2.2.2.2.1, ()))))))))), ())).bind fun p1 =>
((i_ChanOk k ((x.1.1, (x.1.2.1, (x.1.2.2.1, (x.1.2.2.2.1, (x.1.2.2.2.2.1, (x.1.2.2.2.2.2.1, (x.1.2.2.2.2.2.2.1, (x.1.2.2.2.2.2.2.2.1, (x.1.2.2.2.2.2.2.2.2.1, ()))))))))), ())).bind fun p2 =>
(if (!p2.1) = false then
(if (decide ((120 : Int) < (ByteArray.size x.2.1 : Int))) = false then
(if (decide ((List.length x.1.2.2.2.1 : Int) = (30 : Int))) = false then
(if (decide ((1000 : Int) ≤ (wi64 (x.1.2.2.1 + (List.length x.1.2.2.2.1 : Int))))) = true then
some (((p1.1.1, (p1.1.2.1, (p1.1.2.2.1, (p1.1.2.2.2.1, (p1.1.2.2.2.2.1, (p1.1.2.2.2.2.2.1, (p1.1.2.2.2.2.2.2.1, (p1.1.2.2.2.2.2.2.2.1, (p1.1.2.2.2.2.2.2.2.2.1, ()))))))))), (false, ())), ((), ((), ())))
else
(if List.length p1.1.2.2.2.1 + List.length ([x.2.1] : List (ByteArray)) ≤ capMax then
some (((p1.1.1, (p1.1.2.1, (p1.1.2.2.1, ((p1.1.2.2.2.1 ++ ([x.2.1] : List (ByteArray))), (p1.1.2.2.2.2.1, (p1.1.2.2.2.2.2.1, (p1.1.2.2.2.2.2.2.1, (p1.1.2.2.2.2.2.2.2.1, (p1.1.2.2.2.2.2.2.2.2.1, ()))))))))), (true, ())), ((), ((), ())))
else none))
else
some (((p1.1.1, (p1.1.2.1, (p1.1.2.2.1, (p1.1.2.2.2.1, (p1.1.2.2.2.2.1, (p1.1.2.2.2.2.2.1, (p1.1.2.2.2.2.2.2.1, (p1.1.2.2.2.2.2.2.2.1, (p1.1.2.2.2.2.2.2.2.2.1, ()))))))))), (false, ())), ((), ((), ()))))
else
some (((p1.1.1, (p1.1.2.1, (p1.1.2.2.1, (p1.1.2.2.2.1, (p1.1.2.2.2.2.1, (p1.1.2.2.2.2.2.1, (p1.1.2.2.2.2.2.2.1, (p1.1.2.2.2.2.2.2.2.1, (p1.1.2.2.2.2.2.2.2.2.1, ()))))))))), (false, ())), ((), ((), ()))))
else
some (((p1.1.1, (p1.1.2.1, (p1.1.2.2.1, (p1.1.2.2.2.1, (p1.1.2.2.2.2.1, (p1.1.2.2.2.2.2.1, (p1.1.2.2.2.2.2.2.1, (p1.1.2.2.2.2.2.2.2.1, (p1.1.2.2.2.2.2.2.2.2.1, ()))))))))), (false, ())), ((), ((), ()))))))
abbrev E_i_Push (k : Nat) : Entry := ⟨82, 0, (.cons (.agg yP6) (.cons .str .nil)), (.tup (.cons (.agg yP2) (.cons .bool .nil))), i_Push k⟩
theorem t_i_Push (k : Nat) (x) : evF TTab k [E_i_ChanOk k, E_i_copyChan k] [] Try.f82 (.cons (.agg yP6) (.cons .str .nil)) (.tup (.cons (.agg yP2) (.cons .bool .nil))) x = i_Push k x := by kernel_rfl
theorem e_i_Push [Names] (k : Nat) : EntryOk Try.prog (E_i_Push k) := entry_ok tok (es_cons (e_i_ChanOk k) (es_cons (e_i_copyChan k) es_nil)) (by kernel_rfl) (by kernel_rfl) (by kernel_rfl) fun x r h => (t_i_Push k x).trans h
def i_Chan_fill (k : Nat) (x : (Int × Int × Int × List (ByteArray) × (List (Int × ByteArray × Int × Int)) × Int × (List (Int × ByteArray)) × List (Int) × List (ByteArray) × Unit) × Int × Unit) : Option (Unit × (Int × Int × Int × List (ByteArray) × (List (Int × ByteArray × Int × Int)) × Int × (List (Int × ByteArray)) × List (Int) × List (ByteArray) × Unit) × Unit × Unit) :=
(whileK (fun (rec0 : ((Int × Int × Int × List (ByteArray) × (List (Int × ByteArray × Int × Int)) × Int × (List (Int × ByteArray)) × List (Int) × List (ByteArray) × Unit) × Int × Unit) → Option _) (y0 : (Int × Int × Int × List (ByteArray) × (List (Int × ByteArray × Int × Int)) × Int × (List (Int × ByteArray)) × List (Int) × List (ByteArray) × Unit) × Int × Unit) =>
(jn (
(if 0 ≤ (0 : Int) ∧ (0 : Int) < (List.length y0.1.2.2.2.1 : Int) then
(if List.length y0.1.2.2.2.2.1 + List.length ([((wi64 (y0.1.2.2.1 + (1 : Int))), ((Ty.rd (t := .str) y0.1.2.2.2.1 (0 : Int)), (y0.2.1, (0 : Int))))] : List (Int × ByteArray × Int × Int)) ≤ capMax then
(if 0 ≤ (1 : Int) ∧ (1 : Int) ≤ (List.length y0.1.2.2.2.1 : Int) then
(rec0 ((y0.1.1, (y0.1.2.1, ((wi64 (y0.1.2.2.1 + (1 : Int))), ((List.drop (Int.toNat (1 : Int)) (List.take (Int.toNat (List.length y0.1.2.2.2.1 : Int)) y0.1.2.2.2.1)), ((y0.1.2.2.2.2.1 ++ ([((wi64 (y0.1.2.2.1 + (1 : Int))), ((Ty.rd (t := .str) y0.1.2.2.2.1 (0 : Int)), (y0.2.1, (0 : Int))))] : List (Int × ByteArray × Int × Int))), (y0.1.2.2.2.2.2.1, (y0.1.2.2.2.2.2.2.1, (y0.1.2.2.2.2.2.2.2.1, (y0.1.2.2.2.2.2.2.2.2.1, ()))))))))), (y0.2.1, ())))
else none)
else none)
else none)) (fun (j1 : Option _) =>
(if (decide ((0 : Int) < (List.length y0.1.2.2.2.1 : Int))) = true then
(if (decide ((List.length y0.1.2.2.2.2.1 : Int) < (4 : Int))) = true then
(if (decide ((List.length y0.1.2.2.2.2.1 : Int) = (0 : Int))) = false then
(if 0 ≤ (0 : Int) ∧ (0 : Int) < (List.length y0.1.2.2.2.2.1 : Int) then
(if (decide ((wi64 ((wi64 (y0.1.2.2.1 + (1 : Int))) - (4 : Int))) < (Ty.rd (t := yT3) y0.1.2.2.2.2.1 (0 : Int)).1)) = true then
j1
else
((fun (z1 : (Int × Int × Int × List (ByteArray) × (List (Int × ByteArray × Int × Int)) × Int × (List (Int × ByteArray)) × List (Int) × List (ByteArray) × Unit) × Unit) =>
some ((), ((z1.1.1, (z1.1.2.1, (z1.1.2.2.1, (z1.1.2.2.2.1, (z1.1.2.2.2.2.1, (z1.1.2.2.2.2.2.1, (z1.1.2.2.2.2.2.2.1, (z1.1.2.2.2.2.2.2.2.1, (z1.1.2.2.2.2.2.2.2.2.1, ()))))))))), ((), ())))) ((y0.1.1, (y0.1.2.1, (y0.1.2.2.1, (y0.1.2.2.2.1, (y0.1.2.2.2.2.1, (y0.1.2.2.2.2.2.1, (y0.1.2.2.2.2.2.2.1, (y0.1.2.2.2.2.2.2.2.1, (y0.1.2.2.2.2.2.2.2.2.1, ()))))))))), ())))
else none)
else
j1)
else
((fun (z1 : (Int × Int × Int × List (ByteArray) × (List (Int × ByteArray × Int × Int)) × Int × (List (Int × ByteArray)) × List (Int) × List (ByteArray) × Unit) × Unit) =>
some ((), ((z1.1.1, (z1.1.2.1, (z1.1.2.2.1, (z1.1.2.2.2.1, (z1.1.2.2.2.2.1, (z1.1.2.2.2.2.2.1, (z1.1.2.2.2.2.2.2.1, (z1.1.2.2.2.2.2.2.2.1, (z1.1.2.2.2.2.2.2.2.2.1, ()))))))))), ((), ())))) ((y0.1.1, (y0.1.2.1, (y0.1.2.2.1, (y0.1.2.2.2.1, (y0.1.2.2.2.2.1, (y0.1.2.2.2.2.2.1, (y0.1.2.2.2.2.2.2.1, (y0.1.2.2.2.2.2.2.2.1, (y0.1.2.2.2.2.2.2.2.2.1, ()))))))))), ())))
else
((fun (z1 : (Int × Int × Int × List (ByteArray) × (List (Int × ByteArray × Int × Int)) × Int × (List (Int × ByteArray)) × List (Int) × List (ByteArray) × Unit) × Unit) =>
some ((), ((z1.1.1, (z1.1.2.1, (z1.1.2.2.1, (z1.1.2.2.2.1, (z1.1.2.2.2.2.1, (z1.1.2.2.2.2.2.1, (z1.1.2.2.2.2.2.2.1, (z1.1.2.2.2.2.2.2.2.1, (z1.1.2.2.2.2.2.2.2.2.1, ()))))))))), ((), ())))) ((y0.1.1, (y0.1.2.1, (y0.1.2.2.1, (y0.1.2.2.2.1, (y0.1.2.2.2.2.1, (y0.1.2.2.2.2.2.1, (y0.1.2.2.2.2.2.2.1, (y0.1.2.2.2.2.2.2.2.1, (y0.1.2.2.2.2.2.2.2.2.1, ()))))))))), ())))))) k ((x.1.1, (x.1.2.1, (x.1.2.2.1, (x.1.2.2.2.1, (x.1.2.2.2.2.1, (x.1.2.2.2.2.2.1, (x.1.2.2.2.2.2.2.1, (x.1.2.2.2.2.2.2.2.1, (x.1.2.2.2.2.2.2.2.2.1, ()))))))))), (x.2.1, ())))
abbrev E_i_Chan_fill (k : Nat) : Entry := ⟨156, 0, (.cons (.ptr 0 yP2) yP14), (.tup .nil), i_Chan_fill k⟩
theorem t_i_Chan_fill (k : Nat) (x) : evF TTab k [] [(0, ⟨[0, 1], (.cons (.ptr 0 yP2) yP14)⟩, ⟨[0], (.cons (.ptr 0 yP2) .nil)⟩)] Try.f156 (.cons (.ptr 0 yP2) yP14) (.tup .nil) x = i_Chan_fill k x := by kernel_rfl
theorem e_i_Chan_fill [Names] (k : Nat) : EntryOk Try.prog (E_i_Chan_fill k) := entry_ok tok es_nil (by kernel_rfl) (by kernel_rfl) (by kernel_rfl) fun x r h => (t_i_Chan_fill k x).trans h
def i_Send (k : Nat) (x : (Int × Int × Int × List (ByteArray) × (List (Int × ByteArray × Int × Int)) × Int × (List (Int × ByteArray)) × List (Int) × List (ByteArray) × Unit) × Int × Unit) : Option (((Int × Int × Int × List (ByteArray) × (List (Int × ByteArray × Int × Int)) × Int × (List (Int × ByteArray)) × List (Int) × List (ByteArray) × Unit) × (List (Int × Int × Int × Int × Int × List (Int) × ByteArray)) × Unit) × Unit × Unit × Unit) :=
((i_copyChan k ((x.1.1, (x.1.2.1, (x.1.2.2.1, (x.1.2.2.2.1, (x.1.2.2.2.2.1, (x.1.2.2.2.2.2.1, (x.1.2.2.2.2.2.2.1, (x.1.2.2.2.2.2.2.2.1, (x.1.2.2.2.2.2.2.2.2.1, ()))))))))), ())).bind fun p1 =>
((i_ChanOk k ((x.1.1, (x.1.2.1, (x.1.2.2.1, (x.1.2.2.2.1, (x.1.2.2.2.2.1, (x.1.2.2.2.2.2.1, (x.1.2.2.2.2.2.2.1, (x.1.2.2.2.2.2.2.2.1, (x.1.2.2.2.2.2.2.2.2.1, ()))))))))), ())).bind fun p2 =>
(if (!p2.1) = false then
((i_within k (x.2.1, ((0 : Int), ((999999000 : Int), ())))).bind fun p3 =>
(if (!p3.1) = true then
some (((p1.1.1, (p1.1.2.1, (p1.1.2.2.1, (p1.1.2.2.2.1, (p1.1.2.2.2.2.1, (p1.1.2.2.2.2.2.1, (p1.1.2.2.2.2.2.2.1, (p1.1.2.2.2.2.2.2.2.1, (p1.1.2.2.2.2.2.2.2.2.1, ()))))))))), (([] : List (Int × Int × Int × Int × Int × List (Int) × ByteArray)), ())), ((), ((), ())))
else
((i_Chan_fill k ((p1.1.1, (p1.1.2.1, (p1.1.2.2.1, (p1.1.2.2.2.1, (p1.1.2.2.2.2.1, (p1.1.2.2.2.2.2.1, (p1.1.2.2.2.2.2.2.1, (p1.1.2.2.2.2.2.2.2.1, (p1.1.2.2.2.2.2.2.2.2.1, ()))))))))), (x.2.1, ()))).bind fun p4 =>
(whileK (fun (rec0 : (Int × (Int × Int × Int × List (ByteArray) × (List (Int × ByteArray × Int × Int)) × Int × (List (Int × ByteArray)) × List (Int) × List (ByteArray) × Unit) × (Int × Int × Int × List (ByteArray) × (List (Int × ByteArray × Int × Int)) × Int × (List (Int × ByteArray)) × List (Int) × List (ByteArray) × Unit) × (Int × Int × Int × List (ByteArray) × (List (Int × ByteArray × Int × Int)) × Int × (List (Int × ByteArray)) × List (Int) × List (ByteArray) × Unit) × (List (Int × Int × Int × Int × Int × List (Int) × ByteArray)) × Int × Int × Unit) → Option _) (y0 : Int × (Int × Int × Int × List (ByteArray) × (List (Int × ByteArray × Int × Int)) × Int × (List (Int × ByteArray)) × List (Int) × List (ByteArray) × Unit) × (Int × Int × Int × List (ByteArray) × (List (Int × ByteArray × Int × Int)) × Int × (List (Int × ByteArray)) × List (Int) × List (ByteArray) × Unit) × (Int × Int × Int × List (ByteArray) × (List (Int × ByteArray × Int × Int)) × Int × (List (Int × ByteArray)) × List (Int) × List (ByteArray) × Unit) × (List (Int × Int × Int × Int × Int × List (Int) × ByteArray)) × Int × Int × Unit) =>
(if (decide (y0.2.2.2.2.2.2.1 < y0.2.2.2.2.2.1)) = true then
(jn (
(rec0 (y0.1, ((y0.2.1.1, (y0.2.1.2.1, (y0.2.1.2.2.1, (y0.2.1.2.2.2.1, (y0.2.1.2.2.2.2.1, (y0.2.1.2.2.2.2.2.1, (y0.2.1.2.2.2.2.2.2.1, (y0.2.1.2.2.2.2.2.2.2.1, (y0.2.1.2.2.2.2.2.2.2.2.1, ()))))))))), ((y0.2.2.1.1, (y0.2.2.1.2.1, (y0.2.2.1.2.2.1, (y0.2.2.1.2.2.2.1, (y0.2.2.1.2.2.2.2.1, (y0.2.2.1.2.2.2.2.2.1, (y0.2.2.1.2.2.2.2.2.2.1, (y0.2.2.1.2.2.2.2.2.2.2.1, (y0.2.2.1.2.2.2.2.2.2.2.2.1, ()))))))))), ((y0.2.2.2.1.1, (y0.2.2.2.1.2.1, (y0.2.2.2.1.2.2.1, (y0.2.2.2.1.2.2.2.1, (y0.2.2.2.1.2.2.2.2.1, (y0.2.2.2.1.2.2.2.2.2.1, (y0.2.2.2.1.2.2.2.2.2.2.1, (y0.2.2.2.1.2.2.2.2.2.2.2.1, (y0.2.2.2.1.2.2.2.2.2.2.2.2.1, ()))))))))), (y0.2.2.2.2.1, (y0.2.2.2.2.2.1, ((wi64 (y0.2.2.2.2.2.2.1 + (1 : Int))), ()))))))))) (fun (j1 : Option _) =>
(if 0 ≤ y0.2.2.2.2.2.2.1 ∧ y0.2.2.2.2.2.2.1 < (List.length y0.2.2.2.1.2.2.2.2.1 : Int) then
(if (decide (y0.1 < (Ty.rd (t := yT3) y0.2.2.2.1.2.2.2.2.1 y0.2.2.2.2.2.2.1).2.2.1)) = false then
(if (decide ((8 : Int) ≤ (Ty.rd (t := yT3) y0.2.2.2.1.2.2.2.2.1 y0.2.2.2.2.2.2.1).2.2.2)) = true then
j1
else
(jn (List.set y0.2.2.2.1.2.2.2.2.1 (Int.toNat y0.2.2.2.2.2.2.1) ((Ty.rd (t := yT3) y0.2.2.2.1.2.2.2.2.1 y0.2.2.2.2.2.2.1).1, ((Ty.rd (t := yT3) y0.2.2.2.1.2.2.2.2.1 y0.2.2.2.2.2.2.1).2.1, ((Ty.rd (t := yT3) y0.2.2.2.1.2.2.2.2.1 y0.2.2.2.2.2.2.1).2.2.1, (wi64 ((Ty.rd (t := yT3) y0.2.2.2.1.2.2.2.2.1 y0.2.2.2.2.2.2.1).2.2.2 + (1 : Int))))))) (fun (q25 : List (Int × ByteArray × Int × Int)) =>
(if (Ty.rd (t := yT3) q25 y0.2.2.2.2.2.2.1).2.2.2 < 0 then
none
else
(jn (List.set q25 (Int.toNat y0.2.2.2.2.2.2.1) ((Ty.rd (t := yT3) q25 y0.2.2.2.2.2.2.1).1, ((Ty.rd (t := yT3) q25 y0.2.2.2.2.2.2.1).2.1, ((wi64 (y0.1 + (wi64 ((1 : Int) * 2 ^ (min (Int.toNat (Ty.rd (t := yT3) q25 y0.2.2.2.2.2.2.1).2.2.2) (IntKind.bits .i64)))))), (Ty.rd (t := yT3) q25 y0.2.2.2.2.2.2.1).2.2.2)))) (fun (q26 : List (Int × ByteArray × Int × Int)) =>
(if List.length y0.2.2.2.2.1 + List.length ([((1 : Int), ((0 : Int), (y0.2.1.1, (y0.2.1.2.1, ((Ty.rd (t := yT3) q26 y0.2.2.2.2.2.2.1).1, ([], (Ty.rd (t := yT3) q26 y0.2.2.2.2.2.2.1).2.1))))))] : List (Int × Int × Int × Int × Int × List (Int) × ByteArray)) ≤ capMax then
(rec0 (y0.1, ((y0.2.1.1, (y0.2.1.2.1, (y0.2.1.2.2.1, (y0.2.1.2.2.2.1, (y0.2.1.2.2.2.2.1, (y0.2.1.2.2.2.2.2.1, (y0.2.1.2.2.2.2.2.2.1, (y0.2.1.2.2.2.2.2.2.2.1, (y0.2.1.2.2.2.2.2.2.2.2.1, ()))))))))), ((y0.2.2.1.1, (y0.2.2.1.2.1, (y0.2.2.1.2.2.1, (y0.2.2.1.2.2.2.1, (y0.2.2.1.2.2.2.2.1, (y0.2.2.1.2.2.2.2.2.1, (y0.2.2.1.2.2.2.2.2.2.1, (y0.2.2.1.2.2.2.2.2.2.2.1, (y0.2.2.1.2.2.2.2.2.2.2.2.1, ()))))))))), ((y0.2.2.2.1.1, (y0.2.2.2.1.2.1, (y0.2.2.2.1.2.2.1, (y0.2.2.2.1.2.2.2.1, (q26, (y0.2.2.2.1.2.2.2.2.2.1, (y0.2.2.2.1.2.2.2.2.2.2.1, (y0.2.2.2.1.2.2.2.2.2.2.2.1, (y0.2.2.2.1.2.2.2.2.2.2.2.2.1, ()))))))))), ((y0.2.2.2.2.1 ++ ([((1 : Int), ((0 : Int), (y0.2.1.1, (y0.2.1.2.1, ((Ty.rd (t := yT3) q26 y0.2.2.2.2.2.2.1).1, ([], (Ty.rd (t := yT3) q26 y0.2.2.2.2.2.2.1).2.1))))))] : List (Int × Int × Int × Int × Int × List (Int) × ByteArray))), (y0.2.2.2.2.2.1, ((wi64 (y0.2.2.2.2.2.2.1 + (1 : Int))), ()))))))))
else none)))))))
else
j1)
else none)))
else
((fun (z1 : (Int × Int × Int × List (ByteArray) × (List (Int × ByteArray × Int × Int)) × Int × (List (Int × ByteArray)) × List (Int) × List (ByteArray) × Unit) × (Int × Int × Int × List (ByteArray) × (List (Int × ByteArray × Int × Int)) × Int × (List (Int × ByteArray)) × List (Int) × List (ByteArray) × Unit) × (Int × Int × Int × List (ByteArray) × (List (Int × ByteArray × Int × Int)) × Int × (List (Int × ByteArray)) × List (Int) × List (ByteArray) × Unit) × (List (Int × Int × Int × Int × Int × List (Int) × ByteArray)) × Unit) =>
(jn (
(if (decide ((0 : Int) < (List.length z1.2.2.2.1 : Int))) = true then
((i_copyInts k (z1.1.2.2.2.2.2.2.2.1, ())).bind fun p7 =>
(if 0 ≤ (0 : Int) ∧ (0 : Int) < (List.length z1.2.2.2.1 : Int) then
(jn (List.set z1.2.2.2.1 (Int.toNat (0 : Int)) ((Ty.rd (t := yT5) z1.2.2.2.1 (0 : Int)).1, ((Ty.rd (t := yT5) z1.2.2.2.1 (0 : Int)).2.1, ((Ty.rd (t := yT5) z1.2.2.2.1 (0 : Int)).2.2.1, ((Ty.rd (t := yT5) z1.2.2.2.1 (0 : Int)).2.2.2.1, ((Ty.rd (t := yT5) z1.2.2.2.1 (0 : Int)).2.2.2.2.1, (p7.1, (Ty.rd (t := yT5) z1.2.2.2.1 (0 : Int)).2.2.2.2.2.2))))))) (fun (q29 : List (Int × Int × Int × Int × Int × List (Int) × ByteArray)) =>
some (((z1.2.2.1.1, (z1.2.2.1.2.1, (z1.2.2.1.2.2.1, (z1.2.2.1.2.2.2.1, (z1.2.2.1.2.2.2.2.1, (z1.2.2.1.2.2.2.2.2.1, (z1.2.2.1.2.2.2.2.2.2.1, ([], (z1.2.2.1.2.2.2.2.2.2.2.2.1, ()))))))))), (q29, ())), ((), ((), ())))))
else none))
else
some (((z1.2.2.1.1, (z1.2.2.1.2.1, (z1.2.2.1.2.2.1, (z1.2.2.1.2.2.2.1, (z1.2.2.1.2.2.2.2.1, (z1.2.2.1.2.2.2.2.2.1, (z1.2.2.1.2.2.2.2.2.2.1, (z1.2.2.1.2.2.2.2.2.2.2.1, (z1.2.2.1.2.2.2.2.2.2.2.2.1, ()))))))))), (z1.2.2.2.1, ())), ((), ((), ()))))) (fun (j2 : Option _) =>
(if (decide ((List.length z1.2.2.2.1 : Int) = (0 : Int))) = true then
(if (decide ((0 : Int) < (List.length z1.1.2.2.2.2.2.2.2.1 : Int))) = true then
(if List.length z1.2.2.2.1 + List.length ([((2 : Int), ((0 : Int), (z1.1.1, (z1.1.2.1, ((0 : Int), ([], (⟨#[]⟩ : ByteArray)))))))] : List (Int × Int × Int × Int × Int × List (Int) × ByteArray)) ≤ capMax then
(if (decide ((0 : Int) < (List.length (z1.2.2.2.1 ++ ([((2 : Int), ((0 : Int), (z1.1.1, (z1.1.2.1, ((0 : Int), ([], (⟨#[]⟩ : ByteArray)))))))] : List (Int × Int × Int × Int × Int × List (Int) × ByteArray))) : Int))) = true then
((i_copyInts k (z1.1.2.2.2.2.2.2.2.1, ())).bind fun p5 =>
(if 0 ≤ (0 : Int) ∧ (0 : Int) < (List.length (z1.2.2.2.1 ++ ([((2 : Int), ((0 : Int), (z1.1.1, (z1.1.2.1, ((0 : Int), ([], (⟨#[]⟩ : ByteArray)))))))] : List (Int × Int × Int × Int × Int × List (Int) × ByteArray))) : Int) then
(jn (List.set (z1.2.2.2.1 ++ ([((2 : Int), ((0 : Int), (z1.1.1, (z1.1.2.1, ((0 : Int), ([], (⟨#[]⟩ : ByteArray)))))))] : List (Int × Int × Int × Int × Int × List (Int) × ByteArray))) (Int.toNat (0 : Int)) ((Ty.rd (t := yT5) (z1.2.2.2.1 ++ ([((2 : Int), ((0 : Int), (z1.1.1, (z1.1.2.1, ((0 : Int), ([], (⟨#[]⟩ : ByteArray)))))))] : List (Int × Int × Int × Int × Int × List (Int) × ByteArray))) (0 : Int)).1, ((Ty.rd (t := yT5) (z1.2.2.2.1 ++ ([((2 : Int), ((0 : Int), (z1.1.1, (z1.1.2.1, ((0 : Int), ([], (⟨#[]⟩ : ByteArray)))))))] : List (Int × Int × Int × Int × Int × List (Int) × ByteArray))) (0 : Int)).2.1, ((Ty.rd (t := yT5) (z1.2.2.2.1 ++ ([((2 : Int), ((0 : Int), (z1.1.1, (z1.1.2.1, ((0 : Int), ([], (⟨#[]⟩ : ByteArray)))))))] : List (Int × Int × Int × Int × Int × List (Int) × ByteArray))) (0 : Int)).2.2.1, ((Ty.rd (t := yT5) (z1.2.2.2.1 ++ ([((2 : Int), ((0 : Int), (z1.1.1, (z1.1.2.1, ((0 : Int), ([], (⟨#[]⟩ : ByteArray)))))))] : List (Int × Int × Int × Int × Int × List (Int) × ByteArray))) (0 : Int)).2.2.2.1, ((Ty.rd (t := yT5) (z1.2.2.2.1 ++ ([((2 : Int), ((0 : Int), (z1.1.1, (z1.1.2.1, ((0 : Int), ([], (⟨#[]⟩ : ByteArray)))))))] : List (Int × Int × Int × Int × Int × List (Int) × ByteArray))) (0 : Int)).2.2.2.2.1, (p5.1, (Ty.rd (t := yT5) (z1.2.2.2.1 ++ ([((2 : Int), ((0 : Int), (z1.1.1, (z1.1.2.1, ((0 : Int), ([], (⟨#[]⟩ : ByteArray)))))))] : List (Int × Int × Int × Int × Int × List (Int) × ByteArray))) (0 : Int)).2.2.2.2.2.2))))))) (fun (q27 : List (Int × Int × Int × Int × Int × List (Int) × ByteArray)) =>
some (((z1.2.2.1.1, (z1.2.2.1.2.1, (z1.2.2.1.2.2.1, (z1.2.2.1.2.2.2.1, (z1.2.2.1.2.2.2.2.1, (z1.2.2.1.2.2.2.2.2.1, (z1.2.2.1.2.2.2.2.2.2.1, ([], (z1.2.2.1.2.2.2.2.2.2.2.2.1, ()))))))))), (q27, ())), ((), ((), ())))))
else none))
else
some (((z1.2.2.1.1, (z1.2.2.1.2.1, (z1.2.2.1.2.2.1, (z1.2.2.1.2.2.2.1, (z1.2.2.1.2.2.2.2.1, (z1.2.2.1.2.2.2.2.2.1, (z1.2.2.1.2.2.2.2.2.2.1, (z1.2.2.1.2.2.2.2.2.2.2.1, (z1.2.2.1.2.2.2.2.2.2.2.2.1, ()))))))))), ((z1.2.2.2.1 ++ ([((2 : Int), ((0 : Int), (z1.1.1, (z1.1.2.1, ((0 : Int), ([], (⟨#[]⟩ : ByteArray)))))))] : List (Int × Int × Int × Int × Int × List (Int) × ByteArray))), ())), ((), ((), ()))))
else none)
else
j2)
else
j2)))) ((y0.2.1.1, (y0.2.1.2.1, (y0.2.1.2.2.1, (y0.2.1.2.2.2.1, (y0.2.1.2.2.2.2.1, (y0.2.1.2.2.2.2.2.1, (y0.2.1.2.2.2.2.2.2.1, (y0.2.1.2.2.2.2.2.2.2.1, (y0.2.1.2.2.2.2.2.2.2.2.1, ()))))))))), ((y0.2.2.1.1, (y0.2.2.1.2.1, (y0.2.2.1.2.2.1, (y0.2.2.1.2.2.2.1, (y0.2.2.1.2.2.2.2.1, (y0.2.2.1.2.2.2.2.2.1, (y0.2.2.1.2.2.2.2.2.2.1, (y0.2.2.1.2.2.2.2.2.2.2.1, (y0.2.2.1.2.2.2.2.2.2.2.2.1, ()))))))))), ((y0.2.2.2.1.1, (y0.2.2.2.1.2.1, (y0.2.2.2.1.2.2.1, (y0.2.2.2.1.2.2.2.1, (y0.2.2.2.1.2.2.2.2.1, (y0.2.2.2.1.2.2.2.2.2.1, (y0.2.2.2.1.2.2.2.2.2.2.1, (y0.2.2.2.1.2.2.2.2.2.2.2.1, (y0.2.2.2.1.2.2.2.2.2.2.2.2.1, ()))))))))), (y0.2.2.2.2.1, ()))))))) k (x.2.1, ((x.1.1, (x.1.2.1, (x.1.2.2.1, (x.1.2.2.2.1, (x.1.2.2.2.2.1, (x.1.2.2.2.2.2.1, (x.1.2.2.2.2.2.2.1, (x.1.2.2.2.2.2.2.2.1, (x.1.2.2.2.2.2.2.2.2.1, ()))))))))), (((0 : Int), ((0 : Int), ((0 : Int), ([], ([], ((0 : Int), ([], ([], ([], ()))))))))), ((p4.2.1.1, (p4.2.1.2.1, (p4.2.1.2.2.1, (p4.2.1.2.2.2.1, (p4.2.1.2.2.2.2.1, (p4.2.1.2.2.2.2.2.1, (p4.2.1.2.2.2.2.2.2.1, (p4.2.1.2.2.2.2.2.2.2.1, (p4.2.1.2.2.2.2.2.2.2.2.1, ()))))))))), (([] : List (Int × Int × Int × Int × Int × List (Int) × ByteArray)), ((List.length p4.2.1.2.2.2.2.1 : Int), ((0 : Int), ())))))))))))
else
some (((p1.1.1, (p1.1.2.1, (p1.1.2.2.1, (p1.1.2.2.2.1, (p1.1.2.2.2.2.1, (p1.1.2.2.2.2.2.1, (p1.1.2.2.2.2.2.2.1, (p1.1.2.2.2.2.2.2.2.1, (p1.1.2.2.2.2.2.2.2.2.1, ()))))))))), (([] : List (Int × Int × Int × Int × Int × List (Int) × ByteArray)), ())), ((), ((), ()))))))
abbrev E_i_Send (k : Nat) : Entry := ⟨130, 0, (.cons (.agg yP6) yP14), (.tup (.cons (.agg yP2) (.cons (.own false 122 yT5) .nil))), i_Send k⟩
theorem t_i_Send (k : Nat) (x) : evF TTabO k [E_i_ChanOk k, E_i_within k, E_i_copyChan k, E_i_copyInts k, E_i_Chan_fill k] [(0, ⟨[1, 2, 4, 6, 7, 27, 28], (.cons (.int .i64) (.cons (.ptr 0 yP6) (.cons (.ptr 0 yP2) (.cons (.ptr 0 yP2) (.cons (.own false 122 yT5) yP8)))))⟩, ⟨[2, 4, 6, 7], (.cons (.ptr 0 yP6) (.cons (.ptr 0 yP2) (.cons (.ptr 0 yP2) (.cons (.own false 122 yT5) .nil))))⟩)] Try.f130 (.cons (.agg yP6) yP14) (.tup (.cons (.agg yP2) (.cons (.own false 122 yT5) .nil))) x = i_Send k x := by kernel_rfl
theorem e_i_Send [Names] (k : Nat) : EntryOk Try.prog (E_i_Send k) := entry_ok tokO (es_cons (e_i_ChanOk k) (es_cons (e_i_within k) (es_cons (e_i_copyChan k) (es_cons (e_i_copyInts k) (es_cons (e_i_Chan_fill k) es_nil))))) (by kernel_rfl) (by kernel_rfl) (by kernel_rfl) fun x r h => (t_i_Send k x).trans h
def i_Talk_send (k : Nat) (x : ((List (Int × Int × Int × List (ByteArray) × List (Int × ByteArray × Int × Int) × Int × List (Int × ByteArray) × List (Int) × List (ByteArray))) × Int × (List (Int × Int × Int × Int × Int × List (Int) × ByteArray)) × Unit) × Int × Unit) : Option (Unit × ((List (Int × Int × Int × List (ByteArray) × List (Int × ByteArray × Int × Int) × Int × List (Int × ByteArray) × List (Int) × List (ByteArray))) × Int × (List (Int × Int × Int × Int × Int × List (Int) × ByteArray)) × Unit) × Unit × Unit) :=
(if 0 ≤ x.2.1 ∧ x.2.1 < (List.length x.1.1 : Int) then
((i_Send k (((Ty.rd (t := yT0) x.1.1 x.2.1).1, ((Ty.rd (t := yT0) x.1.1 x.2.1).2.1, ((Ty.rd (t := yT0) x.1.1 x.2.1).2.2.1, ((Ty.rd (t := yT0) x.1.1 x.2.1).2.2.2.1, ((Ty.rd (t := yT0) x.1.1 x.2.1).2.2.2.2.1, ((Ty.rd (t := yT0) x.1.1 x.2.1).2.2.2.2.2.1, ((Ty.rd (t := yT0) x.1.1 x.2.1).2.2.2.2.2.2.1, ((Ty.rd (t := yT0) x.1.1 x.2.1).2.2.2.2.2.2.2.1, ((Ty.rd (t := yT0) x.1.1 x.2.1).2.2.2.2.2.2.2.2, ()))))))))), (x.1.2.1, ()))).bind fun p1 =>
(if 0 ≤ x.2.1 ∧ x.2.1 < (List.length x.1.1 : Int) then
(if List.length x.1.2.2.1 + List.length p1.1.2.1 ≤ capMax then
some ((), (((List.set x.1.1 (Int.toNat x.2.1) (p1.1.1.1, (p1.1.1.2.1, (p1.1.1.2.2.1, (p1.1.1.2.2.2.1, (p1.1.1.2.2.2.2.1, (p1.1.1.2.2.2.2.2.1, (p1.1.1.2.2.2.2.2.2.1, (p1.1.1.2.2.2.2.2.2.2.1, p1.1.1.2.2.2.2.2.2.2.2.1))))))))), (x.1.2.1, ((x.1.2.2.1 ++ p1.1.2.1), ()))), ((), ())))
else none)
else none))
else none)
abbrev E_i_Talk_send (k : Nat) : Entry := ⟨85, 0, (.cons (.ptr 0 yP1) yP14), (.tup .nil), i_Talk_send k⟩
theorem t_i_Talk_send (k : Nat) (x) : evF TTabO k [E_i_Send k] [] Try.f85 (.cons (.ptr 0 yP1) yP14) (.tup .nil) x = i_Talk_send k x := by kernel_rfl
theorem e_i_Talk_send [Names] (k : Nat) : EntryOk Try.prog (E_i_Talk_send k) := entry_ok tokO (es_cons (e_i_Send k) es_nil) (by kernel_rfl) (by kernel_rfl) (by kernel_rfl) fun x r h => (t_i_Talk_send k x).trans h
def i_Talk_lose_n (k : Nat) (x : ((List (Int × Int × Int × Nat × Nat × Int × Nat × Nat × Nat)) × Int × (List (Int × Int × Int × Int × Int × Nat × ByteArray)) × Unit) × Int × Unit) : Option ((Int × Int × Int × Int × Int × Nat × ByteArray × Unit) × ((List (Int × Int × Int × Nat × Nat × Int × Nat × Nat × Nat)) × Int × (List (Int × Int × Int × Int × Int × Nat × ByteArray)) × Unit) × Unit × Unit) :=
(if 0 ≤ x.2.1 ∧ x.2.1 < (List.length x.1.2.2.1 : Int) then
(if 0 ≤ x.2.1 ∧ x.2.1 ≤ (List.length x.1.2.2.1 : Int) then
(if 0 ≤ (wi64 (x.2.1 + (1 : Int))) ∧ (wi64 (x.2.1 + (1 : Int))) ≤ (List.length x.1.2.2.1 : Int) then
(if x.2.1 + List.length (List.drop (Int.toNat (wi64 (x.2.1 + (1 : Int)))) (List.take (Int.toNat (List.length x.1.2.2.1 : Int)) x.1.2.2.1)) ≤ List.length x.1.2.2.1 ∧ x.2.1 - (0 : Int) + List.length (List.drop (Int.toNat (wi64 (x.2.1 + (1 : Int)))) (List.take (Int.toNat (List.length x.1.2.2.1 : Int)) x.1.2.2.1)) ≤ capMax then
some (((Ty.rd (t := yT13) x.1.2.2.1 x.2.1).1, ((Ty.rd (t := yT13) x.1.2.2.1 x.2.1).2.1, ((Ty.rd (t := yT13) x.1.2.2.1 x.2.1).2.2.1, ((Ty.rd (t := yT13) x.1.2.2.1 x.2.1).2.2.2.1, ((Ty.rd (t := yT13) x.1.2.2.1 x.2.1).2.2.2.2.1, ((Ty.rd (t := yT13) x.1.2.2.1 x.2.1).2.2.2.2.2.1, ((Ty.rd (t := yT13) x.1.2.2.1 x.2.1).2.2.2.2.2.2, ()))))))), ((x.1.1, (x.1.2.1, ((List.drop (Int.toNat (0 : Int)) (List.take (Int.toNat (x.2.1 + List.length (List.drop (Int.toNat (wi64 (x.2.1 + (1 : Int)))) (List.take (Int.toNat (List.length x.1.2.2.1 : Int)) x.1.2.2.1)))) (List.take (Int.toNat x.2.1) x.1.2.2.1 ++ ((List.drop (Int.toNat (wi64 (x.2.1 + (1 : Int)))) (List.take (Int.toNat (List.length x.1.2.2.1 : Int)) x.1.2.2.1)) ++ List.drop (Int.toNat x.2.1 + List.length (List.drop (Int.toNat (wi64 (x.2.1 + (1 : Int)))) (List.take (Int.toNat (List.length x.1.2.2.1 : Int)) x.1.2.2.1))) x.1.2.2.1)))), ()))), ((), ())))
else none)
else none)
else none)
else none)
abbrev E_i_Talk_lose_n (k : Nat) : Entry := ⟨86, 0, (.cons (.ptr 0 (.cons (.own false 68 (.pair (.int .i64) (.pair (.int .i64) (.pair (.int .i64) (.pair .nm (.pair .nm (.pair (.int .i64) (.pair .nm (.pair .nm .nm))))))))) (.cons (.int .i64) (.cons (.own false 122 yT13) .nil)))) yP14), (.agg (.cons (.int .i64) (.cons (.int .i64) (.cons (.int .i64) (.cons (.int .i64) (.cons (.int .i64) (.cons .nm (.cons .str .nil)))))))), i_Talk_lose_n k⟩
theorem t_i_Talk_lose_n (k : Nat) (x) : evF TTabN k [] [] Try.f86 (.cons (.ptr 0 (.cons (.own false 68 (.pair (.int .i64) (.pair (.int .i64) (.pair (.int .i64) (.pair .nm (.pair .nm (.pair (.int .i64) (.pair .nm (.pair .nm .nm))))))))) (.cons (.int .i64) (.cons (.own false 122 yT13) .nil)))) yP14) (.agg (.cons (.int .i64) (.cons (.int .i64) (.cons (.int .i64) (.cons (.int .i64) (.cons (.int .i64) (.cons .nm (.cons .str .nil)))))))) x = i_Talk_lose_n k x := by kernel_rfl
theorem e_i_Talk_lose_n [Names] (k : Nat) : EntryOk Try.prog (E_i_Talk_lose_n k) := entry_ok tokN es_nil (by kernel_rfl) (by kernel_rfl) (by kernel_rfl) fun x r h => (t_i_Talk_lose_n k x).trans h
def i_Talk_lose (k : Nat) (x : ((List (Int × Int × Int × List (ByteArray) × List (Int × ByteArray × Int × Int) × Int × List (Int × ByteArray) × List (Int) × List (ByteArray))) × Int × (List (Int × Int × Int × Int × Int × List (Int) × ByteArray)) × Unit) × Int × Unit) : Option ((Int × Int × Int × Int × Int × List (Int) × ByteArray × Unit) × ((List (Int × Int × Int × List (ByteArray) × List (Int × ByteArray × Int × Int) × Int × List (Int × ByteArray) × List (Int) × List (ByteArray))) × Int × (List (Int × Int × Int × Int × Int × List (Int) × ByteArray)) × Unit) × Unit × Unit) :=
namesF (.cons (.ptr 0 yP1) yP14) yP15 (i_Talk_lose_n k) x
abbrev E_i_Talk_lose (k : Nat) : Entry := ⟨86, 0, (.cons (.ptr 0 yP1) yP14), yP15, i_Talk_lose k⟩
theorem e_i_Talk_lose [Names] (k : Nat) : EntryOk Try.prog (E_i_Talk_lose k) := namesF_entry (p := (.cons (.ptr 0 yP1) yP14)) (q := yP15) (by kernel_rfl) (by kernel_rfl) (fun N => @e_i_Talk_lose_n N k) inferInstance
def i_PacketOk (k : Nat) (x : (Int × Int × Int × Int × Int × List (Int) × ByteArray × Unit) × Unit) : Option (Bool × Unit × Unit) :=
(whileK (fun (rec0 : ((Int × Int × Int × Int × Int × List (Int) × ByteArray × Unit) × List (Int) × Int × Int × Unit) → Option _) (y0 : (Int × Int × Int × Int × Int × List (Int) × ByteArray × Unit) × List (Int) × Int × Int × Unit) =>
(if (decide (y0.2.2.2.1 < y0.2.2.1)) = true then
(if 0 ≤ y0.2.2.2.1 ∧ y0.2.2.2.1 < (List.length y0.2.1 : Int) then
((i_within k ((Ty.rd (t := (.int .i64)) y0.2.1 y0.2.2.2.1), ((1 : Int), ((1000000000 : Int), ())))).bind fun p1 =>
(if (!p1.1) = true then
some (false, ((), ()))
else
(rec0 ((y0.1.1, (y0.1.2.1, (y0.1.2.2.1, (y0.1.2.2.2.1, (y0.1.2.2.2.2.1, (y0.1.2.2.2.2.2.1, (y0.1.2.2.2.2.2.2.1, ()))))))), (y0.2.1, (y0.2.2.1, ((wi64 (y0.2.2.2.1 + (1 : Int))), ())))))))
else none)
else
((fun (z1 : (Int × Int × Int × Int × Int × List (Int) × ByteArray × Unit) × Unit) =>
((i_within k (z1.1.1, ((1 : Int), ((3 : Int), ())))).bind fun p2 =>
(if (!p2.1) = false then
((i_within k (z1.1.2.1, ((0 : Int), ((7 : Int), ())))).bind fun p3 =>
(if (!p3.1) = false then
((i_isId k (z1.1.2.2.1, ())).bind fun p4 =>
(if (!p4.1) = false then
((i_isId k (z1.1.2.2.2.1, ())).bind fun p5 =>
(if (!p5.1) = false then
((i_within k (z1.1.2.2.2.2.1, ((0 : Int), ((1000000000 : Int), ())))).bind fun p6 =>
(if (!p6.1) = true then
some (false, ((), ()))
else
(if (decide ((List.length z1.1.2.2.2.2.2.1 : Int) = (0 : Int))) = false then
(if (!decide (z1.1.1 = (3 : Int))) = true then
(if (decide ((List.length z1.1.2.2.2.2.2.1 : Int) ≤ (4 : Int))) = true then
(if (decide ((ByteArray.size z1.1.2.2.2.2.2.2.1 : Int) ≤ (120 : Int))) = true then
(if (!decide (z1.1.1 = (2 : Int))) = false then
(if (decide (z1.1.2.2.2.2.2.2.1 = (⟨#[]⟩ : ByteArray))) = true then
some ((decide (z1.1.2.2.2.2.1 = (0 : Int))), ((), ()))
else
some (false, ((), ())))
else
some (true, ((), ())))
else
some (false, ((), ())))
else
some (false, ((), ())))
else
some (false, ((), ())))
else
(if (decide ((ByteArray.size z1.1.2.2.2.2.2.2.1 : Int) ≤ (120 : Int))) = true then
(if (!decide (z1.1.1 = (2 : Int))) = false then
(if (decide (z1.1.2.2.2.2.2.2.1 = (⟨#[]⟩ : ByteArray))) = true then
some ((decide (z1.1.2.2.2.2.1 = (0 : Int))), ((), ()))
else
some (false, ((), ())))
else
some (true, ((), ())))
else
some (false, ((), ()))))))
else
some (false, ((), ()))))
else
some (false, ((), ()))))
else
some (false, ((), ()))))
else
some (false, ((), ()))))) ((y0.1.1, (y0.1.2.1, (y0.1.2.2.1, (y0.1.2.2.2.1, (y0.1.2.2.2.2.1, (y0.1.2.2.2.2.2.1, (y0.1.2.2.2.2.2.2.1, ()))))))), ())))) k ((x.1.1, (x.1.2.1, (x.1.2.2.1, (x.1.2.2.2.1, (x.1.2.2.2.2.1, (x.1.2.2.2.2.2.1, (x.1.2.2.2.2.2.2.1, ()))))))), (x.1.2.2.2.2.2.1, ((List.length x.1.2.2.2.2.2.1 : Int), ((0 : Int), ())))))
abbrev E_i_PacketOk (k : Nat) : Entry := ⟨157, 0, (.cons (.agg yP11) .nil), .bool, i_PacketOk k⟩
theorem t_i_PacketOk (k : Nat) (x) : evF TTab k [E_i_within k, E_i_isId k] [(0, ⟨[1, 7, 8, 9], (.cons (.ptr 0 yP11) (.cons (.il true (.int .i64)) yP8))⟩, ⟨[1], (.cons (.ptr 0 yP11) .nil)⟩)] Try.f157 (.cons (.agg yP11) .nil) .bool x = i_PacketOk k x := by kernel_rfl
theorem e_i_PacketOk [Names] (k : Nat) : EntryOk Try.prog (E_i_PacketOk k) := entry_ok tok (es_cons (e_i_within k) (es_cons (e_i_isId k) es_nil)) (by kernel_rfl) (by kernel_rfl) (by kernel_rfl) fun x r h => (t_i_PacketOk k x).trans h
def x_slices_Index_int_int (k : Nat) (x : List (Int) × Int × Unit) : Option (Int × Unit × Unit × Unit) :=
(whileK (fun (rec0 : (List (Int) × Int × Int × Int × Unit) → Option _) (y0 : List (Int) × Int × Int × Int × Unit) =>
(if (decide (y0.2.2.2.1 < y0.2.2.1)) = true then
(if 0 ≤ y0.2.2.2.1 ∧ y0.2.2.2.1 < (List.length y0.1 : Int) then
(if (decide (y0.2.1 = (Ty.rd (t := (.int .i64)) y0.1 y0.2.2.2.1))) = true then
some (y0.2.2.2.1, ((), ((), ())))
else
(rec0 (y0.1, (y0.2.1, (y0.2.2.1, ((wi64 (y0.2.2.2.1 + (1 : Int))), ()))))))
else none)
else
((fun (z1 : Unit) =>
some ((-1 : Int), ((), ((), ())))) ()))) k (x.1, (x.2.1, ((List.length x.1 : Int), ((0 : Int), ())))))
abbrev E_x_slices_Index_int_int (k : Nat) : Entry := ⟨180, 0, (.cons (.il true (.int .i64)) yP14), (.int .i64), x_slices_Index_int_int k⟩
theorem t_x_slices_Index_int_int (k : Nat) (x) : evF TTab k [] [(0, ⟨[0, 1, 7, 8], (.cons (.il true (.int .i64)) (.cons (.int .i64) yP8))⟩, ⟨[], .nil⟩)] Try.f180 (.cons (.il true (.int .i64)) yP14) (.int .i64) x = x_slices_Index_int_int k x := by kernel_rfl
theorem e_x_slices_Index_int_int [Names] (k : Nat) : EntryOk Try.prog (E_x_slices_Index_int_int k) := entry_ok tok es_nil (by kernel_rfl) (by kernel_rfl) (by kernel_rfl) fun x r h => (t_x_slices_Index_int_int k x).trans h
def x_slices_Contains_int_int (k : Nat) (x : List (Int) × Int × Unit) : Option (Bool × Unit × Unit × Unit) :=
((x_slices_Index_int_int k (x.1, (x.2.1, ()))).bind fun p1 =>
some ((decide ((0 : Int) ≤ p1.1)), ((), ((), ()))))
abbrev E_x_slices_Contains_int_int (k : Nat) : Entry := ⟨160, 0, (.cons (.il true (.int .i64)) yP14), .bool, x_slices_Contains_int_int k⟩
theorem t_x_slices_Contains_int_int (k : Nat) (x) : evF TTab k [E_x_slices_Index_int_int k] [] Try.f160 (.cons (.il true (.int .i64)) yP14) .bool x = x_slices_Contains_int_int k x := by kernel_rfl
theorem e_x_slices_Contains_int_int [Names] (k : Nat) : EntryOk Try.prog (E_x_slices_Contains_int_int k) := entry_ok tok (es_cons (e_x_slices_Index_int_int k) es_nil) (by kernel_rfl) (by kernel_rfl) (by kernel_rfl) fun x r h => (t_x_slices_Contains_int_int k x).trans h
def x_slices_Insert_impl_Early_impl_Early (k : Nat) (x : (List (Int × ByteArray)) × Int × (List (Int × ByteArray)) × Unit) : Option ((List (Int × ByteArray)) × Unit × Unit × Unit × Unit) := insF 24 yT17 x
abbrev E_x_slices_Insert_impl_Early_impl_Early (k : Nat) : Entry := ⟨181, 0, (.cons (.own false 131 yT17) (.cons (.int .i64) (.cons (.own false 131 yT17) .nil))), (.own false 131 yT17), x_slices_Insert_impl_Early_impl_Early k⟩
theorem ins_x_slices_Insert_impl_Early_impl_Early : InsL Try.prog ⟨fun n => if n = 29 then 188 else if n = 30 then 189 else n, fun n => if n = 9 then 131 else if n = 24 then 66 else n, fun n => n⟩ 181 2 24 (Try.t131.zero.getD default) where
  mixed := by kernel_rfl
  f22 := ⟨Try.f181.name, Try.func181.trans (by kernel_rfl)⟩
  f29 := ⟨_, Try.func188, by kernel_rfl, by kernel_rfl, by kernel_rfl, by kernel_rfl⟩
  t0 := Try.underlying0
  a0 := Try.isAgg0
  z0 := Try.sizeOf0
  v0 := Try.zeroValue0
  t3 := Try.underlying3
  a3 := Try.isAgg3
  z3 := Try.sizeOf3
  v3 := Try.zeroValue3
  t4 := Try.underlying4
  a4 := Try.isAgg4
  z4 := Try.sizeOf4
  v4 := Try.zeroValue4
  t24 := Try.underlying66
  a24 := Try.isAgg66
  z24 := Try.sizeOf66
  v24 := Try.zeroValue66
  z9 := Try.sizeOf131
  i9 := by kernel_rfl
theorem e_x_slices_Insert_impl_Early_impl_Early [Names] (k : Nat) : EntryOk Try.prog ⟨181, 0, (.cons (.own false 131 yT17) (.cons (.int .i64) (.cons (.own false 131 yT17) .nil))), (.own false 131 yT17), x_slices_Insert_impl_Early_impl_Early k⟩ := entry_insert (t := yT17) ins_x_slices_Insert_impl_Early_impl_Early (by decide) (by decide) (by kernel_rfl) Try.func181 (by kernel_rfl)
def i_Chan_early (k : Nat) (x : (Int × Int × Int × List (ByteArray) × (List (Int × ByteArray × Int × Int)) × Int × (List (Int × ByteArray)) × List (Int) × List (ByteArray) × Unit) × Int × ByteArray × Unit) : Option (Unit × (Int × Int × Int × List (ByteArray) × (List (Int × ByteArray × Int × Int)) × Int × (List (Int × ByteArray)) × List (Int) × List (ByteArray) × Unit) × Unit × Unit × Unit) :=
(jn (fun (z1 : (Int × Int × Int × List (ByteArray) × (List (Int × ByteArray × Int × Int)) × Int × (List (Int × ByteArray)) × List (Int) × List (ByteArray) × Unit) × Int × ByteArray × Int × Unit) =>
(jn (
((x_slices_Insert_impl_Early_impl_Early k (z1.1.2.2.2.2.2.2.1, (z1.2.2.2.1, (([(z1.2.1, z1.2.2.1)] : List (Int × ByteArray)), ())))).bind fun p2 =>
(whileK (fun (rec2 : ((Int × Int × Int × List (ByteArray) × (List (Int × ByteArray × Int × Int)) × Int × (List (Int × ByteArray)) × List (Int) × List (ByteArray) × Unit) × Unit) → Option _) (y2 : (Int × Int × Int × List (ByteArray) × (List (Int × ByteArray × Int × Int)) × Int × (List (Int × ByteArray)) × List (Int) × List (ByteArray) × Unit) × Unit) =>
(if (decide ((0 : Int) < (List.length y2.1.2.2.2.2.2.2.1 : Int))) = true then
(if 0 ≤ (0 : Int) ∧ (0 : Int) < (List.length y2.1.2.2.2.2.2.2.1 : Int) then
(if (decide ((Ty.rd (t := yT17) y2.1.2.2.2.2.2.2.1 (0 : Int)).1 = (wi64 (y2.1.2.2.2.2.2.1 + (1 : Int))))) = true then
(if 0 ≤ (0 : Int) ∧ (0 : Int) < (List.length y2.1.2.2.2.2.2.2.1 : Int) then
(if List.length y2.1.2.2.2.2.2.2.2.2.1 + List.length ([(Ty.rd (t := yT17) y2.1.2.2.2.2.2.2.1 (0 : Int)).2] : List (ByteArray)) ≤ capMax then
(if 0 ≤ (1 : Int) ∧ (1 : Int) ≤ (List.length y2.1.2.2.2.2.2.2.1 : Int) then
(rec2 ((y2.1.1, (y2.1.2.1, (y2.1.2.2.1, (y2.1.2.2.2.1, (y2.1.2.2.2.2.1, ((wi64 (y2.1.2.2.2.2.2.1 + (1 : Int))), ((List.drop (Int.toNat (1 : Int)) (List.take (Int.toNat (List.length y2.1.2.2.2.2.2.2.1 : Int)) y2.1.2.2.2.2.2.2.1)), (y2.1.2.2.2.2.2.2.2.1, ((y2.1.2.2.2.2.2.2.2.2.1 ++ ([(Ty.rd (t := yT17) y2.1.2.2.2.2.2.2.1 (0 : Int)).2] : List (ByteArray))), ()))))))))), ()))
else none)
else none)
else none)
else
((fun (z3 : (Int × Int × Int × List (ByteArray) × (List (Int × ByteArray × Int × Int)) × Int × (List (Int × ByteArray)) × List (Int) × List (ByteArray) × Unit) × Unit) =>
some ((), ((z3.1.1, (z3.1.2.1, (z3.1.2.2.1, (z3.1.2.2.2.1, (z3.1.2.2.2.2.1, (z3.1.2.2.2.2.2.1, (z3.1.2.2.2.2.2.2.1, (z3.1.2.2.2.2.2.2.2.1, (z3.1.2.2.2.2.2.2.2.2.1, ()))))))))), ((), ((), ()))))) ((y2.1.1, (y2.1.2.1, (y2.1.2.2.1, (y2.1.2.2.2.1, (y2.1.2.2.2.2.1, (y2.1.2.2.2.2.2.1, (y2.1.2.2.2.2.2.2.1, (y2.1.2.2.2.2.2.2.2.1, (y2.1.2.2.2.2.2.2.2.2.1, ()))))))))), ())))
else none)
else
((fun (z3 : (Int × Int × Int × List (ByteArray) × (List (Int × ByteArray × Int × Int)) × Int × (List (Int × ByteArray)) × List (Int) × List (ByteArray) × Unit) × Unit) =>
some ((), ((z3.1.1, (z3.1.2.1, (z3.1.2.2.1, (z3.1.2.2.2.1, (z3.1.2.2.2.2.1, (z3.1.2.2.2.2.2.1, (z3.1.2.2.2.2.2.2.1, (z3.1.2.2.2.2.2.2.2.1, (z3.1.2.2.2.2.2.2.2.2.1, ()))))))))), ((), ((), ()))))) ((y2.1.1, (y2.1.2.1, (y2.1.2.2.1, (y2.1.2.2.2.1, (y2.1.2.2.2.2.1, (y2.1.2.2.2.2.2.1, (y2.1.2.2.2.2.2.2.1, (y2.1.2.2.2.2.2.2.2.1, (y2.1.2.2.2.2.2.2.2.2.1, ()))))))))), ())))) k ((z1.1.1, (z1.1.2.1, (z1.1.2.2.1, (z1.1.2.2.2.1, (z1.1.2.2.2.2.1, (z1.1.2.2.2.2.2.1, (p2.1, (z1.1.2.2.2.2.2.2.2.1, (z1.1.2.2.2.2.2.2.2.2.1, ()))))))))), ())))) (fun (j1 : Option _) =>
(if (decide (z1.2.2.2.1 < (List.length z1.1.2.2.2.2.2.2.1 : Int))) = true then
(if 0 ≤ z1.2.2.2.1 ∧ z1.2.2.2.1 < (List.length z1.1.2.2.2.2.2.2.1 : Int) then
(if (decide ((Ty.rd (t := yT17) z1.1.2.2.2.2.2.2.1 z1.2.2.2.1).1 = z1.2.1)) = true then
some ((), ((z1.1.1, (z1.1.2.1, (z1.1.2.2.1, (z1.1.2.2.2.1, (z1.1.2.2.2.2.1, (z1.1.2.2.2.2.2.1, (z1.1.2.2.2.2.2.2.1, (z1.1.2.2.2.2.2.2.2.1, (z1.1.2.2.2.2.2.2.2.2.1, ()))))))))), ((), ((), ()))))
else
j1)
else none)
else
j1)))) (fun (E1 : ((Int × Int × Int × List (ByteArray) × (List (Int × ByteArray × Int × Int)) × Int × (List (Int × ByteArray)) × List (Int) × List (ByteArray) × Unit) × Int × ByteArray × Int × Unit) → Option _) =>
(whileK (fun (rec0 : ((Int × Int × Int × List (ByteArray) × (List (Int × ByteArray × Int × Int)) × Int × (List (Int × ByteArray)) × List (Int) × List (ByteArray) × Unit) × Int × ByteArray × Int × Unit) → Option _) (y0 : (Int × Int × Int × List (ByteArray) × (List (Int × ByteArray × Int × Int)) × Int × (List (Int × ByteArray)) × List (Int) × List (ByteArray) × Unit) × Int × ByteArray × Int × Unit) =>
(if (decide (y0.2.2.2.1 < (List.length y0.1.2.2.2.2.2.2.1 : Int))) = true then
(if 0 ≤ y0.2.2.2.1 ∧ y0.2.2.2.1 < (List.length y0.1.2.2.2.2.2.2.1 : Int) then
(if (decide ((Ty.rd (t := yT17) y0.1.2.2.2.2.2.2.1 y0.2.2.2.1).1 < y0.2.1)) = true then
(rec0 ((y0.1.1, (y0.1.2.1, (y0.1.2.2.1, (y0.1.2.2.2.1, (y0.1.2.2.2.2.1, (y0.1.2.2.2.2.2.1, (y0.1.2.2.2.2.2.2.1, (y0.1.2.2.2.2.2.2.2.1, (y0.1.2.2.2.2.2.2.2.2.1, ()))))))))), (y0.2.1, (y0.2.2.1, ((wi64 (y0.2.2.2.1 + (1 : Int))), ())))))
else
(E1 ((y0.1.1, (y0.1.2.1, (y0.1.2.2.1, (y0.1.2.2.2.1, (y0.1.2.2.2.2.1, (y0.1.2.2.2.2.2.1, (y0.1.2.2.2.2.2.2.1, (y0.1.2.2.2.2.2.2.2.1, (y0.1.2.2.2.2.2.2.2.2.1, ()))))))))), (y0.2.1, (y0.2.2.1, (y0.2.2.2.1, ()))))))
else none)
else
(E1 ((y0.1.1, (y0.1.2.1, (y0.1.2.2.1, (y0.1.2.2.2.1, (y0.1.2.2.2.2.1, (y0.1.2.2.2.2.2.1, (y0.1.2.2.2.2.2.2.1, (y0.1.2.2.2.2.2.2.2.1, (y0.1.2.2.2.2.2.2.2.2.1, ()))))))))), (y0.2.1, (y0.2.2.1, (y0.2.2.2.1, ()))))))) k ((x.1.1, (x.1.2.1, (x.1.2.2.1, (x.1.2.2.2.1, (x.1.2.2.2.2.1, (x.1.2.2.2.2.2.1, (x.1.2.2.2.2.2.2.1, (x.1.2.2.2.2.2.2.2.1, (x.1.2.2.2.2.2.2.2.2.1, ()))))))))), (x.2.1, (x.2.2.1, ((0 : Int), ())))))))
abbrev E_i_Chan_early (k : Nat) : Entry := ⟨161, 0, (.cons (.ptr 0 yP2) (.cons (.int .i64) (.cons .str .nil))), (.tup .nil), i_Chan_early k⟩
theorem t_i_Chan_early (k : Nat) (x) : evF TTab k [E_x_slices_Insert_impl_Early_impl_Early k] [(0, ⟨[0, 1, 2, 6], (.cons (.ptr 0 yP2) (.cons (.int .i64) (.cons .str yP14)))⟩, ⟨[0, 1, 2, 6], (.cons (.ptr 0 yP2) (.cons (.int .i64) (.cons .str yP14)))⟩), (2, ⟨[0], (.cons (.ptr 0 yP2) .nil)⟩, ⟨[0], (.cons (.ptr 0 yP2) .nil)⟩)] Try.f161 (.cons (.ptr 0 yP2) (.cons (.int .i64) (.cons .str .nil))) (.tup .nil) x = i_Chan_early k x := by kernel_rfl
theorem e_i_Chan_early [Names] (k : Nat) : EntryOk Try.prog (E_i_Chan_early k) := entry_ok tok (es_cons (e_x_slices_Insert_impl_Early_impl_Early k) es_nil) (by kernel_rfl) (by kernel_rfl) (by kernel_rfl) fun x r h => (t_i_Chan_early k x).trans h
def i_Take_1 (k : Nat) (x : (Int × ByteArray × Int × Int × Unit) × (Int × Int × Int × Int × Int × List (Int) × ByteArray × Unit) × Unit) : Option (Bool × Unit × (Int × Int × Int × Int × Int × List (Int) × ByteArray × Unit) × Unit) :=
((x_slices_Contains_int_int k (x.2.1.2.2.2.2.2.1, (x.1.1, ()))).bind fun p1 =>
some (p1.1, ((), ((x.2.1.1, (x.2.1.2.1, (x.2.1.2.2.1, (x.2.1.2.2.2.1, (x.2.1.2.2.2.2.1, (x.2.1.2.2.2.2.2.1, (x.2.1.2.2.2.2.2.2.1, ()))))))), ()))))
abbrev E_i_Take_1 (k : Nat) : Entry := ⟨159, 0, (.cons (.agg (.cons (.int .i64) (.cons .str yP8))) (.cons (.ptr 0 yP10) .nil)), .bool, i_Take_1 k⟩
theorem t_i_Take_1 (k : Nat) (x) : evF TTab k [E_x_slices_Contains_int_int k] [] Try.f159 (.cons (.agg (.cons (.int .i64) (.cons .str yP8))) (.cons (.ptr 0 yP10) .nil)) .bool x = i_Take_1 k x := by kernel_rfl
theorem e_i_Take_1 [Names] (k : Nat) : EntryOk Try.prog (E_i_Take_1 k) := entry_ok tok (es_cons (e_x_slices_Contains_int_int k) es_nil) (by kernel_rfl) (by kernel_rfl) (by kernel_rfl) fun x r h => (t_i_Take_1 k x).trans h
def x_slices_IndexFunc_impl_Pending_impl_Pending_of_i_Take_1 (k : Nat) (x : (List (Int × ByteArray × Int × Int)) × ((Int × Int × Int × Int × Int × List (Int) × ByteArray × Unit) × Unit) × Unit) : Option (Int × Unit × ((Int × Int × Int × Int × Int × List (Int) × ByteArray × Unit) × Unit) × Unit) :=
(whileK (fun (rec0 : ((List (Int × ByteArray × Int × Int)) × ((Int × Int × Int × Int × Int × List (Int) × ByteArray × Unit) × Unit) × Int × Int × Unit) → Option _) (y0 : (List (Int × ByteArray × Int × Int)) × ((Int × Int × Int × Int × Int × List (Int) × ByteArray × Unit) × Unit) × Int × Int × Unit) =>
(if (decide (y0.2.2.2.1 < y0.2.2.1)) = true then
(if 0 ≤ y0.2.2.2.1 ∧ y0.2.2.2.1 < (List.length y0.1 : Int) then
((i_Take_1 k (((Ty.rd (t := yT3) y0.1 y0.2.2.2.1).1, ((Ty.rd (t := yT3) y0.1 y0.2.2.2.1).2.1, ((Ty.rd (t := yT3) y0.1 y0.2.2.2.1).2.2.1, ((Ty.rd (t := yT3) y0.1 y0.2.2.2.1).2.2.2, ())))), ((y0.2.1.1.1, (y0.2.1.1.2.1, (y0.2.1.1.2.2.1, (y0.2.1.1.2.2.2.1, (y0.2.1.1.2.2.2.2.1, (y0.2.1.1.2.2.2.2.2.1, (y0.2.1.1.2.2.2.2.2.2.1, ()))))))), ()))).bind fun p1 =>
(if p1.1 = true then
some (y0.2.2.2.1, ((), (((p1.2.2.1.1, (p1.2.2.1.2.1, (p1.2.2.1.2.2.1, (p1.2.2.1.2.2.2.1, (p1.2.2.1.2.2.2.2.1, (p1.2.2.1.2.2.2.2.2.1, (p1.2.2.1.2.2.2.2.2.2.1, ()))))))), ()), ())))
else
(rec0 (y0.1, (((p1.2.2.1.1, (p1.2.2.1.2.1, (p1.2.2.1.2.2.1, (p1.2.2.1.2.2.2.1, (p1.2.2.1.2.2.2.2.1, (p1.2.2.1.2.2.2.2.2.1, (p1.2.2.1.2.2.2.2.2.2.1, ()))))))), ()), (y0.2.2.1, ((wi64 (y0.2.2.2.1 + (1 : Int))), ())))))))
else none)
else
((fun (z1 : ((Int × Int × Int × Int × Int × List (Int) × ByteArray × Unit) × Unit) × Unit) =>
some ((-1 : Int), ((), (((z1.1.1.1, (z1.1.1.2.1, (z1.1.1.2.2.1, (z1.1.1.2.2.2.1, (z1.1.1.2.2.2.2.1, (z1.1.1.2.2.2.2.2.1, (z1.1.1.2.2.2.2.2.2.1, ()))))))), ()), ())))) (((y0.2.1.1.1, (y0.2.1.1.2.1, (y0.2.1.1.2.2.1, (y0.2.1.1.2.2.2.1, (y0.2.1.1.2.2.2.2.1, (y0.2.1.1.2.2.2.2.2.1, (y0.2.1.1.2.2.2.2.2.2.1, ()))))))), ()), ())))) k (x.1, (((x.2.1.1.1, (x.2.1.1.2.1, (x.2.1.1.2.2.1, (x.2.1.1.2.2.2.1, (x.2.1.1.2.2.2.2.1, (x.2.1.1.2.2.2.2.2.1, (x.2.1.1.2.2.2.2.2.2.1, ()))))))), ()), ((List.length x.1 : Int), ((0 : Int), ())))))
abbrev E_x_slices_IndexFunc_impl_Pending_impl_Pending_of_i_Take_1 (k : Nat) : Entry := ⟨179, 160, (.cons (.il true yT3) (.cons (.fn 159 (.cons (.ptr 0 yP10) .nil)) .nil)), (.int .i64), x_slices_IndexFunc_impl_Pending_impl_Pending_of_i_Take_1 k⟩
theorem t_x_slices_IndexFunc_impl_Pending_impl_Pending_of_i_Take_1 (k : Nat) (x) : evF TTab k [E_i_Take_1 k] [(0, ⟨[0, 1, 7, 8], (.cons (.il true yT3) (.cons (.fn 159 (.cons (.ptr 0 yP10) .nil)) yP8))⟩, ⟨[1], (.cons (.fn 159 (.cons (.ptr 0 yP10) .nil)) .nil)⟩)] Try.f179 (.cons (.il true yT3) (.cons (.fn 159 (.cons (.ptr 0 yP10) .nil)) .nil)) (.int .i64) x = x_slices_IndexFunc_impl_Pending_impl_Pending_of_i_Take_1 k x := by kernel_rfl
theorem e_x_slices_IndexFunc_impl_Pending_impl_Pending_of_i_Take_1 [Names] (k : Nat) : EntryOk Try.prog (E_x_slices_IndexFunc_impl_Pending_impl_Pending_of_i_Take_1 k) := entry_ok tok (es_cons (e_i_Take_1 k) es_nil) (by kernel_rfl) (by kernel_rfl) (by kernel_rfl) fun x r h => (t_x_slices_IndexFunc_impl_Pending_impl_Pending_of_i_Take_1 k x).trans h
def x_slices_DeleteFunc_impl_Pending_impl_Pending_of_i_Take_1 (k : Nat) (x : (List (Int × ByteArray × Int × Int)) × ((Int × Int × Int × Int × Int × List (Int) × ByteArray × Unit) × Unit) × Unit) : Option ((List (Int × ByteArray × Int × Int)) × Unit × ((Int × Int × Int × Int × Int × List (Int) × ByteArray × Unit) × Unit) × Unit) :=
((x_slices_IndexFunc_impl_Pending_impl_Pending_of_i_Take_1 k (x.1, (((x.2.1.1.1, (x.2.1.1.2.1, (x.2.1.1.2.2.1, (x.2.1.1.2.2.2.1, (x.2.1.1.2.2.2.2.1, (x.2.1.1.2.2.2.2.2.1, (x.2.1.1.2.2.2.2.2.2.1, ()))))))), ()), ()))).bind fun p1 =>
(if (decide (p1.1 = (-1 : Int))) = true then
some (x.1, ((), (((p1.2.2.1.1.1, (p1.2.2.1.1.2.1, (p1.2.2.1.1.2.2.1, (p1.2.2.1.1.2.2.2.1, (p1.2.2.1.1.2.2.2.2.1, (p1.2.2.1.1.2.2.2.2.2.1, (p1.2.2.1.1.2.2.2.2.2.2.1, ()))))))), ()), ())))
else
(whileK (fun (rec0 : ((List (Int × ByteArray × Int × Int)) × ((Int × Int × Int × Int × Int × List (Int) × ByteArray × Unit) × Unit) × Int × Int × Unit) → Option _) (y0 : (List (Int × ByteArray × Int × Int)) × ((Int × Int × Int × Int × Int × List (Int) × ByteArray × Unit) × Unit) × Int × Int × Unit) =>
(if (decide (y0.2.2.2.1 < (List.length y0.1 : Int))) = true then
(if 0 ≤ y0.2.2.2.1 ∧ y0.2.2.2.1 < (List.length y0.1 : Int) then
((i_Take_1 k (((Ty.rd (t := yT3) y0.1 y0.2.2.2.1).1, ((Ty.rd (t := yT3) y0.1 y0.2.2.2.1).2.1, ((Ty.rd (t := yT3) y0.1 y0.2.2.2.1).2.2.1, ((Ty.rd (t := yT3) y0.1 y0.2.2.2.1).2.2.2, ())))), ((y0.2.1.1.1, (y0.2.1.1.2.1, (y0.2.1.1.2.2.1, (y0.2.1.1.2.2.2.1, (y0.2.1.1.2.2.2.2.1, (y0.2.1.1.2.2.2.2.2.1, (y0.2.1.1.2.2.2.2.2.2.1, ()))))))), ()))).bind fun p2 =>
(if (!p2.1) = true then
(if 0 ≤ y0.2.2.1 ∧ y0.2.2.1 < (List.length y0.1 : Int) then
(rec0 ((List.set y0.1 (Int.toNat y0.2.2.1) ((Ty.rd (t := yT3) y0.1 y0.2.2.2.1).1, ((Ty.rd (t := yT3) y0.1 y0.2.2.2.1).2.1, ((Ty.rd (t := yT3) y0.1 y0.2.2.2.1).2.2.1, (Ty.rd (t := yT3) y0.1 y0.2.2.2.1).2.2.2)))), (((p2.2.2.1.1, (p2.2.2.1.2.1, (p2.2.2.1.2.2.1, (p2.2.2.1.2.2.2.1, (p2.2.2.1.2.2.2.2.1, (p2.2.2.1.2.2.2.2.2.1, (p2.2.2.1.2.2.2.2.2.2.1, ()))))))), ()), ((wi64 (y0.2.2.1 + (1 : Int))), ((wi64 (y0.2.2.2.1 + (1 : Int))), ())))))
else none)
else
(rec0 (y0.1, (((p2.2.2.1.1, (p2.2.2.1.2.1, (p2.2.2.1.2.2.1, (p2.2.2.1.2.2.2.1, (p2.2.2.1.2.2.2.2.1, (p2.2.2.1.2.2.2.2.2.1, (p2.2.2.1.2.2.2.2.2.2.1, ()))))))), ()), (y0.2.2.1, ((wi64 (y0.2.2.2.1 + (1 : Int))), ())))))))
else none)
else
((fun (z1 : (List (Int × ByteArray × Int × Int)) × ((Int × Int × Int × Int × Int × List (Int) × ByteArray × Unit) × Unit) × Int × Unit) =>
(if 0 ≤ z1.2.2.1 ∧ z1.2.2.1 ≤ (List.length z1.1 : Int) then
(if 0 ≤ z1.2.2.1 ∧ z1.2.2.1 ≤ (List.length (List.take (Int.toNat z1.2.2.1) z1.1 ++ (List.replicate (Int.toNat ((List.length z1.1 : Int) - z1.2.2.1)) ((0 : Int), ((⟨#[]⟩ : ByteArray), ((0 : Int), (0 : Int)))) ++ List.drop (Int.toNat (List.length z1.1 : Int)) z1.1)) : Int) then
some ((List.drop (Int.toNat (0 : Int)) (List.take (Int.toNat z1.2.2.1) (List.take (Int.toNat z1.2.2.1) z1.1 ++ (List.replicate (Int.toNat ((List.length z1.1 : Int) - z1.2.2.1)) ((0 : Int), ((⟨#[]⟩ : ByteArray), ((0 : Int), (0 : Int)))) ++ List.drop (Int.toNat (List.length z1.1 : Int)) z1.1)))), ((), (((z1.2.1.1.1, (z1.2.1.1.2.1, (z1.2.1.1.2.2.1, (z1.2.1.1.2.2.2.1, (z1.2.1.1.2.2.2.2.1, (z1.2.1.1.2.2.2.2.2.1, (z1.2.1.1.2.2.2.2.2.2.1, ()))))))), ()), ())))
else none)
else none)) (y0.1, (((y0.2.1.1.1, (y0.2.1.1.2.1, (y0.2.1.1.2.2.1, (y0.2.1.1.2.2.2.1, (y0.2.1.1.2.2.2.2.1, (y0.2.1.1.2.2.2.2.2.1, (y0.2.1.1.2.2.2.2.2.2.1, ()))))))), ()), (y0.2.2.1, ())))))) k (x.1, (((p1.2.2.1.1.1, (p1.2.2.1.1.2.1, (p1.2.2.1.1.2.2.1, (p1.2.2.1.1.2.2.2.1, (p1.2.2.1.1.2.2.2.2.1, (p1.2.2.1.1.2.2.2.2.2.1, (p1.2.2.1.1.2.2.2.2.2.2.1, ()))))))), ()), (p1.1, ((wi64 (p1.1 + (1 : Int))), ())))))))
abbrev E_x_slices_DeleteFunc_impl_Pending_impl_Pending_of_i_Take_1 (k : Nat) : Entry := ⟨158, 160, (.cons (.own false 129 yT3) (.cons (.fn 159 (.cons (.ptr 0 yP10) .nil)) .nil)), (.own false 129 yT3), x_slices_DeleteFunc_impl_Pending_impl_Pending_of_i_Take_1 k⟩
theorem t_x_slices_DeleteFunc_impl_Pending_impl_Pending_of_i_Take_1 (k : Nat) (x) : evF TTab k [E_i_Take_1 k, E_x_slices_IndexFunc_impl_Pending_impl_Pending_of_i_Take_1 k] [(0, ⟨[0, 1, 5, 6], (.cons (.own false 129 yT3) (.cons (.fn 159 (.cons (.ptr 0 yP10) .nil)) yP8))⟩, ⟨[0, 1, 5], (.cons (.own false 129 yT3) (.cons (.fn 159 (.cons (.ptr 0 yP10) .nil)) yP14))⟩)] Try.f158 (.cons (.own false 129 yT3) (.cons (.fn 159 (.cons (.ptr 0 yP10) .nil)) .nil)) (.own false 129 yT3) x = x_slices_DeleteFunc_impl_Pending_impl_Pending_of_i_Take_1 k x := by kernel_rfl
theorem e_x_slices_DeleteFunc_impl_Pending_impl_Pending_of_i_Take_1 [Names] (k : Nat) : EntryOk Try.prog (E_x_slices_DeleteFunc_impl_Pending_impl_Pending_of_i_Take_1 k) := entry_ok tok (es_cons (e_i_Take_1 k) (es_cons (e_x_slices_IndexFunc_impl_Pending_impl_Pending_of_i_Take_1 k) es_nil)) (by kernel_rfl) (by kernel_rfl) (by kernel_rfl) fun x r h => (t_x_slices_DeleteFunc_impl_Pending_impl_Pending_of_i_Take_1 k x).trans h
def i_Take_z (k : Nat) (x : (Int × Int × Int × List (ByteArray) × (List (Int × ByteArray × Int × Int)) × Int × (List (Int × ByteArray)) × List (Int) × List (ByteArray) × Unit) × (Int × Int × Int × Int × Int × List (Int) × ByteArray × Unit) × Unit) : Option (((Int × Int × Int × List (ByteArray) × (List (Int × ByteArray × Int × Int)) × Int × (List (Int × ByteArray)) × List (Int) × List (ByteArray) × Unit) × Bool × Unit) × Unit × Unit × Unit) :=
((i_copyChan k ((x.1.1, (x.1.2.1, (x.1.2.2.1, (x.1.2.2.2.1, (x.1.2.2.2.2.1, (x.1.2.2.2.2.2.1, (x.1.2.2.2.2.2.2.1, (x.1.2.2.2.2.2.2.2.1, (x.1.2.2.2.2.2.2.2.2.1, ()))))))))), ())).bind fun p1 =>
((i_ChanOk k ((x.1.1, (x.1.2.1, (x.1.2.2.1, (x.1.2.2.2.1, (x.1.2.2.2.2.1, (x.1.2.2.2.2.2.1, (x.1.2.2.2.2.2.2.1, (x.1.2.2.2.2.2.2.2.1, (x.1.2.2.2.2.2.2.2.2.1, ()))))))))), ())).bind fun p2 =>
(if (!p2.1) = false then
((i_PacketOk k ((x.2.1.1, (x.2.1.2.1, (x.2.1.2.2.1, (x.2.1.2.2.2.1, (x.2.1.2.2.2.2.1, (x.2.1.2.2.2.2.2.1, (x.2.1.2.2.2.2.2.2.1, ()))))))), ())).bind fun p3 =>
(if (!p3.1) = false then
(if (decide (x.2.1.1 = (3 : Int))) = false then
(if (!decide (x.2.1.2.2.1 = x.1.2.1)) = false then
(if (!decide (x.2.1.2.2.2.1 = x.1.1)) = true then
some (((p1.1.1, (p1.1.2.1, (p1.1.2.2.1, (p1.1.2.2.2.1, (p1.1.2.2.2.2.1, (p1.1.2.2.2.2.2.1, (p1.1.2.2.2.2.2.2.1, (p1.1.2.2.2.2.2.2.2.1, (p1.1.2.2.2.2.2.2.2.2.1, ()))))))))), (false, ())), ((), ((), ())))
else
(jn (
((x_slices_DeleteFunc_impl_Pending_impl_Pending_of_i_Take_1 k (p1.1.2.2.2.2.1, (((x.2.1.1, (x.2.1.2.1, (x.2.1.2.2.1, (x.2.1.2.2.2.1, (x.2.1.2.2.2.2.1, (x.2.1.2.2.2.2.2.1, (x.2.1.2.2.2.2.2.2.1, ()))))))), ()), ()))).bind fun p10 =>
(if (decide (p10.2.2.1.1.1 = (2 : Int))) = true then
some (((p1.1.1, (p1.1.2.1, (p1.1.2.2.1, (p1.1.2.2.2.1, (p10.1, (p1.1.2.2.2.2.2.1, (p1.1.2.2.2.2.2.2.1, (p1.1.2.2.2.2.2.2.2.1, (p1.1.2.2.2.2.2.2.2.2.1, ()))))))))), (true, ())), ((), ((), ())))
else
(jn (
(if (decide (x.1.2.2.2.2.2.1 < p10.2.2.1.1.2.2.2.2.1)) = true then
((i_Chan_early k ((p1.1.1, (p1.1.2.1, (p1.1.2.2.1, (p1.1.2.2.2.1, (p10.1, (p1.1.2.2.2.2.2.1, (p1.1.2.2.2.2.2.2.1, (p1.1.2.2.2.2.2.2.2.1, (p1.1.2.2.2.2.2.2.2.2.1, ()))))))))), (p10.2.2.1.1.2.2.2.2.1, (p10.2.2.1.1.2.2.2.2.2.2.1, ())))).bind fun p14 =>
some (((p14.2.1.1, (p14.2.1.2.1, (p14.2.1.2.2.1, (p14.2.1.2.2.2.1, (p14.2.1.2.2.2.2.1, (p14.2.1.2.2.2.2.2.1, (p14.2.1.2.2.2.2.2.2.1, (p14.2.1.2.2.2.2.2.2.2.1, (p14.2.1.2.2.2.2.2.2.2.2.1, ()))))))))), (true, ())), ((), ((), ()))))
else
some (((p1.1.1, (p1.1.2.1, (p1.1.2.2.1, (p1.1.2.2.2.1, (p10.1, (p1.1.2.2.2.2.2.1, (p1.1.2.2.2.2.2.2.1, (p1.1.2.2.2.2.2.2.2.1, (p1.1.2.2.2.2.2.2.2.2.1, ()))))))))), (true, ())), ((), ((), ()))))) (fun (j3 : Option _) =>
((x_slices_Contains_int_int k (p1.1.2.2.2.2.2.2.2.1, (p10.2.2.1.1.2.2.2.2.1, ()))).bind fun p11 =>
(if (!p11.1) = true then
(if (decide ((List.length p1.1.2.2.2.2.2.2.2.1 : Int) < (4 : Int))) = true then
(if List.length p1.1.2.2.2.2.2.2.2.1 + List.length ([p10.2.2.1.1.2.2.2.2.1] : List (Int)) ≤ capMax then
(if (decide (x.1.2.2.2.2.2.1 < p10.2.2.1.1.2.2.2.2.1)) = true then
((i_Chan_early k ((p1.1.1, (p1.1.2.1, (p1.1.2.2.1, (p1.1.2.2.2.1, (p10.1, (p1.1.2.2.2.2.2.1, (p1.1.2.2.2.2.2.2.1, ((p1.1.2.2.2.2.2.2.2.1 ++ ([p10.2.2.1.1.2.2.2.2.1] : List (Int))), (p1.1.2.2.2.2.2.2.2.2.1, ()))))))))), (p10.2.2.1.1.2.2.2.2.1, (p10.2.2.1.1.2.2.2.2.2.2.1, ())))).bind fun p12 =>
some (((p12.2.1.1, (p12.2.1.2.1, (p12.2.1.2.2.1, (p12.2.1.2.2.2.1, (p12.2.1.2.2.2.2.1, (p12.2.1.2.2.2.2.2.1, (p12.2.1.2.2.2.2.2.2.1, (p12.2.1.2.2.2.2.2.2.2.1, (p12.2.1.2.2.2.2.2.2.2.2.1, ()))))))))), (true, ())), ((), ((), ()))))
else
some (((p1.1.1, (p1.1.2.1, (p1.1.2.2.1, (p1.1.2.2.2.1, (p10.1, (p1.1.2.2.2.2.2.1, (p1.1.2.2.2.2.2.2.1, ((p1.1.2.2.2.2.2.2.2.1 ++ ([p10.2.2.1.1.2.2.2.2.1] : List (Int))), (p1.1.2.2.2.2.2.2.2.2.1, ()))))))))), (true, ())), ((), ((), ()))))
else none)
else
j3)
else
j3))))))) (fun (j2 : Option _) =>
(if (decide (x.2.1.1 = (1 : Int))) = true then
((i_within k (x.2.1.2.2.2.2.1, ((1 : Int), ((wi64 (x.1.2.2.2.2.2.1 + (4 : Int))), ())))).bind fun p4 =>
(if (!p4.1) = false then
(if (decide ((990 : Int) < x.1.2.2.2.2.2.1)) = true then
some (((p1.1.1, (p1.1.2.1, (p1.1.2.2.1, (p1.1.2.2.2.1, (p1.1.2.2.2.2.1, (p1.1.2.2.2.2.2.1, (p1.1.2.2.2.2.2.2.1, (p1.1.2.2.2.2.2.2.2.1, (p1.1.2.2.2.2.2.2.2.2.1, ()))))))))), (false, ())), ((), ((), ())))
else
j2)
else
some (((p1.1.1, (p1.1.2.1, (p1.1.2.2.1, (p1.1.2.2.2.1, (p1.1.2.2.2.2.1, (p1.1.2.2.2.2.2.1, (p1.1.2.2.2.2.2.2.1, (p1.1.2.2.2.2.2.2.2.1, (p1.1.2.2.2.2.2.2.2.2.1, ()))))))))), (false, ())), ((), ((), ())))))
else
(if (decide ((990 : Int) < x.1.2.2.2.2.2.1)) = true then
some (((p1.1.1, (p1.1.2.1, (p1.1.2.2.1, (p1.1.2.2.2.1, (p1.1.2.2.2.2.1, (p1.1.2.2.2.2.2.1, (p1.1.2.2.2.2.2.2.1, (p1.1.2.2.2.2.2.2.2.1, (p1.1.2.2.2.2.2.2.2.2.1, ()))))))))), (false, ())), ((), ((), ())))
else
j2)))))
else
some (((p1.1.1, (p1.1.2.1, (p1.1.2.2.1, (p1.1.2.2.2.1, (p1.1.2.2.2.2.1, (p1.1.2.2.2.2.2.1, (p1.1.2.2.2.2.2.2.1, (p1.1.2.2.2.2.2.2.2.1, (p1.1.2.2.2.2.2.2.2.2.1, ()))))))))), (false, ())), ((), ((), ()))))
else
some (((p1.1.1, (p1.1.2.1, (p1.1.2.2.1, (p1.1.2.2.2.1, (p1.1.2.2.2.2.1, (p1.1.2.2.2.2.2.1, (p1.1.2.2.2.2.2.2.1, (p1.1.2.2.2.2.2.2.2.1, (p1.1.2.2.2.2.2.2.2.2.1, ()))))))))), (false, ())), ((), ((), ()))))
else
some (((p1.1.1, (p1.1.2.1, (p1.1.2.2.1, (p1.1.2.2.2.1, (p1.1.2.2.2.2.1, (p1.1.2.2.2.2.2.1, (p1.1.2.2.2.2.2.2.1, (p1.1.2.2.2.2.2.2.2.1, (p1.1.2.2.2.2.2.2.2.2.1, ()))))))))), (false, ())), ((), ((), ())))))
else
some (((p1.1.1, (p1.1.2.1, (p1.1.2.2.1, (p1.1.2.2.2.1, (p1.1.2.2.2.2.1, (p1.1.2.2.2.2.2.1, (p1.1.2.2.2.2.2.2.1, (p1.1.2.2.2.2.2.2.2.1, (p1.1.2.2.2.2.2.2.2.2.1, ()))))))))), (false, ())), ((), ((), ()))))))
abbrev E_i_Take_z (k : Nat) : Entry := ⟨131, 0, (.cons (.agg yP7) (.cons (.agg yP10) .nil)), (.tup (.cons (.agg yP2) (.cons .bool .nil))), i_Take_z k⟩
theorem t_i_Take_z (k : Nat) (x) : evF TTab k [E_i_ChanOk k, E_i_within k, E_i_copyChan k, E_i_PacketOk k, E_x_slices_DeleteFunc_impl_Pending_impl_Pending_of_i_Take_1 k, E_x_slices_Contains_int_int k, E_i_Chan_early k] [] Try.f131 (.cons (.agg yP7) (.cons (.agg yP10) .nil)) (.tup (.cons (.agg yP2) (.cons .bool .nil))) x = i_Take_z k x := by kernel_rfl
theorem e_i_Take_z [Names] (k : Nat) : EntryOk Try.prog (E_i_Take_z k) := entry_ok tok (es_cons (e_i_ChanOk k) (es_cons (e_i_within k) (es_cons (e_i_copyChan k) (es_cons (e_i_PacketOk k) (es_cons (e_x_slices_DeleteFunc_impl_Pending_impl_Pending_of_i_Take_1 k) (es_cons (e_x_slices_Contains_int_int k) (es_cons (e_i_Chan_early k) es_nil))))))) (by kernel_rfl) (by kernel_rfl) (by kernel_rfl) fun x r h => (t_i_Take_z k x).trans h
def i_Take (k : Nat) (x : (Int × Int × Int × List (ByteArray) × (List (Int × ByteArray × Int × Int)) × Int × (List (Int × ByteArray)) × List (Int) × List (ByteArray) × Unit) × (Int × Int × Int × Int × Int × List (Int) × ByteArray × Unit) × Unit) : Option (((Int × Int × Int × List (ByteArray) × (List (Int × ByteArray × Int × Int)) × Int × (List (Int × ByteArray)) × List (Int) × List (ByteArray) × Unit) × Bool × Unit) × Unit × Unit × Unit) := i_Take_z k x
abbrev E_i_Take (k : Nat) : Entry := ⟨131, 0, (.cons (.agg yP6) (.cons (.agg yP11) .nil)), (.tup (.cons (.agg yP2) (.cons .bool .nil))), i_Take k⟩
theorem e_i_Take [Names] (k : Nat) : EntryOk Try.prog (E_i_Take k) := frz_entry (p := (.cons (.agg yP6) (.cons (.agg yP11) .nil))) (by kernel_rfl) (fun x r h => ⟨r.2, h, rfl⟩) (e_i_Take_z k)
def i_Talk_come (k : Nat) (x : ((List (Int × Int × Int × List (ByteArray) × List (Int × ByteArray × Int × Int) × Int × List (Int × ByteArray) × List (Int) × List (ByteArray))) × Int × (List (Int × Int × Int × Int × Int × List (Int) × ByteArray)) × Unit) × (Int × Int × Int × Int × Int × List (Int) × ByteArray × Unit) × Unit) : Option (Unit × ((List (Int × Int × Int × List (ByteArray) × List (Int × ByteArray × Int × Int) × Int × List (Int × ByteArray) × List (Int) × List (ByteArray))) × Int × (List (Int × Int × Int × Int × Int × List (Int) × ByteArray)) × Unit) × Unit × Unit) :=
(if (decide ((0 : Int) < (List.length x.1.1 : Int))) = true then
(jn (fun (j2v0 : List (Int × Int × Int × List (ByteArray) × List (Int × ByteArray × Int × Int) × Int × List (Int × ByteArray) × List (Int) × List (ByteArray))) =>
(if (decide ((wi64 ((0 : Int) + (1 : Int))) < (List.length x.1.1 : Int))) = true then
(jn (fun (j3v0 : List (Int × Int × Int × List (ByteArray) × List (Int × ByteArray × Int × Int) × Int × List (Int × ByteArray) × List (Int) × List (ByteArray))) =>
(if (decide ((wi64 ((wi64 ((0 : Int) + (1 : Int))) + (1 : Int))) < (List.length x.1.1 : Int))) = true then
(if 0 ≤ (wi64 ((wi64 ((0 : Int) + (1 : Int))) + (1 : Int))) ∧ (wi64 ((wi64 ((0 : Int) + (1 : Int))) + (1 : Int))) < (List.length j3v0 : Int) then
(if (decide ((Ty.rd (t := yT0) j3v0 (wi64 ((wi64 ((0 : Int) + (1 : Int))) + (1 : Int)))).1 = x.2.1.2.2.2.1)) = true then
((i_Take k (((Ty.rd (t := yT0) j3v0 (wi64 ((wi64 ((0 : Int) + (1 : Int))) + (1 : Int)))).1, ((Ty.rd (t := yT0) j3v0 (wi64 ((wi64 ((0 : Int) + (1 : Int))) + (1 : Int)))).2.1, ((Ty.rd (t := yT0) j3v0 (wi64 ((wi64 ((0 : Int) + (1 : Int))) + (1 : Int)))).2.2.1, ((Ty.rd (t := yT0) j3v0 (wi64 ((wi64 ((0 : Int) + (1 : Int))) + (1 : Int)))).2.2.2.1, ((Ty.rd (t := yT0) j3v0 (wi64 ((wi64 ((0 : Int) + (1 : Int))) + (1 : Int)))).2.2.2.2.1, ((Ty.rd (t := yT0) j3v0 (wi64 ((wi64 ((0 : Int) + (1 : Int))) + (1 : Int)))).2.2.2.2.2.1, ((Ty.rd (t := yT0) j3v0 (wi64 ((wi64 ((0 : Int) + (1 : Int))) + (1 : Int)))).2.2.2.2.2.2.1, ((Ty.rd (t := yT0) j3v0 (wi64 ((wi64 ((0 : Int) + (1 : Int))) + (1 : Int)))).2.2.2.2.2.2.2.1, ((Ty.rd (t := yT0) j3v0 (wi64 ((wi64 ((0 : Int) + (1 : Int))) + (1 : Int)))).2.2.2.2.2.2.2.2, ()))))))))), ((x.2.1.1, (x.2.1.2.1, (x.2.1.2.2.1, (x.2.1.2.2.2.1, (x.2.1.2.2.2.2.1, (x.2.1.2.2.2.2.2.1, (x.2.1.2.2.2.2.2.2.1, ()))))))), ()))).bind fun p7 =>
(if 0 ≤ (wi64 ((wi64 ((0 : Int) + (1 : Int))) + (1 : Int))) ∧ (wi64 ((wi64 ((0 : Int) + (1 : Int))) + (1 : Int))) < (List.length j3v0 : Int) then
none
else none))
else
none)
else none)
else
some ((), ((j3v0, (x.1.2.1, (x.1.2.2.1, ()))), ((), ()))))) (fun (j3 : (List (Int × Int × Int × List (ByteArray) × List (Int × ByteArray × Int × Int) × Int × List (Int × ByteArray) × List (Int) × List (ByteArray))) → Option _) =>
(if 0 ≤ (wi64 ((0 : Int) + (1 : Int))) ∧ (wi64 ((0 : Int) + (1 : Int))) < (List.length j2v0 : Int) then
(if (decide ((Ty.rd (t := yT0) j2v0 (wi64 ((0 : Int) + (1 : Int)))).1 = x.2.1.2.2.2.1)) = true then
((i_Take k (((Ty.rd (t := yT0) j2v0 (wi64 ((0 : Int) + (1 : Int)))).1, ((Ty.rd (t := yT0) j2v0 (wi64 ((0 : Int) + (1 : Int)))).2.1, ((Ty.rd (t := yT0) j2v0 (wi64 ((0 : Int) + (1 : Int)))).2.2.1, ((Ty.rd (t := yT0) j2v0 (wi64 ((0 : Int) + (1 : Int)))).2.2.2.1, ((Ty.rd (t := yT0) j2v0 (wi64 ((0 : Int) + (1 : Int)))).2.2.2.2.1, ((Ty.rd (t := yT0) j2v0 (wi64 ((0 : Int) + (1 : Int)))).2.2.2.2.2.1, ((Ty.rd (t := yT0) j2v0 (wi64 ((0 : Int) + (1 : Int)))).2.2.2.2.2.2.1, ((Ty.rd (t := yT0) j2v0 (wi64 ((0 : Int) + (1 : Int)))).2.2.2.2.2.2.2.1, ((Ty.rd (t := yT0) j2v0 (wi64 ((0 : Int) + (1 : Int)))).2.2.2.2.2.2.2.2, ()))))))))), ((x.2.1.1, (x.2.1.2.1, (x.2.1.2.2.1, (x.2.1.2.2.2.1, (x.2.1.2.2.2.2.1, (x.2.1.2.2.2.2.2.1, (x.2.1.2.2.2.2.2.2.1, ()))))))), ()))).bind fun p5 =>
(if 0 ≤ (wi64 ((0 : Int) + (1 : Int))) ∧ (wi64 ((0 : Int) + (1 : Int))) < (List.length j2v0 : Int) then
(j3 (List.set j2v0 (Int.toNat (wi64 ((0 : Int) + (1 : Int)))) (p5.1.1.1, (p5.1.1.2.1, (p5.1.1.2.2.1, (p5.1.1.2.2.2.1, (p5.1.1.2.2.2.2.1, (p5.1.1.2.2.2.2.2.1, (p5.1.1.2.2.2.2.2.2.1, (p5.1.1.2.2.2.2.2.2.2.1, p5.1.1.2.2.2.2.2.2.2.2.1))))))))))
else none))
else
(j3 j2v0))
else none)))
else
some ((), ((j2v0, (x.1.2.1, (x.1.2.2.1, ()))), ((), ()))))) (fun (j2 : (List (Int × Int × Int × List (ByteArray) × List (Int × ByteArray × Int × Int) × Int × List (Int × ByteArray) × List (Int) × List (ByteArray))) → Option _) =>
(if 0 ≤ (0 : Int) ∧ (0 : Int) < (List.length x.1.1 : Int) then
(if (decide ((Ty.rd (t := yT0) x.1.1 (0 : Int)).1 = x.2.1.2.2.2.1)) = true then
((i_Take k (((Ty.rd (t := yT0) x.1.1 (0 : Int)).1, ((Ty.rd (t := yT0) x.1.1 (0 : Int)).2.1, ((Ty.rd (t := yT0) x.1.1 (0 : Int)).2.2.1, ((Ty.rd (t := yT0) x.1.1 (0 : Int)).2.2.2.1, ((Ty.rd (t := yT0) x.1.1 (0 : Int)).2.2.2.2.1, ((Ty.rd (t := yT0) x.1.1 (0 : Int)).2.2.2.2.2.1, ((Ty.rd (t := yT0) x.1.1 (0 : Int)).2.2.2.2.2.2.1, ((Ty.rd (t := yT0) x.1.1 (0 : Int)).2.2.2.2.2.2.2.1, ((Ty.rd (t := yT0) x.1.1 (0 : Int)).2.2.2.2.2.2.2.2, ()))))))))), ((x.2.1.1, (x.2.1.2.1, (x.2.1.2.2.1, (x.2.1.2.2.2.1, (x.2.1.2.2.2.2.1, (x.2.1.2.2.2.2.2.1, (x.2.1.2.2.2.2.2.2.1, ()))))))), ()))).bind fun p1 =>
(if 0 ≤ (0 : Int) ∧ (0 : Int) < (List.length x.1.1 : Int) then
(j2 (List.set x.1.1 (Int.toNat (0 : Int)) (p1.1.1.1, (p1.1.1.2.1, (p1.1.1.2.2.1, (p1.1.1.2.2.2.1, (p1.1.1.2.2.2.2.1, (p1.1.1.2.2.2.2.2.1, (p1.1.1.2.2.2.2.2.2.1, (p1.1.1.2.2.2.2.2.2.2.1, p1.1.1.2.2.2.2.2.2.2.2.1))))))))))
else none))
else
(j2 x.1.1))
else none)))
else
some ((), ((x.1.1, (x.1.2.1, (x.1.2.2.1, ()))), ((), ()))))
abbrev E_i_Talk_come (k : Nat) : Entry := ⟨87, 0, (.cons (.ptr 0 yP1) (.cons (.agg yP11) .nil)), (.tup .nil), i_Talk_come k⟩
theorem t_i_Talk_come (k : Nat) (x) : evF TTabO k [E_i_Take k] [] Try.f87 (.cons (.ptr 0 yP1) (.cons (.agg yP11) .nil)) (.tup .nil) x = i_Talk_come k x := by kernel_rfl
theorem e_i_Talk_come [Names] (k : Nat) : EntryOk Try.prog (E_i_Talk_come k) := entry_ok tokO (es_cons (e_i_Take k) es_nil) (by kernel_rfl) (by kernel_rfl) (by kernel_rfl) fun x r h => (t_i_Talk_come k x).trans h
def i_copyPacket (k : Nat) (x : (Int × Int × Int × Int × Int × List (Int) × ByteArray × Unit) × Unit) : Option ((Int × Int × Int × Int × Int × List (Int) × ByteArray × Unit) × Unit × Unit) :=
((i_copyInts k (x.1.2.2.2.2.2.1, ())).bind fun p1 =>
some ((x.1.1, (x.1.2.1, (x.1.2.2.1, (x.1.2.2.2.1, (x.1.2.2.2.2.1, (p1.1, (x.1.2.2.2.2.2.2.1, ()))))))), ((), ())))
abbrev E_i_copyPacket (k : Nat) : Entry := ⟨129, 0, (.cons (.agg yP11) .nil), yP15, i_copyPacket k⟩
theorem t_i_copyPacket (k : Nat) (x) : evF TTab k [E_i_copyInts k] [] Try.f129 (.cons (.agg yP11) .nil) yP15 x = i_copyPacket k x := by kernel_rfl
theorem e_i_copyPacket [Names] (k : Nat) : EntryOk Try.prog (E_i_copyPacket k) := entry_ok tok (es_cons (e_i_copyInts k) es_nil) (by kernel_rfl) (by kernel_rfl) (by kernel_rfl) fun x r h => (t_i_copyPacket k x).trans h
def i_Talk_turn (k : Nat) (x : ((List (Int × Int × Int × List (ByteArray) × List (Int × ByteArray × Int × Int) × Int × List (Int × ByteArray) × List (Int) × List (ByteArray))) × Int × (List (Int × Int × Int × Int × Int × List (Int) × ByteArray)) × Unit) × (Int × Int × Int × Unit) × Unit) : Option (Unit × ((List (Int × Int × Int × List (ByteArray) × List (Int × ByteArray × Int × Int) × Int × List (Int × ByteArray) × List (Int) × List (ByteArray))) × Int × (List (Int × Int × Int × Int × Int × List (Int) × ByteArray)) × Unit) × Unit × Unit) :=
(if (decide (x.2.1.1 = (1 : Int))) = true then
((i_Talk_send k ((x.1.1, (x.1.2.1, (x.1.2.2.1, ()))), (x.2.1.2.1, ()))).bind fun p1 =>
some ((), ((p1.2.1.1, (p1.2.1.2.1, (p1.2.1.2.2.1, ()))), ((), ()))))
else
(if (decide ((List.length x.1.2.2.1 : Int) = (0 : Int))) = true then
some ((), ((x.1.1, (x.1.2.1, (x.1.2.2.1, ()))), ((), ())))
else
(if (List.length x.1.2.2.1 : Int) = 0 then
none
else
(if (decide (x.2.1.1 = (2 : Int))) = true then
((i_Talk_lose k ((x.1.1, (x.1.2.1, (x.1.2.2.1, ()))), ((Int.tmod x.2.1.2.2.1 (List.length x.1.2.2.1 : Int)), ()))).bind fun p2 =>
((i_Talk_come k ((p2.2.1.1, (p2.2.1.2.1, (p2.2.1.2.2.1, ()))), ((p2.1.1, (p2.1.2.1, (p2.1.2.2.1, (p2.1.2.2.2.1, (p2.1.2.2.2.2.1, (p2.1.2.2.2.2.2.1, (p2.1.2.2.2.2.2.2.1, ()))))))), ()))).bind fun p3 =>
some ((), ((p3.2.1.1, (p3.2.1.2.1, (p3.2.1.2.2.1, ()))), ((), ())))))
else
(if (decide (x.2.1.1 = (3 : Int))) = true then
((i_Talk_lose k ((x.1.1, (x.1.2.1, (x.1.2.2.1, ()))), ((Int.tmod x.2.1.2.2.1 (List.length x.1.2.2.1 : Int)), ()))).bind fun p4 =>
some ((), ((p4.2.1.1, (p4.2.1.2.1, (p4.2.1.2.2.1, ()))), ((), ()))))
else
(if 0 ≤ (Int.tmod x.2.1.2.2.1 (List.length x.1.2.2.1 : Int)) ∧ (Int.tmod x.2.1.2.2.1 (List.length x.1.2.2.1 : Int)) < (List.length x.1.2.2.1 : Int) then
((i_copyPacket k (((Ty.rd (t := yT5) x.1.2.2.1 (Int.tmod x.2.1.2.2.1 (List.length x.1.2.2.1 : Int))).1, ((Ty.rd (t := yT5) x.1.2.2.1 (Int.tmod x.2.1.2.2.1 (List.length x.1.2.2.1 : Int))).2.1, ((Ty.rd (t := yT5) x.1.2.2.1 (Int.tmod x.2.1.2.2.1 (List.length x.1.2.2.1 : Int))).2.2.1, ((Ty.rd (t := yT5) x.1.2.2.1 (Int.tmod x.2.1.2.2.1 (List.length x.1.2.2.1 : Int))).2.2.2.1, ((Ty.rd (t := yT5) x.1.2.2.1 (Int.tmod x.2.1.2.2.1 (List.length x.1.2.2.1 : Int))).2.2.2.2.1, ((Ty.rd (t := yT5) x.1.2.2.1 (Int.tmod x.2.1.2.2.1 (List.length x.1.2.2.1 : Int))).2.2.2.2.2.1, ((Ty.rd (t := yT5) x.1.2.2.1 (Int.tmod x.2.1.2.2.1 (List.length x.1.2.2.1 : Int))).2.2.2.2.2.2, ()))))))), ())).bind fun p5 =>
(if List.length x.1.2.2.1 + List.length ([(p5.1.1, (p5.1.2.1, (p5.1.2.2.1, (p5.1.2.2.2.1, (p5.1.2.2.2.2.1, (p5.1.2.2.2.2.2.1, p5.1.2.2.2.2.2.2.1))))))] : List (Int × Int × Int × Int × Int × List (Int) × ByteArray)) ≤ capMax then
some ((), ((x.1.1, (x.1.2.1, ((x.1.2.2.1 ++ ([(p5.1.1, (p5.1.2.1, (p5.1.2.2.1, (p5.1.2.2.2.1, (p5.1.2.2.2.2.1, (p5.1.2.2.2.2.2.1, p5.1.2.2.2.2.2.2.1))))))] : List (Int × Int × Int × Int × Int × List (Int) × ByteArray))), ()))), ((), ())))
else none))
else none))))))
abbrev E_i_Talk_turn (k : Nat) : Entry := ⟨83, 0, (.cons (.ptr 0 yP1) (.cons (.agg (.cons (.int .i64) yP8)) .nil)), (.tup .nil), i_Talk_turn k⟩
theorem t_i_Talk_turn (k : Nat) (x) : evF TTabO k [E_i_Talk_send k, E_i_Talk_lose k, E_i_Talk_come k, E_i_copyPacket k] [] Try.f83 (.cons (.ptr 0 yP1) (.cons (.agg (.cons (.int .i64) yP8)) .nil)) (.tup .nil) x = i_Talk_turn k x := by kernel_rfl
theorem e_i_Talk_turn [Names] (k : Nat) : EntryOk Try.prog (E_i_Talk_turn k) := entry_ok tokO (es_cons (e_i_Talk_send k) (es_cons (e_i_Talk_lose k) (es_cons (e_i_Talk_come k) (es_cons (e_i_copyPacket k) es_nil)))) (by kernel_rfl) (by kernel_rfl) (by kernel_rfl) fun x r h => (t_i_Talk_turn k x).trans h
def i_RunTalk_z (k : Nat) (x : List (ByteArray) × List (ByteArray) × (List (Int × Int × Int)) × Unit) : Option ((((List (Int × Int × Int × List (ByteArray) × List (Int × ByteArray × Int × Int) × Int × List (Int × ByteArray) × List (Int) × List (ByteArray))) × Int × (List (Int × Int × Int × Int × Int × List (Int) × ByteArray)) × Unit) × Bool × Unit) × Unit × Unit × Unit × Unit) :=
(if (decide ((20 : Int) < (List.length x.1 : Int))) = false then
(if (decide ((20 : Int) < (List.length x.2.1 : Int))) = false then
(if (decide ((100 : Int) < (List.length x.2.2.1 : Int))) = true then
some ((([], ((0 : Int), ([], ()))), (false, ())), ((), ((), ((), ()))))
else
(whileK (fun (rec0 : (List (ByteArray) × List (ByteArray) × (List (Int × Int × Int)) × ((List (Int × Int × Int × List (ByteArray) × List (Int × ByteArray × Int × Int) × Int × List (Int × ByteArray) × List (Int) × List (ByteArray))) × Int × (List (Int × Int × Int × Int × Int × List (Int) × ByteArray)) × Unit) × (List (Int × Int × Int)) × Int × Int × Unit) → Option _) (y0 : List (ByteArray) × List (ByteArray) × (List (Int × Int × Int)) × ((List (Int × Int × Int × List (ByteArray) × List (Int × ByteArray × Int × Int) × Int × List (Int × ByteArray) × List (Int) × List (ByteArray))) × Int × (List (Int × Int × Int × Int × Int × List (Int) × ByteArray)) × Unit) × (List (Int × Int × Int)) × Int × Int × Unit) =>
(if (decide (y0.2.2.2.2.2.2.1 < y0.2.2.2.2.2.1)) = true then
(if 0 ≤ y0.2.2.2.2.2.2.1 ∧ y0.2.2.2.2.2.2.1 < (List.length y0.2.2.2.2.1 : Int) then
((i_TurnOk k (((Ty.rd (t := yT12) y0.2.2.2.2.1 y0.2.2.2.2.2.2.1).1, ((Ty.rd (t := yT12) y0.2.2.2.2.1 y0.2.2.2.2.2.2.1).2.1, ((Ty.rd (t := yT12) y0.2.2.2.2.1 y0.2.2.2.2.2.2.1).2.2, ()))), ())).bind fun p1 =>
(if (!p1.1) = true then
some ((([], ((0 : Int), ([], ()))), (false, ())), ((), ((), ((), ()))))
else
(rec0 (y0.1, (y0.2.1, (y0.2.2.1, ((y0.2.2.2.1.1, (y0.2.2.2.1.2.1, (y0.2.2.2.1.2.2.1, ()))), (y0.2.2.2.2.1, (y0.2.2.2.2.2.1, ((wi64 (y0.2.2.2.2.2.2.1 + (1 : Int))), ()))))))))))
else none)
else
((fun (z1 : List (ByteArray) × List (ByteArray) × (List (Int × Int × Int)) × ((List (Int × Int × Int × List (ByteArray) × List (Int × ByteArray × Int × Int) × Int × List (Int × ByteArray) × List (Int) × List (ByteArray))) × Int × (List (Int × Int × Int × Int × Int × List (Int) × ByteArray)) × Unit) × Unit) =>
(whileK (fun (rec2 : ((List (Int × Int × Int)) × ((List (Int × Int × Int × List (ByteArray) × List (Int × ByteArray × Int × Int) × Int × List (Int × ByteArray) × List (Int) × List (ByteArray))) × Int × (List (Int × Int × Int × Int × Int × List (Int) × ByteArray)) × Unit) × ((List (Int × Int × Int × List (ByteArray) × List (Int × ByteArray × Int × Int) × Int × List (Int × ByteArray) × List (Int) × List (ByteArray))) × Int × (List (Int × Int × Int × Int × Int × List (Int) × ByteArray)) × Unit) × List (List (ByteArray)) × Int × Int × Unit) → Option _) (y2 : (List (Int × Int × Int)) × ((List (Int × Int × Int × List (ByteArray) × List (Int × ByteArray × Int × Int) × Int × List (Int × ByteArray) × List (Int) × List (ByteArray))) × Int × (List (Int × Int × Int × Int × Int × List (Int) × ByteArray)) × Unit) × ((List (Int × Int × Int × List (ByteArray) × List (Int × ByteArray × Int × Int) × Int × List (Int × ByteArray) × List (Int) × List (ByteArray))) × Int × (List (Int × Int × Int × Int × Int × List (Int) × ByteArray)) × Unit) × List (List (ByteArray)) × Int × Int × Unit) =>
(if (decide (y2.2.2.2.2.2.1 < y2.2.2.2.2.1)) = true then
(if 0 ≤ y2.2.2.2.2.2.1 ∧ y2.2.2.2.2.2.1 < (List.length y2.2.2.2.1 : Int) then
((i_ChanNew k ((wi64 (y2.2.2.2.2.2.1 + (1 : Int))), ((wi64 ((2 : Int) - y2.2.2.2.2.2.1)), ()))).bind fun p2 =>
(whileK (fun (rec4 : ((List (Int × Int × Int)) × ((List (Int × Int × Int × List (ByteArray) × List (Int × ByteArray × Int × Int) × Int × List (Int × ByteArray) × List (Int) × List (ByteArray))) × Int × (List (Int × Int × Int × Int × Int × List (Int) × ByteArray)) × Unit) × ((List (Int × Int × Int × List (ByteArray) × List (Int × ByteArray × Int × Int) × Int × List (Int × ByteArray) × List (Int) × List (ByteArray))) × Int × (List (Int × Int × Int × Int × Int × List (Int) × ByteArray)) × Unit) × (Int × Int × Int × List (ByteArray) × (List (Int × ByteArray × Int × Int)) × Int × (List (Int × ByteArray)) × List (Int) × List (ByteArray) × Unit) × List (List (ByteArray)) × Int × Int × List (ByteArray) × Int × Int × Unit) → Option _) (y4 : (List (Int × Int × Int)) × ((List (Int × Int × Int × List (ByteArray) × List (Int × ByteArray × Int × Int) × Int × List (Int × ByteArray) × List (Int) × List (ByteArray))) × Int × (List (Int × Int × Int × Int × Int × List (Int) × ByteArray)) × Unit) × ((List (Int × Int × Int × List (ByteArray) × List (Int × ByteArray × Int × Int) × Int × List (Int × ByteArray) × List (Int) × List (ByteArray))) × Int × (List (Int × Int × Int × Int × Int × List (Int) × ByteArray)) × Unit) × (Int × Int × Int × List (ByteArray) × (List (Int × ByteArray × Int × Int)) × Int × (List (Int × ByteArray)) × List (Int) × List (ByteArray) × Unit) × List (List (ByteArray)) × Int × Int × List (ByteArray) × Int × Int × Unit) =>
(if (decide (y4.2.2.2.2.2.2.2.2.2.1 < y4.2.2.2.2.2.2.2.2.1)) = true then
(if 0 ≤ y4.2.2.2.2.2.2.2.2.2.1 ∧ y4.2.2.2.2.2.2.2.2.2.1 < (List.length y4.2.2.2.2.2.2.2.1 : Int) then
((i_Push k ((y4.2.2.2.1.1, (y4.2.2.2.1.2.1, (y4.2.2.2.1.2.2.1, (y4.2.2.2.1.2.2.2.1, (y4.2.2.2.1.2.2.2.2.1, (y4.2.2.2.1.2.2.2.2.2.1, (y4.2.2.2.1.2.2.2.2.2.2.1, (y4.2.2.2.1.2.2.2.2.2.2.2.1, (y4.2.2.2.1.2.2.2.2.2.2.2.2.1, ()))))))))), ((Ty.rd (t := .str) y4.2.2.2.2.2.2.2.1 y4.2.2.2.2.2.2.2.2.2.1), ()))).bind fun p3 =>
(rec4 (y4.1, ((y4.2.1.1, (y4.2.1.2.1, (y4.2.1.2.2.1, ()))), ((y4.2.2.1.1, (y4.2.2.1.2.1, (y4.2.2.1.2.2.1, ()))), ((p3.1.1.1, (p3.1.1.2.1, (p3.1.1.2.2.1, (p3.1.1.2.2.2.1, (p3.1.1.2.2.2.2.1, (p3.1.1.2.2.2.2.2.1, (p3.1.1.2.2.2.2.2.2.1, (p3.1.1.2.2.2.2.2.2.2.1, (p3.1.1.2.2.2.2.2.2.2.2.1, ()))))))))), (y4.2.2.2.2.1, (y4.2.2.2.2.2.1, (y4.2.2.2.2.2.2.1, (y4.2.2.2.2.2.2.2.1, (y4.2.2.2.2.2.2.2.2.1, ((wi64 (y4.2.2.2.2.2.2.2.2.2.1 + (1 : Int))), ()))))))))))))
else none)
else
((fun (z2 : (List (Int × Int × Int)) × ((List (Int × Int × Int × List (ByteArray) × List (Int × ByteArray × Int × Int) × Int × List (Int × ByteArray) × List (Int) × List (ByteArray))) × Int × (List (Int × Int × Int × Int × Int × List (Int) × ByteArray)) × Unit) × ((List (Int × Int × Int × List (ByteArray) × List (Int × ByteArray × Int × Int) × Int × List (Int × ByteArray) × List (Int) × List (ByteArray))) × Int × (List (Int × Int × Int × Int × Int × List (Int) × ByteArray)) × Unit) × (Int × Int × Int × List (ByteArray) × (List (Int × ByteArray × Int × Int)) × Int × (List (Int × ByteArray)) × List (Int) × List (ByteArray) × Unit) × List (List (ByteArray)) × Int × Int × Unit) =>
(if List.length z2.2.2.1.1 + List.length ([(z2.2.2.2.1.1, (z2.2.2.2.1.2.1, (z2.2.2.2.1.2.2.1, (z2.2.2.2.1.2.2.2.1, (z2.2.2.2.1.2.2.2.2.1, (z2.2.2.2.1.2.2.2.2.2.1, (z2.2.2.2.1.2.2.2.2.2.2.1, (z2.2.2.2.1.2.2.2.2.2.2.2.1, z2.2.2.2.1.2.2.2.2.2.2.2.2.1))))))))] : List (Int × Int × Int × List (ByteArray) × List (Int × ByteArray × Int × Int) × Int × List (Int × ByteArray) × List (Int) × List (ByteArray))) ≤ capMax then
(rec2 (z2.1, ((z2.2.1.1, (z2.2.1.2.1, (z2.2.1.2.2.1, ()))), (((z2.2.2.1.1 ++ ([(z2.2.2.2.1.1, (z2.2.2.2.1.2.1, (z2.2.2.2.1.2.2.1, (z2.2.2.2.1.2.2.2.1, (z2.2.2.2.1.2.2.2.2.1, (z2.2.2.2.1.2.2.2.2.2.1, (z2.2.2.2.1.2.2.2.2.2.2.1, (z2.2.2.2.1.2.2.2.2.2.2.2.1, z2.2.2.2.1.2.2.2.2.2.2.2.2.1))))))))] : List (Int × Int × Int × List (ByteArray) × List (Int × ByteArray × Int × Int) × Int × List (Int × ByteArray) × List (Int) × List (ByteArray)))), (z2.2.2.1.2.1, (z2.2.2.1.2.2.1, ()))), (z2.2.2.2.2.1, (z2.2.2.2.2.2.1, ((wi64 (z2.2.2.2.2.2.2.1 + (1 : Int))), ())))))))
else none)) (y4.1, ((y4.2.1.1, (y4.2.1.2.1, (y4.2.1.2.2.1, ()))), ((y4.2.2.1.1, (y4.2.2.1.2.1, (y4.2.2.1.2.2.1, ()))), ((y4.2.2.2.1.1, (y4.2.2.2.1.2.1, (y4.2.2.2.1.2.2.1, (y4.2.2.2.1.2.2.2.1, (y4.2.2.2.1.2.2.2.2.1, (y4.2.2.2.1.2.2.2.2.2.1, (y4.2.2.2.1.2.2.2.2.2.2.1, (y4.2.2.2.1.2.2.2.2.2.2.2.1, (y4.2.2.2.1.2.2.2.2.2.2.2.2.1, ()))))))))), (y4.2.2.2.2.1, (y4.2.2.2.2.2.1, (y4.2.2.2.2.2.2.1, ())))))))))) k (y2.1, ((y2.2.1.1, (y2.2.1.2.1, (y2.2.1.2.2.1, ()))), ((y2.2.2.1.1, (y2.2.2.1.2.1, (y2.2.2.1.2.2.1, ()))), ((p2.1.1.1, (p2.1.1.2.1, (p2.1.1.2.2.1, (p2.1.1.2.2.2.1, (p2.1.1.2.2.2.2.1, (p2.1.1.2.2.2.2.2.1, (p2.1.1.2.2.2.2.2.2.1, (p2.1.1.2.2.2.2.2.2.2.1, (p2.1.1.2.2.2.2.2.2.2.2.1, ()))))))))), (y2.2.2.2.1, (y2.2.2.2.2.1, (y2.2.2.2.2.2.1, ((Ty.rd (t := (.list .str)) y2.2.2.2.1 y2.2.2.2.2.2.1), ((List.length (Ty.rd (t := (.list .str)) y2.2.2.2.1 y2.2.2.2.2.2.1) : Int), ((0 : Int), ()))))))))))))
else none)
else
((fun (z3 : (List (Int × Int × Int)) × ((List (Int × Int × Int × List (ByteArray) × List (Int × ByteArray × Int × Int) × Int × List (Int × ByteArray) × List (Int) × List (ByteArray))) × Int × (List (Int × Int × Int × Int × Int × List (Int) × ByteArray)) × Unit) × ((List (Int × Int × Int × List (ByteArray) × List (Int × ByteArray × Int × Int) × Int × List (Int × ByteArray) × List (Int) × List (ByteArray))) × Int × (List (Int × Int × Int × Int × Int × List (Int) × ByteArray)) × Unit) × Unit) =>
(whileK (fun (rec6 : (((List (Int × Int × Int × List (ByteArray) × List (Int × ByteArray × Int × Int) × Int × List (Int × ByteArray) × List (Int) × List (ByteArray))) × Int × (List (Int × Int × Int × Int × Int × List (Int) × ByteArray)) × Unit) × ((List (Int × Int × Int × List (ByteArray) × List (Int × ByteArray × Int × Int) × Int × List (Int × ByteArray) × List (Int) × List (ByteArray))) × Int × (List (Int × Int × Int × Int × Int × List (Int) × ByteArray)) × Unit) × (List (Int × Int × Int)) × Int × Int × Unit) → Option _) (y6 : ((List (Int × Int × Int × List (ByteArray) × List (Int × ByteArray × Int × Int) × Int × List (Int × ByteArray) × List (Int) × List (ByteArray))) × Int × (List (Int × Int × Int × Int × Int × List (Int) × ByteArray)) × Unit) × ((List (Int × Int × Int × List (ByteArray) × List (Int × ByteArray × Int × Int) × Int × List (Int × ByteArray) × List (Int) × List (ByteArray))) × Int × (List (Int × Int × Int × Int × Int × List (Int) × ByteArray)) × Unit) × (List (Int × Int × Int)) × Int × Int × Unit) =>
(if (decide (y6.2.2.2.2.1 < y6.2.2.2.1)) = true then
(if 0 ≤ y6.2.2.2.2.1 ∧ y6.2.2.2.2.1 < (List.length y6.2.2.1 : Int) then
((i_Talk_turn k ((y6.2.1.1, (y6.2.1.2.1, (y6.2.1.2.2.1, ()))), (((Ty.rd (t := yT12) y6.2.2.1 y6.2.2.2.2.1).1, ((Ty.rd (t := yT12) y6.2.2.1 y6.2.2.2.2.1).2.1, ((Ty.rd (t := yT12) y6.2.2.1 y6.2.2.2.2.1).2.2, ()))), ()))).bind fun p4 =>
(rec6 ((y6.1.1, (y6.1.2.1, (y6.1.2.2.1, ()))), ((p4.2.1.1, ((wi64 (p4.2.1.2.1 + (3 : Int))), (p4.2.1.2.2.1, ()))), (y6.2.2.1, (y6.2.2.2.1, ((wi64 (y6.2.2.2.2.1 + (1 : Int))), ())))))))
else none)
else
((fun (z4 : ((List (Int × Int × Int × List (ByteArray) × List (Int × ByteArray × Int × Int) × Int × List (Int × ByteArray) × List (Int) × List (ByteArray))) × Int × (List (Int × Int × Int × Int × Int × List (Int) × ByteArray)) × Unit) × ((List (Int × Int × Int × List (ByteArray) × List (Int × ByteArray × Int × Int) × Int × List (Int × ByteArray) × List (Int) × List (ByteArray))) × Int × (List (Int × Int × Int × Int × Int × List (Int) × ByteArray)) × Unit) × Unit) =>
some (((z4.2.1.1, (z4.2.1.2.1, (z4.2.1.2.2.1, ()))), (true, ())), ((), ((), ((), ()))))) ((y6.1.1, (y6.1.2.1, (y6.1.2.2.1, ()))), ((y6.2.1.1, (y6.2.1.2.1, (y6.2.1.2.2.1, ()))), ()))))) k ((z3.2.1.1, (z3.2.1.2.1, (z3.2.1.2.2.1, ()))), ((z3.2.2.1.1, (z3.2.2.1.2.1, (z3.2.2.1.2.2.1, ()))), (z3.1, ((List.length z3.1 : Int), ((0 : Int), ()))))))) (y2.1, ((y2.2.1.1, (y2.2.1.2.1, (y2.2.1.2.2.1, ()))), ((y2.2.2.1.1, (y2.2.2.1.2.1, (y2.2.2.1.2.2.1, ()))), ())))))) k (z1.2.2.1, ((z1.2.2.2.1.1, (z1.2.2.2.1.2.1, (z1.2.2.2.1.2.2.1, ()))), (([], ((0 : Int), ([], ()))), (([z1.1, z1.2.1] : List (List (ByteArray))), ((List.length ([z1.1, z1.2.1] : List (List (ByteArray))) : Int), ((0 : Int), ())))))))) (y0.1, (y0.2.1, (y0.2.2.1, ((y0.2.2.2.1.1, (y0.2.2.2.1.2.1, (y0.2.2.2.1.2.2.1, ()))), ()))))))) k (x.1, (x.2.1, (x.2.2.1, (([], ((0 : Int), ([], ()))), (x.2.2.1, ((List.length x.2.2.1 : Int), ((0 : Int), ())))))))))
else
some ((([], ((0 : Int), ([], ()))), (false, ())), ((), ((), ((), ())))))
else
some ((([], ((0 : Int), ([], ()))), (false, ())), ((), ((), ((), ())))))
abbrev E_i_RunTalk_z (k : Nat) : Entry := ⟨30, 0, (.cons (.il false .str) (.cons (.il false .str) (.cons (.il false yT12) .nil))), (.tup (.cons (.agg yP1) (.cons .bool .nil))), i_RunTalk_z k⟩
theorem t_i_RunTalk_z (k : Nat) (x) : evF TTabO k [E_i_TurnOk k, E_i_ChanNew k, E_i_Push k, E_i_Talk_turn k] [(0, ⟨[0, 1, 2, 6, 33, 34, 35], (.cons (.il false .str) (.cons (.il false .str) (.cons (.il false yT12) (.cons (.ptr 0 yP1) (.cons (.il false yT12) yP8)))))⟩, ⟨[0, 1, 2, 6], (.cons (.il false .str) (.cons (.il false .str) (.cons (.il false yT12) (.cons (.ptr 0 yP1) .nil))))⟩), (2, ⟨[2, 6, 10, 47, 48, 49], (.cons (.il false yT12) (.cons (.ptr 0 yP1) (.cons (.ptr 0 yP1) (.cons (.own false 26 (.list .str)) yP8))))⟩, ⟨[2, 6, 10], (.cons (.il false yT12) (.cons (.ptr 0 yP1) (.cons (.ptr 0 yP1) .nil)))⟩), (4, ⟨[2, 6, 10, 13, 47, 48, 49, 62, 63, 64], (.cons (.il false yT12) (.cons (.ptr 0 yP1) (.cons (.ptr 0 yP1) (.cons (.ptr 0 yP2) (.cons (.own false 26 (.list .str)) (.cons (.int .i64) (.cons (.int .i64) (.cons (.il false .str) yP8))))))))⟩, ⟨[2, 6, 10, 13, 47, 48, 49], (.cons (.il false yT12) (.cons (.ptr 0 yP1) (.cons (.ptr 0 yP1) (.cons (.ptr 0 yP2) (.cons (.own false 26 (.list .str)) yP8)))))⟩), (6, ⟨[6, 10, 82, 83, 84], (.cons (.ptr 0 yP1) (.cons (.ptr 0 yP1) (.cons (.il false yT12) yP8)))⟩, ⟨[6, 10], (.cons (.ptr 0 yP1) (.cons (.ptr 0 yP1) .nil))⟩)] Try.f30 (.cons (.il false .str) (.cons (.il false .str) (.cons (.il false yT12) .nil))) (.tup (.cons (.agg yP1) (.cons .bool .nil))) x = i_RunTalk_z k x := by kernel_rfl
theorem e_i_RunTalk_z [Names] (k : Nat) : EntryOk Try.prog (E_i_RunTalk_z k) := entry_ok tokO (es_cons (e_i_TurnOk k) (es_cons (e_i_ChanNew k) (es_cons (e_i_Push k) (es_cons (e_i_Talk_turn k) es_nil)))) (by kernel_rfl) (by kernel_rfl) (by kernel_rfl) fun x r h => (t_i_RunTalk_z k x).trans h
def i_RunTalk (k : Nat) (x : List (ByteArray) × List (ByteArray) × (List (Int × Int × Int)) × Unit) : Option ((((List (Int × Int × Int × List (ByteArray) × List (Int × ByteArray × Int × Int) × Int × List (Int × ByteArray) × List (Int) × List (ByteArray))) × Int × (List (Int × Int × Int × Int × Int × List (Int) × ByteArray)) × Unit) × Bool × Unit) × Unit × Unit × Unit × Unit) := i_RunTalk_z k x
abbrev E_i_RunTalk (k : Nat) : Entry := ⟨30, 0, (.cons (.il true .str) (.cons (.il true .str) (.cons (.il true yT12) .nil))), (.tup (.cons (.agg yP1) (.cons .bool .nil))), i_RunTalk k⟩
theorem e_i_RunTalk [Names] (k : Nat) : EntryOk Try.prog (E_i_RunTalk k) := frz_entry (p := (.cons (.il true .str) (.cons (.il true .str) (.cons (.il true yT12) .nil)))) (by kernel_rfl) (fun x r h => ⟨r.2, h, rfl⟩) (e_i_RunTalk_z k)
def i_copyTalk (k : Nat) (x : ((List (Int × Int × Int × List (ByteArray) × List (Int × ByteArray × Int × Int) × Int × List (Int × ByteArray) × List (Int) × List (ByteArray))) × Int × (List (Int × Int × Int × Int × Int × List (Int) × ByteArray)) × Unit) × Unit) : Option (((List (Int × Int × Int × List (ByteArray) × List (Int × ByteArray × Int × Int) × Int × List (Int × ByteArray) × List (Int) × List (ByteArray))) × Int × (List (Int × Int × Int × Int × Int × List (Int) × ByteArray)) × Unit) × Unit × Unit) :=
(whileK (fun (rec0 : (((List (Int × Int × Int × List (ByteArray) × List (Int × ByteArray × Int × Int) × Int × List (Int × ByteArray) × List (Int) × List (ByteArray))) × Int × (List (Int × Int × Int × Int × Int × List (Int) × ByteArray)) × Unit) × ((List (Int × Int × Int × List (ByteArray) × List (Int × ByteArray × Int × Int) × Int × List (Int × ByteArray) × List (Int) × List (ByteArray))) × Int × (List (Int × Int × Int × Int × Int × List (Int) × ByteArray)) × Unit) × ((List (Int × Int × Int × List (ByteArray) × List (Int × ByteArray × Int × Int) × Int × List (Int × ByteArray) × List (Int) × List (ByteArray))) × Int × (List (Int × Int × Int × Int × Int × List (Int) × ByteArray)) × Unit) × (List (Int × Int × Int × List (ByteArray) × List (Int × ByteArray × Int × Int) × Int × List (Int × ByteArray) × List (Int) × List (ByteArray))) × Int × Int × Unit) → Option _) (y0 : ((List (Int × Int × Int × List (ByteArray) × List (Int × ByteArray × Int × Int) × Int × List (Int × ByteArray) × List (Int) × List (ByteArray))) × Int × (List (Int × Int × Int × Int × Int × List (Int) × ByteArray)) × Unit) × ((List (Int × Int × Int × List (ByteArray) × List (Int × ByteArray × Int × Int) × Int × List (Int × ByteArray) × List (Int) × List (ByteArray))) × Int × (List (Int × Int × Int × Int × Int × List (Int) × ByteArray)) × Unit) × ((List (Int × Int × Int × List (ByteArray) × List (Int × ByteArray × Int × Int) × Int × List (Int × ByteArray) × List (Int) × List (ByteArray))) × Int × (List (Int × Int × Int × Int × Int × List (Int) × ByteArray)) × Unit) × (List (Int × Int × Int × List (ByteArray) × List (Int × ByteArray × Int × Int) × Int × List (Int × ByteArray) × List (Int) × List (ByteArray))) × Int × Int × Unit) =>
(if (decide (y0.2.2.2.2.2.1 < y0.2.2.2.2.1)) = true then
(if 0 ≤ y0.2.2.2.2.2.1 ∧ y0.2.2.2.2.2.1 < (List.length y0.2.2.2.1 : Int) then
((i_copyChan k (((Ty.rd (t := yT4) y0.2.2.2.1 y0.2.2.2.2.2.1).1, ((Ty.rd (t := yT4) y0.2.2.2.1 y0.2.2.2.2.2.1).2.1, ((Ty.rd (t := yT4) y0.2.2.2.1 y0.2.2.2.2.2.1).2.2.1, ((Ty.rd (t := yT4) y0.2.2.2.1 y0.2.2.2.2.2.1).2.2.2.1, ((Ty.rd (t := yT4) y0.2.2.2.1 y0.2.2.2.2.2.1).2.2.2.2.1, ((Ty.rd (t := yT4) y0.2.2.2.1 y0.2.2.2.2.2.1).2.2.2.2.2.1, ((Ty.rd (t := yT4) y0.2.2.2.1 y0.2.2.2.2.2.1).2.2.2.2.2.2.1, ((Ty.rd (t := yT4) y0.2.2.2.1 y0.2.2.2.2.2.1).2.2.2.2.2.2.2.1, ((Ty.rd (t := yT4) y0.2.2.2.1 y0.2.2.2.2.2.1).2.2.2.2.2.2.2.2, ()))))))))), ())).bind fun p1 =>
(if List.length y0.2.2.1.1 + List.length ([(p1.1.1, (p1.1.2.1, (p1.1.2.2.1, (p1.1.2.2.2.1, (p1.1.2.2.2.2.1, (p1.1.2.2.2.2.2.1, (p1.1.2.2.2.2.2.2.1, (p1.1.2.2.2.2.2.2.2.1, p1.1.2.2.2.2.2.2.2.2.1))))))))] : List (Int × Int × Int × List (ByteArray) × List (Int × ByteArray × Int × Int) × Int × List (Int × ByteArray) × List (Int) × List (ByteArray))) ≤ capMax then
(rec0 ((y0.1.1, (y0.1.2.1, (y0.1.2.2.1, ()))), ((y0.2.1.1, (y0.2.1.2.1, (y0.2.1.2.2.1, ()))), (((y0.2.2.1.1 ++ ([(p1.1.1, (p1.1.2.1, (p1.1.2.2.1, (p1.1.2.2.2.1, (p1.1.2.2.2.2.1, (p1.1.2.2.2.2.2.1, (p1.1.2.2.2.2.2.2.1, (p1.1.2.2.2.2.2.2.2.1, p1.1.2.2.2.2.2.2.2.2.1))))))))] : List (Int × Int × Int × List (ByteArray) × List (Int × ByteArray × Int × Int) × Int × List (Int × ByteArray) × List (Int) × List (ByteArray)))), (y0.2.2.1.2.1, (y0.2.2.1.2.2.1, ()))), (y0.2.2.2.1, (y0.2.2.2.2.1, ((wi64 (y0.2.2.2.2.2.1 + (1 : Int))), ())))))))
else none))
else none)
else
((fun (z1 : ((List (Int × Int × Int × List (ByteArray) × List (Int × ByteArray × Int × Int) × Int × List (Int × ByteArray) × List (Int) × List (ByteArray))) × Int × (List (Int × Int × Int × Int × Int × List (Int) × ByteArray)) × Unit) × ((List (Int × Int × Int × List (ByteArray) × List (Int × ByteArray × Int × Int) × Int × List (Int × ByteArray) × List (Int) × List (ByteArray))) × Int × (List (Int × Int × Int × Int × Int × List (Int) × ByteArray)) × Unit) × ((List (Int × Int × Int × List (ByteArray) × List (Int × ByteArray × Int × Int) × Int × List (Int × ByteArray) × List (Int) × List (ByteArray))) × Int × (List (Int × Int × Int × Int × Int × List (Int) × ByteArray)) × Unit) × Unit) =>
(whileK (fun (rec2 : (((List (Int × Int × Int × List (ByteArray) × List (Int × ByteArray × Int × Int) × Int × List (Int × ByteArray) × List (Int) × List (ByteArray))) × Int × (List (Int × Int × Int × Int × Int × List (Int) × ByteArray)) × Unit) × ((List (Int × Int × Int × List (ByteArray) × List (Int × ByteArray × Int × Int) × Int × List (Int × ByteArray) × List (Int) × List (ByteArray))) × Int × (List (Int × Int × Int × Int × Int × List (Int) × ByteArray)) × Unit) × (List (Int × Int × Int × Int × Int × List (Int) × ByteArray)) × Int × Int × Unit) → Option _) (y2 : ((List (Int × Int × Int × List (ByteArray) × List (Int × ByteArray × Int × Int) × Int × List (Int × ByteArray) × List (Int) × List (ByteArray))) × Int × (List (Int × Int × Int × Int × Int × List (Int) × ByteArray)) × Unit) × ((List (Int × Int × Int × List (ByteArray) × List (Int × ByteArray × Int × Int) × Int × List (Int × ByteArray) × List (Int) × List (ByteArray))) × Int × (List (Int × Int × Int × Int × Int × List (Int) × ByteArray)) × Unit) × (List (Int × Int × Int × Int × Int × List (Int) × ByteArray)) × Int × Int × Unit) =>
(if (decide (y2.2.2.2.2.1 < y2.2.2.2.1)) = true then
(if 0 ≤ y2.2.2.2.2.1 ∧ y2.2.2.2.2.1 < (List.length y2.2.2.1 : Int) then
((i_copyPacket k (((Ty.rd (t := yT9) y2.2.2.1 y2.2.2.2.2.1).1, ((Ty.rd (t := yT9) y2.2.2.1 y2.2.2.2.2.1).2.1, ((Ty.rd (t := yT9) y2.2.2.1 y2.2.2.2.2.1).2.2.1, ((Ty.rd (t := yT9) y2.2.2.1 y2.2.2.2.2.1).2.2.2.1, ((Ty.rd (t := yT9) y2.2.2.1 y2.2.2.2.2.1).2.2.2.2.1, ((Ty.rd (t := yT9) y2.2.2.1 y2.2.2.2.2.1).2.2.2.2.2.1, ((Ty.rd (t := yT9) y2.2.2.1 y2.2.2.2.2.1).2.2.2.2.2.2, ()))))))), ())).bind fun p2 =>
(if List.length y2.2.1.2.2.1 + List.length ([(p2.1.1, (p2.1.2.1, (p2.1.2.2.1, (p2.1.2.2.2.1, (p2.1.2.2.2.2.1, (p2.1.2.2.2.2.2.1, p2.1.2.2.2.2.2.2.1))))))] : List (Int × Int × Int × Int × Int × List (Int) × ByteArray)) ≤ capMax then
(rec2 ((y2.1.1, (y2.1.2.1, (y2.1.2.2.1, ()))), ((y2.2.1.1, (y2.2.1.2.1, ((y2.2.1.2.2.1 ++ ([(p2.1.1, (p2.1.2.1, (p2.1.2.2.1, (p2.1.2.2.2.1, (p2.1.2.2.2.2.1, (p2.1.2.2.2.2.2.1, p2.1.2.2.2.2.2.2.1))))))] : List (Int × Int × Int × Int × Int × List (Int) × ByteArray))), ()))), (y2.2.2.1, (y2.2.2.2.1, ((wi64 (y2.2.2.2.2.1 + (1 : Int))), ()))))))
else none))
else none)
else
((fun (z2 : ((List (Int × Int × Int × List (ByteArray) × List (Int × ByteArray × Int × Int) × Int × List (Int × ByteArray) × List (Int) × List (ByteArray))) × Int × (List (Int × Int × Int × Int × Int × List (Int) × ByteArray)) × Unit) × ((List (Int × Int × Int × List (ByteArray) × List (Int × ByteArray × Int × Int) × Int × List (Int × ByteArray) × List (Int) × List (ByteArray))) × Int × (List (Int × Int × Int × Int × Int × List (Int) × ByteArray)) × Unit) × Unit) =>
some ((z2.2.1.1, (z2.2.1.2.1, (z2.2.1.2.2.1, ()))), ((), ()))) ((y2.1.1, (y2.1.2.1, (y2.1.2.2.1, ()))), ((y2.2.1.1, (y2.2.1.2.1, (y2.2.1.2.2.1, ()))), ()))))) k ((z1.2.1.1, (z1.2.1.2.1, (z1.2.1.2.2.1, ()))), ((z1.2.2.1.1, (z1.2.2.1.2.1, (z1.2.2.1.2.2.1, ()))), (z1.1.2.2.1, ((List.length z1.1.2.2.1 : Int), ((0 : Int), ()))))))) ((y0.1.1, (y0.1.2.1, (y0.1.2.2.1, ()))), ((y0.2.1.1, (y0.2.1.2.1, (y0.2.1.2.2.1, ()))), ((y0.2.2.1.1, (y0.2.2.1.2.1, (y0.2.2.1.2.2.1, ()))), ())))))) k ((x.1.1, (x.1.2.1, (x.1.2.2.1, ()))), (([], ((0 : Int), ([], ()))), (([], (x.1.2.1, ([], ()))), (x.1.1, ((List.length x.1.1 : Int), ((0 : Int), ())))))))
abbrev E_i_copyTalk (k : Nat) : Entry := ⟨84, 0, (.cons (.agg (.cons (.il true yT4) (.cons (.int .i64) (.cons (.il true yT9) .nil)))) .nil), (.agg yP1), i_copyTalk k⟩
theorem t_i_copyTalk (k : Nat) (x) : evF TTabO k [E_i_copyChan k, E_i_copyPacket k] [(0, ⟨[1, 2, 3, 12, 13, 14], (.cons (.ptr 0 (.cons (.il true yT4) (.cons (.int .i64) (.cons (.il true yT9) .nil)))) (.cons (.ptr 0 yP1) (.cons (.ptr 0 yP1) (.cons (.il true yT4) yP8))))⟩, ⟨[1, 2, 3], (.cons (.ptr 0 (.cons (.il true yT4) (.cons (.int .i64) (.cons (.il true yT9) .nil)))) (.cons (.ptr 0 yP1) (.cons (.ptr 0 yP1) .nil)))⟩), (2, ⟨[2, 3, 27, 28, 29], (.cons (.ptr 0 yP1) (.cons (.ptr 0 yP1) (.cons (.il true yT9) yP8)))⟩, ⟨[2, 3], (.cons (.ptr 0 yP1) (.cons (.ptr 0 yP1) .nil))⟩)] Try.f84 (.cons (.agg (.cons (.il true yT4) (.cons (.int .i64) (.cons (.il true yT9) .nil)))) .nil) (.agg yP1) x = i_copyTalk k x := by kernel_rfl
theorem e_i_copyTalk [Names] (k : Nat) : EntryOk Try.prog (E_i_copyTalk k) := entry_ok tokO (es_cons (e_i_copyChan k) (es_cons (e_i_copyPacket k) es_nil)) (by kernel_rfl) (by kernel_rfl) (by kernel_rfl) fun x r h => (t_i_copyTalk k x).trans h
def i_Settle (k : Nat) (x : ((List (Int × Int × Int × List (ByteArray) × List (Int × ByteArray × Int × Int) × Int × List (Int × ByteArray) × List (Int) × List (ByteArray))) × Int × (List (Int × Int × Int × Int × Int × List (Int) × ByteArray)) × Unit) × Int × Unit) : Option (((List (Int × Int × Int × List (ByteArray) × List (Int × ByteArray × Int × Int) × Int × List (Int × ByteArray) × List (Int) × List (ByteArray))) × Int × (List (Int × Int × Int × Int × Int × List (Int) × ByteArray)) × Unit) × Unit × Unit × Unit) :=
((i_copyTalk k ((x.1.1, (x.1.2.1, (x.1.2.2.1, ()))), ())).bind fun p1 =>
(if (!decide ((List.length x.1.1 : Int) = (2 : Int))) = true then
some ((p1.1.1, (p1.1.2.1, (p1.1.2.2.1, ()))), ((), ((), ())))
else
(jn (fun (z3 : ((List (Int × Int × Int × List (ByteArray) × List (Int × ByteArray × Int × Int) × Int × List (Int × ByteArray) × List (Int) × List (ByteArray))) × Int × (List (Int × Int × Int × Int × Int × List (Int) × ByteArray)) × Unit) × ((List (Int × Int × Int × List (ByteArray) × List (Int × ByteArray × Int × Int) × Int × List (Int × ByteArray) × List (Int) × List (ByteArray))) × Int × (List (Int × Int × Int × Int × Int × List (Int) × ByteArray)) × Unit) × Unit) =>
some ((z3.2.1.1, (z3.2.1.2.1, (z3.2.1.2.2.1, ()))), ((), ((), ())))) (fun (E3 : (((List (Int × Int × Int × List (ByteArray) × List (Int × ByteArray × Int × Int) × Int × List (Int × ByteArray) × List (Int) × List (ByteArray))) × Int × (List (Int × Int × Int × Int × Int × List (Int) × ByteArray)) × Unit) × ((List (Int × Int × Int × List (ByteArray) × List (Int × ByteArray × Int × Int) × Int × List (Int × ByteArray) × List (Int) × List (ByteArray))) × Int × (List (Int × Int × Int × Int × Int × List (Int) × ByteArray)) × Unit) × Unit) → Option _) =>
(whileK (fun (rec0 : (Int × ((List (Int × Int × Int × List (ByteArray) × List (Int × ByteArray × Int × Int) × Int × List (Int × ByteArray) × List (Int) × List (ByteArray))) × Int × (List (Int × Int × Int × Int × Int × List (Int) × ByteArray)) × Unit) × ((List (Int × Int × Int × List (ByteArray) × List (Int × ByteArray × Int × Int) × Int × List (Int × ByteArray) × List (Int) × List (ByteArray))) × Int × (List (Int × Int × Int × Int × Int × List (Int) × ByteArray)) × Unit) × Int × Unit) → Option _) (y0 : Int × ((List (Int × Int × Int × List (ByteArray) × List (Int × ByteArray × Int × Int) × Int × List (Int × ByteArray) × List (Int) × List (ByteArray))) × Int × (List (Int × Int × Int × Int × Int × List (Int) × ByteArray)) × Unit) × ((List (Int × Int × Int × List (ByteArray) × List (Int × ByteArray × Int × Int) × Int × List (Int × ByteArray) × List (Int) × List (ByteArray))) × Int × (List (Int × Int × Int × Int × Int × List (Int) × ByteArray)) × Unit) × Int × Unit) =>
(if (decide (y0.2.2.2.1 < y0.1)) = true then
(if (decide (y0.2.2.2.1 < (200 : Int))) = true then
(whileK (fun (rec2 : (Int × ((List (Int × Int × Int × List (ByteArray) × List (Int × ByteArray × Int × Int) × Int × List (Int × ByteArray) × List (Int) × List (ByteArray))) × Int × (List (Int × Int × Int × Int × Int × List (Int) × ByteArray)) × Unit) × ((List (Int × Int × Int × List (ByteArray) × List (Int × ByteArray × Int × Int) × Int × List (Int × ByteArray) × List (Int) × List (ByteArray))) × Int × (List (Int × Int × Int × Int × Int × List (Int) × ByteArray)) × Unit) × Int × Int × Int × Unit) → Option _) (y2 : Int × ((List (Int × Int × Int × List (ByteArray) × List (Int × ByteArray × Int × Int) × Int × List (Int × ByteArray) × List (Int) × List (ByteArray))) × Int × (List (Int × Int × Int × Int × Int × List (Int) × ByteArray)) × Unit) × ((List (Int × Int × Int × List (ByteArray) × List (Int × ByteArray × Int × Int) × Int × List (Int × ByteArray) × List (Int) × List (ByteArray))) × Int × (List (Int × Int × Int × Int × Int × List (Int) × ByteArray)) × Unit) × Int × Int × Int × Unit) =>
(if (decide (y2.2.2.2.2.2.1 < y2.2.2.2.2.1)) = true then
((i_Talk_send k ((y2.2.2.1.1, (y2.2.2.1.2.1, (y2.2.2.1.2.2.1, ()))), (y2.2.2.2.2.2.1, ()))).bind fun p2 =>
(rec2 (y2.1, ((y2.2.1.1, (y2.2.1.2.1, (y2.2.1.2.2.1, ()))), ((p2.2.1.1, (p2.2.1.2.1, (p2.2.1.2.2.1, ()))), (y2.2.2.2.1, (y2.2.2.2.2.1, ((wi64 (y2.2.2.2.2.2.1 + (1 : Int))), ()))))))))
else
((fun (z1 : Int × ((List (Int × Int × Int × List (ByteArray) × List (Int × ByteArray × Int × Int) × Int × List (Int × ByteArray) × List (Int) × List (ByteArray))) × Int × (List (Int × Int × Int × Int × Int × List (Int) × ByteArray)) × Unit) × ((List (Int × Int × Int × List (ByteArray) × List (Int × ByteArray × Int × Int) × Int × List (Int × ByteArray) × List (Int) × List (ByteArray))) × Int × (List (Int × Int × Int × Int × Int × List (Int) × ByteArray)) × Unit) × Int × Unit) =>
(whileK (fun (rec4 : (Int × ((List (Int × Int × Int × List (ByteArray) × List (Int × ByteArray × Int × Int) × Int × List (Int × ByteArray) × List (Int) × List (ByteArray))) × Int × (List (Int × Int × Int × Int × Int × List (Int) × ByteArray)) × Unit) × ((List (Int × Int × Int × List (ByteArray) × List (Int × ByteArray × Int × Int) × Int × List (Int × ByteArray) × List (Int) × List (ByteArray))) × Int × (List (Int × Int × Int × Int × Int × List (Int) × ByteArray)) × Unit) × Int × Unit) → Option _) (y4 : Int × ((List (Int × Int × Int × List (ByteArray) × List (Int × ByteArray × Int × Int) × Int × List (Int × ByteArray) × List (Int) × List (ByteArray))) × Int × (List (Int × Int × Int × Int × Int × List (Int) × ByteArray)) × Unit) × ((List (Int × Int × Int × List (ByteArray) × List (Int × ByteArray × Int × Int) × Int × List (Int × ByteArray) × List (Int) × List (ByteArray))) × Int × (List (Int × Int × Int × Int × Int × List (Int) × ByteArray)) × Unit) × Int × Unit) =>
(if (decide ((0 : Int) < (List.length y4.2.2.1.2.2.1 : Int))) = true then
((i_Talk_lose k ((y4.2.2.1.1, (y4.2.2.1.2.1, (y4.2.2.1.2.2.1, ()))), ((0 : Int), ()))).bind fun p3 =>
((i_Talk_come k ((p3.2.1.1, (p3.2.1.2.1, (p3.2.1.2.2.1, ()))), ((p3.1.1, (p3.1.2.1, (p3.1.2.2.1, (p3.1.2.2.2.1, (p3.1.2.2.2.2.1, (p3.1.2.2.2.2.2.1, (p3.1.2.2.2.2.2.2.1, ()))))))), ()))).bind fun p4 =>
(rec4 (y4.1, ((y4.2.1.1, (y4.2.1.2.1, (y4.2.1.2.2.1, ()))), ((p4.2.1.1, (p4.2.1.2.1, (p4.2.1.2.2.1, ()))), (y4.2.2.2.1, ())))))))
else
((fun (z2 : Int × ((List (Int × Int × Int × List (ByteArray) × List (Int × ByteArray × Int × Int) × Int × List (Int × ByteArray) × List (Int) × List (ByteArray))) × Int × (List (Int × Int × Int × Int × Int × List (Int) × ByteArray)) × Unit) × ((List (Int × Int × Int × List (ByteArray) × List (Int × ByteArray × Int × Int) × Int × List (Int × ByteArray) × List (Int) × List (ByteArray))) × Int × (List (Int × Int × Int × Int × Int × List (Int) × ByteArray)) × Unit) × Int × Unit) =>
(rec0 (z2.1, ((z2.2.1.1, (z2.2.1.2.1, (z2.2.1.2.2.1, ()))), ((z2.2.2.1.1, ((wi64 (z2.2.2.1.2.1 + (300 : Int))), (z2.2.2.1.2.2.1, ()))), ((wi64 (z2.2.2.2.1 + (1 : Int))), ())))))) (y4.1, ((y4.2.1.1, (y4.2.1.2.1, (y4.2.1.2.2.1, ()))), ((y4.2.2.1.1, (y4.2.2.1.2.1, (y4.2.2.1.2.2.1, ()))), (y4.2.2.2.1, ()))))))) k (z1.1, ((z1.2.1.1, (z1.2.1.2.1, (z1.2.1.2.2.1, ()))), ((z1.2.2.1.1, (z1.2.2.1.2.1, (z1.2.2.1.2.2.1, ()))), (z1.2.2.2.1, ())))))) (y2.1, ((y2.2.1.1, (y2.2.1.2.1, (y2.2.1.2.2.1, ()))), ((y2.2.2.1.1, (y2.2.2.1.2.1, (y2.2.2.1.2.2.1, ()))), (y2.2.2.2.1, ()))))))) k (y0.1, ((y0.2.1.1, (y0.2.1.2.1, (y0.2.1.2.2.1, ()))), ((y0.2.2.1.1, (y0.2.2.1.2.1, (y0.2.2.1.2.2.1, ()))), (y0.2.2.2.1, ((List.length y0.2.2.1.1 : Int), ((0 : Int), ())))))))
else
(E3 ((y0.2.1.1, (y0.2.1.2.1, (y0.2.1.2.2.1, ()))), ((y0.2.2.1.1, (y0.2.2.1.2.1, (y0.2.2.1.2.2.1, ()))), ()))))
else
(E3 ((y0.2.1.1, (y0.2.1.2.1, (y0.2.1.2.2.1, ()))), ((y0.2.2.1.1, (y0.2.2.1.2.1, (y0.2.2.1.2.2.1, ()))), ()))))) k (x.2.1, (([], ((0 : Int), ([], ()))), ((p1.1.1, (p1.1.2.1, (p1.1.2.2.1, ()))), ((0 : Int), ())))))))))
abbrev E_i_Settle (k : Nat) : Entry := ⟨31, 0, (.cons (.agg (.cons (.il true yT4) (.cons (.int .i64) (.cons (.il true yT9) .nil)))) yP14), (.agg yP1), i_Settle k⟩
theorem t_i_Settle (k : Nat) (x) : evF TTabO k [E_i_copyTalk k, E_i_Talk_send k, E_i_Talk_lose k, E_i_Talk_come k] [(0, ⟨[1, 4, 5, 6], (.cons (.int .i64) (.cons (.ptr 0 yP1) (.cons (.ptr 0 yP1) yP14)))⟩, ⟨[4, 5], (.cons (.ptr 0 yP1) (.cons (.ptr 0 yP1) .nil))⟩), (2, ⟨[1, 4, 5, 6, 27, 28], (.cons (.int .i64) (.cons (.ptr 0 yP1) (.cons (.ptr 0 yP1) (.cons (.int .i64) yP8))))⟩, ⟨[1, 4, 5, 6], (.cons (.int .i64) (.cons (.ptr 0 yP1) (.cons (.ptr 0 yP1) yP14)))⟩), (4, ⟨[1, 4, 5, 6], (.cons (.int .i64) (.cons (.ptr 0 yP1) (.cons (.ptr 0 yP1) yP14)))⟩, ⟨[1, 4, 5, 6], (.cons (.int .i64) (.cons (.ptr 0 yP1) (.cons (.ptr 0 yP1) yP14)))⟩)] Try.f31 (.cons (.agg (.cons (.il true yT4) (.cons (.int .i64) (.cons (.il true yT9) .nil)))) yP14) (.agg yP1) x = i_Settle k x := by kernel_rfl
theorem e_i_Settle [Names] (k : Nat) : EntryOk Try.prog (E_i_Settle k) := entry_ok tokO (es_cons (e_i_copyTalk k) (es_cons (e_i_Talk_send k) (es_cons (e_i_Talk_lose k) (es_cons (e_i_Talk_come k) es_nil)))) (by kernel_rfl) (by kernel_rfl) (by kernel_rfl) fun x r h => (t_i_Settle k x).trans h
def w_FnSettles (k : Nat) (x : List (Int) × Unit) : Option (Bool × Unit × Unit) :=
((w_big k (x.1, ())).bind fun p1 =>
(if p1.1 = true then
some (true, ((), ()))
else
((s_DrawTalks k (x.1, ())).bind fun p2 =>
((i_RunTalk k (p2.1.1, (p2.1.2.1, (([] : List (Int × Int × Int)), ())))).bind fun p3 =>
(if (!p3.1.2.1) = false then
(if (!decide ((List.length p3.1.1.1 : Int) = (2 : Int))) = true then
some (false, ((), ()))
else
((i_Settle k ((p3.1.1.1, (p3.1.1.2.1, (p3.1.1.2.2.1, ()))), ((30 : Int), ()))).bind fun p4 =>
(if 0 ≤ (0 : Int) ∧ (0 : Int) < (List.length p4.1.1 : Int) then
((w_sameTexts k ((Ty.rd (t := yT0) p4.1.1 (0 : Int)).2.2.2.2.2.2.2.2, (p2.1.2.1, ()))).bind fun p5 =>
(if p5.1 = true then
(if 0 ≤ (1 : Int) ∧ (1 : Int) < (List.length p4.1.1 : Int) then
((w_sameTexts k ((Ty.rd (t := yT0) p4.1.1 (1 : Int)).2.2.2.2.2.2.2.2, (p2.1.1, ()))).bind fun p6 =>
(if p6.1 = true then
(if 0 ≤ (0 : Int) ∧ (0 : Int) < (List.length p4.1.1 : Int) then
(if (decide ((List.length (Ty.rd (t := yT0) p4.1.1 (0 : Int)).2.2.2.2.1 : Int) = (0 : Int))) = true then
(if 0 ≤ (1 : Int) ∧ (1 : Int) < (List.length p4.1.1 : Int) then
some ((decide ((List.length (Ty.rd (t := yT0) p4.1.1 (1 : Int)).2.2.2.2.1 : Int) = (0 : Int))), ((), ()))
else none)
else
some (false, ((), ())))
else none)
else
some (false, ((), ()))))
else none)
else
some (false, ((), ()))))
else none)))
else
some (false, ((), ())))))))
abbrev E_w_FnSettles (k : Nat) : Entry := ⟨7, 0, (.cons (.il true (.int .u8)) .nil), .bool, w_FnSettles k⟩
theorem t_w_FnSettles (k : Nat) (x) : evF TTab k [E_w_big k, E_w_sameTexts k, E_s_DrawTalks k, E_i_RunTalk k, E_i_Settle k] [] Try.f7 (.cons (.il true (.int .u8)) .nil) .bool x = w_FnSettles k x := by kernel_rfl
theorem e_w_FnSettles [Names] (k : Nat) : EntryOk Try.prog (E_w_FnSettles k) := entry_ok tok (es_cons (e_w_big k) (es_cons (e_w_sameTexts k) (es_cons (e_s_DrawTalks k) (es_cons (e_i_RunTalk k) (es_cons (e_i_Settle k) es_nil))))) (by kernel_rfl) (by kernel_rfl) (by kernel_rfl) fun x r h => (t_w_FnSettles k x).trans h
end Go.Proofs.Ytaamcelinnnncaa
