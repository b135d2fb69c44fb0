import Derived.Test.YtmanaalkgemjaaaGreatDoorFun0
/- What functions of the program compute, as plain functions, and that their calls do so (part 1). Conditions: the plain function answers. -/
set_option linter.unusedVariables false
namespace Go.Proofs.YtmanaalkgemjaaaGreatDoor
open Go Go.Eng Go.Proofs
/- Names of types and patterns that come often. -/
abbrev yT3 : Ty := (.pair (.int .i64) (.int .i64))
abbrev yT0 : Ty := (.pair (.int .i64) (.pair (.int .i64) (.pair (.int .i64) (.pair (.int .i64) (.pair .str yT3)))))
abbrev yP1 : Pat := (.cons (.int .i64) (.cons (.int .i64) (.cons (.il true (.pair (.int .i64) yT3)) (.cons (.il true yT3) .nil))))
abbrev yP7 : Pat := (.cons (.int .i64) .nil)
abbrev yP2 : Pat := (.cons (.int .i64) yP7)
abbrev yP4 : Pat := (.own false 162 (.pair (.int .i64) (.pair (.int .i64) (.pair (.pair (.pair (.int .i64) (.pair .str (.pair .str (.pair (.int .i64) (.pair (.ols 3 (.int .i64)) (.int .i64)))))) (.pair (.int .i64) (.pair .str (.pair .str (.pair (.int .i64) (.pair (.ols 3 (.int .i64)) (.int .i64))))))) (.pair (.ols 176 (.pair (.int .i64) (.pair (.int .i64) (.pair (.int .i64) (.pair (.ols 9 .str) (.pair (.ols 4 .bool) (.int .i64))))))) (.int .i64))))))
abbrev yP5 : Pat := (.own false 162 (.pair (.int .i64) (.pair (.int .i64) (.pair (.pair (.pair (.int .i64) (.pair .str (.pair .str (.pair (.int .i64) (.pair (.list (.int .i64)) (.int .i64)))))) (.pair (.int .i64) (.pair .str (.pair .str (.pair (.int .i64) (.pair (.list (.int .i64)) (.int .i64))))))) (.pair (.list (.pair (.int .i64) (.pair (.int .i64) (.pair (.int .i64) (.pair (.list .str) (.pair (.list .bool) (.int .i64))))))) (.int .i64))))))
abbrev yP6 : Pat := (.cons (.int .i64) (.cons (.int .i64) (.cons (.int .i64) (.cons (.int .i64) (.cons .str yP2)))))
abbrev yP8 : Pat := (.cons (.int .i64) (.cons (.own false 170 (.pair (.int .i64) (.pair (.int .i64) (.pair (.int .i64) .str)))) (.cons (.own false 170 (.pair (.int .i64) (.pair (.int .i64) (.pair (.int .i64) .str)))) (.cons (.int .i64) (.cons (.own false 172 (.pair (.int .i64) (.pair .bool yT3))) .nil)))))
abbrev yP9 : Pat := (.tup (.cons (.agg (.cons (.int .i64) (.cons (.int .i64) (.cons (.own false 91 (.pair (.int .i64) yT3)) (.cons (.own false 87 yT3) (.cons (.own false 153 (.pair yT3 (.int .i64))) (.cons yP4 (.cons yP4 (.cons (.own false 3 (.int .i64)) (.cons (.int .i64) (.cons (.own false 166 (.pair (.int .i64) (.pair (.int .i64) (.pair .bool (.pair (.int .i64) (.pair (.int .i64) (.pair (.int .i64) (.pair (.int .i64) (.pair (.int .i64) (.pair (.ols 3 (.int .i64)) .str)))))))))) yP8))))))))))) (.cons .bool .nil)))
abbrev yP10 : Pat := (.tup (.cons (.agg (.cons (.int .i64) (.cons (.int .i64) (.cons (.own false 91 (.pair (.int .i64) yT3)) (.cons (.own false 87 yT3) (.cons (.own false 153 (.pair yT3 (.int .i64))) (.cons yP5 (.cons yP5 (.cons (.own false 3 (.int .i64)) (.cons (.int .i64) (.cons (.own false 166 (.pair (.int .i64) (.pair (.int .i64) (.pair .bool (.pair (.int .i64) (.pair (.int .i64) (.pair (.int .i64) (.pair (.int .i64) (.pair (.int .i64) (.pair (.list (.int .i64)) .str)))))))))) yP8))))))))))) (.cons .bool .nil)))

def s_l25Lines (k : Nat) (x : ByteArray × Unit) : Option (List (ByteArray) × Unit × Unit) :=
(whileK (fun (rec0 : (ByteArray × List (ByteArray) × Int × Int × Unit) → Option _) (y0 : ByteArray × List (ByteArray) × Int × Int × Unit) =>
(if (decide (y0.2.2.2.1 < (ByteArray.size y0.1 : Int))) = true then
(if 0 ≤ y0.2.2.2.1 ∧ y0.2.2.2.1 < (ByteArray.size y0.1 : Int) then
(if (decide ((bt y0.1 y0.2.2.2.1) = (10 : Int))) = true then
(if 0 ≤ y0.2.2.2.1 ∧ y0.2.2.2.1 ≤ (ByteArray.size y0.1 : Int) then
(if 0 ≤ y0.2.2.1 ∧ y0.2.2.1 ≤ y0.2.2.2.1 then
(if List.length y0.2.1 + List.length ([(ByteArray.extract y0.1 (Int.toNat y0.2.2.1) (Int.toNat y0.2.2.2.1))] : List (ByteArray)) ≤ capMax then
(rec0 (y0.1, ((y0.2.1 ++ ([(ByteArray.extract y0.1 (Int.toNat y0.2.2.1) (Int.toNat y0.2.2.2.1))] : List (ByteArray))), ((wi64 (y0.2.2.2.1 + (1 : Int))), ((wi64 (y0.2.2.2.1 + (1 : Int))), ())))))
else none)
else none)
else none)
else
(rec0 (y0.1, (y0.2.1, (y0.2.2.1, ((wi64 (y0.2.2.2.1 + (1 : Int))), ()))))))
else none)
else
((fun (z1 : ByteArray × List (ByteArray) × Int × Unit) =>
(if (decide (z1.2.2.1 < (ByteArray.size z1.1 : Int))) = true then
(if 0 ≤ z1.2.2.1 ∧ z1.2.2.1 ≤ (ByteArray.size z1.1 : Int) then
(if List.length z1.2.1 + List.length ([(ByteArray.extract z1.1 (Int.toNat z1.2.2.1) (Int.toNat (ByteArray.size z1.1 : Int)))] : List (ByteArray)) ≤ capMax then
some ((z1.2.1 ++ ([(ByteArray.extract z1.1 (Int.toNat z1.2.2.1) (Int.toNat (ByteArray.size z1.1 : Int)))] : List (ByteArray))), ((), ()))
else none)
else none)
else
some (z1.2.1, ((), ())))) (y0.1, (y0.2.1, (y0.2.2.1, ())))))) k (x.1, (([] : List (ByteArray)), ((0 : Int), ((0 : Int), ())))))
abbrev E_s_l25Lines (k : Nat) : Entry := ⟨10, 0, (.cons .str .nil), (.own false 9 .str), s_l25Lines k⟩
theorem t_s_l25Lines (k : Nat) (x) : evF TTab k [] [(0, ⟨[0, 3, 4, 5], (.cons .str (.cons (.own false 9 .str) yP2))⟩, ⟨[0, 3, 4], (.cons .str (.cons (.own false 9 .str) yP7))⟩)] Tryz.f10 (.cons .str .nil) (.own false 9 .str) x = s_l25Lines k x := by kernel_rfl
theorem e_s_l25Lines [NamesT] (k : Nat) : EntryOk Tryz.prog (E_s_l25Lines k) := entry_ok tok es_nil (by kernel_rfl) (by kernel_rfl) (by kernel_rfl) fun x r h => (t_s_l25Lines k x).trans h
def s_PartsOf (k : Nat) (x : ByteArray × Unit) : Option ((List (ByteArray) × Bool × Unit) × Unit × Unit) :=
(if (decide ((600 : Int) < (ByteArray.size x.1 : Int))) = true then
some ((([] : List (ByteArray)), (false, ())), ((), ()))
else
(whileK (fun (rec0 : (ByteArray × List (ByteArray) × Int × Int × Unit) → Option _) (y0 : ByteArray × List (ByteArray) × Int × Int × Unit) =>
(if (decide (y0.2.2.2.1 ≤ (ByteArray.size y0.1 : Int))) = true then
(jn (
(if (decide (y0.2.2.2.1 < (ByteArray.size y0.1 : Int))) = true then
(if 0 ≤ y0.2.2.2.1 ∧ y0.2.2.2.1 < (ByteArray.size y0.1 : Int) then
(if (!decide ((bt y0.1 y0.2.2.2.1) = (32 : Int))) = true then
(rec0 (y0.1, (y0.2.1, (y0.2.2.1, ((wi64 (y0.2.2.2.1 + (1 : Int))), ())))))
else
(if (decide (y0.2.2.1 < y0.2.2.2.1)) = true then
(if 0 ≤ y0.2.2.2.1 ∧ y0.2.2.2.1 ≤ (ByteArray.size y0.1 : Int) then
(if 0 ≤ y0.2.2.1 ∧ y0.2.2.1 ≤ y0.2.2.2.1 then
(if List.length y0.2.1 + List.length ([(ByteArray.extract y0.1 (Int.toNat y0.2.2.1) (Int.toNat y0.2.2.2.1))] : List (ByteArray)) ≤ capMax then
(rec0 (y0.1, ((y0.2.1 ++ ([(ByteArray.extract y0.1 (Int.toNat y0.2.2.1) (Int.toNat y0.2.2.2.1))] : List (ByteArray))), ((wi64 (y0.2.2.2.1 + (1 : Int))), ((wi64 (y0.2.2.2.1 + (1 : Int))), ())))))
else none)
else none)
else none)
else
(rec0 (y0.1, (y0.2.1, ((wi64 (y0.2.2.2.1 + (1 : Int))), ((wi64 (y0.2.2.2.1 + (1 : Int))), ())))))))
else none)
else
(if (decide (y0.2.2.1 < y0.2.2.2.1)) = true then
(if 0 ≤ y0.2.2.2.1 ∧ y0.2.2.2.1 ≤ (ByteArray.size y0.1 : Int) then
(if 0 ≤ y0.2.2.1 ∧ y0.2.2.1 ≤ y0.2.2.2.1 then
(if List.length y0.2.1 + List.length ([(ByteArray.extract y0.1 (Int.toNat y0.2.2.1) (Int.toNat y0.2.2.2.1))] : List (ByteArray)) ≤ capMax then
(rec0 (y0.1, ((y0.2.1 ++ ([(ByteArray.extract y0.1 (Int.toNat y0.2.2.1) (Int.toNat y0.2.2.2.1))] : List (ByteArray))), ((wi64 (y0.2.2.2.1 + (1 : Int))), ((wi64 (y0.2.2.2.1 + (1 : Int))), ())))))
else none)
else none)
else none)
else
(rec0 (y0.1, (y0.2.1, ((wi64 (y0.2.2.2.1 + (1 : Int))), ((wi64 (y0.2.2.2.1 + (1 : Int))), ())))))))) (fun (j1 : Option _) =>
(if (decide (y0.2.2.2.1 < (ByteArray.size y0.1 : Int))) = true then
(if 0 ≤ y0.2.2.2.1 ∧ y0.2.2.2.1 < (ByteArray.size y0.1 : Int) then
(if (decide ((bt y0.1 y0.2.2.2.1) < (32 : Int))) = false then
(if 0 ≤ y0.2.2.2.1 ∧ y0.2.2.2.1 < (ByteArray.size y0.1 : Int) then
(if (decide ((126 : Int) < (bt y0.1 y0.2.2.2.1))) = true then
some ((([] : List (ByteArray)), (false, ())), ((), ()))
else
j1)
else none)
else
some ((([] : List (ByteArray)), (false, ())), ((), ())))
else none)
else
j1)))
else
((fun (z1 : List (ByteArray) × Unit) =>
(if (decide ((10 : Int) < (List.length z1.1 : Int))) = true then
some ((([] : List (ByteArray)), (false, ())), ((), ()))
else
some ((z1.1, (true, ())), ((), ())))) (y0.2.1, ())))) k (x.1, (([] : List (ByteArray)), ((0 : Int), ((0 : Int), ()))))))
abbrev E_s_PartsOf (k : Nat) : Entry := ⟨11, 0, (.cons .str .nil), (.tup (.cons (.own false 9 .str) (.cons .bool .nil))), s_PartsOf k⟩
theorem t_s_PartsOf (k : Nat) (x) : evF TTab k [] [(0, ⟨[0, 4, 5, 6], (.cons .str (.cons (.own false 9 .str) yP2))⟩, ⟨[4], (.cons (.own false 9 .str) .nil)⟩)] Tryz.f11 (.cons .str .nil) (.tup (.cons (.own false 9 .str) (.cons .bool .nil))) x = s_PartsOf k x := by kernel_rfl
theorem e_s_PartsOf [NamesT] (k : Nat) : EntryOk Tryz.prog (E_s_PartsOf k) := entry_ok tok es_nil (by kernel_rfl) (by kernel_rfl) (by kernel_rfl) fun x r h => (t_s_PartsOf k x).trans h
def s_l08Split (k : Nat) (x : ByteArray × Int × Unit) : Option (List (ByteArray) × Unit × Unit × Unit) :=
(whileK (fun (rec0 : (ByteArray × Int × List (ByteArray) × Int × Int × Unit) → Option _) (y0 : ByteArray × Int × List (ByteArray) × Int × Int × Unit) =>
(if (decide (y0.2.2.2.2.1 ≤ (ByteArray.size y0.1 : Int))) = true then
(if (decide (y0.2.2.2.2.1 = (ByteArray.size y0.1 : Int))) = false then
(if 0 ≤ y0.2.2.2.2.1 ∧ y0.2.2.2.2.1 < (ByteArray.size y0.1 : Int) then
(if (decide ((bt y0.1 y0.2.2.2.2.1) = y0.2.1)) = true then
(if 0 ≤ y0.2.2.2.2.1 ∧ y0.2.2.2.2.1 ≤ (ByteArray.size y0.1 : Int) then
(if 0 ≤ y0.2.2.2.1 ∧ y0.2.2.2.1 ≤ y0.2.2.2.2.1 then
(if List.length y0.2.2.1 + List.length ([(ByteArray.extract y0.1 (Int.toNat y0.2.2.2.1) (Int.toNat y0.2.2.2.2.1))] : List (ByteArray)) ≤ capMax then
(rec0 (y0.1, (y0.2.1, ((y0.2.2.1 ++ ([(ByteArray.extract y0.1 (Int.toNat y0.2.2.2.1) (Int.toNat y0.2.2.2.2.1))] : List (ByteArray))), ((wi64 (y0.2.2.2.2.1 + (1 : Int))), ((wi64 (y0.2.2.2.2.1 + (1 : Int))), ()))))))
else none)
else none)
else none)
else
(rec0 (y0.1, (y0.2.1, (y0.2.2.1, (y0.2.2.2.1, ((wi64 (y0.2.2.2.2.1 + (1 : Int))), ())))))))
else none)
else
(if 0 ≤ y0.2.2.2.2.1 ∧ y0.2.2.2.2.1 ≤ (ByteArray.size y0.1 : Int) then
(if 0 ≤ y0.2.2.2.1 ∧ y0.2.2.2.1 ≤ y0.2.2.2.2.1 then
(if List.length y0.2.2.1 + List.length ([(ByteArray.extract y0.1 (Int.toNat y0.2.2.2.1) (Int.toNat y0.2.2.2.2.1))] : List (ByteArray)) ≤ capMax then
(rec0 (y0.1, (y0.2.1, ((y0.2.2.1 ++ ([(ByteArray.extract y0.1 (Int.toNat y0.2.2.2.1) (Int.toNat y0.2.2.2.2.1))] : List (ByteArray))), ((wi64 (y0.2.2.2.2.1 + (1 : Int))), ((wi64 (y0.2.2.2.2.1 + (1 : Int))), ()))))))
else none)
else none)
else none))
else
((fun (z1 : List (ByteArray) × Unit) =>
some (z1.1, ((), ((), ())))) (y0.2.2.1, ())))) k (x.1, (x.2.1, (([] : List (ByteArray)), ((0 : Int), ((0 : Int), ()))))))
abbrev E_s_l08Split (k : Nat) : Entry := ⟨22, 0, (.cons .str (.cons (.int .u8) .nil)), (.own false 9 .str), s_l08Split k⟩
theorem t_s_l08Split (k : Nat) (x) : evF TTab k [] [(0, ⟨[0, 1, 5, 6, 7], (.cons .str (.cons (.int .u8) (.cons (.own false 9 .str) yP2)))⟩, ⟨[5], (.cons (.own false 9 .str) .nil)⟩)] Tryz.f22 (.cons .str (.cons (.int .u8) .nil)) (.own false 9 .str) x = s_l08Split k x := by kernel_rfl
theorem e_s_l08Split [NamesT] (k : Nat) : EntryOk Tryz.prog (E_s_l08Split k) := entry_ok tok es_nil (by kernel_rfl) (by kernel_rfl) (by kernel_rfl) fun x r h => (t_s_l08Split k x).trans h
def s_l01Figure (k : Nat) (x : Int × Unit) : Option (Int × Unit × Unit) :=
(if (decide (x.1 < (10 : Int))) = true then
some ((wu8 ((wi64 ((48 : Int) + x.1)))), ((), ()))
else
some ((wu8 ((wi64 ((wi64 ((97 : Int) + x.1)) - (10 : Int))))), ((), ())))
abbrev E_s_l01Figure (k : Nat) : Entry := ⟨50, 0, yP7, (.int .u8), s_l01Figure k⟩
theorem t_s_l01Figure (k : Nat) (x) : evF TTab k [] [] Tryz.f50 yP7 (.int .u8) x = s_l01Figure k x := by kernel_rfl
theorem e_s_l01Figure [NamesT] (k : Nat) : EntryOk Tryz.prog (E_s_l01Figure k) := entry_ok tok es_nil (by kernel_rfl) (by kernel_rfl) (by kernel_rfl) fun x r h => (t_s_l01Figure k x).trans h
def s_Decimal (k : Nat) (x : Int × Unit) : Option (ByteArray × Unit × Unit) :=
(if (decide (x.1 = (0 : Int))) = true then
some ((⟨#[48]⟩ : ByteArray), ((), ()))
else
(whileK (fun (rec0 : (Int × Bool × ByteArray × Unit) → Option _) (y0 : Int × Bool × ByteArray × Unit) =>
(if (!decide (y0.1 = (0 : Int))) = true then
(if (decide ((Int.tmod y0.1 (10 : Int)) < (0 : Int))) = true then
((s_l01Figure k ((wi64 (0 - (Int.tmod y0.1 (10 : Int)))), ())).bind fun p2 =>
(if ByteArray.size (strOf ([p2.1] : List (Int))) + ByteArray.size y0.2.2.1 ≤ maxStr then
(rec0 ((wi64 (Int.tdiv y0.1 (10 : Int))), (y0.2.1, (((strOf ([p2.1] : List (Int))) ++ y0.2.2.1), ()))))
else none))
else
((s_l01Figure k ((Int.tmod y0.1 (10 : Int)), ())).bind fun p3 =>
(if ByteArray.size (strOf ([p3.1] : List (Int))) + ByteArray.size y0.2.2.1 ≤ maxStr then
(rec0 ((wi64 (Int.tdiv y0.1 (10 : Int))), (y0.2.1, (((strOf ([p3.1] : List (Int))) ++ y0.2.2.1), ()))))
else none)))
else
((fun (z1 : Bool × ByteArray × Unit) =>
(if z1.1 = true then
(if ByteArray.size (⟨#[45]⟩ : ByteArray) + ByteArray.size z1.2.1 ≤ maxStr then
some (((⟨#[45]⟩ : ByteArray) ++ z1.2.1), ((), ()))
else none)
else
some (z1.2.1, ((), ())))) (y0.2.1, (y0.2.2.1, ()))))) k (x.1, ((decide (x.1 < (0 : Int))), ((⟨#[]⟩ : ByteArray), ())))))
abbrev E_s_Decimal (k : Nat) : Entry := ⟨38, 0, yP7, .str, s_Decimal k⟩
theorem t_s_Decimal (k : Nat) (x) : evF TTab k [E_s_l01Figure k] [(0, ⟨[0, 3, 4], (.cons (.int .i64) (.cons .bool (.cons .str .nil)))⟩, ⟨[3, 4], (.cons .bool (.cons .str .nil))⟩)] Tryz.f38 yP7 .str x = s_Decimal k x := by kernel_rfl
theorem e_s_Decimal [NamesT] (k : Nat) : EntryOk Tryz.prog (E_s_Decimal k) := entry_ok tok (es_cons (e_s_l01Figure k) es_nil) (by kernel_rfl) (by kernel_rfl) (by kernel_rfl) fun x r h => (t_s_Decimal k x).trans h
def s_ReadDecimal (k : Nat) (x : ByteArray × Unit) : Option ((Int × Bool × Unit) × Unit × Unit) :=
(if (decide ((10 : Int) < (ByteArray.size x.1 : Int))) = true then
some (((0 : Int), (false, ())), ((), ()))
else
(whileK (fun (rec0 : (ByteArray × Int × Int × Unit) → Option _) (y0 : ByteArray × Int × Int × Unit) =>
(if (decide (y0.2.2.1 < (ByteArray.size y0.1 : Int))) = true then
(if 0 ≤ y0.2.2.1 ∧ y0.2.2.1 < (ByteArray.size y0.1 : Int) then
(if (decide ((bt y0.1 y0.2.2.1) < (48 : Int))) = false then
(if 0 ≤ y0.2.2.1 ∧ y0.2.2.1 < (ByteArray.size y0.1 : Int) then
(if (decide ((57 : Int) < (bt y0.1 y0.2.2.1))) = true then
some (((0 : Int), (false, ())), ((), ()))
else
(if 0 ≤ y0.2.2.1 ∧ y0.2.2.1 < (ByteArray.size y0.1 : Int) then
(rec0 (y0.1, ((wi64 ((wi64 ((wi64 ((10 : Int) * y0.2.1)) + (wi64 ((bt y0.1 y0.2.2.1))))) - (48 : Int))), ((wi64 (y0.2.2.1 + (1 : Int))), ()))))
else none))
else none)
else
some (((0 : Int), (false, ())), ((), ())))
else none)
else
((fun (z1 : ByteArray × Int × Unit) =>
(if (decide ((1000000000 : Int) < z1.2.1)) = false then
((s_Decimal k (z1.2.1, ())).bind fun p1 =>
(if (!decide (p1.1 = z1.1)) = true then
some (((0 : Int), (false, ())), ((), ()))
else
some ((z1.2.1, (true, ())), ((), ()))))
else
some (((0 : Int), (false, ())), ((), ())))) (y0.1, (y0.2.1, ()))))) k (x.1, ((0 : Int), ((0 : Int), ())))))
abbrev E_s_ReadDecimal (k : Nat) : Entry := ⟨24, 0, (.cons .str .nil), (.tup (.cons (.int .i64) (.cons .bool .nil))), s_ReadDecimal k⟩
theorem t_s_ReadDecimal (k : Nat) (x) : evF TTab k [E_s_Decimal k] [(0, ⟨[0, 4, 5], (.cons .str yP2)⟩, ⟨[0, 4], (.cons .str yP7)⟩)] Tryz.f24 (.cons .str .nil) (.tup (.cons (.int .i64) (.cons .bool .nil))) x = s_ReadDecimal k x := by kernel_rfl
theorem e_s_ReadDecimal [NamesT] (k : Nat) : EntryOk Tryz.prog (E_s_ReadDecimal k) := entry_ok tok (es_cons (e_s_Decimal k) es_nil) (by kernel_rfl) (by kernel_rfl) (by kernel_rfl) fun x r h => (t_s_ReadDecimal k x).trans h
def s_ReadAddr (k : Nat) (x : ByteArray × Unit) : Option ((Int × Bool × Unit) × Unit × Unit) :=
((s_l08Split k (x.1, ((46 : Int), ()))).bind fun p1 =>
(if (!decide ((List.length p1.1 : Int) = (4 : Int))) = true then
some (((0 : Int), (false, ())), ((), ()))
else
(whileK (fun (rec0 : (List (ByteArray) × Int × Int × Unit) → Option _) (y0 : List (ByteArray) × Int × Int × Unit) =>
(if (decide (y0.2.2.1 < (4 : Int))) = true then
(if 0 ≤ y0.2.2.1 ∧ y0.2.2.1 < (List.length y0.1 : Int) then
((s_ReadDecimal k ((Ty.rd (t := .str) y0.1 y0.2.2.1), ())).bind fun p2 =>
(if (!p2.1.2.1) = false then
(if (decide ((255 : Int) < p2.1.1)) = true then
some (((0 : Int), (false, ())), ((), ()))
else
(rec0 (y0.1, ((wi64 ((wi64 ((256 : Int) * y0.2.1)) + p2.1.1)), ((wi64 (y0.2.2.1 + (1 : Int))), ())))))
else
some (((0 : Int), (false, ())), ((), ()))))
else none)
else
((fun (z1 : Int × Unit) =>
some ((z1.1, (true, ())), ((), ()))) (y0.2.1, ())))) k (p1.1, ((0 : Int), ((0 : Int), ()))))))
abbrev E_s_ReadAddr (k : Nat) : Entry := ⟨23, 0, (.cons .str .nil), (.tup (.cons (.int .i64) (.cons .bool .nil))), s_ReadAddr k⟩
theorem t_s_ReadAddr (k : Nat) (x) : evF TTab k [E_s_l08Split k, E_s_ReadDecimal k] [(0, ⟨[4, 5, 6], (.cons (.own false 9 .str) yP2)⟩, ⟨[5], yP7⟩)] Tryz.f23 (.cons .str .nil) (.tup (.cons (.int .i64) (.cons .bool .nil))) x = s_ReadAddr k x := by kernel_rfl
theorem e_s_ReadAddr [NamesT] (k : Nat) : EntryOk Tryz.prog (E_s_ReadAddr k) := entry_ok tok (es_cons (e_s_l08Split k) (es_cons (e_s_ReadDecimal k) es_nil)) (by kernel_rfl) (by kernel_rfl) (by kernel_rfl) fun x r h => (t_s_ReadAddr k x).trans h
def s_l01In (k : Nat) (x : Int × Int × Int × Unit) : Option (Bool × Unit × Unit × Unit × Unit) :=
(if (decide (x.2.1 ≤ x.1)) = true then
some ((decide (x.1 ≤ x.2.2.1)), ((), ((), ((), ()))))
else
some (false, ((), ((), ((), ())))))
abbrev E_s_l01In (k : Nat) : Entry := ⟨28, 0, (.cons (.int .i64) yP2), .bool, s_l01In k⟩
theorem t_s_l01In (k : Nat) (x) : evF TTab k [] [] Tryz.f28 (.cons (.int .i64) yP2) .bool x = s_l01In k x := by kernel_rfl
theorem e_s_l01In [NamesT] (k : Nat) : EntryOk Tryz.prog (E_s_l01In k) := entry_ok tok es_nil (by kernel_rfl) (by kernel_rfl) (by kernel_rfl) fun x r h => (t_s_l01In k x).trans h
def s_AddrOk (k : Nat) (x : Int × Unit) : Option (Bool × Unit × Unit) :=
((s_l01In k (x.1, ((0 : Int), ((4294967295 : Int), ())))).bind fun p1 =>
some (p1.1, ((), ())))
abbrev E_s_AddrOk (k : Nat) : Entry := ⟨29, 0, yP7, .bool, s_AddrOk k⟩
theorem t_s_AddrOk (k : Nat) (x) : evF TTab k [E_s_l01In k] [] Tryz.f29 yP7 .bool x = s_AddrOk k x := by kernel_rfl
theorem e_s_AddrOk [NamesT] (k : Nat) : EntryOk Tryz.prog (E_s_AddrOk k) := entry_ok tok (es_cons (e_s_l01In k) es_nil) (by kernel_rfl) (by kernel_rfl) (by kernel_rfl) fun x r h => (t_s_AddrOk k x).trans h
def s_l08Size (k : Nat) (x : Int × Unit) : Option (Int × Unit × Unit) :=
(whileK (fun (rec0 : (Int × Int × Unit) → Option _) (y0 : Int × Int × Unit) =>
(if (decide (y0.2.1 < (32 : Int))) = true then
(rec0 ((wi64 ((2 : Int) * y0.1)), ((wi64 (y0.2.1 + (1 : Int))), ())))
else
((fun (z1 : Int × Unit) =>
some (z1.1, ((), ()))) (y0.1, ())))) k ((1 : Int), (x.1, ())))
abbrev E_s_l08Size (k : Nat) : Entry := ⟨39, 0, yP7, (.int .i64), s_l08Size k⟩
theorem t_s_l08Size (k : Nat) (x) : evF TTab k [] [(0, ⟨[3, 4], yP2⟩, ⟨[3], yP7⟩)] Tryz.f39 yP7 (.int .i64) x = s_l08Size k x := by kernel_rfl
theorem e_s_l08Size [NamesT] (k : Nat) : EntryOk Tryz.prog (E_s_l08Size k) := entry_ok tok es_nil (by kernel_rfl) (by kernel_rfl) (by kernel_rfl) fun x r h => (t_s_l08Size k x).trans h
def s_PrefixOk (k : Nat) (x : (Int × Int × Unit) × Unit) : Option (Bool × Unit × Unit) :=
((s_AddrOk k (x.1.1, ())).bind fun p1 =>
(if p1.1 = true then
((s_l01In k (x.1.2.1, ((0 : Int), ((32 : Int), ())))).bind fun p2 =>
(if p2.1 = true then
((s_l08Size k (x.1.2.1, ())).bind fun p3 =>
(if p3.1 = 0 then
none
else
some ((decide ((Int.tmod x.1.1 p3.1) = (0 : Int))), ((), ()))))
else
some (false, ((), ()))))
else
some (false, ((), ()))))
abbrev E_s_PrefixOk (k : Nat) : Entry := ⟨25, 0, (.cons (.agg yP2) .nil), .bool, s_PrefixOk k⟩
theorem t_s_PrefixOk (k : Nat) (x) : evF TTab k [E_s_l01In k, E_s_AddrOk k, E_s_l08Size k] [] Tryz.f25 (.cons (.agg yP2) .nil) .bool x = s_PrefixOk k x := by kernel_rfl
theorem e_s_PrefixOk [NamesT] (k : Nat) : EntryOk Tryz.prog (E_s_PrefixOk k) := entry_ok tok (es_cons (e_s_l01In k) (es_cons (e_s_AddrOk k) (es_cons (e_s_l08Size k) es_nil))) (by kernel_rfl) (by kernel_rfl) (by kernel_rfl) fun x r h => (t_s_PrefixOk k x).trans h
def s_ReadPrefix (k : Nat) (x : ByteArray × Unit) : Option (((Int × Int × Unit) × Bool × Unit) × Unit × Unit) :=
((s_l08Split k (x.1, ((47 : Int), ()))).bind fun p1 =>
(if (!decide ((List.length p1.1 : Int) = (2 : Int))) = true then
some ((((0 : Int), ((0 : Int), ())), (false, ())), ((), ()))
else
(if 0 ≤ (0 : Int) ∧ (0 : Int) < (List.length p1.1 : Int) then
((s_ReadAddr k ((Ty.rd (t := .str) p1.1 (0 : Int)), ())).bind fun p2 =>
(if 0 ≤ (1 : Int) ∧ (1 : Int) < (List.length p1.1 : Int) then
((s_ReadDecimal k ((Ty.rd (t := .str) p1.1 (1 : Int)), ())).bind fun p3 =>
(if (!p2.1.2.1) = false then
(if (!p3.1.2.1) = false then
((s_PrefixOk k ((p2.1.1, (p3.1.1, ())), ())).bind fun p4 =>
(if (!p4.1) = true then
some ((((0 : Int), ((0 : Int), ())), (false, ())), ((), ()))
else
some (((p2.1.1, (p3.1.1, ())), (true, ())), ((), ()))))
else
some ((((0 : Int), ((0 : Int), ())), (false, ())), ((), ())))
else
some ((((0 : Int), ((0 : Int), ())), (false, ())), ((), ()))))
else none))
else none)))
abbrev E_s_ReadPrefix (k : Nat) : Entry := ⟨12, 0, (.cons .str .nil), (.tup (.cons (.agg yP2) (.cons .bool .nil))), s_ReadPrefix k⟩
theorem t_s_ReadPrefix (k : Nat) (x) : evF TTab k [E_s_l08Split k, E_s_ReadAddr k, E_s_ReadDecimal k, E_s_PrefixOk k] [] Tryz.f12 (.cons .str .nil) (.tup (.cons (.agg yP2) (.cons .bool .nil))) x = s_ReadPrefix k x := by kernel_rfl
theorem e_s_ReadPrefix [NamesT] (k : Nat) : EntryOk Tryz.prog (E_s_ReadPrefix k) := entry_ok tok (es_cons (e_s_l08Split k) (es_cons (e_s_ReadAddr k) (es_cons (e_s_ReadDecimal k) (es_cons (e_s_PrefixOk k) es_nil)))) (by kernel_rfl) (by kernel_rfl) (by kernel_rfl) fun x r h => (t_s_ReadPrefix k x).trans h
def s_InPrefix (k : Nat) (x : (Int × Int × Unit) × Int × Unit) : Option (Bool × Unit × Unit × Unit) :=
((s_PrefixOk k ((x.1.1, (x.1.2.1, ())), ())).bind fun p1 =>
(if p1.1 = true then
((s_AddrOk k (x.2.1, ())).bind fun p2 =>
(if p2.1 = true then
((s_l08Size k (x.1.2.1, ())).bind fun p3 =>
(if p3.1 = 0 then
none
else
some ((decide ((wi64 (x.2.1 - (Int.tmod x.2.1 p3.1))) = x.1.1)), ((), ((), ())))))
else
some (false, ((), ((), ())))))
else
some (false, ((), ((), ())))))
abbrev E_s_InPrefix (k : Nat) : Entry := ⟨63, 0, (.cons (.agg yP2) yP7), .bool, s_InPrefix k⟩
theorem t_s_InPrefix (k : Nat) (x) : evF TTab k [E_s_PrefixOk k, E_s_AddrOk k, E_s_l08Size k] [] Tryz.f63 (.cons (.agg yP2) yP7) .bool x = s_InPrefix k x := by kernel_rfl
theorem e_s_InPrefix [NamesT] (k : Nat) : EntryOk Tryz.prog (E_s_InPrefix k) := entry_ok tok (es_cons (e_s_PrefixOk k) (es_cons (e_s_AddrOk k) (es_cons (e_s_l08Size k) es_nil))) (by kernel_rfl) (by kernel_rfl) (by kernel_rfl) fun x r h => (t_s_InPrefix k x).trans h
def s_l11Inside (k : Nat) (x : (Int × Int × (List (Int × Int × Int)) × (List (Int × Int)) × Unit) × Int × Unit) : Option (Bool × Unit × Unit × Unit) :=
((s_InPrefix k ((x.1.1, (x.1.2.1, ())), (x.2.1, ()))).bind fun p1 =>
(if p1.1 = true then
(if (!decide (x.2.1 = x.1.1)) = true then
((s_l08Size k (x.1.2.1, ())).bind fun p2 =>
some ((!decide (x.2.1 = (wi64 ((wi64 (x.1.1 + p2.1)) - (1 : Int))))), ((), ((), ()))))
else
some (false, ((), ((), ()))))
else
some (false, ((), ((), ())))))
abbrev E_s_l11Inside (k : Nat) : Entry := ⟨51, 0, (.cons (.agg yP1) yP7), .bool, s_l11Inside k⟩
theorem t_s_l11Inside (k : Nat) (x) : evF TTab k [E_s_l08Size k, E_s_InPrefix k] [] Tryz.f51 (.cons (.agg yP1) yP7) .bool x = s_l11Inside k x := by kernel_rfl
theorem e_s_l11Inside [NamesT] (k : Nat) : EntryOk Tryz.prog (E_s_l11Inside k) := entry_ok tok (es_cons (e_s_l08Size k) (es_cons (e_s_InPrefix k) es_nil)) (by kernel_rfl) (by kernel_rfl) (by kernel_rfl) fun x r h => (t_s_l11Inside k x).trans h
def s_l11FixedFor (k : Nat) (x : (Int × Int × (List (Int × Int × Int)) × (List (Int × Int)) × Unit) × Int × Unit) : Option (Int × Unit × Unit × Unit) :=
(whileK (fun (rec0 : (Int × (Int × Int × (List (Int × Int × Int)) × (List (Int × Int)) × Unit) × Int × Unit) → Option _) (y0 : Int × (Int × Int × (List (Int × Int × Int)) × (List (Int × Int)) × Unit) × Int × Unit) =>
(if (decide (y0.2.2.1 < (List.length y0.2.1.2.2.2.1 : Int))) = true then
(if 0 ≤ y0.2.2.1 ∧ y0.2.2.1 < (List.length y0.2.1.2.2.2.1 : Int) then
(if (decide ((Ty.rd (t := yT3) y0.2.1.2.2.2.1 y0.2.2.1).2 = y0.1)) = true then
(if 0 ≤ y0.2.2.1 ∧ y0.2.2.1 < (List.length y0.2.1.2.2.2.1 : Int) then
some ((Ty.rd (t := yT3) y0.2.1.2.2.2.1 y0.2.2.1).1, ((), ((), ())))
else none)
else
(rec0 (y0.1, ((y0.2.1.1, (y0.2.1.2.1, (y0.2.1.2.2.1, (y0.2.1.2.2.2.1, ())))), ((wi64 (y0.2.2.1 + (1 : Int))), ())))))
else none)
else
((fun (z1 : Unit) =>
some ((0 : Int), ((), ((), ())))) ()))) k (x.2.1, ((x.1.1, (x.1.2.1, (x.1.2.2.1, (x.1.2.2.2.1, ())))), ((0 : Int), ()))))
abbrev E_s_l11FixedFor (k : Nat) : Entry := ⟨52, 0, (.cons (.agg yP1) yP7), (.int .i64), s_l11FixedFor k⟩
theorem t_s_l11FixedFor (k : Nat) (x) : evF TTab k [] [(0, ⟨[1, 2, 5], (.cons (.int .i64) (.cons (.ptr 0 yP1) yP7))⟩, ⟨[], .nil⟩)] Tryz.f52 (.cons (.agg yP1) yP7) (.int .i64) x = s_l11FixedFor k x := by kernel_rfl
theorem e_s_l11FixedFor [NamesT] (k : Nat) : EntryOk Tryz.prog (E_s_l11FixedFor k) := entry_ok tok es_nil (by kernel_rfl) (by kernel_rfl) (by kernel_rfl) fun x r h => (t_s_l11FixedFor k x).trans h
def s_PoolOk (k : Nat) (x : (Int × Int × (List (Int × Int × Int)) × (List (Int × Int)) × Unit) × Unit) : Option (Bool × Unit × Unit) :=
((s_PrefixOk k ((x.1.1, (x.1.2.1, ())), ())).bind fun p1 =>
(if (!p1.1) = false then
((s_l01In k (x.1.2.1, ((24 : Int), ((30 : Int), ())))).bind fun p2 =>
(if (!p2.1) = false then
(if (decide ((6 : Int) < (List.length x.1.2.2.1 : Int))) = false then
(if (decide ((4 : Int) < (List.length x.1.2.2.2.1 : Int))) = true then
some (false, ((), ()))
else
(whileK (fun (rec0 : ((Int × Int × (List (Int × Int × Int)) × (List (Int × Int)) × Unit) × Int × Unit) → Option _) (y0 : (Int × Int × (List (Int × Int × Int)) × (List (Int × Int)) × Unit) × Int × Unit) =>
(if (decide (y0.2.1 < (List.length y0.1.2.2.2.1 : Int))) = true then
(if 0 ≤ y0.2.1 ∧ y0.2.1 < (List.length y0.1.2.2.2.1 : Int) then
((s_l01In k ((Ty.rd (t := yT3) y0.1.2.2.2.1 y0.2.1).1, ((1 : Int), ((99 : Int), ())))).bind fun p3 =>
(if (!p3.1) = false then
((s_l11Inside k ((y0.1.1, (y0.1.2.1, (y0.1.2.2.1, (y0.1.2.2.2.1, ())))), ((Ty.rd (t := yT3) y0.1.2.2.2.1 y0.2.1).2, ()))).bind fun p4 =>
(if (!p4.1) = false then
(if (decide ((0 : Int) < y0.2.1)) = true then
(if 0 ≤ (wi64 (y0.2.1 - (1 : Int))) ∧ (wi64 (y0.2.1 - (1 : Int))) < (List.length y0.1.2.2.2.1 : Int) then
(if (decide ((Ty.rd (t := yT3) y0.1.2.2.2.1 y0.2.1).1 ≤ (Ty.rd (t := yT3) y0.1.2.2.2.1 (wi64 (y0.2.1 - (1 : Int)))).1)) = false then
((s_l11FixedFor k ((y0.1.1, (y0.1.2.1, (y0.1.2.2.1, (y0.1.2.2.2.1, ())))), ((Ty.rd (t := yT3) y0.1.2.2.2.1 y0.2.1).2, ()))).bind fun p5 =>
(if (!decide (p5.1 = (Ty.rd (t := yT3) y0.1.2.2.2.1 y0.2.1).1)) = true then
some (false, ((), ()))
else
(rec0 ((y0.1.1, (y0.1.2.1, (y0.1.2.2.1, (y0.1.2.2.2.1, ())))), ((wi64 (y0.2.1 + (1 : Int))), ())))))
else
some (false, ((), ())))
else none)
else
((s_l11FixedFor k ((y0.1.1, (y0.1.2.1, (y0.1.2.2.1, (y0.1.2.2.2.1, ())))), ((Ty.rd (t := yT3) y0.1.2.2.2.1 y0.2.1).2, ()))).bind fun p6 =>
(if (!decide (p6.1 = (Ty.rd (t := yT3) y0.1.2.2.2.1 y0.2.1).1)) = true then
some (false, ((), ()))
else
(rec0 ((y0.1.1, (y0.1.2.1, (y0.1.2.2.1, (y0.1.2.2.2.1, ())))), ((wi64 (y0.2.1 + (1 : Int))), ()))))))
else
some (false, ((), ()))))
else
some (false, ((), ()))))
else none)
else
((fun (z1 : (Int × Int × (List (Int × Int × Int)) × (List (Int × Int)) × Unit) × Unit) =>
(whileK (fun (rec2 : ((Int × Int × (List (Int × Int × Int)) × (List (Int × Int)) × Unit) × Int × Unit) → Option _) (y2 : (Int × Int × (List (Int × Int × Int)) × (List (Int × Int)) × Unit) × Int × Unit) =>
(if (decide (y2.2.1 < (List.length y2.1.2.2.1 : Int))) = true then
(if 0 ≤ y2.2.1 ∧ y2.2.1 < (List.length y2.1.2.2.1 : Int) then
(jn (
((s_l11FixedFor k ((y2.1.1, (y2.1.2.1, (y2.1.2.2.1, (y2.1.2.2.2.1, ())))), ((Ty.rd (t := (.pair (.int .i64) yT3)) y2.1.2.2.1 y2.2.1).1, ()))).bind fun p11 =>
(jn (
(whileK (fun (rec4 : ((Int × Int × (List (Int × Int × Int)) × (List (Int × Int)) × Unit) × Int × (Int × Int × Int × Unit) × Int × Unit) → Option _) (y4 : (Int × Int × (List (Int × Int × Int)) × (List (Int × Int)) × Unit) × Int × (Int × Int × Int × Unit) × Int × Unit) =>
(if (decide (y4.2.2.2.1 < y4.2.1)) = true then
(if 0 ≤ y4.2.2.2.1 ∧ y4.2.2.2.1 < (List.length y4.1.2.2.1 : Int) then
(if (decide ((Ty.rd (t := (.pair (.int .i64) yT3)) y4.1.2.2.1 y4.2.2.2.1).2.1 = y4.2.2.1.2.1)) = true then
some (false, ((), ()))
else
(rec4 ((y4.1.1, (y4.1.2.1, (y4.1.2.2.1, (y4.1.2.2.2.1, ())))), (y4.2.1, ((y4.2.2.1.1, (y4.2.2.1.2.1, (y4.2.2.1.2.2.1, ()))), ((wi64 (y4.2.2.2.1 + (1 : Int))), ()))))))
else none)
else
((fun (z5 : (Int × Int × (List (Int × Int × Int)) × (List (Int × Int)) × Unit) × Int × Unit) =>
(rec2 ((z5.1.1, (z5.1.2.1, (z5.1.2.2.1, (z5.1.2.2.2.1, ())))), ((wi64 (z5.2.1 + (1 : Int))), ())))) ((y4.1.1, (y4.1.2.1, (y4.1.2.2.1, (y4.1.2.2.2.1, ())))), (y4.2.1, ()))))) k ((y2.1.1, (y2.1.2.1, (y2.1.2.2.1, (y2.1.2.2.2.1, ())))), (y2.2.1, (((Ty.rd (t := (.pair (.int .i64) yT3)) y2.1.2.2.1 y2.2.1).1, ((Ty.rd (t := (.pair (.int .i64) yT3)) y2.1.2.2.1 y2.2.1).2.1, ((Ty.rd (t := (.pair (.int .i64) yT3)) y2.1.2.2.1 y2.2.1).2.2, ()))), ((0 : Int), ())))))) (fun (j3 : Option _) =>
(if (!decide (p11.1 = (0 : Int))) = true then
(if (!decide (p11.1 = (Ty.rd (t := (.pair (.int .i64) yT3)) y2.1.2.2.1 y2.2.1).2.1)) = true then
some (false, ((), ()))
else
j3)
else
j3))))) (fun (j2 : Option _) =>
((s_l11Inside k ((y2.1.1, (y2.1.2.1, (y2.1.2.2.1, (y2.1.2.2.2.1, ())))), ((Ty.rd (t := (.pair (.int .i64) yT3)) y2.1.2.2.1 y2.2.1).1, ()))).bind fun p7 =>
(if (!p7.1) = false then
((s_l01In k ((Ty.rd (t := (.pair (.int .i64) yT3)) y2.1.2.2.1 y2.2.1).2.1, ((1 : Int), ((99 : Int), ())))).bind fun p8 =>
(if (!p8.1) = false then
((s_l01In k ((Ty.rd (t := (.pair (.int .i64) yT3)) y2.1.2.2.1 y2.2.1).2.2, ((0 : Int), ((1000000000 : Int), ())))).bind fun p9 =>
(if (!p9.1) = false then
(if (decide ((0 : Int) < y2.2.1)) = true then
(if 0 ≤ (wi64 (y2.2.1 - (1 : Int))) ∧ (wi64 (y2.2.1 - (1 : Int))) < (List.length y2.1.2.2.1 : Int) then
(if (decide ((Ty.rd (t := (.pair (.int .i64) yT3)) y2.1.2.2.1 y2.2.1).1 ≤ (Ty.rd (t := (.pair (.int .i64) yT3)) y2.1.2.2.1 (wi64 (y2.2.1 - (1 : Int)))).1)) = true then
some (false, ((), ()))
else
j2)
else none)
else
j2)
else
some (false, ((), ()))))
else
some (false, ((), ()))))
else
some (false, ((), ()))))))
else none)
else
((fun (z6 : Unit) =>
some (true, ((), ()))) ()))) k ((z1.1.1, (z1.1.2.1, (z1.1.2.2.1, (z1.1.2.2.2.1, ())))), ((0 : Int), ())))) ((y0.1.1, (y0.1.2.1, (y0.1.2.2.1, (y0.1.2.2.2.1, ())))), ())))) k ((x.1.1, (x.1.2.1, (x.1.2.2.1, (x.1.2.2.2.1, ())))), ((0 : Int), ()))))
else
some (false, ((), ())))
else
some (false, ((), ()))))
else
some (false, ((), ()))))
abbrev E_s_PoolOk (k : Nat) : Entry := ⟨40, 0, (.cons (.agg yP1) .nil), .bool, s_PoolOk k⟩
theorem t_s_PoolOk (k : Nat) (x) : evF TTab k [E_s_PrefixOk k, E_s_l01In k, E_s_l11Inside k, E_s_l11FixedFor k] [(0, ⟨[1, 3], (.cons (.ptr 0 yP1) yP7)⟩, ⟨[1], (.cons (.ptr 0 yP1) .nil)⟩), (2, ⟨[1, 5], (.cons (.ptr 0 yP1) yP7)⟩, ⟨[], .nil⟩), (4, ⟨[1, 5, 6, 8], (.cons (.ptr 0 yP1) (.cons (.int .i64) (.cons (.ptr 0 (.cons (.int .i64) yP2)) yP7)))⟩, ⟨[1, 5], (.cons (.ptr 0 yP1) yP7)⟩)] Tryz.f40 (.cons (.agg yP1) .nil) .bool x = s_PoolOk k x := by kernel_rfl
theorem e_s_PoolOk [NamesT] (k : Nat) : EntryOk Tryz.prog (E_s_PoolOk k) := entry_ok tok (es_cons (e_s_PrefixOk k) (es_cons (e_s_l01In k) (es_cons (e_s_l11Inside k) (es_cons (e_s_l11FixedFor k) es_nil)))) (by kernel_rfl) (by kernel_rfl) (by kernel_rfl) fun x r h => (t_s_PoolOk k x).trans h
def s_HubNew (k : Nat) (x : (Int × Int × Unit) × Unit) : Option (((Int × Int × (List (Int × Int × Int)) × (List (Int × Int)) × (List ((Int × Int) × Int)) × (List (Int × Int × ((Int × ByteArray × ByteArray × Int × List (Int) × Int) × Int × ByteArray × ByteArray × Int × List (Int) × Int) × List (Int × Int × Int × List (ByteArray) × List (Bool) × Int) × Int)) × Unit) × Bool × Unit) × Unit × Unit) :=
((s_PoolOk k ((x.1.1, (x.1.2.1, ([], ([], ())))), ())).bind fun p1 =>
(if (!p1.1) = true then
some ((((0 : Int), ((0 : Int), ([], ([], ([], ([], ())))))), (false, ())), ((), ()))
else
some (((x.1.1, (x.1.2.1, ([], ([], ([], ([], ())))))), (true, ())), ((), ()))))
abbrev E_s_HubNew (k : Nat) : Entry := ⟨26, 0, (.cons (.agg yP2) .nil), (.tup (.cons (.agg (.cons (.int .i64) (.cons (.int .i64) (.cons (.own false 91 (.pair (.int .i64) yT3)) (.cons (.own false 87 yT3) (.cons (.own false 153 (.pair yT3 (.int .i64))) (.cons yP5 .nil))))))) (.cons .bool .nil))), s_HubNew k⟩
theorem t_s_HubNew (k : Nat) (x) : evF TTab k [E_s_PoolOk k] [] Tryz.f26 (.cons (.agg yP2) .nil) (.tup (.cons (.agg (.cons (.int .i64) (.cons (.int .i64) (.cons (.own false 91 (.pair (.int .i64) yT3)) (.cons (.own false 87 yT3) (.cons (.own false 153 (.pair yT3 (.int .i64))) (.cons yP5 .nil))))))) (.cons .bool .nil))) x = s_HubNew k x := by kernel_rfl
theorem e_s_HubNew [NamesT] (k : Nat) : EntryOk Tryz.prog (E_s_HubNew k) := entry_ok tok (es_cons (e_s_PoolOk k) es_nil) (by kernel_rfl) (by kernel_rfl) (by kernel_rfl) fun x r h => (t_s_HubNew k x).trans h
def s_LifeNew (k : Nat) (x : (Int × Int × Unit) × Unit) : Option (((Int × Int × (List (Int × Int × Int)) × (List (Int × Int)) × (List ((Int × Int) × Int)) × (List (Int × Int × ((Int × ByteArray × ByteArray × Int × List (Int) × Int) × Int × ByteArray × ByteArray × Int × List (Int) × Int) × List (Int × Int × Int × List (ByteArray) × List (Bool) × Int) × Int)) × (List (Int × Int × ((Int × ByteArray × ByteArray × Int × List (Int) × Int) × Int × ByteArray × ByteArray × Int × List (Int) × Int) × List (Int × Int × Int × List (ByteArray) × List (Bool) × Int) × Int)) × List (Int) × Int × (List (Int × Int × Bool × Int × Int × Int × Int × Int × List (Int) × ByteArray)) × Int × (List (Int × Int × Int × ByteArray)) × (List (Int × Int × Int × ByteArray)) × Int × (List (Int × Bool × Int × Int)) × Unit) × Bool × Unit) × Unit × Unit) :=
((s_HubNew k ((x.1.1, (x.1.2.1, ())), ())).bind fun p1 =>
(if (!p1.1.2.1) = true then
some ((((0 : Int), ((0 : Int), ([], ([], ([], ([], ([], ([], ((0 : Int), ([], ((0 : Int), ([], ([], ((0 : Int), ([], ()))))))))))))))), (false, ())), ((), ()))
else
some (((p1.1.1.1, (p1.1.1.2.1, (p1.1.1.2.2.1, (p1.1.1.2.2.2.1, (p1.1.1.2.2.2.2.1, (p1.1.1.2.2.2.2.2.1, ([], ([], ((0 : Int), ([], ((0 : Int), ([], ([], ((0 : Int), ([], ()))))))))))))))), (true, ())), ((), ()))))
abbrev E_s_LifeNew (k : Nat) : Entry := ⟨13, 0, (.cons (.agg yP2) .nil), yP10, s_LifeNew k⟩
theorem t_s_LifeNew (k : Nat) (x) : evF TTab k [E_s_HubNew k] [] Tryz.f13 (.cons (.agg yP2) .nil) yP10 x = s_LifeNew k x := by kernel_rfl
theorem e_s_LifeNew [NamesT] (k : Nat) : EntryOk Tryz.prog (E_s_LifeNew k) := entry_ok tok (es_cons (e_s_HubNew k) es_nil) (by kernel_rfl) (by kernel_rfl) (by kernel_rfl) fun x r h => (t_s_LifeNew k x).trans h
def s_l25Plain (k : Nat) (x : List (ByteArray) × Unit) : Option (((Int × Int × Int × Int × ByteArray × Int × Int × Unit) × Bool × Unit) × Unit × Unit) :=
(whileK (fun (rec0 : (List (ByteArray) × (Int × Int × Int × Int × ByteArray × Int × Int × Unit) × List (ByteArray) × List (Int) × Int × Unit) → Option _) (y0 : List (ByteArray) × (Int × Int × Int × Int × ByteArray × Int × Int × Unit) × List (ByteArray) × List (Int) × Int × Unit) =>
(if (decide (y0.2.2.2.2.1 < (List.length y0.2.2.1 : Int))) = true then
(if 0 ≤ (0 : Int) ∧ (0 : Int) < (List.length y0.1 : Int) then
(if 0 ≤ y0.2.2.2.2.1 ∧ y0.2.2.2.2.1 < (List.length y0.2.2.1 : Int) then
(if (!decide ((Ty.rd (t := .str) y0.1 (0 : Int)) = (Ty.rd (t := .str) y0.2.2.1 y0.2.2.2.2.1))) = false then
(if (!decide ((List.length y0.1 : Int) = (2 : Int))) = true then
(rec0 (y0.1, ((y0.2.1.1, (y0.2.1.2.1, (y0.2.1.2.2.1, (y0.2.1.2.2.2.1, (y0.2.1.2.2.2.2.1, (y0.2.1.2.2.2.2.2.1, (y0.2.1.2.2.2.2.2.2.1, ()))))))), (y0.2.2.1, (y0.2.2.2.1, ((wi64 (y0.2.2.2.2.1 + (1 : Int))), ()))))))
else
(if 0 ≤ (1 : Int) ∧ (1 : Int) < (List.length y0.1 : Int) then
((s_ReadDecimal k ((Ty.rd (t := .str) y0.1 (1 : Int)), ())).bind fun p1 =>
(if 0 ≤ y0.2.2.2.2.1 ∧ y0.2.2.2.2.1 < (List.length y0.2.2.2.1 : Int) then
(if 0 ≤ y0.2.2.2.2.1 ∧ y0.2.2.2.2.1 < (List.length y0.2.2.2.1 : Int) then
((s_l01In k ((Ty.rd (t := (.int .i64)) y0.2.2.2.1 y0.2.2.2.2.1), ((4 : Int), ((6 : Int), ())))).bind fun p2 =>
(if p2.1 = true then
some ((((Ty.rd (t := (.int .i64)) y0.2.2.2.1 y0.2.2.2.2.1), ((1 : Int), (p1.1.1, ((0 : Int), ((⟨#[]⟩ : ByteArray), ((0 : Int), ((0 : Int), ()))))))), (p1.1.2.1, ())), ((), ()))
else
some ((((Ty.rd (t := (.int .i64)) y0.2.2.2.1 y0.2.2.2.2.1), (p1.1.1, ((0 : Int), ((0 : Int), ((⟨#[]⟩ : ByteArray), ((0 : Int), ((0 : Int), ()))))))), (p1.1.2.1, ())), ((), ()))))
else none)
else none))
else none))
else
(rec0 (y0.1, ((y0.2.1.1, (y0.2.1.2.1, (y0.2.1.2.2.1, (y0.2.1.2.2.2.1, (y0.2.1.2.2.2.2.1, (y0.2.1.2.2.2.2.2.1, (y0.2.1.2.2.2.2.2.2.1, ()))))))), (y0.2.2.1, (y0.2.2.2.1, ((wi64 (y0.2.2.2.2.1 + (1 : Int))), ())))))))
else none)
else none)
else
((fun (z1 : (Int × Int × Int × Int × ByteArray × Int × Int × Unit) × Unit) =>
some ((((0 : Int), ((0 : Int), ((0 : Int), ((0 : Int), ((⟨#[]⟩ : ByteArray), ((0 : Int), ((0 : Int), ()))))))), (false, ())), ((), ()))) ((y0.2.1.1, (y0.2.1.2.1, (y0.2.1.2.2.1, (y0.2.1.2.2.2.1, (y0.2.1.2.2.2.2.1, (y0.2.1.2.2.2.2.2.1, (y0.2.1.2.2.2.2.2.2.1, ()))))))), ())))) k (x.1, (((0 : Int), ((0 : Int), ((0 : Int), ((0 : Int), ((⟨#[]⟩ : ByteArray), ((0 : Int), ((0 : Int), ()))))))), (([(⟨#[106, 111, 105, 110]⟩ : ByteArray), (⟨#[108, 101, 97, 118, 101]⟩ : ByteArray), (⟨#[116, 97, 107, 101]⟩ : ByteArray), (⟨#[108, 111, 115, 101]⟩ : ByteArray), (⟨#[116, 119, 105, 99, 101]⟩ : ByteArray), (⟨#[114, 101, 107, 101, 121, 104, 117, 98]⟩ : ByteArray), (⟨#[114, 101, 107, 101, 121, 117, 115, 101, 114]⟩ : ByteArray)] : List (ByteArray)), (([(1 : Int), (2 : Int), (4 : Int), (5 : Int), (6 : Int), (7 : Int), (8 : Int)] : List (Int)), ((0 : Int), ()))))))
abbrev E_s_l25Plain (k : Nat) : Entry := ⟨27, 0, (.cons (.il true .str) .nil), (.tup (.cons (.agg yP6) (.cons .bool .nil))), s_l25Plain k⟩
theorem t_s_l25Plain (k : Nat) (x) : evF TTab k [E_s_ReadDecimal k, E_s_l01In k] [(0, ⟨[0, 2, 4, 5, 6], (.cons (.il true .str) (.cons (.ptr 0 yP6) (.cons (.own false 9 .str) (.cons (.own false 3 (.int .i64)) yP7))))⟩, ⟨[2], (.cons (.ptr 0 yP6) .nil)⟩)] Tryz.f27 (.cons (.il true .str) .nil) (.tup (.cons (.agg yP6) (.cons .bool .nil))) x = s_l25Plain k x := by kernel_rfl
theorem e_s_l25Plain [NamesT] (k : Nat) : EntryOk Tryz.prog (E_s_l25Plain k) := entry_ok tok (es_cons (e_s_ReadDecimal k) (es_cons (e_s_l01In k) es_nil)) (by kernel_rfl) (by kernel_rfl) (by kernel_rfl) fun x r h => (t_s_l25Plain k x).trans h
def s_l25Event (k : Nat) (x : List (ByteArray) × Unit) : Option (((Int × Int × Int × Int × ByteArray × Int × Int × Unit) × Bool × Unit) × Unit × Unit) :=
(jn (
(if 0 ≤ (0 : Int) ∧ (0 : Int) < (List.length x.1 : Int) then
(if (decide ((Ty.rd (t := .str) x.1 (0 : Int)) = (⟨#[98, 101, 104, 105, 110, 100]⟩ : ByteArray))) = true then
(if (decide ((List.length x.1 : Int) = (3 : Int))) = true then
(if 0 ≤ (1 : Int) ∧ (1 : Int) < (List.length x.1 : Int) then
((s_ReadDecimal k ((Ty.rd (t := .str) x.1 (1 : Int)), ())).bind fun p8 =>
(if 0 ≤ (2 : Int) ∧ (2 : Int) < (List.length x.1 : Int) then
((s_ReadPrefix k ((Ty.rd (t := .str) x.1 (2 : Int)), ())).bind fun p9 =>
(if p8.1.2.1 = true then
some ((((9 : Int), (p8.1.1, ((0 : Int), ((0 : Int), ((⟨#[]⟩ : ByteArray), (p9.1.1.1, (p9.1.1.2.1, ()))))))), (p9.1.2.1, ())), ((), ()))
else
some ((((9 : Int), (p8.1.1, ((0 : Int), ((0 : Int), ((⟨#[]⟩ : ByteArray), (p9.1.1.1, (p9.1.1.2.1, ()))))))), (false, ())), ((), ()))))
else none))
else none)
else
((s_l25Plain k (x.1, ())).bind fun p11 =>
some (((p11.1.1.1, (p11.1.1.2.1, (p11.1.1.2.2.1, (p11.1.1.2.2.2.1, (p11.1.1.2.2.2.2.1, (p11.1.1.2.2.2.2.2.1, (p11.1.1.2.2.2.2.2.2.1, ()))))))), (p11.1.2.1, ())), ((), ()))))
else
((s_l25Plain k (x.1, ())).bind fun p12 =>
some (((p12.1.1.1, (p12.1.1.2.1, (p12.1.1.2.2.1, (p12.1.1.2.2.2.1, (p12.1.1.2.2.2.2.1, (p12.1.1.2.2.2.2.2.1, (p12.1.1.2.2.2.2.2.2.1, ()))))))), (p12.1.2.1, ())), ((), ()))))
else none)) (fun (j1 : Option _) =>
(if 0 ≤ (0 : Int) ∧ (0 : Int) < (List.length x.1 : Int) then
(if (decide ((Ty.rd (t := .str) x.1 (0 : Int)) = (⟨#[115, 97, 121]⟩ : ByteArray))) = true then
(if (decide ((List.length x.1 : Int) = (4 : Int))) = true then
(if 0 ≤ (1 : Int) ∧ (1 : Int) < (List.length x.1 : Int) then
((s_ReadDecimal k ((Ty.rd (t := .str) x.1 (1 : Int)), ())).bind fun p1 =>
(if 0 ≤ (2 : Int) ∧ (2 : Int) < (List.length x.1 : Int) then
((s_ReadAddr k ((Ty.rd (t := .str) x.1 (2 : Int)), ())).bind fun p2 =>
(if 0 ≤ (3 : Int) ∧ (3 : Int) < (List.length x.1 : Int) then
(if p1.1.2.1 = true then
some ((((3 : Int), (p1.1.1, ((0 : Int), (p2.1.1, ((Ty.rd (t := .str) x.1 (3 : Int)), ((0 : Int), ((0 : Int), ()))))))), (p2.1.2.1, ())), ((), ()))
else
some ((((3 : Int), (p1.1.1, ((0 : Int), (p2.1.1, ((Ty.rd (t := .str) x.1 (3 : Int)), ((0 : Int), ((0 : Int), ()))))))), (false, ())), ((), ())))
else none))
else none))
else none)
else
j1)
else
j1)
else none)))
abbrev E_s_l25Event (k : Nat) : Entry := ⟨14, 0, (.cons (.il true .str) .nil), (.tup (.cons (.agg yP6) (.cons .bool .nil))), s_l25Event k⟩
theorem t_s_l25Event (k : Nat) (x) : evF TTab k [E_s_ReadPrefix k, E_s_ReadAddr k, E_s_ReadDecimal k, E_s_l25Plain k] [] Tryz.f14 (.cons (.il true .str) .nil) (.tup (.cons (.agg yP6) (.cons .bool .nil))) x = s_l25Event k x := by kernel_rfl
theorem e_s_l25Event [NamesT] (k : Nat) : EntryOk Tryz.prog (E_s_l25Event k) := entry_ok tok (es_cons (e_s_ReadPrefix k) (es_cons (e_s_ReadAddr k) (es_cons (e_s_ReadDecimal k) (es_cons (e_s_l25Plain k) es_nil)))) (by kernel_rfl) (by kernel_rfl) (by kernel_rfl) fun x r h => (t_s_l25Event k x).trans h
def s_HappenOk (k : Nat) (x : (Int × Int × Int × Int × ByteArray × Int × Int × Unit) × Unit) : Option (Bool × Unit × Unit) :=
((s_l01In k (x.1.1, ((1 : Int), ((9 : Int), ())))).bind fun p1 =>
(if (!p1.1) = false then
((s_l01In k (x.1.2.1, ((1 : Int), ((98 : Int), ())))).bind fun p2 =>
(if (!p2.1) = false then
(if (decide (x.1.2.2.1 < (0 : Int))) = true then
some (false, ((), ()))
else
(if (decide (x.1.1 = (3 : Int))) = true then
((s_AddrOk k (x.1.2.2.2.1, ())).bind fun p3 =>
(if p3.1 = true then
(if (decide ((ByteArray.size x.1.2.2.2.2.1 : Int) ≤ (100 : Int))) = true then
some ((decide (x.1.2.2.2.2.2.1 = (0 : Int)) && decide (x.1.2.2.2.2.2.2.1 = (0 : Int))), ((), ()))
else
some (false, ((), ())))
else
some (false, ((), ()))))
else
(if (decide (x.1.1 = (9 : Int))) = true then
((s_PrefixOk k ((x.1.2.2.2.2.2.1, (x.1.2.2.2.2.2.2.1, ())), ())).bind fun p4 =>
(if p4.1 = true then
(if (decide (x.1.2.2.2.1 = (0 : Int))) = true then
some ((decide (x.1.2.2.2.2.1 = (⟨#[]⟩ : ByteArray))), ((), ()))
else
some (false, ((), ())))
else
some (false, ((), ()))))
else
(if (decide (x.1.2.2.2.1 = (0 : Int))) = true then
(if (decide (x.1.2.2.2.2.1 = (⟨#[]⟩ : ByteArray))) = true then
some ((decide (x.1.2.2.2.2.2.1 = (0 : Int)) && decide (x.1.2.2.2.2.2.2.1 = (0 : Int))), ((), ()))
else
some (false, ((), ())))
else
some (false, ((), ()))))))
else
some (false, ((), ()))))
else
some (false, ((), ()))))
abbrev E_s_HappenOk (k : Nat) : Entry := ⟨15, 0, (.cons (.agg yP6) .nil), .bool, s_HappenOk k⟩
theorem t_s_HappenOk (k : Nat) (x) : evF TTab k [E_s_PrefixOk k, E_s_l01In k, E_s_AddrOk k] [] Tryz.f15 (.cons (.agg yP6) .nil) .bool x = s_HappenOk k x := by kernel_rfl
theorem e_s_HappenOk [NamesT] (k : Nat) : EntryOk Tryz.prog (E_s_HappenOk k) := entry_ok tok (es_cons (e_s_PrefixOk k) (es_cons (e_s_l01In k) (es_cons (e_s_AddrOk k) es_nil))) (by kernel_rfl) (by kernel_rfl) (by kernel_rfl) fun x r h => (t_s_HappenOk k x).trans h
def s_ReadScript (k : Nat) (x : ByteArray × Unit) : Option (((Int × Int × Unit) × (List (Int × Int × Int × Int × ByteArray × Int × Int)) × Int × Unit) × Unit × Unit) :=
(if (decide ((3000 : Int) < (ByteArray.size x.1 : Int))) = false then
((s_l25Lines k (x.1, ())).bind fun p1 =>
(if (decide ((100 : Int) < (List.length p1.1 : Int))) = true then
some ((((0 : Int), ((0 : Int), ())), (([] : List (Int × Int × Int × Int × ByteArray × Int × Int)), ((-1 : Int), ()))), ((), ()))
else
((s_l25Lines k (x.1, ())).bind fun p2 =>
(whileK (fun (rec0 : ((Int × Int × Unit) × (List (Int × Int × Int × Int × ByteArray × Int × Int)) × List (ByteArray) × (Int × Int × Unit) × Bool × (List (Int × Int × Int × Int × ByteArray × Int × Int)) × Int × Unit) → Option _) (y0 : (Int × Int × Unit) × (List (Int × Int × Int × Int × ByteArray × Int × Int)) × List (ByteArray) × (Int × Int × Unit) × Bool × (List (Int × Int × Int × Int × ByteArray × Int × Int)) × Int × Unit) =>
(if (decide (y0.2.2.2.2.2.2.1 < (List.length y0.2.2.1 : Int))) = true then
(if 0 ≤ y0.2.2.2.2.2.2.1 ∧ y0.2.2.2.2.2.2.1 < (List.length y0.2.2.1 : Int) then
((s_PartsOf k ((Ty.rd (t := .str) y0.2.2.1 y0.2.2.2.2.2.2.1), ())).bind fun p3 =>
(jn (
(if (!p3.1.2.1) = true then
some ((((0 : Int), ((0 : Int), ())), (y0.2.1, ((wi64 (y0.2.2.2.2.2.2.1 + (1 : Int))), ()))), ((), ()))
else
(if (!y0.2.2.2.2.1) = true then
(if (!decide ((List.length p3.1.1 : Int) = (2 : Int))) = false then
(if 0 ≤ (0 : Int) ∧ (0 : Int) < (List.length p3.1.1 : Int) then
(if (!decide ((Ty.rd (t := .str) p3.1.1 (0 : Int)) = (⟨#[110, 101, 116]⟩ : ByteArray))) = true then
some ((((0 : Int), ((0 : Int), ())), (y0.2.1, ((wi64 (y0.2.2.2.2.2.2.1 + (1 : Int))), ()))), ((), ()))
else
(if 0 ≤ (1 : Int) ∧ (1 : Int) < (List.length p3.1.1 : Int) then
((s_ReadPrefix k ((Ty.rd (t := .str) p3.1.1 (1 : Int)), ())).bind fun p8 =>
((s_LifeNew k ((p8.1.1.1, (p8.1.1.2.1, ())), ())).bind fun p9 =>
(if (!p8.1.2.1) = false then
(if (!p9.1.2.1) = true then
some ((((0 : Int), ((0 : Int), ())), (y0.2.1, ((wi64 (y0.2.2.2.2.2.2.1 + (1 : Int))), ()))), ((), ()))
else
(rec0 ((y0.1.1, (y0.1.2.1, ())), (y0.2.1, (y0.2.2.1, ((p8.1.1.1, (p8.1.1.2.1, ())), (true, (y0.2.2.2.2.2.1, ((wi64 (y0.2.2.2.2.2.2.1 + (1 : Int))), ())))))))))
else
some ((((0 : Int), ((0 : Int), ())), (y0.2.1, ((wi64 (y0.2.2.2.2.2.2.1 + (1 : Int))), ()))), ((), ())))))
else none))
else none)
else
some ((((0 : Int), ((0 : Int), ())), (y0.2.1, ((wi64 (y0.2.2.2.2.2.2.1 + (1 : Int))), ()))), ((), ())))
else
((s_l25Event k (p3.1.1, ())).bind fun p10 =>
(if (!p10.1.2.1) = false then
((s_HappenOk k ((p10.1.1.1, (p10.1.1.2.1, (p10.1.1.2.2.1, (p10.1.1.2.2.2.1, (p10.1.1.2.2.2.2.1, (p10.1.1.2.2.2.2.2.1, (p10.1.1.2.2.2.2.2.2.1, ()))))))), ())).bind fun p11 =>
(if (!p11.1) = false then
(if (decide ((List.length y0.2.2.2.2.2.1 : Int) = (80 : Int))) = true then
some ((((0 : Int), ((0 : Int), ())), (y0.2.1, ((wi64 (y0.2.2.2.2.2.2.1 + (1 : Int))), ()))), ((), ()))
else
(if List.length y0.2.2.2.2.2.1 + List.length ([(p10.1.1.1, (p10.1.1.2.1, (p10.1.1.2.2.1, (p10.1.1.2.2.2.1, (p10.1.1.2.2.2.2.1, (p10.1.1.2.2.2.2.2.1, p10.1.1.2.2.2.2.2.2.1))))))] : List (Int × Int × Int × Int × ByteArray × Int × Int)) ≤ capMax then
(rec0 ((y0.1.1, (y0.1.2.1, ())), (y0.2.1, (y0.2.2.1, ((y0.2.2.2.1.1, (y0.2.2.2.1.2.1, ())), (y0.2.2.2.2.1, ((y0.2.2.2.2.2.1 ++ ([(p10.1.1.1, (p10.1.1.2.1, (p10.1.1.2.2.1, (p10.1.1.2.2.2.1, (p10.1.1.2.2.2.2.1, (p10.1.1.2.2.2.2.2.1, p10.1.1.2.2.2.2.2.2.1))))))] : List (Int × Int × Int × Int × ByteArray × Int × Int))), ((wi64 (y0.2.2.2.2.2.2.1 + (1 : Int))), ()))))))))
else none))
else
some ((((0 : Int), ((0 : Int), ())), (y0.2.1, ((wi64 (y0.2.2.2.2.2.2.1 + (1 : Int))), ()))), ((), ()))))
else
some ((((0 : Int), ((0 : Int), ())), (y0.2.1, ((wi64 (y0.2.2.2.2.2.2.1 + (1 : Int))), ()))), ((), ()))))))) (fun (j1 : Option _) =>
(if p3.1.2.1 = true then
(if (decide ((List.length p3.1.1 : Int) = (0 : Int))) = false then
(if 0 ≤ (0 : Int) ∧ (0 : Int) < (List.length p3.1.1 : Int) then
(if 0 ≤ (0 : Int) ∧ (0 : Int) < (ByteArray.size (Ty.rd (t := .str) p3.1.1 (0 : Int)) : Int) then
(if (decide ((bt (Ty.rd (t := .str) p3.1.1 (0 : Int)) (0 : Int)) = (35 : Int))) = true then
(rec0 ((y0.1.1, (y0.1.2.1, ())), (y0.2.1, (y0.2.2.1, ((y0.2.2.2.1.1, (y0.2.2.2.1.2.1, ())), (y0.2.2.2.2.1, (y0.2.2.2.2.2.1, ((wi64 (y0.2.2.2.2.2.2.1 + (1 : Int))), ()))))))))
else
j1)
else none)
else none)
else
(rec0 ((y0.1.1, (y0.1.2.1, ())), (y0.2.1, (y0.2.2.1, ((y0.2.2.2.1.1, (y0.2.2.2.1.2.1, ())), (y0.2.2.2.2.1, (y0.2.2.2.2.2.1, ((wi64 (y0.2.2.2.2.2.2.1 + (1 : Int))), ())))))))))
else
j1))))
else none)
else
((fun (z1 : (Int × Int × Unit) × (List (Int × Int × Int × Int × ByteArray × Int × Int)) × (Int × Int × Unit) × Bool × (List (Int × Int × Int × Int × ByteArray × Int × Int)) × Unit) =>
(if (!z1.2.2.2.1) = true then
some ((((0 : Int), ((0 : Int), ())), (z1.2.1, ((1 : Int), ()))), ((), ()))
else
some (((z1.2.2.1.1, (z1.2.2.1.2.1, ())), (z1.2.2.2.2.1, ((0 : Int), ()))), ((), ())))) ((y0.1.1, (y0.1.2.1, ())), (y0.2.1, ((y0.2.2.2.1.1, (y0.2.2.2.1.2.1, ())), (y0.2.2.2.2.1, (y0.2.2.2.2.2.1, ())))))))) k (((0 : Int), ((0 : Int), ())), (([] : List (Int × Int × Int × Int × ByteArray × Int × Int)), (p2.1, (((0 : Int), ((0 : Int), ())), (false, (([] : List (Int × Int × Int × Int × ByteArray × Int × Int)), ((0 : Int), ())))))))))))
else
some ((((0 : Int), ((0 : Int), ())), (([] : List (Int × Int × Int × Int × ByteArray × Int × Int)), ((-1 : Int), ()))), ((), ())))
abbrev E_s_ReadScript (k : Nat) : Entry := ⟨4, 0, (.cons .str .nil), (.tup (.cons (.agg yP2) (.cons (.own false 54 yT0) yP7))), s_ReadScript k⟩
theorem t_s_ReadScript (k : Nat) (x) : evF TTab k [E_s_l25Lines k, E_s_PartsOf k, E_s_ReadPrefix k, E_s_LifeNew k, E_s_l25Event k, E_s_HappenOk k] [(0, ⟨[2, 5, 6, 7, 8, 9, 10], (.cons (.ptr 0 yP2) (.cons (.own false 54 yT0) (.cons (.own false 9 .str) (.cons (.ptr 0 yP2) (.cons .bool (.cons (.own false 54 yT0) yP7))))))⟩, ⟨[2, 5, 7, 8, 9], (.cons (.ptr 0 yP2) (.cons (.own false 54 yT0) (.cons (.ptr 0 yP2) (.cons .bool (.cons (.own false 54 yT0) .nil)))))⟩)] Tryz.f4 (.cons .str .nil) (.tup (.cons (.agg yP2) (.cons (.own false 54 yT0) yP7))) x = s_ReadScript k x := by kernel_rfl
theorem e_s_ReadScript [NamesT] (k : Nat) : EntryOk Tryz.prog (E_s_ReadScript k) := entry_ok tok (es_cons (e_s_l25Lines k) (es_cons (e_s_PartsOf k) (es_cons (e_s_ReadPrefix k) (es_cons (e_s_LifeNew k) (es_cons (e_s_l25Event k) (es_cons (e_s_HappenOk k) es_nil)))))) (by kernel_rfl) (by kernel_rfl) (by kernel_rfl) fun x r h => (t_s_ReadScript k x).trans h
def x_strings_Split (k : Nat) (x : ByteArray × ByteArray × Unit) : Option (List (ByteArray) × Unit × Unit × Unit) := splitF x
abbrev E_x_strings_Split (k : Nat) : Entry := ⟨16, 0, (.cons .str (.cons .str .nil)), (.own false 9 .str), x_strings_Split k⟩
theorem e_x_strings_Split [NamesT] (k : Nat) : EntryOk Tryz.prog (E_x_strings_Split k) := entry_split Tryz.func16 (by kernel_rfl) (fun w => ∃ m, w.cell? ⟨0, 0, none⟩ = some (.int .i64 m)) (fun w h => (NamesT.all w h).2.1) (fun s sep w hm hs h1 => hm.elim fun m hm => Tryz.strings_Split s sep m w hs hm h1)
def i_within (k : Nat) (x : Int × Int × Int × Unit) : Option (Bool × Unit × Unit × Unit × Unit) :=
(if (decide (x.2.1 ≤ x.1)) = true then
some ((decide (x.1 ≤ x.2.2.1)), ((), ((), ((), ()))))
else
some (false, ((), ((), ((), ())))))
abbrev E_i_within (k : Nat) : Entry := ⟨31, 0, (.cons (.int .i64) yP2), .bool, i_within k⟩
theorem t_i_within (k : Nat) (x) : evF TTab k [] [] Tryz.f31 (.cons (.int .i64) yP2) .bool x = i_within k x := by kernel_rfl
theorem e_i_within [NamesT] (k : Nat) : EntryOk Tryz.prog (E_i_within k) := entry_ok tok es_nil (by kernel_rfl) (by kernel_rfl) (by kernel_rfl) fun x r h => (t_i_within k x).trans h
def i_PartsOf (k : Nat) (x : ByteArray × Unit) : Option ((List (ByteArray) × Bool × Unit) × Unit × Unit) :=
(if (decide ((600 : Int) < (ByteArray.size x.1 : Int))) = true then
some (([], (false, ())), ((), ()))
else
(whileK (fun (rec0 : (ByteArray × List (ByteArray) × Int × Unit) → Option _) (y0 : ByteArray × List (ByteArray) × Int × Unit) =>
(if (decide (y0.2.2.1 < (ByteArray.size y0.1 : Int))) = true then
(if 0 ≤ y0.2.2.1 ∧ y0.2.2.1 < (ByteArray.size y0.1 : Int) then
((i_within k ((wi64 ((bt y0.1 y0.2.2.1))), ((32 : Int), ((126 : Int), ())))).bind fun p1 =>
(if (!p1.1) = true then
some (([], (false, ())), ((), ()))
else
(rec0 (y0.1, (y0.2.1, ((wi64 (y0.2.2.1 + (1 : Int))), ()))))))
else none)
else
((fun (z1 : ByteArray × List (ByteArray) × Unit) =>
((x_strings_Split k (z1.1, ((⟨#[32]⟩ : ByteArray), ()))).bind fun p2 =>
(whileK (fun (rec2 : (List (ByteArray) × List (ByteArray) × Int × Int × Unit) → Option _) (y2 : List (ByteArray) × List (ByteArray) × Int × Int × Unit) =>
(if (decide (y2.2.2.2.1 < y2.2.2.1)) = true then
(if 0 ≤ y2.2.2.2.1 ∧ y2.2.2.2.1 < (List.length y2.2.1 : Int) then
(if (!decide ((Ty.rd (t := .str) y2.2.1 y2.2.2.2.1) = (⟨#[]⟩ : ByteArray))) = true then
(if List.length y2.1 + List.length ([(Ty.rd (t := .str) y2.2.1 y2.2.2.2.1)] : List (ByteArray)) ≤ capMax then
(rec2 ((y2.1 ++ ([(Ty.rd (t := .str) y2.2.1 y2.2.2.2.1)] : List (ByteArray))), (y2.2.1, (y2.2.2.1, ((wi64 (y2.2.2.2.1 + (1 : Int))), ())))))
else none)
else
(rec2 (y2.1, (y2.2.1, (y2.2.2.1, ((wi64 (y2.2.2.2.1 + (1 : Int))), ()))))))
else none)
else
((fun (z2 : List (ByteArray) × Unit) =>
(if (decide ((10 : Int) < (List.length z2.1 : Int))) = true then
some (([], (false, ())), ((), ()))
else
some ((z2.1, (true, ())), ((), ())))) (y2.1, ())))) k (z1.2.1, (p2.1, ((List.length p2.1 : Int), ((0 : Int), ()))))))) (y0.1, (y0.2.1, ()))))) k (x.1, (([] : List (ByteArray)), ((0 : Int), ())))))
abbrev E_i_PartsOf (k : Nat) : Entry := ⟨17, 0, (.cons .str .nil), (.tup (.cons (.own false 9 .str) (.cons .bool .nil))), i_PartsOf k⟩
theorem t_i_PartsOf (k : Nat) (x) : evF TTab k [E_x_strings_Split k, E_i_within k] [(0, ⟨[0, 4, 5], (.cons .str (.cons (.own false 9 .str) yP7))⟩, ⟨[0, 4], (.cons .str (.cons (.own false 9 .str) .nil))⟩), (2, ⟨[4, 25, 26, 27], (.cons (.own false 9 .str) (.cons (.own false 9 .str) yP2))⟩, ⟨[4], (.cons (.own false 9 .str) .nil)⟩)] Tryz.f17 (.cons .str .nil) (.tup (.cons (.own false 9 .str) (.cons .bool .nil))) x = i_PartsOf k x := by kernel_rfl
theorem e_i_PartsOf [NamesT] (k : Nat) : EntryOk Tryz.prog (E_i_PartsOf k) := entry_ok tok (es_cons (e_x_strings_Split k) (es_cons (e_i_within k) es_nil)) (by kernel_rfl) (by kernel_rfl) (by kernel_rfl) fun x r h => (t_i_PartsOf k x).trans h
def i_ReadDecimal (k : Nat) (x : ByteArray × Unit) : Option ((Int × Bool × Unit) × Unit × Unit) := readDecF 1000000000 x
abbrev E_i_ReadDecimal (k : Nat) : Entry := ⟨35, 0, (.cons .str .nil), (.tup (.cons (.int .i64) (.cons .bool .nil))), i_ReadDecimal k⟩
theorem e_i_ReadDecimal [NamesT] (k : Nat) : EntryOk Tryz.prog (E_i_ReadDecimal k) := entry_readDec Tryz.func35 (by kernel_rfl) (fun s w hg hs => read_walk s w hs (NamesT.all w hg))
def x_strings_Split_f (k : Nat) (x : ByteArray × ByteArray × Unit) : Option (List (ByteArray) × Unit × Unit × Unit) := splitF x
abbrev E_x_strings_Split_f (k : Nat) : Entry := ⟨16, 0, (.cons .str (.cons .str .nil)), (.il false .str), x_strings_Split_f k⟩
theorem e_x_strings_Split_f [NamesT] (k : Nat) : EntryOk Tryz.prog (E_x_strings_Split_f k) := entry_split_f Tryz.func16 (by kernel_rfl) (fun w => ∃ m, w.cell? ⟨0, 0, none⟩ = some (.int .i64 m)) (fun w h => (NamesT.all w h).2.1) (fun s sep w hm hs h1 => hm.elim fun m hm => Tryz.strings_Split s sep m w hs hm h1)
def i_ReadAddr (k : Nat) (x : ByteArray × Unit) : Option ((Int × Bool × Unit) × Unit × Unit) :=
((x_strings_Split_f k (x.1, ((⟨#[46]⟩ : ByteArray), ()))).bind fun p1 =>
(whileK (fun (rec0 : (List (ByteArray) × Int × List (ByteArray) × Int × Int × Unit) → Option _) (y0 : List (ByteArray) × Int × List (ByteArray) × Int × Int × Unit) =>
(if (decide (y0.2.2.2.2.1 < y0.2.2.2.1)) = true then
(if 0 ≤ y0.2.2.2.2.1 ∧ y0.2.2.2.2.1 < (List.length y0.2.2.1 : Int) then
((i_ReadDecimal k ((Ty.rd (t := .str) y0.2.2.1 y0.2.2.2.2.1), ())).bind fun p2 =>
(if (!p2.1.2.1) = false then
(if (decide ((255 : Int) < p2.1.1)) = false then
(if (!decide ((List.length y0.1 : Int) = (4 : Int))) = true then
some (((0 : Int), (false, ())), ((), ()))
else
(rec0 (y0.1, ((bitsI .or .i64 (wi64 (y0.2.1 * 2 ^ (min (Int.toNat (8 : Int)) (IntKind.bits .i64)))) p2.1.1), (y0.2.2.1, (y0.2.2.2.1, ((wi64 (y0.2.2.2.2.1 + (1 : Int))), ())))))))
else
some (((0 : Int), (false, ())), ((), ())))
else
some (((0 : Int), (false, ())), ((), ()))))
else none)
else
((fun (z1 : Int × Unit) =>
some ((z1.1, (true, ())), ((), ()))) (y0.2.1, ())))) k (p1.1, ((0 : Int), (p1.1, ((List.length p1.1 : Int), ((0 : Int), ())))))))
abbrev E_i_ReadAddr (k : Nat) : Entry := ⟨36, 0, (.cons .str .nil), (.tup (.cons (.int .i64) (.cons .bool .nil))), i_ReadAddr k⟩
theorem t_i_ReadAddr (k : Nat) (x) : evF TTab k [E_x_strings_Split_f k, E_i_ReadDecimal k] [(0, ⟨[4, 5, 12, 13, 14], (.cons (.il false .str) (.cons (.int .i64) (.cons (.il false .str) yP2)))⟩, ⟨[5], yP7⟩)] Tryz.f36 (.cons .str .nil) (.tup (.cons (.int .i64) (.cons .bool .nil))) x = i_ReadAddr k x := by kernel_rfl
theorem e_i_ReadAddr [NamesT] (k : Nat) : EntryOk Tryz.prog (E_i_ReadAddr k) := entry_ok tok (es_cons (e_x_strings_Split_f k) (es_cons (e_i_ReadDecimal k) es_nil)) (by kernel_rfl) (by kernel_rfl) (by kernel_rfl) fun x r h => (t_i_ReadAddr k x).trans h
def x_strings_Cut (k : Nat) (x : ByteArray × ByteArray × Unit) : Option ((ByteArray × ByteArray × Bool × Unit) × Unit × Unit × Unit) := cutF x
abbrev E_x_strings_Cut (k : Nat) : Entry := ⟨44, 0, (.cons .str (.cons .str .nil)), (.tup (.cons .str (.cons .str (.cons .bool .nil)))), x_strings_Cut k⟩
theorem e_x_strings_Cut [NamesT] (k : Nat) : EntryOk Tryz.prog (E_x_strings_Cut k) := entry_cut Tryz.func44 (by kernel_rfl) (fun w => ∃ m, w.cell? ⟨0, 0, none⟩ = some (.int .i64 m)) (fun w h => (NamesT.all w h).2.1) (fun s sep w hm hs => hm.elim fun m hm => Tryz.strings_Cut s sep m w hs hm)
def i_AddrOk (k : Nat) (x : Int × Unit) : Option (Bool × Unit × Unit) :=
((i_within k (x.1, ((0 : Int), ((4294967295 : Int), ())))).bind fun p1 =>
some (p1.1, ((), ())))
abbrev E_i_AddrOk (k : Nat) : Entry := ⟨49, 0, yP7, .bool, i_AddrOk k⟩
theorem t_i_AddrOk (k : Nat) (x) : evF TTab k [E_i_within k] [] Tryz.f49 yP7 .bool x = i_AddrOk k x := by kernel_rfl
theorem e_i_AddrOk [NamesT] (k : Nat) : EntryOk Tryz.prog (E_i_AddrOk k) := entry_ok tok (es_cons (e_i_within k) es_nil) (by kernel_rfl) (by kernel_rfl) (by kernel_rfl) fun x r h => (t_i_AddrOk k x).trans h
def i_lastBits (k : Nat) (x : Int × Unit) : Option (Int × Unit × Unit) :=
(if (wi64 ((32 : Int) - x.1)) < 0 then
none
else
some ((wi64 ((wi64 ((1 : Int) * 2 ^ (min (Int.toNat (wi64 ((32 : Int) - x.1))) (IntKind.bits .i64)))) - (1 : Int))), ((), ())))
abbrev E_i_lastBits (k : Nat) : Entry := ⟨58, 0, yP7, (.int .i64), i_lastBits k⟩
theorem t_i_lastBits (k : Nat) (x) : evF TTab k [] [] Tryz.f58 yP7 (.int .i64) x = i_lastBits k x := by kernel_rfl
theorem e_i_lastBits [NamesT] (k : Nat) : EntryOk Tryz.prog (E_i_lastBits k) := entry_ok tok es_nil (by kernel_rfl) (by kernel_rfl) (by kernel_rfl) fun x r h => (t_i_lastBits k x).trans h
def i_PrefixOk (k : Nat) (x : (Int × Int × Unit) × Unit) : Option (Bool × Unit × Unit) :=
((i_AddrOk k (x.1.1, ())).bind fun p1 =>
(if p1.1 = true then
((i_within k (x.1.2.1, ((0 : Int), ((32 : Int), ())))).bind fun p2 =>
(if p2.1 = true then
((i_lastBits k (x.1.2.1, ())).bind fun p3 =>
some ((decide ((bitsI .and .i64 x.1.1 p3.1) = (0 : Int))), ((), ())))
else
some (false, ((), ()))))
else
some (false, ((), ()))))
abbrev E_i_PrefixOk (k : Nat) : Entry := ⟨45, 0, (.cons (.agg yP2) .nil), .bool, i_PrefixOk k⟩
theorem t_i_PrefixOk (k : Nat) (x) : evF TTab k [E_i_within k, E_i_AddrOk k, E_i_lastBits k] [] Tryz.f45 (.cons (.agg yP2) .nil) .bool x = i_PrefixOk k x := by kernel_rfl
theorem e_i_PrefixOk [NamesT] (k : Nat) : EntryOk Tryz.prog (E_i_PrefixOk k) := entry_ok tok (es_cons (e_i_within k) (es_cons (e_i_AddrOk k) (es_cons (e_i_lastBits k) es_nil))) (by kernel_rfl) (by kernel_rfl) (by kernel_rfl) fun x r h => (t_i_PrefixOk k x).trans h
def i_ReadPrefix (k : Nat) (x : ByteArray × Unit) : Option (((Int × Int × Unit) × Bool × Unit) × Unit × Unit) :=
((x_strings_Cut k (x.1, ((⟨#[47]⟩ : ByteArray), ()))).bind fun p1 =>
((i_ReadAddr k (p1.1.1, ())).bind fun p2 =>
((i_ReadDecimal k (p1.1.2.1, ())).bind fun p3 =>
(if (!p2.1.2.1) = false then
(if (!p3.1.2.1) = false then
((i_PrefixOk k ((p2.1.1, (p3.1.1, ())), ())).bind fun p4 =>
(if (!p4.1) = true then
some ((((0 : Int), ((0 : Int), ())), (false, ())), ((), ()))
else
some (((p2.1.1, (p3.1.1, ())), (true, ())), ((), ()))))
else
some ((((0 : Int), ((0 : Int), ())), (false, ())), ((), ())))
else
some ((((0 : Int), ((0 : Int), ())), (false, ())), ((), ()))))))
abbrev E_i_ReadPrefix (k : Nat) : Entry := ⟨32, 0, (.cons .str .nil), (.tup (.cons (.agg yP2) (.cons .bool .nil))), i_ReadPrefix k⟩
theorem t_i_ReadPrefix (k : Nat) (x) : evF TTab k [E_i_ReadDecimal k, E_i_ReadAddr k, E_x_strings_Cut k, E_i_PrefixOk k] [] Tryz.f32 (.cons .str .nil) (.tup (.cons (.agg yP2) (.cons .bool .nil))) x = i_ReadPrefix k x := by kernel_rfl
theorem e_i_ReadPrefix [NamesT] (k : Nat) : EntryOk Tryz.prog (E_i_ReadPrefix k) := entry_ok tok (es_cons (e_i_ReadDecimal k) (es_cons (e_i_ReadAddr k) (es_cons (e_x_strings_Cut k) (es_cons (e_i_PrefixOk k) es_nil)))) (by kernel_rfl) (by kernel_rfl) (by kernel_rfl) fun x r h => (t_i_ReadPrefix k x).trans h
def i_InPrefix (k : Nat) (x : (Int × Int × Unit) × Int × Unit) : Option (Bool × Unit × Unit × Unit) :=
((i_PrefixOk k ((x.1.1, (x.1.2.1, ())), ())).bind fun p1 =>
(if p1.1 = true then
((i_AddrOk k (x.2.1, ())).bind fun p2 =>
(if p2.1 = true then
((i_lastBits k (x.1.2.1, ())).bind fun p3 =>
some ((decide ((bitsI .andNot .i64 x.2.1 p3.1) = x.1.1)), ((), ((), ()))))
else
some (false, ((), ((), ())))))
else
some (false, ((), ((), ())))))
abbrev E_i_InPrefix (k : Nat) : Entry := ⟨82, 0, (.cons (.agg yP2) yP7), .bool, i_InPrefix k⟩
theorem t_i_InPrefix (k : Nat) (x) : evF TTab k [E_i_PrefixOk k, E_i_AddrOk k, E_i_lastBits k] [] Tryz.f82 (.cons (.agg yP2) yP7) .bool x = i_InPrefix k x := by kernel_rfl
theorem e_i_InPrefix [NamesT] (k : Nat) : EntryOk Tryz.prog (E_i_InPrefix k) := entry_ok tok (es_cons (e_i_PrefixOk k) (es_cons (e_i_AddrOk k) (es_cons (e_i_lastBits k) es_nil))) (by kernel_rfl) (by kernel_rfl) (by kernel_rfl) fun x r h => (t_i_InPrefix k x).trans h
def i_isHost (k : Nat) (x : (Int × Int × Unit) × Int × Unit) : Option (Bool × Unit × Unit × Unit) :=
((i_InPrefix k ((x.1.1, (x.1.2.1, ())), (x.2.1, ()))).bind fun p1 =>
(if p1.1 = true then
(if (!decide (x.2.1 = x.1.1)) = true then
((i_lastBits k (x.1.2.1, ())).bind fun p2 =>
some ((!decide (x.2.1 = (bitsI .or .i64 x.1.1 p2.1))), ((), ((), ()))))
else
some (false, ((), ((), ()))))
else
some (false, ((), ((), ())))))
abbrev E_i_isHost (k : Nat) : Entry := ⟨70, 0, (.cons (.agg yP2) yP7), .bool, i_isHost k⟩
theorem t_i_isHost (k : Nat) (x) : evF TTab k [E_i_lastBits k, E_i_InPrefix k] [] Tryz.f70 (.cons (.agg yP2) yP7) .bool x = i_isHost k x := by kernel_rfl
theorem e_i_isHost [NamesT] (k : Nat) : EntryOk Tryz.prog (E_i_isHost k) := entry_ok tok (es_cons (e_i_lastBits k) (es_cons (e_i_InPrefix k) es_nil)) (by kernel_rfl) (by kernel_rfl) (by kernel_rfl) fun x r h => (t_i_isHost k x).trans h
def i_isId (k : Nat) (x : Int × Unit) : Option (Bool × Unit × Unit) :=
((i_within k (x.1, ((1 : Int), ((99 : Int), ())))).bind fun p1 =>
some (p1.1, ((), ())))
abbrev E_i_isId (k : Nat) : Entry := ⟨71, 0, yP7, .bool, i_isId k⟩
theorem t_i_isId (k : Nat) (x) : evF TTab k [E_i_within k] [] Tryz.f71 yP7 .bool x = i_isId k x := by kernel_rfl
theorem e_i_isId [NamesT] (k : Nat) : EntryOk Tryz.prog (E_i_isId k) := entry_ok tok (es_cons (e_i_within k) es_nil) (by kernel_rfl) (by kernel_rfl) (by kernel_rfl) fun x r h => (t_i_isId k x).trans h
def i_fixedFor (k : Nat) (x : (Int × Int × (List (Int × Int × Int)) × (List (Int × Int)) × Unit) × Int × Unit) : Option (Int × Unit × Unit × Unit) :=
(whileK (fun (rec0 : (Int × (List (Int × Int)) × Int × Int × Unit) → Option _) (y0 : Int × (List (Int × Int)) × Int × Int × Unit) =>
(if (decide (y0.2.2.2.1 < y0.2.2.1)) = true then
(if 0 ≤ y0.2.2.2.1 ∧ y0.2.2.2.1 < (List.length y0.2.1 : Int) then
(if (decide ((Ty.rd (t := yT3) y0.2.1 y0.2.2.2.1).2 = y0.1)) = true then
some ((Ty.rd (t := yT3) y0.2.1 y0.2.2.2.1).1, ((), ((), ())))
else
(rec0 (y0.1, (y0.2.1, (y0.2.2.1, ((wi64 (y0.2.2.2.1 + (1 : Int))), ()))))))
else none)
else
((fun (z1 : Unit) =>
some ((0 : Int), ((), ((), ())))) ()))) k (x.2.1, (x.1.2.2.2.1, ((List.length x.1.2.2.2.1 : Int), ((0 : Int), ())))))
abbrev E_i_fixedFor (k : Nat) : Entry := ⟨72, 0, (.cons (.agg yP1) yP7), (.int .i64), i_fixedFor k⟩
theorem t_i_fixedFor (k : Nat) (x) : evF TTab k [] [(0, ⟨[1, 8, 9, 10], (.cons (.int .i64) (.cons (.il true yT3) yP2))⟩, ⟨[], .nil⟩)] Tryz.f72 (.cons (.agg yP1) yP7) (.int .i64) x = i_fixedFor k x := by kernel_rfl
theorem e_i_fixedFor [NamesT] (k : Nat) : EntryOk Tryz.prog (E_i_fixedFor k) := entry_ok tok es_nil (by kernel_rfl) (by kernel_rfl) (by kernel_rfl) fun x r h => (t_i_fixedFor k x).trans h
def i_fixesOk (k : Nat) (x : (Int × Int × (List (Int × Int × Int)) × (List (Int × Int)) × Unit) × Unit) : Option (Bool × Unit × Unit) :=
(whileK (fun (rec0 : ((Int × Int × (List (Int × Int × Int)) × (List (Int × Int)) × Unit) × (List (Int × Int)) × Int × Int × Unit) → Option _) (y0 : (Int × Int × (List (Int × Int × Int)) × (List (Int × Int)) × Unit) × (List (Int × Int)) × Int × Int × Unit) =>
(if (decide (y0.2.2.2.1 < y0.2.2.1)) = true then
(if 0 ≤ y0.2.2.2.1 ∧ y0.2.2.2.1 < (List.length y0.2.1 : Int) then
((i_isId k ((Ty.rd (t := yT3) y0.2.1 y0.2.2.2.1).1, ())).bind fun p1 =>
(if (!p1.1) = false then
((i_isHost k ((y0.1.1, (y0.1.2.1, ())), ((Ty.rd (t := yT3) y0.2.1 y0.2.2.2.1).2, ()))).bind fun p2 =>
(if (!p2.1) = false then
(if (decide ((0 : Int) < y0.2.2.2.1)) = true then
(if 0 ≤ (wi64 (y0.2.2.2.1 - (1 : Int))) ∧ (wi64 (y0.2.2.2.1 - (1 : Int))) < (List.length y0.1.2.2.2.1 : Int) then
(if (decide ((Ty.rd (t := yT3) y0.2.1 y0.2.2.2.1).1 ≤ (Ty.rd (t := yT3) y0.1.2.2.2.1 (wi64 (y0.2.2.2.1 - (1 : Int)))).1)) = false then
((i_fixedFor k ((y0.1.1, (y0.1.2.1, (y0.1.2.2.1, (y0.1.2.2.2.1, ())))), ((Ty.rd (t := yT3) y0.2.1 y0.2.2.2.1).2, ()))).bind fun p3 =>
(if (!decide (p3.1 = (Ty.rd (t := yT3) y0.2.1 y0.2.2.2.1).1)) = true then
some (false, ((), ()))
else
(rec0 ((y0.1.1, (y0.1.2.1, (y0.1.2.2.1, (y0.1.2.2.2.1, ())))), (y0.2.1, (y0.2.2.1, ((wi64 (y0.2.2.2.1 + (1 : Int))), ())))))))
else
some (false, ((), ())))
else none)
else
((i_fixedFor k ((y0.1.1, (y0.1.2.1, (y0.1.2.2.1, (y0.1.2.2.2.1, ())))), ((Ty.rd (t := yT3) y0.2.1 y0.2.2.2.1).2, ()))).bind fun p4 =>
(if (!decide (p4.1 = (Ty.rd (t := yT3) y0.2.1 y0.2.2.2.1).1)) = true then
some (false, ((), ()))
else
(rec0 ((y0.1.1, (y0.1.2.1, (y0.1.2.2.1, (y0.1.2.2.2.1, ())))), (y0.2.1, (y0.2.2.1, ((wi64 (y0.2.2.2.1 + (1 : Int))), ()))))))))
else
some (false, ((), ()))))
else
some (false, ((), ()))))
else none)
else
((fun (z1 : (Int × Int × (List (Int × Int × Int)) × (List (Int × Int)) × Unit) × Unit) =>
some ((decide ((List.length z1.1.2.2.2.1 : Int) ≤ (4 : Int))), ((), ()))) ((y0.1.1, (y0.1.2.1, (y0.1.2.2.1, (y0.1.2.2.2.1, ())))), ())))) k ((x.1.1, (x.1.2.1, (x.1.2.2.1, (x.1.2.2.2.1, ())))), (x.1.2.2.2.1, ((List.length x.1.2.2.2.1 : Int), ((0 : Int), ())))))
abbrev E_i_fixesOk (k : Nat) : Entry := ⟨69, 0, (.cons (.agg yP1) .nil), .bool, i_fixesOk k⟩
theorem t_i_fixesOk (k : Nat) (x) : evF TTab k [E_i_isHost k, E_i_isId k, E_i_fixedFor k] [(0, ⟨[1, 6, 7, 8], (.cons (.ptr 0 yP1) (.cons (.il true yT3) yP2))⟩, ⟨[1], (.cons (.ptr 0 yP1) .nil)⟩)] Tryz.f69 (.cons (.agg yP1) .nil) .bool x = i_fixesOk k x := by kernel_rfl
theorem e_i_fixesOk [NamesT] (k : Nat) : EntryOk Tryz.prog (E_i_fixesOk k) := entry_ok tok (es_cons (e_i_isHost k) (es_cons (e_i_isId k) (es_cons (e_i_fixedFor k) es_nil))) (by kernel_rfl) (by kernel_rfl) (by kernel_rfl) fun x r h => (t_i_fixesOk k x).trans h
def i_leaseOf_1 (k : Nat) (x : (Int × Int × Int × Unit) × (Int × Unit) × Unit) : Option (Bool × Unit × (Int × Unit) × Unit) :=
some ((decide (x.1.2.1 = x.2.1.1)), ((), ((x.2.1.1, ()), ())))
abbrev E_i_leaseOf_1 (k : Nat) : Entry := ⟨84, 0, (.cons (.agg (.cons (.int .i64) yP2)) (.cons (.ptr 0 yP7) .nil)), .bool, i_leaseOf_1 k⟩
theorem t_i_leaseOf_1 (k : Nat) (x) : evF TTab k [] [] Tryz.f84 (.cons (.agg (.cons (.int .i64) yP2)) (.cons (.ptr 0 yP7) .nil)) .bool x = i_leaseOf_1 k x := by kernel_rfl
theorem e_i_leaseOf_1 [NamesT] (k : Nat) : EntryOk Tryz.prog (E_i_leaseOf_1 k) := entry_ok tok es_nil (by kernel_rfl) (by kernel_rfl) (by kernel_rfl) fun x r h => (t_i_leaseOf_1 k x).trans h
def x_slices_IndexFunc_impl_Lease_impl_Lease_of_i_leaseOf_1 (k : Nat) (x : (List (Int × Int × Int)) × ((Int × Unit) × Unit) × Unit) : Option (Int × Unit × ((Int × Unit) × Unit) × Unit) :=
(whileK (fun (rec0 : ((List (Int × Int × Int)) × ((Int × Unit) × Unit) × Int × Int × Unit) → Option _) (y0 : (List (Int × Int × Int)) × ((Int × Unit) × Unit) × Int × Int × Unit) =>
(if (decide (y0.2.2.2.1 < y0.2.2.1)) = true then
(if 0 ≤ y0.2.2.2.1 ∧ y0.2.2.2.1 < (List.length y0.1 : Int) then
((i_leaseOf_1 k (((Ty.rd (t := (.pair (.int .i64) yT3)) y0.1 y0.2.2.2.1).1, ((Ty.rd (t := (.pair (.int .i64) yT3)) y0.1 y0.2.2.2.1).2.1, ((Ty.rd (t := (.pair (.int .i64) yT3)) y0.1 y0.2.2.2.1).2.2, ()))), ((y0.2.1.1.1, ()), ()))).bind fun p1 =>
(if p1.1 = true then
some (y0.2.2.2.1, ((), (((p1.2.2.1.1, ()), ()), ())))
else
(rec0 (y0.1, (((p1.2.2.1.1, ()), ()), (y0.2.2.1, ((wi64 (y0.2.2.2.1 + (1 : Int))), ())))))))
else none)
else
((fun (z1 : ((Int × Unit) × Unit) × Unit) =>
some ((-1 : Int), ((), (((z1.1.1.1, ()), ()), ())))) (((y0.2.1.1.1, ()), ()), ())))) k (x.1, (((x.2.1.1.1, ()), ()), ((List.length x.1 : Int), ((0 : Int), ())))))
abbrev E_x_slices_IndexFunc_impl_Lease_impl_Lease_of_i_leaseOf_1 (k : Nat) : Entry := ⟨83, 85, (.cons (.il true (.pair (.int .i64) yT3)) (.cons (.fn 84 (.cons (.ptr 0 yP7) .nil)) .nil)), (.int .i64), x_slices_IndexFunc_impl_Lease_impl_Lease_of_i_leaseOf_1 k⟩
theorem t_x_slices_IndexFunc_impl_Lease_impl_Lease_of_i_leaseOf_1 (k : Nat) (x) : evF TTab k [E_i_leaseOf_1 k] [(0, ⟨[0, 1, 7, 8], (.cons (.il true (.pair (.int .i64) yT3)) (.cons (.fn 84 (.cons (.ptr 0 yP7) .nil)) yP2))⟩, ⟨[1], (.cons (.fn 84 (.cons (.ptr 0 yP7) .nil)) .nil)⟩)] Tryz.f83 (.cons (.il true (.pair (.int .i64) yT3)) (.cons (.fn 84 (.cons (.ptr 0 yP7) .nil)) .nil)) (.int .i64) x = x_slices_IndexFunc_impl_Lease_impl_Lease_of_i_leaseOf_1 k x := by kernel_rfl
theorem e_x_slices_IndexFunc_impl_Lease_impl_Lease_of_i_leaseOf_1 [NamesT] (k : Nat) : EntryOk Tryz.prog (E_x_slices_IndexFunc_impl_Lease_impl_Lease_of_i_leaseOf_1 k) := entry_ok tok (es_cons (e_i_leaseOf_1 k) es_nil) (by kernel_rfl) (by kernel_rfl) (by kernel_rfl) fun x r h => (t_x_slices_IndexFunc_impl_Lease_impl_Lease_of_i_leaseOf_1 k x).trans h
def i_leaseOf (k : Nat) (x : (Int × Int × (List (Int × Int × Int)) × (List (Int × Int)) × Unit) × Int × Unit) : Option (Int × Unit × Unit × Unit) :=
((x_slices_IndexFunc_impl_Lease_impl_Lease_of_i_leaseOf_1 k (x.1.2.2.1, (((x.2.1, ()), ()), ()))).bind fun p1 =>
some (p1.1, ((), ((), ()))))
abbrev E_i_leaseOf (k : Nat) : Entry := ⟨73, 0, (.cons (.agg yP1) yP7), (.int .i64), i_leaseOf k⟩
theorem t_i_leaseOf (k : Nat) (x) : evF TTab k [E_x_slices_IndexFunc_impl_Lease_impl_Lease_of_i_leaseOf_1 k] [] Tryz.f73 (.cons (.agg yP1) yP7) (.int .i64) x = i_leaseOf k x := by kernel_rfl
theorem e_i_leaseOf [NamesT] (k : Nat) : EntryOk Tryz.prog (E_i_leaseOf k) := entry_ok tok (es_cons (e_x_slices_IndexFunc_impl_Lease_impl_Lease_of_i_leaseOf_1 k) es_nil) (by kernel_rfl) (by kernel_rfl) (by kernel_rfl) fun x r h => (t_i_leaseOf k x).trans h
def i_PoolOk (k : Nat) (x : (Int × Int × (List (Int × Int × Int)) × (List (Int × Int)) × Unit) × Unit) : Option (Bool × Unit × Unit) :=
((i_PrefixOk k ((x.1.1, (x.1.2.1, ())), ())).bind fun p1 =>
(if (!p1.1) = false then
((i_within k (x.1.2.1, ((24 : Int), ((30 : Int), ())))).bind fun p2 =>
(if (!p2.1) = false then
((i_fixesOk k ((x.1.1, (x.1.2.1, (x.1.2.2.1, (x.1.2.2.2.1, ())))), ())).bind fun p3 =>
(if (!p3.1) = false then
(if (decide ((6 : Int) < (List.length x.1.2.2.1 : Int))) = true then
some (false, ((), ()))
else
(whileK (fun (rec0 : ((Int × Int × (List (Int × Int × Int)) × (List (Int × Int)) × Unit) × (List (Int × Int × Int)) × Int × Int × Unit) → Option _) (y0 : (Int × Int × (List (Int × Int × Int)) × (List (Int × Int)) × Unit) × (List (Int × Int × Int)) × Int × Int × Unit) =>
(if (decide (y0.2.2.2.1 < y0.2.2.1)) = true then
(if 0 ≤ y0.2.2.2.1 ∧ y0.2.2.2.1 < (List.length y0.2.1 : Int) then
(if (decide ((0 : Int) < y0.2.2.2.1)) = true then
(if 0 ≤ (wi64 (y0.2.2.2.1 - (1 : Int))) ∧ (wi64 (y0.2.2.2.1 - (1 : Int))) < (List.length y0.1.2.2.1 : Int) then
(if (decide ((Ty.rd (t := (.pair (.int .i64) yT3)) y0.2.1 y0.2.2.2.1).1 ≤ (Ty.rd (t := (.pair (.int .i64) yT3)) y0.1.2.2.1 (wi64 (y0.2.2.2.1 - (1 : Int)))).1)) = false then
((i_isHost k ((y0.1.1, (y0.1.2.1, ())), ((Ty.rd (t := (.pair (.int .i64) yT3)) y0.2.1 y0.2.2.2.1).1, ()))).bind fun p4 =>
(if (!p4.1) = false then
((i_isId k ((Ty.rd (t := (.pair (.int .i64) yT3)) y0.2.1 y0.2.2.2.1).2.1, ())).bind fun p5 =>
(if (!p5.1) = false then
((i_within k ((Ty.rd (t := (.pair (.int .i64) yT3)) y0.2.1 y0.2.2.2.1).2.2, ((0 : Int), ((1000000000 : Int), ())))).bind fun p6 =>
(if (!p6.1) = true then
some (false, ((), ()))
else
((i_fixedFor k ((y0.1.1, (y0.1.2.1, (y0.1.2.2.1, (y0.1.2.2.2.1, ())))), ((Ty.rd (t := (.pair (.int .i64) yT3)) y0.2.1 y0.2.2.2.1).1, ()))).bind fun p12 =>
((i_leaseOf k ((y0.1.1, (y0.1.2.1, (y0.1.2.2.1, (y0.1.2.2.2.1, ())))), ((Ty.rd (t := (.pair (.int .i64) yT3)) y0.2.1 y0.2.2.2.1).2.1, ()))).bind fun p13 =>
(if (!decide (p13.1 = y0.2.2.2.1)) = false then
(if (!decide (p12.1 = (0 : Int))) = true then
(if (!decide (p12.1 = (Ty.rd (t := (.pair (.int .i64) yT3)) y0.2.1 y0.2.2.2.1).2.1)) = true then
some (false, ((), ()))
else
(rec0 ((y0.1.1, (y0.1.2.1, (y0.1.2.2.1, (y0.1.2.2.2.1, ())))), (y0.2.1, (y0.2.2.1, ((wi64 (y0.2.2.2.1 + (1 : Int))), ()))))))
else
(rec0 ((y0.1.1, (y0.1.2.1, (y0.1.2.2.1, (y0.1.2.2.2.1, ())))), (y0.2.1, (y0.2.2.1, ((wi64 (y0.2.2.2.1 + (1 : Int))), ()))))))
else
some (false, ((), ())))))))
else
some (false, ((), ()))))
else
some (false, ((), ()))))
else
some (false, ((), ())))
else none)
else
((i_isHost k ((y0.1.1, (y0.1.2.1, ())), ((Ty.rd (t := (.pair (.int .i64) yT3)) y0.2.1 y0.2.2.2.1).1, ()))).bind fun p7 =>
(if (!p7.1) = false then
((i_isId k ((Ty.rd (t := (.pair (.int .i64) yT3)) y0.2.1 y0.2.2.2.1).2.1, ())).bind fun p8 =>
(if (!p8.1) = false then
((i_within k ((Ty.rd (t := (.pair (.int .i64) yT3)) y0.2.1 y0.2.2.2.1).2.2, ((0 : Int), ((1000000000 : Int), ())))).bind fun p9 =>
(if (!p9.1) = true then
some (false, ((), ()))
else
((i_fixedFor k ((y0.1.1, (y0.1.2.1, (y0.1.2.2.1, (y0.1.2.2.2.1, ())))), ((Ty.rd (t := (.pair (.int .i64) yT3)) y0.2.1 y0.2.2.2.1).1, ()))).bind fun p14 =>
((i_leaseOf k ((y0.1.1, (y0.1.2.1, (y0.1.2.2.1, (y0.1.2.2.2.1, ())))), ((Ty.rd (t := (.pair (.int .i64) yT3)) y0.2.1 y0.2.2.2.1).2.1, ()))).bind fun p15 =>
(if (!decide (p15.1 = y0.2.2.2.1)) = false then
(if (!decide (p14.1 = (0 : Int))) = true then
(if (!decide (p14.1 = (Ty.rd (t := (.pair (.int .i64) yT3)) y0.2.1 y0.2.2.2.1).2.1)) = true then
some (false, ((), ()))
else
(rec0 ((y0.1.1, (y0.1.2.1, (y0.1.2.2.1, (y0.1.2.2.2.1, ())))), (y0.2.1, (y0.2.2.1, ((wi64 (y0.2.2.2.1 + (1 : Int))), ()))))))
else
(rec0 ((y0.1.1, (y0.1.2.1, (y0.1.2.2.1, (y0.1.2.2.2.1, ())))), (y0.2.1, (y0.2.2.1, ((wi64 (y0.2.2.2.1 + (1 : Int))), ()))))))
else
some (false, ((), ())))))))
else
some (false, ((), ()))))
else
some (false, ((), ())))))
else none)
else
((fun (z1 : Unit) =>
some (true, ((), ()))) ()))) k ((x.1.1, (x.1.2.1, (x.1.2.2.1, (x.1.2.2.2.1, ())))), (x.1.2.2.1, ((List.length x.1.2.2.1 : Int), ((0 : Int), ()))))))
else
some (false, ((), ()))))
else
some (false, ((), ()))))
else
some (false, ((), ()))))
abbrev E_i_PoolOk (k : Nat) : Entry := ⟨59, 0, (.cons (.agg yP1) .nil), .bool, i_PoolOk k⟩
theorem t_i_PoolOk (k : Nat) (x) : evF TTab k [E_i_within k, E_i_PrefixOk k, E_i_fixesOk k, E_i_isHost k, E_i_isId k, E_i_fixedFor k, E_i_leaseOf k] [(0, ⟨[1, 29, 30, 31], (.cons (.ptr 0 yP1) (.cons (.il true (.pair (.int .i64) yT3)) yP2))⟩, ⟨[], .nil⟩)] Tryz.f59 (.cons (.agg yP1) .nil) .bool x = i_PoolOk k x := by kernel_rfl
theorem e_i_PoolOk [NamesT] (k : Nat) : EntryOk Tryz.prog (E_i_PoolOk k) := entry_ok tok (es_cons (e_i_within k) (es_cons (e_i_PrefixOk k) (es_cons (e_i_fixesOk k) (es_cons (e_i_isHost k) (es_cons (e_i_isId k) (es_cons (e_i_fixedFor k) (es_cons (e_i_leaseOf k) es_nil))))))) (by kernel_rfl) (by kernel_rfl) (by kernel_rfl) fun x r h => (t_i_PoolOk k x).trans h
def i_HubNew (k : Nat) (x : (Int × Int × Unit) × Unit) : Option (((Int × Int × (List (Int × Int × Int)) × (List (Int × Int)) × (List ((Int × Int) × Int)) × (List (Int × Int × ((Int × ByteArray × ByteArray × Int × List (Int) × Int) × Int × ByteArray × ByteArray × Int × List (Int) × Int) × List (Int × Int × Int × List (ByteArray) × List (Bool) × Int) × Int)) × Unit) × Bool × Unit) × Unit × Unit) :=
((i_PoolOk k ((x.1.1, (x.1.2.1, ([], ([], ())))), ())).bind fun p1 =>
(if (!p1.1) = true then
some ((((0 : Int), ((0 : Int), ([], ([], ([], ([], ())))))), (false, ())), ((), ()))
else
some (((x.1.1, (x.1.2.1, ([], ([], ([], ([], ())))))), (true, ())), ((), ()))))
abbrev E_i_HubNew (k : Nat) : Entry := ⟨46, 0, (.cons (.agg yP2) .nil), (.tup (.cons (.agg (.cons (.int .i64) (.cons (.int .i64) (.cons (.own false 91 (.pair (.int .i64) yT3)) (.cons (.own false 87 yT3) (.cons (.own false 153 (.pair yT3 (.int .i64))) (.cons yP4 .nil))))))) (.cons .bool .nil))), i_HubNew k⟩
theorem t_i_HubNew (k : Nat) (x) : evF TTabO k [E_i_PoolOk k] [] Tryz.f46 (.cons (.agg yP2) .nil) (.tup (.cons (.agg (.cons (.int .i64) (.cons (.int .i64) (.cons (.own false 91 (.pair (.int .i64) yT3)) (.cons (.own false 87 yT3) (.cons (.own false 153 (.pair yT3 (.int .i64))) (.cons yP4 .nil))))))) (.cons .bool .nil))) x = i_HubNew k x := by kernel_rfl
theorem e_i_HubNew [NamesT] (k : Nat) : EntryOk Tryz.prog (E_i_HubNew k) := entry_ok tokO (es_cons (e_i_PoolOk k) es_nil) (by kernel_rfl) (by kernel_rfl) (by kernel_rfl) fun x r h => (t_i_HubNew k x).trans h
def i_LifeNew (k : Nat) (x : (Int × Int × Unit) × Unit) : Option (((Int × Int × (List (Int × Int × Int)) × (List (Int × Int)) × (List ((Int × Int) × Int)) × (List (Int × Int × ((Int × ByteArray × ByteArray × Int × List (Int) × Int) × Int × ByteArray × ByteArray × Int × List (Int) × Int) × List (Int × Int × Int × List (ByteArray) × List (Bool) × Int) × Int)) × (List (Int × Int × ((Int × ByteArray × ByteArray × Int × List (Int) × Int) × Int × ByteArray × ByteArray × Int × List (Int) × Int) × List (Int × Int × Int × List (ByteArray) × List (Bool) × Int) × Int)) × List (Int) × Int × (List (Int × Int × Bool × Int × Int × Int × Int × Int × List (Int) × ByteArray)) × Int × (List (Int × Int × Int × ByteArray)) × (List (Int × Int × Int × ByteArray)) × Int × (List (Int × Bool × Int × Int)) × Unit) × Bool × Unit) × Unit × Unit) :=
((i_HubNew k ((x.1.1, (x.1.2.1, ())), ())).bind fun p1 =>
(if (!p1.1.2.1) = true then
some ((((0 : Int), ((0 : Int), ([], ([], ([], ([], ([], ([], ((0 : Int), ([], ((0 : Int), ([], ([], ((0 : Int), ([], ()))))))))))))))), (false, ())), ((), ()))
else
some (((p1.1.1.1, (p1.1.1.2.1, (p1.1.1.2.2.1, (p1.1.1.2.2.2.1, (p1.1.1.2.2.2.2.1, (p1.1.1.2.2.2.2.2.1, ([], ([], ((0 : Int), ([], ((0 : Int), ([], ([], ((0 : Int), ([], ()))))))))))))))), (true, ())), ((), ()))))
abbrev E_i_LifeNew (k : Nat) : Entry := ⟨33, 0, (.cons (.agg yP2) .nil), yP9, i_LifeNew k⟩
theorem t_i_LifeNew (k : Nat) (x) : evF TTabO k [E_i_HubNew k] [] Tryz.f33 (.cons (.agg yP2) .nil) yP9 x = i_LifeNew k x := by kernel_rfl
theorem e_i_LifeNew [NamesT] (k : Nat) : EntryOk Tryz.prog (E_i_LifeNew k) := entry_ok tokO (es_cons (e_i_HubNew k) es_nil) (by kernel_rfl) (by kernel_rfl) (by kernel_rfl) fun x r h => (t_i_LifeNew k x).trans h
def i_readNet (k : Nat) (x : List (ByteArray) × Unit) : Option (((Int × Int × Unit) × Bool × Unit) × Unit × Unit) :=
(if 0 ≤ (0 : Int) ∧ (0 : Int) < (List.length x.1 : Int) then
(if (!decide ((Ty.rd (t := .str) x.1 (0 : Int)) = (⟨#[110, 101, 116]⟩ : ByteArray))) = false then
(if (!decide ((List.length x.1 : Int) = (2 : Int))) = true then
some ((((0 : Int), ((0 : Int), ())), (false, ())), ((), ()))
else
(if 0 ≤ (1 : Int) ∧ (1 : Int) < (List.length x.1 : Int) then
((i_ReadPrefix k ((Ty.rd (t := .str) x.1 (1 : Int)), ())).bind fun p1 =>
((i_LifeNew k ((p1.1.1.1, (p1.1.1.2.1, ())), ())).bind fun p2 =>
(if p1.1.2.1 = true then
some (((p1.1.1.1, (p1.1.1.2.1, ())), (p2.1.2.1, ())), ((), ()))
else
some (((p1.1.1.1, (p1.1.1.2.1, ())), (false, ())), ((), ())))))
else none))
else
some ((((0 : Int), ((0 : Int), ())), (false, ())), ((), ())))
else none)
abbrev E_i_readNet (k : Nat) : Entry := ⟨18, 0, (.cons (.il true .str) .nil), (.tup (.cons (.agg yP2) (.cons .bool .nil))), i_readNet k⟩
theorem t_i_readNet (k : Nat) (x) : evF TTab k [E_i_ReadPrefix k, E_i_LifeNew k] [] Tryz.f18 (.cons (.il true .str) .nil) (.tup (.cons (.agg yP2) (.cons .bool .nil))) x = i_readNet k x := by kernel_rfl
theorem e_i_readNet [NamesT] (k : Nat) : EntryOk Tryz.prog (E_i_readNet k) := entry_ok tok (es_cons (e_i_ReadPrefix k) (es_cons (e_i_LifeNew k) es_nil)) (by kernel_rfl) (by kernel_rfl) (by kernel_rfl) fun x r h => (t_i_readNet k x).trans h
def i_form (k : Nat) (x : ByteArray × Unit) : Option ((Int × ByteArray × Unit) × Unit × Unit) :=
(if (decide (x.1 = (⟨#[106, 111, 105, 110]⟩ : ByteArray))) = true then
some (((1 : Int), ((⟨#[105]⟩ : ByteArray), ())), ((), ()))
else
(if (decide (x.1 = (⟨#[108, 101, 97, 118, 101]⟩ : ByteArray))) = true then
some (((2 : Int), ((⟨#[105]⟩ : ByteArray), ())), ((), ()))
else
(if (decide (x.1 = (⟨#[115, 97, 121]⟩ : ByteArray))) = true then
some (((3 : Int), ((⟨#[105, 100, 116]⟩ : ByteArray), ())), ((), ()))
else
(if (decide (x.1 = (⟨#[116, 97, 107, 101]⟩ : ByteArray))) = true then
some (((4 : Int), ((⟨#[97]⟩ : ByteArray), ())), ((), ()))
else
(if (decide (x.1 = (⟨#[108, 111, 115, 101]⟩ : ByteArray))) = true then
some (((5 : Int), ((⟨#[97]⟩ : ByteArray), ())), ((), ()))
else
(if (decide (x.1 = (⟨#[116, 119, 105, 99, 101]⟩ : ByteArray))) = true then
some (((6 : Int), ((⟨#[97]⟩ : ByteArray), ())), ((), ()))
else
(if (decide (x.1 = (⟨#[114, 101, 107, 101, 121, 104, 117, 98]⟩ : ByteArray))) = true then
some (((7 : Int), ((⟨#[105]⟩ : ByteArray), ())), ((), ()))
else
(if (decide (x.1 = (⟨#[114, 101, 107, 101, 121, 117, 115, 101, 114]⟩ : ByteArray))) = true then
some (((8 : Int), ((⟨#[105]⟩ : ByteArray), ())), ((), ()))
else
(if (decide (x.1 = (⟨#[98, 101, 104, 105, 110, 100]⟩ : ByteArray))) = true then
some (((9 : Int), ((⟨#[105, 112]⟩ : ByteArray), ())), ((), ()))
else
some (((0 : Int), ((⟨#[]⟩ : ByteArray), ())), ((), ())))))))))))
abbrev E_i_form (k : Nat) : Entry := ⟨34, 0, (.cons .str .nil), (.tup (.cons (.int .i64) (.cons .str .nil))), i_form k⟩
theorem t_i_form (k : Nat) (x) : evF TTab k [] [] Tryz.f34 (.cons .str .nil) (.tup (.cons (.int .i64) (.cons .str .nil))) x = i_form k x := by kernel_rfl
theorem e_i_form [NamesT] (k : Nat) : EntryOk Tryz.prog (E_i_form k) := entry_ok tok es_nil (by kernel_rfl) (by kernel_rfl) (by kernel_rfl) fun x r h => (t_i_form k x).trans h
def i_HappenOk (k : Nat) (x : (Int × Int × Int × Int × ByteArray × Int × Int × Unit) × Unit) : Option (Bool × Unit × Unit) :=
((i_within k (x.1.1, ((1 : Int), ((9 : Int), ())))).bind fun p1 =>
(if (!p1.1) = false then
((i_within k (x.1.2.1, ((1 : Int), ((98 : Int), ())))).bind fun p2 =>
(if (!p2.1) = false then
(if (decide (x.1.2.2.1 < (0 : Int))) = true then
some (false, ((), ()))
else
(if (decide (x.1.2.2.2.1 = (0 : Int))) = true then
(if (decide (x.1.1 = (3 : Int))) = true then
((i_AddrOk k (x.1.2.2.2.1, ())).bind fun p3 =>
(if p3.1 = true then
(if (decide (x.1.1 = (9 : Int))) = true then
(if (decide ((ByteArray.size x.1.2.2.2.2.1 : Int) ≤ (100 : Int))) = true then
((i_PrefixOk k ((x.1.2.2.2.2.2.1, (x.1.2.2.2.2.2.2.1, ())), ())).bind fun p5 =>
some (p5.1, ((), ())))
else
some (false, ((), ())))
else
(if (decide ((ByteArray.size x.1.2.2.2.2.1 : Int) ≤ (100 : Int))) = true then
some ((decide (x.1.2.2.2.2.2.1 = (0 : Int)) && decide (x.1.2.2.2.2.2.2.1 = (0 : Int))), ((), ()))
else
some (false, ((), ()))))
else
(if (decide (x.1.1 = (9 : Int))) = true then
some (false, ((), ()))
else
some (false, ((), ())))))
else
(if (decide (x.1.1 = (9 : Int))) = true then
(if (decide (x.1.2.2.2.2.1 = (⟨#[]⟩ : ByteArray))) = true then
((i_PrefixOk k ((x.1.2.2.2.2.2.1, (x.1.2.2.2.2.2.2.1, ())), ())).bind fun p6 =>
some (p6.1, ((), ())))
else
some (false, ((), ())))
else
(if (decide (x.1.2.2.2.2.1 = (⟨#[]⟩ : ByteArray))) = true then
some ((decide (x.1.2.2.2.2.2.1 = (0 : Int)) && decide (x.1.2.2.2.2.2.2.1 = (0 : Int))), ((), ()))
else
some (false, ((), ())))))
else
(if (decide (x.1.1 = (3 : Int))) = true then
((i_AddrOk k (x.1.2.2.2.1, ())).bind fun p7 =>
(if p7.1 = true then
(if (decide (x.1.1 = (9 : Int))) = true then
(if (decide ((ByteArray.size x.1.2.2.2.2.1 : Int) ≤ (100 : Int))) = true then
((i_PrefixOk k ((x.1.2.2.2.2.2.1, (x.1.2.2.2.2.2.2.1, ())), ())).bind fun p9 =>
some (p9.1, ((), ())))
else
some (false, ((), ())))
else
(if (decide ((ByteArray.size x.1.2.2.2.2.1 : Int) ≤ (100 : Int))) = true then
some ((decide (x.1.2.2.2.2.2.1 = (0 : Int)) && decide (x.1.2.2.2.2.2.2.1 = (0 : Int))), ((), ()))
else
some (false, ((), ()))))
else
(if (decide (x.1.1 = (9 : Int))) = true then
some (false, ((), ()))
else
some (false, ((), ())))))
else
(if (decide (x.1.1 = (9 : Int))) = true then
some (false, ((), ()))
else
some (false, ((), ()))))))
else
some (false, ((), ()))))
else
some (false, ((), ()))))
abbrev E_i_HappenOk (k : Nat) : Entry := ⟨37, 0, (.cons (.agg yP6) .nil), .bool, i_HappenOk k⟩
theorem t_i_HappenOk (k : Nat) (x) : evF TTab k [E_i_within k, E_i_PrefixOk k, E_i_AddrOk k] [] Tryz.f37 (.cons (.agg yP6) .nil) .bool x = i_HappenOk k x := by kernel_rfl
theorem e_i_HappenOk [NamesT] (k : Nat) : EntryOk Tryz.prog (E_i_HappenOk k) := entry_ok tok (es_cons (e_i_within k) (es_cons (e_i_PrefixOk k) (es_cons (e_i_AddrOk k) es_nil))) (by kernel_rfl) (by kernel_rfl) (by kernel_rfl) fun x r h => (t_i_HappenOk k x).trans h
def i_readEvent (k : Nat) (x : List (ByteArray) × Unit) : Option (((Int × Int × Int × Int × ByteArray × Int × Int × Unit) × Bool × Unit) × Unit × Unit) :=
(if 0 ≤ (0 : Int) ∧ (0 : Int) < (List.length x.1 : Int) then
((i_form k ((Ty.rd (t := .str) x.1 (0 : Int)), ())).bind fun p1 =>
(if (decide (p1.1.1 = (0 : Int))) = false then
(if (!decide ((List.length x.1 : Int) = (wi64 ((ByteArray.size p1.1.2.1 : Int) + (1 : Int))))) = true then
some (((p1.1.1, ((1 : Int), ((0 : Int), ((0 : Int), ((⟨#[]⟩ : ByteArray), ((0 : Int), ((0 : Int), ()))))))), (false, ())), ((), ()))
else
(if 0 ≤ (1 : Int) ∧ (1 : Int) ≤ (List.length x.1 : Int) then
(whileK (fun (rec0 : ((Int × Int × Int × Int × ByteArray × Int × Int × Unit) × ByteArray × (Int × Int × Int × Int × ByteArray × Int × Int × Unit) × List (ByteArray) × Int × Int × Unit) → Option _) (y0 : (Int × Int × Int × Int × ByteArray × Int × Int × Unit) × ByteArray × (Int × Int × Int × Int × ByteArray × Int × Int × Unit) × List (ByteArray) × Int × Int × Unit) =>
(if (decide (y0.2.2.2.2.2.1 < y0.2.2.2.2.1)) = true then
(if 0 ≤ y0.2.2.2.2.2.1 ∧ y0.2.2.2.2.2.1 < (List.length y0.2.2.2.1 : Int) then
((i_ReadDecimal k ((Ty.rd (t := .str) y0.2.2.2.1 y0.2.2.2.2.2.1), ())).bind fun p2 =>
(if 0 ≤ y0.2.2.2.2.2.1 ∧ y0.2.2.2.2.2.1 < (ByteArray.size y0.2.1 : Int) then
(if (decide ((bt y0.2.1 y0.2.2.2.2.2.1) = (105 : Int))) = true then
(if (!p2.1.2.1) = true then
some (((y0.2.2.1.1, (p2.1.1, (y0.2.2.1.2.2.1, (y0.2.2.1.2.2.2.1, (y0.2.2.1.2.2.2.2.1, (y0.2.2.1.2.2.2.2.2.1, (y0.2.2.1.2.2.2.2.2.2.1, ()))))))), (false, ())), ((), ()))
else
(rec0 ((y0.1.1, (y0.1.2.1, (y0.1.2.2.1, (y0.1.2.2.2.1, (y0.1.2.2.2.2.1, (y0.1.2.2.2.2.2.1, (y0.1.2.2.2.2.2.2.1, ()))))))), (y0.2.1, ((y0.2.2.1.1, (p2.1.1, (y0.2.2.1.2.2.1, (y0.2.2.1.2.2.2.1, (y0.2.2.1.2.2.2.2.1, (y0.2.2.1.2.2.2.2.2.1, (y0.2.2.1.2.2.2.2.2.2.1, ()))))))), (y0.2.2.2.1, (y0.2.2.2.2.1, ((wi64 (y0.2.2.2.2.2.1 + (1 : Int))), ()))))))))
else
(if (decide ((bt y0.2.1 y0.2.2.2.2.2.1) = (97 : Int))) = true then
(if (!p2.1.2.1) = true then
some (((y0.2.2.1.1, (y0.2.2.1.2.1, (p2.1.1, (y0.2.2.1.2.2.2.1, (y0.2.2.1.2.2.2.2.1, (y0.2.2.1.2.2.2.2.2.1, (y0.2.2.1.2.2.2.2.2.2.1, ()))))))), (false, ())), ((), ()))
else
(rec0 ((y0.1.1, (y0.1.2.1, (y0.1.2.2.1, (y0.1.2.2.2.1, (y0.1.2.2.2.2.1, (y0.1.2.2.2.2.2.1, (y0.1.2.2.2.2.2.2.1, ()))))))), (y0.2.1, ((y0.2.2.1.1, (y0.2.2.1.2.1, (p2.1.1, (y0.2.2.1.2.2.2.1, (y0.2.2.1.2.2.2.2.1, (y0.2.2.1.2.2.2.2.2.1, (y0.2.2.1.2.2.2.2.2.2.1, ()))))))), (y0.2.2.2.1, (y0.2.2.2.2.1, ((wi64 (y0.2.2.2.2.2.1 + (1 : Int))), ()))))))))
else
(if (decide ((bt y0.2.1 y0.2.2.2.2.2.1) = (100 : Int))) = true then
((i_ReadAddr k ((Ty.rd (t := .str) y0.2.2.2.1 y0.2.2.2.2.2.1), ())).bind fun p3 =>
(if (!p3.1.2.1) = true then
some (((y0.2.2.1.1, (y0.2.2.1.2.1, (y0.2.2.1.2.2.1, (p3.1.1, (y0.2.2.1.2.2.2.2.1, (y0.2.2.1.2.2.2.2.2.1, (y0.2.2.1.2.2.2.2.2.2.1, ()))))))), (false, ())), ((), ()))
else
(rec0 ((y0.1.1, (y0.1.2.1, (y0.1.2.2.1, (y0.1.2.2.2.1, (y0.1.2.2.2.2.1, (y0.1.2.2.2.2.2.1, (y0.1.2.2.2.2.2.2.1, ()))))))), (y0.2.1, ((y0.2.2.1.1, (y0.2.2.1.2.1, (y0.2.2.1.2.2.1, (p3.1.1, (y0.2.2.1.2.2.2.2.1, (y0.2.2.1.2.2.2.2.2.1, (y0.2.2.1.2.2.2.2.2.2.1, ()))))))), (y0.2.2.2.1, (y0.2.2.2.2.1, ((wi64 (y0.2.2.2.2.2.1 + (1 : Int))), ())))))))))
else
(if (decide ((bt y0.2.1 y0.2.2.2.2.2.1) = (112 : Int))) = true then
((i_ReadPrefix k ((Ty.rd (t := .str) y0.2.2.2.1 y0.2.2.2.2.2.1), ())).bind fun p4 =>
(if (!p4.1.2.1) = true then
some (((y0.2.2.1.1, (y0.2.2.1.2.1, (y0.2.2.1.2.2.1, (y0.2.2.1.2.2.2.1, (y0.2.2.1.2.2.2.2.1, (p4.1.1.1, (p4.1.1.2.1, ()))))))), (false, ())), ((), ()))
else
(rec0 ((y0.1.1, (y0.1.2.1, (y0.1.2.2.1, (y0.1.2.2.2.1, (y0.1.2.2.2.2.1, (y0.1.2.2.2.2.2.1, (y0.1.2.2.2.2.2.2.1, ()))))))), (y0.2.1, ((y0.2.2.1.1, (y0.2.2.1.2.1, (y0.2.2.1.2.2.1, (y0.2.2.1.2.2.2.1, (y0.2.2.1.2.2.2.2.1, (p4.1.1.1, (p4.1.1.2.1, ()))))))), (y0.2.2.2.1, (y0.2.2.2.2.1, ((wi64 (y0.2.2.2.2.2.1 + (1 : Int))), ())))))))))
else
(if (!true) = true then
some (((y0.2.2.1.1, (y0.2.2.1.2.1, (y0.2.2.1.2.2.1, (y0.2.2.1.2.2.2.1, ((Ty.rd (t := .str) y0.2.2.2.1 y0.2.2.2.2.2.1), (y0.2.2.1.2.2.2.2.2.1, (y0.2.2.1.2.2.2.2.2.2.1, ()))))))), (false, ())), ((), ()))
else
(rec0 ((y0.1.1, (y0.1.2.1, (y0.1.2.2.1, (y0.1.2.2.2.1, (y0.1.2.2.2.2.1, (y0.1.2.2.2.2.2.1, (y0.1.2.2.2.2.2.2.1, ()))))))), (y0.2.1, ((y0.2.2.1.1, (y0.2.2.1.2.1, (y0.2.2.1.2.2.1, (y0.2.2.1.2.2.2.1, ((Ty.rd (t := .str) y0.2.2.2.1 y0.2.2.2.2.2.1), (y0.2.2.1.2.2.2.2.2.1, (y0.2.2.1.2.2.2.2.2.2.1, ()))))))), (y0.2.2.2.1, (y0.2.2.2.2.1, ((wi64 (y0.2.2.2.2.2.1 + (1 : Int))), ()))))))))))))
else none))
else none)
else
((fun (z1 : (Int × Int × Int × Int × ByteArray × Int × Int × Unit) × (Int × Int × Int × Int × ByteArray × Int × Int × Unit) × Unit) =>
((i_HappenOk k ((z1.2.1.1, (z1.2.1.2.1, (z1.2.1.2.2.1, (z1.2.1.2.2.2.1, (z1.2.1.2.2.2.2.1, (z1.2.1.2.2.2.2.2.1, (z1.2.1.2.2.2.2.2.2.1, ()))))))), ())).bind fun p5 =>
some (((z1.2.1.1, (z1.2.1.2.1, (z1.2.1.2.2.1, (z1.2.1.2.2.2.1, (z1.2.1.2.2.2.2.1, (z1.2.1.2.2.2.2.2.1, (z1.2.1.2.2.2.2.2.2.1, ()))))))), (p5.1, ())), ((), ())))) ((y0.1.1, (y0.1.2.1, (y0.1.2.2.1, (y0.1.2.2.2.1, (y0.1.2.2.2.2.1, (y0.1.2.2.2.2.2.1, (y0.1.2.2.2.2.2.2.1, ()))))))), ((y0.2.2.1.1, (y0.2.2.1.2.1, (y0.2.2.1.2.2.1, (y0.2.2.1.2.2.2.1, (y0.2.2.1.2.2.2.2.1, (y0.2.2.1.2.2.2.2.2.1, (y0.2.2.1.2.2.2.2.2.2.1, ()))))))), ()))))) k (((0 : Int), ((0 : Int), ((0 : Int), ((0 : Int), ((⟨#[]⟩ : ByteArray), ((0 : Int), ((0 : Int), ()))))))), (p1.1.2.1, ((p1.1.1, ((1 : Int), ((0 : Int), ((0 : Int), ((⟨#[]⟩ : ByteArray), ((0 : Int), ((0 : Int), ()))))))), ((List.drop (Int.toNat (1 : Int)) (List.take (Int.toNat (List.length x.1 : Int)) x.1)), ((List.length (List.drop (Int.toNat (1 : Int)) (List.take (Int.toNat (List.length x.1 : Int)) x.1)) : Int), ((0 : Int), ())))))))
else none))
else
some (((p1.1.1, ((1 : Int), ((0 : Int), ((0 : Int), ((⟨#[]⟩ : ByteArray), ((0 : Int), ((0 : Int), ()))))))), (false, ())), ((), ()))))
else none)
abbrev E_i_readEvent (k : Nat) : Entry := ⟨19, 0, (.cons (.il true .str) .nil), (.tup (.cons (.agg yP6) (.cons .bool .nil))), i_readEvent k⟩
theorem t_i_readEvent (k : Nat) (x) : evF TTab k [E_i_ReadPrefix k, E_i_form k, E_i_ReadDecimal k, E_i_ReadAddr k, E_i_HappenOk k] [(0, ⟨[2, 5, 6, 32, 33, 34], (.cons (.ptr 0 yP6) (.cons .str (.cons (.ptr 0 yP6) (.cons (.il true .str) yP2))))⟩, ⟨[2, 6], (.cons (.ptr 0 yP6) (.cons (.ptr 0 yP6) .nil))⟩)] Tryz.f19 (.cons (.il true .str) .nil) (.tup (.cons (.agg yP6) (.cons .bool .nil))) x = i_readEvent k x := by kernel_rfl
theorem e_i_readEvent [NamesT] (k : Nat) : EntryOk Tryz.prog (E_i_readEvent k) := entry_ok tok (es_cons (e_i_ReadPrefix k) (es_cons (e_i_form k) (es_cons (e_i_ReadDecimal k) (es_cons (e_i_ReadAddr k) (es_cons (e_i_HappenOk k) es_nil))))) (by kernel_rfl) (by kernel_rfl) (by kernel_rfl) fun x r h => (t_i_readEvent k x).trans h
def i_ReadScript (k : Nat) (x : ByteArray × Unit) : Option (((Int × Int × Unit) × (List (Int × Int × Int × Int × ByteArray × Int × Int)) × Int × Unit) × Unit × Unit) :=
((x_strings_Split k (x.1, ((⟨#[10]⟩ : ByteArray), ()))).bind fun p1 =>
(if 0 ≤ (wi64 ((List.length p1.1 : Int) - (1 : Int))) ∧ (wi64 ((List.length p1.1 : Int) - (1 : Int))) < (List.length p1.1 : Int) then
(if (decide ((Ty.rd (t := .str) p1.1 (wi64 ((List.length p1.1 : Int) - (1 : Int)))) = (⟨#[]⟩ : ByteArray))) = true then
(if 0 ≤ (wi64 ((List.length p1.1 : Int) - (1 : Int))) ∧ (wi64 ((List.length p1.1 : Int) - (1 : Int))) ≤ (List.length p1.1 : Int) then
(if (decide ((3000 : Int) < (ByteArray.size x.1 : Int))) = false then
(if (decide ((100 : Int) < ((wi64 ((List.length p1.1 : Int) - (1 : Int))) - (0 : Int)))) = true then
some ((((0 : Int), ((0 : Int), ())), ([], ((-1 : Int), ()))), ((), ()))
else
(whileK (fun (rec0 : ((Int × Int × Unit) × (Int × Int × Unit) × Bool × (List (Int × Int × Int × Int × ByteArray × Int × Int)) × List (ByteArray) × Int × Int × Unit) → Option _) (y0 : (Int × Int × Unit) × (Int × Int × Unit) × Bool × (List (Int × Int × Int × Int × ByteArray × Int × Int)) × List (ByteArray) × Int × Int × Unit) =>
(if (decide (y0.2.2.2.2.2.2.1 < y0.2.2.2.2.2.1)) = true then
(if 0 ≤ y0.2.2.2.2.2.2.1 ∧ y0.2.2.2.2.2.2.1 < (List.length y0.2.2.2.2.1 : Int) then
((i_PartsOf k ((Ty.rd (t := .str) y0.2.2.2.2.1 y0.2.2.2.2.2.2.1), ())).bind fun p2 =>
(jn (
(if (!p2.1.2.1) = true then
some ((((0 : Int), ((0 : Int), ())), ([], ((wi64 (y0.2.2.2.2.2.2.1 + (1 : Int))), ()))), ((), ()))
else
(if (!y0.2.2.1) = true then
((i_readNet k (p2.1.1, ())).bind fun p5 =>
(if (!p5.1.2.1) = true then
some ((((0 : Int), ((0 : Int), ())), ([], ((wi64 (y0.2.2.2.2.2.2.1 + (1 : Int))), ()))), ((), ()))
else
(rec0 ((y0.1.1, (y0.1.2.1, ())), ((p5.1.1.1, (p5.1.1.2.1, ())), (p5.1.2.1, (y0.2.2.2.1, (y0.2.2.2.2.1, (y0.2.2.2.2.2.1, ((wi64 (y0.2.2.2.2.2.2.1 + (1 : Int))), ()))))))))))
else
((i_readEvent k (p2.1.1, ())).bind fun p6 =>
(if (!p6.1.2.1) = false then
(if (decide ((List.length y0.2.2.2.1 : Int) = (80 : Int))) = true then
some ((((0 : Int), ((0 : Int), ())), ([], ((wi64 (y0.2.2.2.2.2.2.1 + (1 : Int))), ()))), ((), ()))
else
(if List.length y0.2.2.2.1 + List.length ([(p6.1.1.1, (p6.1.1.2.1, (p6.1.1.2.2.1, (p6.1.1.2.2.2.1, (p6.1.1.2.2.2.2.1, (p6.1.1.2.2.2.2.2.1, p6.1.1.2.2.2.2.2.2.1))))))] : List (Int × Int × Int × Int × ByteArray × Int × Int)) ≤ capMax then
(rec0 ((y0.1.1, (y0.1.2.1, ())), ((y0.2.1.1, (y0.2.1.2.1, ())), (y0.2.2.1, ((y0.2.2.2.1 ++ ([(p6.1.1.1, (p6.1.1.2.1, (p6.1.1.2.2.1, (p6.1.1.2.2.2.1, (p6.1.1.2.2.2.2.1, (p6.1.1.2.2.2.2.2.1, p6.1.1.2.2.2.2.2.2.1))))))] : List (Int × Int × Int × Int × ByteArray × Int × Int))), (y0.2.2.2.2.1, (y0.2.2.2.2.2.1, ((wi64 (y0.2.2.2.2.2.2.1 + (1 : Int))), ()))))))))
else none))
else
some ((((0 : Int), ((0 : Int), ())), ([], ((wi64 (y0.2.2.2.2.2.2.1 + (1 : Int))), ()))), ((), ()))))))) (fun (j1 : Option _) =>
(if p2.1.2.1 = true then
(if (decide ((List.length p2.1.1 : Int) = (0 : Int))) = false then
(if 0 ≤ (0 : Int) ∧ (0 : Int) < (List.length p2.1.1 : Int) then
(if 0 ≤ (0 : Int) ∧ (0 : Int) < (ByteArray.size (Ty.rd (t := .str) p2.1.1 (0 : Int)) : Int) then
(if (decide ((bt (Ty.rd (t := .str) p2.1.1 (0 : Int)) (0 : Int)) = (35 : Int))) = true then
(rec0 ((y0.1.1, (y0.1.2.1, ())), ((y0.2.1.1, (y0.2.1.2.1, ())), (y0.2.2.1, (y0.2.2.2.1, (y0.2.2.2.2.1, (y0.2.2.2.2.2.1, ((wi64 (y0.2.2.2.2.2.2.1 + (1 : Int))), ()))))))))
else
j1)
else none)
else none)
else
(rec0 ((y0.1.1, (y0.1.2.1, ())), ((y0.2.1.1, (y0.2.1.2.1, ())), (y0.2.2.1, (y0.2.2.2.1, (y0.2.2.2.2.1, (y0.2.2.2.2.2.1, ((wi64 (y0.2.2.2.2.2.2.1 + (1 : Int))), ())))))))))
else
j1))))
else none)
else
((fun (z1 : (Int × Int × Unit) × (Int × Int × Unit) × Bool × (List (Int × Int × Int × Int × ByteArray × Int × Int)) × Unit) =>
(if (!z1.2.2.1) = true then
some ((((0 : Int), ((0 : Int), ())), ([], ((1 : Int), ()))), ((), ()))
else
some (((z1.2.1.1, (z1.2.1.2.1, ())), (z1.2.2.2.1, ((0 : Int), ()))), ((), ())))) ((y0.1.1, (y0.1.2.1, ())), ((y0.2.1.1, (y0.2.1.2.1, ())), (y0.2.2.1, (y0.2.2.2.1, ()))))))) k (((0 : Int), ((0 : Int), ())), (((0 : Int), ((0 : Int), ())), (false, (([] : List (Int × Int × Int × Int × ByteArray × Int × Int)), ((List.drop (Int.toNat (0 : Int)) (List.take (Int.toNat (wi64 ((List.length p1.1 : Int) - (1 : Int)))) p1.1)), (((wi64 ((List.length p1.1 : Int) - (1 : Int))) - (0 : Int)), ((0 : Int), ())))))))))
else
some ((((0 : Int), ((0 : Int), ())), ([], ((-1 : Int), ()))), ((), ())))
else none)
else
(if (decide ((3000 : Int) < (ByteArray.size x.1 : Int))) = false then
(if (decide ((100 : Int) < (List.length p1.1 : Int))) = true then
some ((((0 : Int), ((0 : Int), ())), ([], ((-1 : Int), ()))), ((), ()))
else
(whileK (fun (rec0 : ((Int × Int × Unit) × (Int × Int × Unit) × Bool × (List (Int × Int × Int × Int × ByteArray × Int × Int)) × List (ByteArray) × Int × Int × Unit) → Option _) (y0 : (Int × Int × Unit) × (Int × Int × Unit) × Bool × (List (Int × Int × Int × Int × ByteArray × Int × Int)) × List (ByteArray) × Int × Int × Unit) =>
(if (decide (y0.2.2.2.2.2.2.1 < y0.2.2.2.2.2.1)) = true then
(if 0 ≤ y0.2.2.2.2.2.2.1 ∧ y0.2.2.2.2.2.2.1 < (List.length y0.2.2.2.2.1 : Int) then
((i_PartsOf k ((Ty.rd (t := .str) y0.2.2.2.2.1 y0.2.2.2.2.2.2.1), ())).bind fun p7 =>
(jn (
(if (!p7.1.2.1) = true then
some ((((0 : Int), ((0 : Int), ())), ([], ((wi64 (y0.2.2.2.2.2.2.1 + (1 : Int))), ()))), ((), ()))
else
(if (!y0.2.2.1) = true then
((i_readNet k (p7.1.1, ())).bind fun p10 =>
(if (!p10.1.2.1) = true then
some ((((0 : Int), ((0 : Int), ())), ([], ((wi64 (y0.2.2.2.2.2.2.1 + (1 : Int))), ()))), ((), ()))
else
(rec0 ((y0.1.1, (y0.1.2.1, ())), ((p10.1.1.1, (p10.1.1.2.1, ())), (p10.1.2.1, (y0.2.2.2.1, (y0.2.2.2.2.1, (y0.2.2.2.2.2.1, ((wi64 (y0.2.2.2.2.2.2.1 + (1 : Int))), ()))))))))))
else
((i_readEvent k (p7.1.1, ())).bind fun p11 =>
(if (!p11.1.2.1) = false then
(if (decide ((List.length y0.2.2.2.1 : Int) = (80 : Int))) = true then
some ((((0 : Int), ((0 : Int), ())), ([], ((wi64 (y0.2.2.2.2.2.2.1 + (1 : Int))), ()))), ((), ()))
else
(if List.length y0.2.2.2.1 + List.length ([(p11.1.1.1, (p11.1.1.2.1, (p11.1.1.2.2.1, (p11.1.1.2.2.2.1, (p11.1.1.2.2.2.2.1, (p11.1.1.2.2.2.2.2.1, p11.1.1.2.2.2.2.2.2.1))))))] : List (Int × Int × Int × Int × ByteArray × Int × Int)) ≤ capMax then
(rec0 ((y0.1.1, (y0.1.2.1, ())), ((y0.2.1.1, (y0.2.1.2.1, ())), (y0.2.2.1, ((y0.2.2.2.1 ++ ([(p11.1.1.1, (p11.1.1.2.1, (p11.1.1.2.2.1, (p11.1.1.2.2.2.1, (p11.1.1.2.2.2.2.1, (p11.1.1.2.2.2.2.2.1, p11.1.1.2.2.2.2.2.2.1))))))] : List (Int × Int × Int × Int × ByteArray × Int × Int))), (y0.2.2.2.2.1, (y0.2.2.2.2.2.1, ((wi64 (y0.2.2.2.2.2.2.1 + (1 : Int))), ()))))))))
else none))
else
some ((((0 : Int), ((0 : Int), ())), ([], ((wi64 (y0.2.2.2.2.2.2.1 + (1 : Int))), ()))), ((), ()))))))) (fun (j2 : Option _) =>
(if p7.1.2.1 = true then
(if (decide ((List.length p7.1.1 : Int) = (0 : Int))) = false then
(if 0 ≤ (0 : Int) ∧ (0 : Int) < (List.length p7.1.1 : Int) then
(if 0 ≤ (0 : Int) ∧ (0 : Int) < (ByteArray.size (Ty.rd (t := .str) p7.1.1 (0 : Int)) : Int) then
(if (decide ((bt (Ty.rd (t := .str) p7.1.1 (0 : Int)) (0 : Int)) = (35 : Int))) = true then
(rec0 ((y0.1.1, (y0.1.2.1, ())), ((y0.2.1.1, (y0.2.1.2.1, ())), (y0.2.2.1, (y0.2.2.2.1, (y0.2.2.2.2.1, (y0.2.2.2.2.2.1, ((wi64 (y0.2.2.2.2.2.2.1 + (1 : Int))), ()))))))))
else
j2)
else none)
else none)
else
(rec0 ((y0.1.1, (y0.1.2.1, ())), ((y0.2.1.1, (y0.2.1.2.1, ())), (y0.2.2.1, (y0.2.2.2.1, (y0.2.2.2.2.1, (y0.2.2.2.2.2.1, ((wi64 (y0.2.2.2.2.2.2.1 + (1 : Int))), ())))))))))
else
j2))))
else none)
else
((fun (z2 : (Int × Int × Unit) × (Int × Int × Unit) × Bool × (List (Int × Int × Int × Int × ByteArray × Int × Int)) × Unit) =>
(if (!z2.2.2.1) = true then
some ((((0 : Int), ((0 : Int), ())), ([], ((1 : Int), ()))), ((), ()))
else
some (((z2.2.1.1, (z2.2.1.2.1, ())), (z2.2.2.2.1, ((0 : Int), ()))), ((), ())))) ((y0.1.1, (y0.1.2.1, ())), ((y0.2.1.1, (y0.2.1.2.1, ())), (y0.2.2.1, (y0.2.2.2.1, ()))))))) k (((0 : Int), ((0 : Int), ())), (((0 : Int), ((0 : Int), ())), (false, (([] : List (Int × Int × Int × Int × ByteArray × Int × Int)), (p1.1, ((List.length p1.1 : Int), ((0 : Int), ())))))))))
else
some ((((0 : Int), ((0 : Int), ())), ([], ((-1 : Int), ()))), ((), ()))))
else none))
abbrev E_i_ReadScript (k : Nat) : Entry := ⟨5, 0, (.cons .str .nil), (.tup (.cons (.agg yP2) (.cons (.own false 54 yT0) yP7))), i_ReadScript k⟩
theorem t_i_ReadScript (k : Nat) (x) : evF TTab k [E_x_strings_Split k, E_i_PartsOf k, E_i_readNet k, E_i_readEvent k] [(0, ⟨[2, 6, 7, 8, 40, 41, 42], (.cons (.ptr 0 yP2) (.cons (.ptr 0 yP2) (.cons .bool (.cons (.own false 54 yT0) (.cons (.own false 9 .str) yP2)))))⟩, ⟨[2, 6, 7, 8], (.cons (.ptr 0 yP2) (.cons (.ptr 0 yP2) (.cons .bool (.cons (.own false 54 yT0) .nil))))⟩)] Tryz.f5 (.cons .str .nil) (.tup (.cons (.agg yP2) (.cons (.own false 54 yT0) yP7))) x = i_ReadScript k x := by kernel_rfl
theorem e_i_ReadScript [NamesT] (k : Nat) : EntryOk Tryz.prog (E_i_ReadScript k) := entry_ok tok (es_cons (e_x_strings_Split k) (es_cons (e_i_PartsOf k) (es_cons (e_i_readNet k) (es_cons (e_i_readEvent k) es_nil)))) (by kernel_rfl) (by kernel_rfl) (by kernel_rfl) fun x r h => (t_i_ReadScript k x).trans h
def w_eqPrefix (k : Nat) (x : (Int × Int × Unit) × (Int × Int × Unit) × Unit) : Option (Bool × Unit × Unit × Unit) :=
(if (!decide (x.1.1 = x.2.1.1)) = true then
some (false, ((), ((), ())))
else
(if (!decide (x.1.2.1 = x.2.1.2.1)) = true then
some (false, ((), ((), ())))
else
some (true, ((), ((), ())))))
abbrev E_w_eqPrefix (k : Nat) : Entry := ⟨6, 0, (.cons (.agg yP2) (.cons (.agg yP2) .nil)), .bool, w_eqPrefix k⟩
theorem t_w_eqPrefix (k : Nat) (x) : evF TTab k [] [] Tryz.f6 (.cons (.agg yP2) (.cons (.agg yP2) .nil)) .bool x = w_eqPrefix k x := by kernel_rfl
theorem e_w_eqPrefix [NamesT] (k : Nat) : EntryOk Tryz.prog (E_w_eqPrefix k) := entry_ok tok es_nil (by kernel_rfl) (by kernel_rfl) (by kernel_rfl) fun x r h => (t_w_eqPrefix k x).trans h
def w_eqHappen (k : Nat) (x : (Int × Int × Int × Int × ByteArray × Int × Int × Unit) × (Int × Int × Int × Int × ByteArray × Int × Int × Unit) × Unit) : Option (Bool × Unit × Unit × Unit) :=
(if (!decide (x.1.1 = x.2.1.1)) = true then
some (false, ((), ((), ())))
else
(if (!decide (x.1.2.1 = x.2.1.2.1)) = true then
some (false, ((), ((), ())))
else
(if (!decide (x.1.2.2.1 = x.2.1.2.2.1)) = true then
some (false, ((), ((), ())))
else
(if (!decide (x.1.2.2.2.1 = x.2.1.2.2.2.1)) = true then
some (false, ((), ((), ())))
else
(if (!decide (x.1.2.2.2.2.1 = x.2.1.2.2.2.2.1)) = true then
some (false, ((), ((), ())))
else
((w_eqPrefix k ((x.1.2.2.2.2.2.1, (x.1.2.2.2.2.2.2.1, ())), ((x.2.1.2.2.2.2.2.1, (x.2.1.2.2.2.2.2.2.1, ())), ()))).bind fun p1 =>
(if (!p1.1) = true then
some (false, ((), ((), ())))
else
some (true, ((), ((), ()))))))))))
abbrev E_w_eqHappen (k : Nat) : Entry := ⟨20, 0, (.cons (.agg yP6) (.cons (.agg yP6) .nil)), .bool, w_eqHappen k⟩
theorem t_w_eqHappen (k : Nat) (x) : evF TTab k [E_w_eqPrefix k] [] Tryz.f20 (.cons (.agg yP6) (.cons (.agg yP6) .nil)) .bool x = w_eqHappen k x := by kernel_rfl
theorem e_w_eqHappen [NamesT] (k : Nat) : EntryOk Tryz.prog (E_w_eqHappen k) := entry_ok tok (es_cons (e_w_eqPrefix k) es_nil) (by kernel_rfl) (by kernel_rfl) (by kernel_rfl) fun x r h => (t_w_eqHappen k x).trans h
def w_eqHappenS (k : Nat) (x : (List (Int × Int × Int × Int × ByteArray × Int × Int)) × (List (Int × Int × Int × Int × ByteArray × Int × Int)) × Unit) : Option (Bool × Unit × Unit × Unit) :=
(if (!decide ((List.length x.1 : Int) = (List.length x.2.1 : Int))) = true then
some (false, ((), ((), ())))
else
(whileK (fun (rec0 : ((List (Int × Int × Int × Int × ByteArray × Int × Int)) × (List (Int × Int × Int × Int × ByteArray × Int × Int)) × Int × Unit) → Option _) (y0 : (List (Int × Int × Int × Int × ByteArray × Int × Int)) × (List (Int × Int × Int × Int × ByteArray × Int × Int)) × Int × Unit) =>
(if (decide (y0.2.2.1 < (List.length y0.1 : Int))) = true then
(if 0 ≤ y0.2.2.1 ∧ y0.2.2.1 < (List.length y0.1 : Int) then
(if 0 ≤ y0.2.2.1 ∧ y0.2.2.1 < (List.length y0.2.1 : Int) then
((w_eqHappen k (((Ty.rd (t := yT0) y0.1 y0.2.2.1).1, ((Ty.rd (t := yT0) y0.1 y0.2.2.1).2.1, ((Ty.rd (t := yT0) y0.1 y0.2.2.1).2.2.1, ((Ty.rd (t := yT0) y0.1 y0.2.2.1).2.2.2.1, ((Ty.rd (t := yT0) y0.1 y0.2.2.1).2.2.2.2.1, ((Ty.rd (t := yT0) y0.1 y0.2.2.1).2.2.2.2.2.1, ((Ty.rd (t := yT0) y0.1 y0.2.2.1).2.2.2.2.2.2, ()))))))), (((Ty.rd (t := yT0) y0.2.1 y0.2.2.1).1, ((Ty.rd (t := yT0) y0.2.1 y0.2.2.1).2.1, ((Ty.rd (t := yT0) y0.2.1 y0.2.2.1).2.2.1, ((Ty.rd (t := yT0) y0.2.1 y0.2.2.1).2.2.2.1, ((Ty.rd (t := yT0) y0.2.1 y0.2.2.1).2.2.2.2.1, ((Ty.rd (t := yT0) y0.2.1 y0.2.2.1).2.2.2.2.2.1, ((Ty.rd (t := yT0) y0.2.1 y0.2.2.1).2.2.2.2.2.2, ()))))))), ()))).bind fun p1 =>
(if (!p1.1) = true then
some (false, ((), ((), ())))
else
(rec0 (y0.1, (y0.2.1, ((wi64 (y0.2.2.1 + (1 : Int))), ()))))))
else none)
else none)
else
((fun (z1 : Unit) =>
some (true, ((), ((), ())))) ()))) k (x.1, (x.2.1, ((0 : Int), ())))))
abbrev E_w_eqHappenS (k : Nat) : Entry := ⟨7, 0, (.cons (.il true yT0) (.cons (.il true yT0) .nil)), .bool, w_eqHappenS k⟩
theorem t_w_eqHappenS (k : Nat) (x) : evF TTab k [E_w_eqHappen k] [(0, ⟨[0, 1, 5], (.cons (.il true yT0) (.cons (.il true yT0) yP7))⟩, ⟨[], .nil⟩)] Tryz.f7 (.cons (.il true yT0) (.cons (.il true yT0) .nil)) .bool x = w_eqHappenS k x := by kernel_rfl
theorem e_w_eqHappenS [NamesT] (k : Nat) : EntryOk Tryz.prog (E_w_eqHappenS k) := entry_ok tok (es_cons (e_w_eqHappen k) es_nil) (by kernel_rfl) (by kernel_rfl) (by kernel_rfl) fun x r h => (t_w_eqHappenS k x).trans h
def w_markText (k : Nat) (x : Int × Unit) : Option (ByteArray × Unit × Unit) :=
(if (decide (x.1 ≤ (0 : Int))) = true then
some ((⟨#[109, 48]⟩ : ByteArray), ((), ()))
else
(whileK (fun (rec0 : (Int × ByteArray × Unit) → Option _) (y0 : Int × ByteArray × Unit) =>
(if (decide ((0 : Int) < y0.1)) = true then
(if ByteArray.size (strOf ([(wu8 ((wi64 ((48 : Int) + (Int.tmod y0.1 (10 : Int))))))] : List (Int))) + ByteArray.size y0.2.1 ≤ maxStr then
(rec0 ((wi64 (Int.tdiv y0.1 (10 : Int))), (((strOf ([(wu8 ((wi64 ((48 : Int) + (Int.tmod y0.1 (10 : Int))))))] : List (Int))) ++ y0.2.1), ())))
else none)
else
((fun (z1 : ByteArray × Unit) =>
(if ByteArray.size (⟨#[109]⟩ : ByteArray) + ByteArray.size z1.1 ≤ maxStr then
some (((⟨#[109]⟩ : ByteArray) ++ z1.1), ((), ()))
else none)) (y0.2.1, ())))) k (x.1, ((⟨#[]⟩ : ByteArray), ()))))
abbrev E_w_markText (k : Nat) : Entry := ⟨21, 0, yP7, .str, w_markText k⟩
theorem t_w_markText (k : Nat) (x) : evF TTab k [] [(0, ⟨[0, 3], (.cons (.int .i64) (.cons .str .nil))⟩, ⟨[3], (.cons .str .nil)⟩)] Tryz.f21 yP7 .str x = w_markText k x := by kernel_rfl
theorem e_w_markText [NamesT] (k : Nat) : EntryOk Tryz.prog (E_w_markText k) := entry_ok tok es_nil (by kernel_rfl) (by kernel_rfl) (by kernel_rfl) fun x r h => (t_w_markText k x).trans h
def w_markHappenS (k : Nat) (x : (List (Int × Int × Int × Int × ByteArray × Int × Int)) × Int × Unit) : Option (Int × (List (Int × Int × Int × Int × ByteArray × Int × Int)) × Unit × Unit) :=
(whileK (fun (rec0 : ((List (Int × Int × Int × Int × ByteArray × Int × Int)) × Int × Int × Unit) → Option _) (y0 : (List (Int × Int × Int × Int × ByteArray × Int × Int)) × Int × Int × Unit) =>
(if (decide (y0.2.2.1 < (List.length y0.1 : Int))) = true then
(if 0 ≤ y0.2.2.1 ∧ y0.2.2.1 < (List.length y0.1 : Int) then
(if 0 ≤ y0.2.2.1 ∧ y0.2.2.1 < (List.length (List.set y0.1 (Int.toNat y0.2.2.1) (y0.2.1, (Ty.rd (t := yT0) y0.1 y0.2.2.1).2)) : Int) then
(jn (List.set (List.set y0.1 (Int.toNat y0.2.2.1) (y0.2.1, (Ty.rd (t := yT0) y0.1 y0.2.2.1).2)) (Int.toNat y0.2.2.1) ((Ty.rd (t := yT0) (List.set y0.1 (Int.toNat y0.2.2.1) (y0.2.1, (Ty.rd (t := yT0) y0.1 y0.2.2.1).2)) y0.2.2.1).1, ((wi64 (y0.2.1 + (1 : Int))), (Ty.rd (t := yT0) (List.set y0.1 (Int.toNat y0.2.2.1) (y0.2.1, (Ty.rd (t := yT0) y0.1 y0.2.2.1).2)) y0.2.2.1).2.2))) (fun (q17 : List (Int × Int × Int × Int × ByteArray × Int × Int)) =>
(if 0 ≤ y0.2.2.1 ∧ y0.2.2.1 < (List.length q17 : Int) then
(jn (List.set q17 (Int.toNat y0.2.2.1) ((Ty.rd (t := yT0) q17 y0.2.2.1).1, ((Ty.rd (t := yT0) q17 y0.2.2.1).2.1, ((wi64 ((wi64 (y0.2.1 + (1 : Int))) + (1 : Int))), (Ty.rd (t := yT0) q17 y0.2.2.1).2.2.2)))) (fun (q18 : List (Int × Int × Int × Int × ByteArray × Int × Int)) =>
(if 0 ≤ y0.2.2.1 ∧ y0.2.2.1 < (List.length q18 : Int) then
(jn (List.set q18 (Int.toNat y0.2.2.1) ((Ty.rd (t := yT0) q18 y0.2.2.1).1, ((Ty.rd (t := yT0) q18 y0.2.2.1).2.1, ((Ty.rd (t := yT0) q18 y0.2.2.1).2.2.1, ((wi64 ((wi64 ((wi64 (y0.2.1 + (1 : Int))) + (1 : Int))) + (1 : Int))), (Ty.rd (t := yT0) q18 y0.2.2.1).2.2.2.2))))) (fun (q19 : List (Int × Int × Int × Int × ByteArray × Int × Int)) =>
((w_markText k ((wi64 ((wi64 ((wi64 ((wi64 (y0.2.1 + (1 : Int))) + (1 : Int))) + (1 : Int))) + (1 : Int))), ())).bind fun p1 =>
(if 0 ≤ y0.2.2.1 ∧ y0.2.2.1 < (List.length q19 : Int) then
(jn (List.set q19 (Int.toNat y0.2.2.1) ((Ty.rd (t := yT0) q19 y0.2.2.1).1, ((Ty.rd (t := yT0) q19 y0.2.2.1).2.1, ((Ty.rd (t := yT0) q19 y0.2.2.1).2.2.1, ((Ty.rd (t := yT0) q19 y0.2.2.1).2.2.2.1, (p1.1, (Ty.rd (t := yT0) q19 y0.2.2.1).2.2.2.2.2)))))) (fun (q20 : List (Int × Int × Int × Int × ByteArray × Int × Int)) =>
(if 0 ≤ y0.2.2.1 ∧ y0.2.2.1 < (List.length q20 : Int) then
(jn (List.set q20 (Int.toNat y0.2.2.1) ((Ty.rd (t := yT0) q20 y0.2.2.1).1, ((Ty.rd (t := yT0) q20 y0.2.2.1).2.1, ((Ty.rd (t := yT0) q20 y0.2.2.1).2.2.1, ((Ty.rd (t := yT0) q20 y0.2.2.1).2.2.2.1, ((Ty.rd (t := yT0) q20 y0.2.2.1).2.2.2.2.1, ((wi64 ((wi64 ((wi64 ((wi64 ((wi64 (y0.2.1 + (1 : Int))) + (1 : Int))) + (1 : Int))) + (1 : Int))) + (1 : Int))), (Ty.rd (t := yT0) q20 y0.2.2.1).2.2.2.2.2.2))))))) (fun (q21 : List (Int × Int × Int × Int × ByteArray × Int × Int)) =>
(if 0 ≤ y0.2.2.1 ∧ y0.2.2.1 < (List.length q21 : Int) then
(jn (List.set q21 (Int.toNat y0.2.2.1) ((Ty.rd (t := yT0) q21 y0.2.2.1).1, ((Ty.rd (t := yT0) q21 y0.2.2.1).2.1, ((Ty.rd (t := yT0) q21 y0.2.2.1).2.2.1, ((Ty.rd (t := yT0) q21 y0.2.2.1).2.2.2.1, ((Ty.rd (t := yT0) q21 y0.2.2.1).2.2.2.2.1, ((Ty.rd (t := yT0) q21 y0.2.2.1).2.2.2.2.2.1, (wi64 ((wi64 ((wi64 ((wi64 ((wi64 ((wi64 (y0.2.1 + (1 : Int))) + (1 : Int))) + (1 : Int))) + (1 : Int))) + (1 : Int))) + (1 : Int)))))))))) (fun (q22 : List (Int × Int × Int × Int × ByteArray × Int × Int)) =>
(rec0 (q22, ((wi64 ((wi64 ((wi64 ((wi64 ((wi64 ((wi64 ((wi64 (y0.2.1 + (1 : Int))) + (1 : Int))) + (1 : Int))) + (1 : Int))) + (1 : Int))) + (1 : Int))) + (1 : Int))), ((wi64 (y0.2.2.1 + (1 : Int))), ()))))))
else none)))
else none)))
else none))))
else none)))
else none)))
else none)
else none)
else
((fun (z1 : (List (Int × Int × Int × Int × ByteArray × Int × Int)) × Int × Unit) =>
some (z1.2.1, (z1.1, ((), ())))) (y0.1, (y0.2.1, ()))))) k (x.1, (x.2.1, ((0 : Int), ()))))
abbrev E_w_markHappenS (k : Nat) : Entry := ⟨8, 0, (.cons (.mut false 54 yT0) yP7), (.int .i64), w_markHappenS k⟩
theorem t_w_markHappenS (k : Nat) (x) : evF TTab k [E_w_markText k] [(0, ⟨[0, 1, 5], (.cons (.own false 54 yT0) yP2)⟩, ⟨[0, 1], (.cons (.own false 54 yT0) yP7)⟩)] Tryz.f8 (.cons (.mut false 54 yT0) yP7) (.int .i64) x = w_markHappenS k x := by kernel_rfl
theorem e_w_markHappenS [NamesT] (k : Nat) : EntryOk Tryz.prog (E_w_markHappenS k) := entry_ok tok (es_cons (e_w_markText k) es_nil) (by kernel_rfl) (by kernel_rfl) (by kernel_rfl) fun x r h => (t_w_markHappenS k x).trans h
def w_heldHappenS (k : Nat) (x : (List (Int × Int × Int × Int × ByteArray × Int × Int)) × Int × Unit) : Option (Int × Unit × Unit × Unit) :=
(whileK (fun (rec0 : ((List (Int × Int × Int × Int × ByteArray × Int × Int)) × Int × Int × Unit) → Option _) (y0 : (List (Int × Int × Int × Int × ByteArray × Int × Int)) × Int × Int × Unit) =>
(if (decide (y0.2.2.1 < (List.length y0.1 : Int))) = true then
(if 0 ≤ y0.2.2.1 ∧ y0.2.2.1 < (List.length y0.1 : Int) then
(if (!decide ((Ty.rd (t := yT0) y0.1 y0.2.2.1).1 = y0.2.1)) = true then
some ((-1 : Int), ((), ((), ())))
else
(if 0 ≤ y0.2.2.1 ∧ y0.2.2.1 < (List.length y0.1 : Int) then
(if (!decide ((Ty.rd (t := yT0) y0.1 y0.2.2.1).2.1 = (wi64 (y0.2.1 + (1 : Int))))) = true then
some ((-1 : Int), ((), ((), ())))
else
(if 0 ≤ y0.2.2.1 ∧ y0.2.2.1 < (List.length y0.1 : Int) then
(if (!decide ((Ty.rd (t := yT0) y0.1 y0.2.2.1).2.2.1 = (wi64 ((wi64 (y0.2.1 + (1 : Int))) + (1 : Int))))) = true then
some ((-1 : Int), ((), ((), ())))
else
(if 0 ≤ y0.2.2.1 ∧ y0.2.2.1 < (List.length y0.1 : Int) then
(if (!decide ((Ty.rd (t := yT0) y0.1 y0.2.2.1).2.2.2.1 = (wi64 ((wi64 ((wi64 (y0.2.1 + (1 : Int))) + (1 : Int))) + (1 : Int))))) = true then
some ((-1 : Int), ((), ((), ())))
else
(if 0 ≤ y0.2.2.1 ∧ y0.2.2.1 < (List.length y0.1 : Int) then
((w_markText k ((wi64 ((wi64 ((wi64 ((wi64 (y0.2.1 + (1 : Int))) + (1 : Int))) + (1 : Int))) + (1 : Int))), ())).bind fun p1 =>
(if (!decide ((Ty.rd (t := yT0) y0.1 y0.2.2.1).2.2.2.2.1 = p1.1)) = true then
some ((-1 : Int), ((), ((), ())))
else
(if 0 ≤ y0.2.2.1 ∧ y0.2.2.1 < (List.length y0.1 : Int) then
(if (!decide ((Ty.rd (t := yT0) y0.1 y0.2.2.1).2.2.2.2.2.1 = (wi64 ((wi64 ((wi64 ((wi64 ((wi64 (y0.2.1 + (1 : Int))) + (1 : Int))) + (1 : Int))) + (1 : Int))) + (1 : Int))))) = true then
some ((-1 : Int), ((), ((), ())))
else
(if 0 ≤ y0.2.2.1 ∧ y0.2.2.1 < (List.length y0.1 : Int) then
(if (!decide ((Ty.rd (t := yT0) y0.1 y0.2.2.1).2.2.2.2.2.2 = (wi64 ((wi64 ((wi64 ((wi64 ((wi64 ((wi64 (y0.2.1 + (1 : Int))) + (1 : Int))) + (1 : Int))) + (1 : Int))) + (1 : Int))) + (1 : Int))))) = true then
some ((-1 : Int), ((), ((), ())))
else
(rec0 (y0.1, ((wi64 ((wi64 ((wi64 ((wi64 ((wi64 ((wi64 ((wi64 (y0.2.1 + (1 : Int))) + (1 : Int))) + (1 : Int))) + (1 : Int))) + (1 : Int))) + (1 : Int))) + (1 : Int))), ((wi64 (y0.2.2.1 + (1 : Int))), ())))))
else none))
else none)))
else none))
else none))
else none))
else none))
else none)
else
((fun (z1 : Int × Unit) =>
some (z1.1, ((), ((), ())))) (y0.2.1, ())))) k (x.1, (x.2.1, ((0 : Int), ()))))
abbrev E_w_heldHappenS (k : Nat) : Entry := ⟨9, 0, (.cons (.il true yT0) yP7), (.int .i64), w_heldHappenS k⟩
theorem t_w_heldHappenS (k : Nat) (x) : evF TTab k [E_w_markText k] [(0, ⟨[0, 1, 5], (.cons (.il true yT0) yP2)⟩, ⟨[1], yP7⟩)] Tryz.f9 (.cons (.il true yT0) yP7) (.int .i64) x = w_heldHappenS k x := by kernel_rfl
theorem e_w_heldHappenS [NamesT] (k : Nat) : EntryOk Tryz.prog (E_w_heldHappenS k) := entry_ok tok (es_cons (e_w_markText k) es_nil) (by kernel_rfl) (by kernel_rfl) (by kernel_rfl) fun x r h => (t_w_heldHappenS k x).trans h
def w_FnExactReadScript (k : Nat) (x : ByteArray × Unit) : Option (Bool × Unit × Unit) :=
(if (decide ((1048576 : Int) < (ByteArray.size x.1 : Int))) = true then
some (true, ((), ()))
else
((s_ReadScript k (x.1, ())).bind fun p1 =>
((i_ReadScript k (x.1, ())).bind fun p2 =>
((w_eqPrefix k ((p2.1.1.1, (p2.1.1.2.1, ())), ((p1.1.1.1, (p1.1.1.2.1, ())), ()))).bind fun p3 =>
(if (!p3.1) = false then
((w_eqHappenS k (p2.1.2.1, (p1.1.2.1, ()))).bind fun p4 =>
(if (!p4.1) = false then
(if (!decide (p2.1.2.2.1 = p1.1.2.2.1)) = true then
some (false, ((), ()))
else
((w_markHappenS k (p2.1.2.1, ((1 : Int), ()))).bind fun p5 =>
((w_heldHappenS k (p5.2.1, ((1 : Int), ()))).bind fun p6 =>
(if (decide (p6.1 < (0 : Int))) = true then
some (false, ((), ()))
else
(if (!decide (p6.1 = p5.1)) = true then
some (false, ((), ()))
else
((i_ReadScript k (x.1, ())).bind fun p7 =>
((w_eqPrefix k ((p7.1.1.1, (p7.1.1.2.1, ())), ((p1.1.1.1, (p1.1.1.2.1, ())), ()))).bind fun p8 =>
(if (!p8.1) = false then
((w_eqHappenS k (p7.1.2.1, (p1.1.2.1, ()))).bind fun p9 =>
(if (!p9.1) = false then
(if (!decide (p7.1.2.2.1 = p1.1.2.2.1)) = true then
some (false, ((), ()))
else
((w_heldHappenS k (p5.2.1, ((1 : Int), ()))).bind fun p10 =>
(if (decide (p10.1 < (0 : Int))) = true then
some (false, ((), ()))
else
(if (!decide (p10.1 = p5.1)) = true then
some (false, ((), ()))
else
some (true, ((), ()))))))
else
some (false, ((), ()))))
else
some (false, ((), ()))))))))))
else
some (false, ((), ()))))
else
some (false, ((), ())))))))
abbrev E_w_FnExactReadScript (k : Nat) : Entry := ⟨3, 0, (.cons .str .nil), .bool, w_FnExactReadScript k⟩
theorem t_w_FnExactReadScript (k : Nat) (x) : evF TTab k [E_s_ReadScript k, E_i_ReadScript k, E_w_eqPrefix k, E_w_eqHappenS k, E_w_markHappenS k, E_w_heldHappenS k] [] Tryz.f3 (.cons .str .nil) .bool x = w_FnExactReadScript k x := by kernel_rfl
theorem e_w_FnExactReadScript [NamesT] (k : Nat) : EntryOk Tryz.prog (E_w_FnExactReadScript k) := entry_ok tok (es_cons (e_s_ReadScript k) (es_cons (e_i_ReadScript k) (es_cons (e_w_eqPrefix k) (es_cons (e_w_eqHappenS k) (es_cons (e_w_markHappenS k) (es_cons (e_w_heldHappenS k) es_nil)))))) (by kernel_rfl) (by kernel_rfl) (by kernel_rfl) fun x r h => (t_w_FnExactReadScript k x).trans h
end Go.Proofs.YtmanaalkgemjaaaGreatDoor
