import Derived.Test.YtnfllchbpechlaaGreatFun1
/- What functions of the program compute, as plain functions, and that their calls do so (part 2). Conditions: the plain function answers. -/
set_option linter.unusedVariables false
namespace Go.Proofs.YtnfllchbpechlaaGreat
open Go Go.Eng Go.Proofs
def qFt (k : Nat) (x : Int × Unit) : Option (ByteArray × Unit × Unit) :=
(if (decide ((Int.tmod x.1 (256 : Int)) < (0 : Int))) = true then
some ((qAK ([(wu8 ((wi64 ((Int.tmod x.1 (256 : Int)) + (256 : Int)))))] : List (Int))), ((), ()))
else
some ((qAK ([(wu8 ((Int.tmod x.1 (256 : Int))))] : List (Int))), ((), ())))
abbrev E_s_l05Byte (k : Nat) : qAI := ⟨174, 0, yP2, .str, qFt k⟩
theorem t_s_l05Byte (k : Nat) (x) : evF TTab k [] [] Tryz.f174 yP2 .str x = qFt k x := by kernel_rfl
theorem e_s_l05Byte [Names] (k : Nat) : qAD Tryz.prog (E_s_l05Byte k) := qAC tok qAF (by kernel_rfl) (by kernel_rfl) (by kernel_rfl) fun x r h => (t_s_l05Byte k x).trans h
def qEH (k : Nat) (x : ByteArray × Int × Unit) : Option (ByteArray × Unit × Unit × Unit) :=
(jn (fun (j1v0 : ByteArray) =>
(if (64 : Int) = (64 : Int) then
(if 0 ≤ (64 : Int) ∧ (64 : Int) ≤ (capMax : Int) then
(qAG (fun (rec0 : (ByteArray × Int × List (Int) × Int × Unit) → Option _) (y0 : ByteArray × Int × List (Int) × Int × Unit) =>
(if (decide (y0.2.2.2.1 < (64 : Int))) = true then
(if (decide (y0.2.2.2.1 < (ByteArray.size y0.1 : Int))) = true then
(if 0 ≤ y0.2.2.2.1 ∧ y0.2.2.2.1 < (ByteArray.size y0.1 : Int) then
(if 0 ≤ y0.2.2.2.1 ∧ y0.2.2.2.1 < (List.length y0.2.2.1 : Int) then
(if 0 ≤ y0.2.2.2.1 ∧ y0.2.2.2.1 < (List.length (List.set y0.2.2.1 (Int.toNat y0.2.2.2.1) (bt y0.1 y0.2.2.2.1)) : Int) then
(if 0 ≤ y0.2.2.2.1 ∧ y0.2.2.2.1 < (List.length (List.set y0.2.2.1 (Int.toNat y0.2.2.2.1) (bt y0.1 y0.2.2.2.1)) : Int) then
(rec0 (y0.1, (y0.2.1, ((List.set (List.set y0.2.2.1 (Int.toNat y0.2.2.2.1) (bt y0.1 y0.2.2.2.1)) (Int.toNat y0.2.2.2.1) (qAR .xor .u8 (Ty.rd (t := (.int .u8)) (List.set y0.2.2.1 (Int.toNat y0.2.2.2.1) (bt y0.1 y0.2.2.2.1)) y0.2.2.2.1) y0.2.1)), ((wi64 (y0.2.2.2.1 + (1 : Int))), ())))))
else none)
else none)
else none)
else none)
else
(if 0 ≤ y0.2.2.2.1 ∧ y0.2.2.2.1 < (List.length y0.2.2.1 : Int) then
(if 0 ≤ y0.2.2.2.1 ∧ y0.2.2.2.1 < (List.length y0.2.2.1 : Int) then
(rec0 (y0.1, (y0.2.1, ((List.set y0.2.2.1 (Int.toNat y0.2.2.2.1) (qAR .xor .u8 (Ty.rd (t := (.int .u8)) y0.2.2.1 y0.2.2.2.1) y0.2.1)), ((wi64 (y0.2.2.2.1 + (1 : Int))), ())))))
else none)
else none))
else
((fun (z2 : List (Int) × Unit) =>
some ((qAK z2.1), ((), ((), ())))) (y0.2.2.1, ())))) k (j1v0, (x.2.1, ((List.replicate (Int.toNat (64 : Int)) (0 : Int)), ((0 : Int), ())))))
else none)
else none)) (fun (j1 : ByteArray → Option _) =>
(if (decide ((64 : Int) < (ByteArray.size x.1 : Int))) = true then
((qCe k (x.1, ())).bind fun p1 =>
(j1 p1.1))
else
(j1 x.1))))
abbrev E_s_l05Mask (k : Nat) : qAI := ⟨322, 0, (.cons .str (.cons (.int .u8) .nil)), .str, qEH k⟩
theorem t_s_l05Mask (k : Nat) (x) : evF TTab k [qFU k] [(0, ⟨[0, 1, 5, 6], (.cons .str (.cons (.int .u8) (.cons (.own false 5 (.int .u8)) yP2)))⟩, ⟨[5], (.cons (.own false 5 (.int .u8)) .nil)⟩)] Tryz.f322 (.cons .str (.cons (.int .u8) .nil)) .str x = qEH k x := by kernel_rfl
theorem e_s_l05Mask [Names] (k : Nat) : qAD Tryz.prog (E_s_l05Mask k) := qAC tok (qAB (e_s_DigestOf k) qAF) (by kernel_rfl) (by kernel_rfl) (by kernel_rfl) fun x r h => (t_s_l05Mask k x).trans h
def s_MacOf (k : Nat) (x : ByteArray × ByteArray × Unit) : Option (ByteArray × Unit × Unit × Unit) :=
((qEH k (x.1, ((92 : Int), ()))).bind fun p1 =>
((qEH k (x.1, ((54 : Int), ()))).bind fun p2 =>
(if ByteArray.size p2.1 + ByteArray.size x.2.1 ≤ maxStr then
((qCe k ((p2.1 ++ x.2.1), ())).bind fun p3 =>
(if ByteArray.size p1.1 + ByteArray.size p3.1 ≤ maxStr then
((qCe k ((p1.1 ++ p3.1), ())).bind fun p4 =>
some (p4.1, ((), ((), ()))))
else none))
else none)))
abbrev E_s_MacOf (k : Nat) : qAI := ⟨291, 0, yP24, .str, s_MacOf k⟩
theorem t_s_MacOf (k : Nat) (x) : evF TTab k [qFU k, E_s_l05Mask k] [] Tryz.f291 yP24 .str x = s_MacOf k x := by kernel_rfl
theorem e_s_MacOf [Names] (k : Nat) : qAD Tryz.prog (E_s_MacOf k) := qAC tok (qAB (e_s_DigestOf k) (qAB (e_s_l05Mask k) qAF)) (by kernel_rfl) (by kernel_rfl) (by kernel_rfl) fun x r h => (t_s_MacOf k x).trans h
def qGS (k : Nat) (x : Int × Unit) : Option (ByteArray × Unit × Unit) :=
(qAG (fun (rec0 : (Int × List (Int) × Unit) → Option _) (y0 : Int × List (Int) × Unit) =>
(if (decide ((127 : Int) < y0.1)) = true then
(if List.length y0.2.1 + List.length ([(wu8 ((wi64 ((Int.tmod y0.1 (128 : Int)) + (128 : Int)))))] : List (Int)) ≤ capMax then
(rec0 ((wi64 (Int.tdiv y0.1 (128 : Int))), ((y0.2.1 ++ ([(wu8 ((wi64 ((Int.tmod y0.1 (128 : Int)) + (128 : Int)))))] : List (Int))), ())))
else none)
else
((fun (z1 : Int × List (Int) × Unit) =>
(if List.length z1.2.1 + List.length ([(wu8 (z1.1))] : List (Int)) ≤ capMax then
some ((qAK (z1.2.1 ++ ([(wu8 (z1.1))] : List (Int)))), ((), ()))
else none)) (y0.1, (y0.2.1, ()))))) k (x.1, (([] : List (Int)), ())))
abbrev E_s_l01Var (k : Nat) : qAI := ⟨292, 0, yP2, .str, qGS k⟩
theorem t_s_l01Var (k : Nat) (x) : evF TTab k [] [(0, ⟨[0, 3], (.cons (.int .i64) (.cons (.own false 5 (.int .u8)) .nil))⟩, ⟨[0, 3], (.cons (.int .i64) (.cons (.own false 5 (.int .u8)) .nil))⟩)] Tryz.f292 yP2 .str x = qGS k x := by kernel_rfl
theorem e_s_l01Var [Names] (k : Nat) : qAD Tryz.prog (E_s_l01Var k) := qAC tok qAF (by kernel_rfl) (by kernel_rfl) (by kernel_rfl) fun x r h => (t_s_l01Var k x).trans h
def s_Mask (k : Nat) (x : ByteArray × Int × Int × Unit) : Option ((ByteArray × Bool × Unit) × Unit × Unit × Unit × Unit) :=
((qAy k (x.2.1, ((0 : Int), ((1000000000 : Int), ())))).bind fun p1 =>
(if (!p1.1) = false then
((qAy k (x.2.2.1, ((0 : Int), ((8000 : Int), ())))).bind fun p2 =>
(if (!p2.1) = true then
some (((⟨#[]⟩ : ByteArray), (false, ())), ((), ((), ((), ()))))
else
(qAG (fun (rec0 : (ByteArray × Int × Int × List (Int) × Int × Unit) → Option _) (y0 : ByteArray × Int × Int × List (Int) × Int × Unit) =>
(if (decide ((List.length y0.2.2.2.1 : Int) < y0.2.2.1)) = true then
((qGS k (y0.2.1, ())).bind fun p3 =>
(if ByteArray.size (⟨#[109]⟩ : ByteArray) + ByteArray.size p3.1 ≤ maxStr then
((qFt k (y0.2.2.2.2.1, ())).bind fun p4 =>
(if ByteArray.size ((⟨#[109]⟩ : ByteArray) ++ p3.1) + ByteArray.size p4.1 ≤ maxStr then
((s_MacOf k (y0.1, ((((⟨#[109]⟩ : ByteArray) ++ p3.1) ++ p4.1), ()))).bind fun p5 =>
(if ByteArray.size p5.1 ≤ maxStr then
(if List.length y0.2.2.2.1 + List.length (qAE p5.1) ≤ capMax then
(rec0 (y0.1, (y0.2.1, (y0.2.2.1, ((y0.2.2.2.1 ++ (qAE p5.1)), ((wi64 (y0.2.2.2.2.1 + (1 : Int))), ()))))))
else none)
else none))
else none))
else none))
else
((fun (z1 : Int × List (Int) × Unit) =>
(if 0 ≤ z1.1 ∧ z1.1 ≤ (List.length z1.2.1 : Int) then
some (((qAK (List.drop (Int.toNat (0 : Int)) (List.take (Int.toNat z1.1) z1.2.1))), (true, ())), ((), ((), ((), ()))))
else none)) (y0.2.2.1, (y0.2.2.2.1, ()))))) k (x.1, (x.2.1, (x.2.2.1, (([] : List (Int)), ((0 : Int), ()))))))))
else
some (((⟨#[]⟩ : ByteArray), (false, ())), ((), ((), ((), ()))))))
abbrev E_s_Mask (k : Nat) : qAI := ⟨250, 0, (.cons .str (.cons (.int .i64) yP2)), (.tup yP14), s_Mask k⟩
theorem t_s_Mask (k : Nat) (x) : evF TTab k [qBl k, E_s_l05Byte k, E_s_MacOf k, E_s_l01Var k] [(0, ⟨[0, 1, 2, 8, 9], (.cons .str (.cons (.int .i64) (.cons (.int .i64) (.cons (.own false 5 (.int .u8)) yP2))))⟩, ⟨[2, 8], (.cons (.int .i64) (.cons (.own false 5 (.int .u8)) .nil))⟩)] Tryz.f250 (.cons .str (.cons (.int .i64) yP2)) (.tup yP14) x = s_Mask k x := by kernel_rfl
theorem e_s_Mask [Names] (k : Nat) : qAD Tryz.prog (E_s_Mask k) := qAC tok (qAB (qB3 k) (qAB (e_s_l05Byte k) (qAB (e_s_MacOf k) (qAB (e_s_l01Var k) qAF)))) (by kernel_rfl) (by kernel_rfl) (by kernel_rfl) fun x r h => (t_s_Mask k x).trans h
def qHl (k : Nat) (x : ByteArray × ByteArray × Unit) : Option (ByteArray × Unit × Unit × Unit) :=
(if ByteArray.size x.1 ≤ maxStr then
(qAG (fun (rec0 : (ByteArray × List (Int) × Int × Unit) → Option _) (y0 : ByteArray × List (Int) × Int × Unit) =>
(if (decide (y0.2.2.1 < (List.length y0.2.1 : Int))) = true then
(if 0 ≤ y0.2.2.1 ∧ y0.2.2.1 < (List.length y0.2.1 : Int) then
(if 0 ≤ y0.2.2.1 ∧ y0.2.2.1 < (ByteArray.size y0.1 : Int) then
(if 0 ≤ y0.2.2.1 ∧ y0.2.2.1 < (List.length y0.2.1 : Int) then
(rec0 (y0.1, ((List.set y0.2.1 (Int.toNat y0.2.2.1) (qAR .xor .u8 (Ty.rd (t := (.int .u8)) y0.2.1 y0.2.2.1) (bt y0.1 y0.2.2.1))), ((wi64 (y0.2.2.1 + (1 : Int))), ()))))
else none)
else none)
else none)
else
((fun (z1 : List (Int) × Unit) =>
some ((qAK z1.1), ((), ((), ())))) (y0.2.1, ())))) k (x.2.1, ((qAE x.1), ((0 : Int), ()))))
else none)
abbrev E_s_l06Xor (k : Nat) : qAI := ⟨251, 0, yP24, .str, qHl k⟩
theorem t_s_l06Xor (k : Nat) (x) : evF TTab k [] [(0, ⟨[1, 5, 6], (.cons .str (.cons (.own true 5 (.int .u8)) yP2))⟩, ⟨[5], (.cons (.own true 5 (.int .u8)) .nil)⟩)] Tryz.f251 yP24 .str x = qHl k x := by kernel_rfl
theorem e_s_l06Xor [Names] (k : Nat) : qAD Tryz.prog (E_s_l06Xor k) := qAC tok qAF (by kernel_rfl) (by kernel_rfl) (by kernel_rfl) fun x r h => (t_s_l06Xor k x).trans h
def qHm (k : Nat) (x : ByteArray × Int × ByteArray × Unit) : Option (ByteArray × Unit × Unit × Unit × Unit) :=
((qGS k (x.2.1, ())).bind fun p1 =>
(if ByteArray.size (⟨#[116]⟩ : ByteArray) + ByteArray.size p1.1 ≤ maxStr then
(if ByteArray.size ((⟨#[116]⟩ : ByteArray) ++ p1.1) + ByteArray.size x.2.2.1 ≤ maxStr then
((s_MacOf k (x.1, ((((⟨#[116]⟩ : ByteArray) ++ p1.1) ++ x.2.2.1), ()))).bind fun p2 =>
(if 0 ≤ (16 : Int) ∧ (16 : Int) ≤ (ByteArray.size p2.1 : Int) then
some ((ByteArray.extract p2.1 (Int.toNat (0 : Int)) (Int.toNat (16 : Int))), ((), ((), ((), ()))))
else none))
else none)
else none))
abbrev E_s_l06Tag (k : Nat) : qAI := ⟨252, 0, (.cons .str yP15), .str, qHm k⟩
theorem t_s_l06Tag (k : Nat) (x) : evF TTab k [E_s_MacOf k, E_s_l01Var k] [] Tryz.f252 (.cons .str yP15) .str x = qHm k x := by kernel_rfl
theorem e_s_l06Tag [Names] (k : Nat) : qAD Tryz.prog (E_s_l06Tag k) := qAC tok (qAB (e_s_MacOf k) (qAB (e_s_l01Var k) qAF)) (by kernel_rfl) (by kernel_rfl) (by kernel_rfl) fun x r h => (t_s_l06Tag k x).trans h
def qEI (k : Nat) (x : Int × Unit) : Option (ByteArray × Unit × Unit) :=
some ((qAK ([(wu8 (x.1))] : List (Int))), ((), ()))
abbrev E_i_byteText (k : Nat) : qAI := ⟨182, 0, yP2, .str, qEI k⟩
theorem t_i_byteText (k : Nat) (x) : evF TTab k [] [] Tryz.f182 yP2 .str x = qEI k x := by kernel_rfl
theorem e_i_byteText [Names] (k : Nat) : qAD Tryz.prog (E_i_byteText k) := qAC tok qAF (by kernel_rfl) (by kernel_rfl) (by kernel_rfl) fun x r h => (t_i_byteText k x).trans h
def qEJ (k : Nat) (x : Int × Unit) : Option ((ByteArray × Bool × Unit) × Unit × Unit) :=
((qAn k (x.1, ((0 : Int), ((1000000000 : Int), ())))).bind fun p1 =>
(if (!p1.1) = true then
some (((⟨#[]⟩ : ByteArray), (false, ())), ((), ()))
else
(qAG (fun (rec0 : (Int × List (Int) × Unit) → Option _) (y0 : Int × List (Int) × Unit) =>
(if (decide ((127 : Int) < y0.1)) = true then
(if List.length y0.2.1 + List.length ([(wu8 ((wi64 ((Int.tmod y0.1 (128 : Int)) + (128 : Int)))))] : List (Int)) ≤ capMax then
(rec0 ((wi64 (Int.tdiv y0.1 (128 : Int))), ((y0.2.1 ++ ([(wu8 ((wi64 ((Int.tmod y0.1 (128 : Int)) + (128 : Int)))))] : List (Int))), ())))
else none)
else
((fun (z1 : Int × List (Int) × Unit) =>
(if List.length z1.2.1 + List.length ([(wu8 (z1.1))] : List (Int)) ≤ capMax then
some (((qAK (z1.2.1 ++ ([(wu8 (z1.1))] : List (Int)))), (true, ())), ((), ()))
else none)) (y0.1, (y0.2.1, ()))))) k (x.1, (([] : List (Int)), ())))))
abbrev qG1 (k : Nat) : qAI := ⟨297, 0, yP2, (.tup yP14), qEJ k⟩
theorem t_i_VarText (k : Nat) (x) : evF TTab k [qBB k] [(0, ⟨[0, 4], (.cons (.int .i64) (.cons (.own false 5 (.int .u8)) .nil))⟩, ⟨[0, 4], (.cons (.int .i64) (.cons (.own false 5 (.int .u8)) .nil))⟩)] Tryz.f297 yP2 (.tup yP14) x = qEJ k x := by kernel_rfl
theorem e_i_VarText [Names] (k : Nat) : qAD Tryz.prog (qG1 k) := qAC tok (qAB (qBG k) qAF) (by kernel_rfl) (by kernel_rfl) (by kernel_rfl) fun x r h => (t_i_VarText k x).trans h
def qB7 (k : Nat) (x : ByteArray × Int × Unit) : Option (ByteArray × Unit × Unit × Unit) :=
(if ByteArray.size x.1 ≤ maxStr then
(qAG (fun (rec0 : (Int × List (Int) × Int × Int × Unit) → Option _) (y0 : Int × List (Int) × Int × Int × Unit) =>
(if (decide (y0.2.2.2.1 < y0.2.2.1)) = true then
(if 0 ≤ y0.2.2.2.1 ∧ y0.2.2.2.1 < (List.length y0.2.1 : Int) then
(if 0 ≤ y0.2.2.2.1 ∧ y0.2.2.2.1 < (List.length y0.2.1 : Int) then
(rec0 (y0.1, ((List.set y0.2.1 (Int.toNat y0.2.2.2.1) (qAR .xor .u8 (Ty.rd (t := (.int .u8)) y0.2.1 y0.2.2.2.1) y0.1)), (y0.2.2.1, ((wi64 (y0.2.2.2.1 + (1 : Int))), ())))))
else none)
else none)
else
((fun (z1 : List (Int) × Unit) =>
some ((qAK z1.1), ((), ((), ())))) (y0.2.1, ())))) k (x.2.1, ((qAE x.1), ((List.length (qAE x.1) : Int), ((0 : Int), ())))))
else none)
abbrev E_i_masked (k : Nat) : qAI := ⟨323, 0, (.cons .str (.cons (.int .u8) .nil)), .str, qB7 k⟩
theorem t_i_masked (k : Nat) (x) : evF TTab k [] [(0, ⟨[1, 5, 10, 11], (.cons (.int .u8) (.cons (.own true 5 (.int .u8)) (.cons (.int .i64) yP2)))⟩, ⟨[5], (.cons (.own true 5 (.int .u8)) .nil)⟩)] Tryz.f323 (.cons .str (.cons (.int .u8) .nil)) .str x = qB7 k x := by kernel_rfl
theorem e_i_masked [Names] (k : Nat) : qAD Tryz.prog (E_i_masked k) := qAC tok qAF (by kernel_rfl) (by kernel_rfl) (by kernel_rfl) fun x r h => (t_i_masked k x).trans h
def i_MacOf (k : Nat) (x : ByteArray × ByteArray × Unit) : Option (ByteArray × Unit × Unit × Unit) :=
(if (decide ((64 : Int) < (ByteArray.size x.1 : Int))) = true then
((qBO k (x.1, ())).bind fun p1 =>
((qAs k ((⟨#[0]⟩ : ByteArray), ((wi64 ((64 : Int) - (ByteArray.size p1.1 : Int))), ()))).bind fun p7 =>
(if ByteArray.size p1.1 + ByteArray.size p7.1 ≤ maxStr then
((qB7 k ((p1.1 ++ p7.1), ((92 : Int), ()))).bind fun p8 =>
((qB7 k ((p1.1 ++ p7.1), ((54 : Int), ()))).bind fun p9 =>
(if ByteArray.size p9.1 + ByteArray.size x.2.1 ≤ maxStr then
((qBO k ((p9.1 ++ x.2.1), ())).bind fun p10 =>
(if ByteArray.size p8.1 + ByteArray.size p10.1 ≤ maxStr then
((qBO k ((p8.1 ++ p10.1), ())).bind fun p11 =>
some (p11.1, ((), ((), ()))))
else none))
else none)))
else none)))
else
((qAs k ((⟨#[0]⟩ : ByteArray), ((wi64 ((64 : Int) - (ByteArray.size x.1 : Int))), ()))).bind fun p12 =>
(if ByteArray.size x.1 + ByteArray.size p12.1 ≤ maxStr then
((qB7 k ((x.1 ++ p12.1), ((92 : Int), ()))).bind fun p13 =>
((qB7 k ((x.1 ++ p12.1), ((54 : Int), ()))).bind fun p14 =>
(if ByteArray.size p14.1 + ByteArray.size x.2.1 ≤ maxStr then
((qBO k ((p14.1 ++ x.2.1), ())).bind fun p15 =>
(if ByteArray.size p13.1 + ByteArray.size p15.1 ≤ maxStr then
((qBO k ((p13.1 ++ p15.1), ())).bind fun p16 =>
some (p16.1, ((), ((), ()))))
else none))
else none)))
else none)))
abbrev E_i_MacOf (k : Nat) : qAI := ⟨298, 0, yP24, .str, i_MacOf k⟩
theorem t_i_MacOf (k : Nat) (x) : evF TTab k [E_i_DigestOf k, qCT k, E_i_masked k] [] Tryz.f298 yP24 .str x = i_MacOf k x := by kernel_rfl
theorem e_i_MacOf [Names] (k : Nat) : qAD Tryz.prog (E_i_MacOf k) := qAC tok (qAB (e_i_DigestOf k) (qAB (qDp k) (qAB (e_i_masked k) qAF))) (by kernel_rfl) (by kernel_rfl) (by kernel_rfl) fun x r h => (t_i_MacOf k x).trans h
def i_Mask (k : Nat) (x : ByteArray × Int × Int × Unit) : Option ((ByteArray × Bool × Unit) × Unit × Unit × Unit × Unit) :=
((qEJ k (x.2.1, ())).bind fun p1 =>
(if (!p1.1.2.1) = false then
((qAn k (x.2.2.1, ((0 : Int), ((8000 : Int), ())))).bind fun p2 =>
(if (!p2.1) = true then
some (((⟨#[]⟩ : ByteArray), (false, ())), ((), ((), ((), ()))))
else
(qAG (fun (rec0 : (ByteArray × Int × ByteArray × List (Int) × Int × Unit) → Option _) (y0 : ByteArray × Int × ByteArray × List (Int) × Int × Unit) =>
(if (decide ((List.length y0.2.2.2.1 : Int) < y0.2.1)) = true then
(if ByteArray.size (⟨#[109]⟩ : ByteArray) + ByteArray.size y0.2.2.1 ≤ maxStr then
((qEI k (y0.2.2.2.2.1, ())).bind fun p3 =>
(if ByteArray.size ((⟨#[109]⟩ : ByteArray) ++ y0.2.2.1) + ByteArray.size p3.1 ≤ maxStr then
((i_MacOf k (y0.1, ((((⟨#[109]⟩ : ByteArray) ++ y0.2.2.1) ++ p3.1), ()))).bind fun p4 =>
(if List.length y0.2.2.2.1 + List.length (qAE p4.1) ≤ capMax then
(rec0 (y0.1, (y0.2.1, (y0.2.2.1, ((y0.2.2.2.1 ++ (qAE p4.1)), ((wi64 (y0.2.2.2.2.1 + (1 : Int))), ()))))))
else none))
else none))
else none)
else
((fun (z1 : Int × List (Int) × Unit) =>
(if 0 ≤ z1.1 ∧ z1.1 ≤ (List.length z1.2.1 : Int) then
some (((qAK (List.drop (Int.toNat (0 : Int)) (List.take (Int.toNat z1.1) z1.2.1))), (true, ())), ((), ((), ((), ()))))
else none)) (y0.2.1, (y0.2.2.2.1, ()))))) k (x.1, (x.2.2.1, (p1.1.1, (([] : List (Int)), ((0 : Int), ()))))))))
else
some (((⟨#[]⟩ : ByteArray), (false, ())), ((), ((), ((), ()))))))
abbrev E_i_Mask (k : Nat) : qAI := ⟨296, 0, (.cons .str (.cons (.int .i64) yP2)), (.tup yP14), i_Mask k⟩
theorem t_i_Mask (k : Nat) (x) : evF TTab k [qBB k, E_i_byteText k, qG1 k, E_i_MacOf k] [(0, ⟨[0, 2, 8, 10, 11], (.cons .str (.cons (.int .i64) (.cons .str (.cons (.own false 5 (.int .u8)) yP2))))⟩, ⟨[2, 10], (.cons (.int .i64) (.cons (.own false 5 (.int .u8)) .nil))⟩)] Tryz.f296 (.cons .str (.cons (.int .i64) yP2)) (.tup yP14) x = i_Mask k x := by kernel_rfl
theorem e_i_Mask [Names] (k : Nat) : qAD Tryz.prog (E_i_Mask k) := qAC tok (qAB (qBG k) (qAB (e_i_byteText k) (qAB (e_i_VarText k) (qAB (e_i_MacOf k) qAF)))) (by kernel_rfl) (by kernel_rfl) (by kernel_rfl) fun x r h => (t_i_Mask k x).trans h
def qHn (k : Nat) (x : ByteArray × Int × ByteArray × Unit) : Option ((ByteArray × Bool × Unit) × Unit × Unit × Unit × Unit) :=
((i_Mask k (x.1, (x.2.1, ((ByteArray.size x.2.2.1 : Int), ())))).bind fun p1 =>
(if (!p1.1.2.1) = true then
some (((⟨#[]⟩ : ByteArray), (false, ())), ((), ((), ((), ()))))
else
(if ByteArray.size x.2.2.1 ≤ maxStr then
(qAG (fun (rec0 : (ByteArray × List (Int) × Int × Int × Unit) → Option _) (y0 : ByteArray × List (Int) × Int × Int × Unit) =>
(if (decide (y0.2.2.2.1 < y0.2.2.1)) = true then
(if 0 ≤ y0.2.2.2.1 ∧ y0.2.2.2.1 < (List.length y0.2.1 : Int) then
(if 0 ≤ y0.2.2.2.1 ∧ y0.2.2.2.1 < (ByteArray.size y0.1 : Int) then
(if 0 ≤ y0.2.2.2.1 ∧ y0.2.2.2.1 < (List.length y0.2.1 : Int) then
(rec0 (y0.1, ((List.set y0.2.1 (Int.toNat y0.2.2.2.1) (qAR .xor .u8 (Ty.rd (t := (.int .u8)) y0.2.1 y0.2.2.2.1) (bt y0.1 y0.2.2.2.1))), (y0.2.2.1, ((wi64 (y0.2.2.2.1 + (1 : Int))), ())))))
else none)
else none)
else none)
else
((fun (z1 : List (Int) × Unit) =>
some (((qAK z1.1), (true, ())), ((), ((), ((), ()))))) (y0.2.1, ())))) k (p1.1.1, ((qAE x.2.2.1), ((List.length (qAE x.2.2.1) : Int), ((0 : Int), ())))))
else none)))
abbrev E_i_hidden (k : Nat) : qAI := ⟨258, 0, (.cons .str yP15), (.tup yP14), qHn k⟩
theorem t_i_hidden (k : Nat) (x) : evF TTab k [E_i_Mask k] [(0, ⟨[8, 10, 25, 26], (.cons .str (.cons (.own true 5 (.int .u8)) (.cons (.int .i64) yP2)))⟩, ⟨[10], (.cons (.own true 5 (.int .u8)) .nil)⟩)] Tryz.f258 (.cons .str yP15) (.tup yP14) x = qHn k x := by kernel_rfl
theorem e_i_hidden [Names] (k : Nat) : qAD Tryz.prog (E_i_hidden k) := qAC tok (qAB (e_i_Mask k) qAF) (by kernel_rfl) (by kernel_rfl) (by kernel_rfl) fun x r h => (t_i_hidden k x).trans h
def qFu (k : Nat) (x : ByteArray × Int × ByteArray × Unit) : Option (ByteArray × Unit × Unit × Unit × Unit) :=
((qEJ k (x.2.1, ())).bind fun p1 =>
(if ByteArray.size (⟨#[116]⟩ : ByteArray) + ByteArray.size p1.1.1 ≤ maxStr then
(if ByteArray.size ((⟨#[116]⟩ : ByteArray) ++ p1.1.1) + ByteArray.size x.2.2.1 ≤ maxStr then
((i_MacOf k (x.1, ((((⟨#[116]⟩ : ByteArray) ++ p1.1.1) ++ x.2.2.1), ()))).bind fun p2 =>
(if 0 ≤ (16 : Int) ∧ (16 : Int) ≤ (ByteArray.size p2.1 : Int) then
some ((ByteArray.extract p2.1 (Int.toNat (0 : Int)) (Int.toNat (16 : Int))), ((), ((), ((), ()))))
else none))
else none)
else none))
abbrev E_i_macText (k : Nat) : qAI := ⟨259, 0, (.cons .str yP15), .str, qFu k⟩
theorem t_i_macText (k : Nat) (x) : evF TTab k [qG1 k, E_i_MacOf k] [] Tryz.f259 (.cons .str yP15) .str x = qFu k x := by kernel_rfl
theorem e_i_macText [Names] (k : Nat) : qAD Tryz.prog (E_i_macText k) := qAC tok (qAB (e_i_VarText k) (qAB (e_i_MacOf k) qAF)) (by kernel_rfl) (by kernel_rfl) (by kernel_rfl) fun x r h => (t_i_macText k x).trans h
def qEK (k : Nat) (x : (Int × Int × Int × Int × Int × List (Int) × ByteArray × Unit) × (Int × Int × Int × Int × Int × List (Int) × ByteArray × Unit) × Unit) : Option (Bool × Unit × Unit × Unit) :=
(if (!decide (x.1.1 = x.2.1.1)) = true then
some (false, ((), ((), ())))
else
(if (!decide (x.1.2.1 = x.2.1.2.1)) = true then
some (false, ((), ((), ())))
else
(if (!decide (x.1.2.2.1 = x.2.1.2.2.1)) = true then
some (false, ((), ((), ())))
else
(if (!decide (x.1.2.2.2.1 = x.2.1.2.2.2.1)) = true then
some (false, ((), ((), ())))
else
(if (!decide (x.1.2.2.2.2.1 = x.2.1.2.2.2.2.1)) = true then
some (false, ((), ((), ())))
else
((qGQ k (x.1.2.2.2.2.2.1, (x.2.1.2.2.2.2.2.1, ()))).bind fun p1 =>
(if (!p1.1) = true then
some (false, ((), ((), ())))
else
(if (!decide (x.1.2.2.2.2.2.2.1 = x.2.1.2.2.2.2.2.2.1)) = true then
some (false, ((), ((), ())))
else
some (true, ((), ((), ())))))))))))
abbrev E_w_eqPacket (k : Nat) : qAI := ⟨45, 0, (.cons (.agg yP5) (.cons (.agg yP5) .nil)), .bool, qEK k⟩
theorem t_w_eqPacket (k : Nat) (x) : evF TTab k [E_w_eqIntS k] [] Tryz.f45 (.cons (.agg yP5) (.cons (.agg yP5) .nil)) .bool x = qEK k x := by kernel_rfl
theorem e_w_eqPacket [Names] (k : Nat) : qAD Tryz.prog (E_w_eqPacket k) := qAC tok (qAB (e_w_eqIntS k) qAF) (by kernel_rfl) (by kernel_rfl) (by kernel_rfl) fun x r h => (t_w_eqPacket k x).trans h
def qEL (k : Nat) (x : (Int × ByteArray × ByteArray × Int × List (Int) × Int × Unit) × Int × Unit) : Option (Int × (Unit × Unit × Unit × Unit × List (Int) × Unit × Unit) × Unit × Unit) :=
((qC8 k (x.1.2.2.2.2.1, (x.2.1, ()))).bind fun p1 =>
some (p1.1, (((), ((), ((), ((), (p1.2.1, ((), ())))))), ((), ()))))
abbrev E_w_markSlot (k : Nat) : qAI := ⟨190, 0, (.cons (.mag (.cons (.int .i64) (.cons .str (.cons .str (.cons (.int .i64) (.cons yP23 yP2)))))) yP2), (.int .i64), qEL k⟩
theorem t_w_markSlot (k : Nat) (x) : evF TTab k [qFp k] [] Tryz.f190 (.cons (.mag (.cons (.int .i64) (.cons .str (.cons .str (.cons (.int .i64) (.cons yP23 yP2)))))) yP2) (.int .i64) x = qEL k x := by kernel_rfl
theorem e_w_markSlot [Names] (k : Nat) : qAD Tryz.prog (E_w_markSlot k) := qAC tok (qAB (e_w_markIntS k) qAF) (by kernel_rfl) (by kernel_rfl) (by kernel_rfl) fun x r h => (t_w_markSlot k x).trans h
def qEq (k : Nat) (x : (Int × ByteArray × ByteArray × Int × List (Int) × Int × Int × ByteArray × ByteArray × Int × List (Int) × Int × Unit) × Int × Unit) : Option (Int × (Unit × Unit × Unit × Unit × List (Int) × Unit × Unit × Unit × Unit × Unit × List (Int) × Unit × Unit) × Unit × Unit) :=
((qEL k ((x.1.1, (x.1.2.1, (x.1.2.2.1, (x.1.2.2.2.1, (x.1.2.2.2.2.1, (x.1.2.2.2.2.2.1, ())))))), (x.2.1, ()))).bind fun p1 =>
((qEL k ((x.1.2.2.2.2.2.2.1, (x.1.2.2.2.2.2.2.2.1, (x.1.2.2.2.2.2.2.2.2.1, (x.1.2.2.2.2.2.2.2.2.2.1, (x.1.2.2.2.2.2.2.2.2.2.2.1, (x.1.2.2.2.2.2.2.2.2.2.2.2.1, ())))))), (p1.1, ()))).bind fun p2 =>
some (p2.1, (((), ((), ((), ((), (p1.2.1.2.2.2.2.1, ((), ((), ((), ((), ((), (p2.2.1.2.2.2.2.1, ((), ())))))))))))), ((), ())))))
abbrev qHo (k : Nat) : qAI := ⟨104, 0, (.cons (.mag (.cons (.int .i64) (.cons .str (.cons .str (.cons (.int .i64) (.cons yP23 (.cons (.int .i64) (.cons (.int .i64) (.cons .str (.cons .str (.cons (.int .i64) (.cons yP23 yP2)))))))))))) yP2), (.int .i64), qEq k⟩
theorem t_w_markSlots (k : Nat) (x) : evF TTab k [E_w_markSlot k] [] Tryz.f104 (.cons (.mag (.cons (.int .i64) (.cons .str (.cons .str (.cons (.int .i64) (.cons yP23 (.cons (.int .i64) (.cons (.int .i64) (.cons .str (.cons .str (.cons (.int .i64) (.cons yP23 yP2)))))))))))) yP2) (.int .i64) x = qEq k x := by kernel_rfl
theorem e_w_markSlots [Names] (k : Nat) : qAD Tryz.prog (qHo k) := qAC tok (qAB (e_w_markSlot k) qAF) (by kernel_rfl) (by kernel_rfl) (by kernel_rfl) fun x r h => (t_w_markSlots k x).trans h
def qEr (k : Nat) (x : ((List (Int × Int × Int × List (ByteArray) × List (Bool) × Int)) × Unit) × Int × Unit) : Option (Int × ((List (Int × Int × Int × List (ByteArray) × List (Bool) × Int)) × Unit) × Unit × Unit) :=
((qDV k (x.1.1, (x.2.1, ()))).bind fun p1 =>
some (p1.1, ((p1.2.1, ()), ((), ()))))
abbrev qHp (k : Nat) : qAI := ⟨105, 0, (.cons (.mag (.cons (.mut false 229 yT1) .nil)) yP2), (.int .i64), qEr k⟩
theorem t_w_markShelf (k : Nat) (x) : evF qCs k [qHi k] [] Tryz.f105 (.cons (.mag (.cons (.mut false 229 yT1) .nil)) yP2) (.int .i64) x = qEr k x := by kernel_rfl
theorem e_w_markShelf [Names] (k : Nat) : qAD Tryz.prog (qHp k) := qAC tokO (qAB (e_w_markHeldS k) qAF) (by kernel_rfl) (by kernel_rfl) (by kernel_rfl) fun x r h => (t_w_markShelf k x).trans h
def qDA (k : Nat) (x : (Int × Int × Int × ByteArray × ByteArray × Int × List (Int) × Int × Int × ByteArray × ByteArray × Int × List (Int) × Int × (List (Int × Int × Int × List (ByteArray) × List (Bool) × Int)) × Int × Unit) × Int × Unit) : Option (Int × (Unit × Unit × Unit × Unit × Unit × Unit × List (Int) × Unit × Unit × Unit × Unit × Unit × List (Int) × Unit × (List (Int × Int × Int × List (ByteArray) × List (Bool) × Int)) × Unit × Unit) × Unit × Unit) :=
((qEq k ((x.1.2.2.1, (x.1.2.2.2.1, (x.1.2.2.2.2.1, (x.1.2.2.2.2.2.1, (x.1.2.2.2.2.2.2.1, (x.1.2.2.2.2.2.2.2.1, (x.1.2.2.2.2.2.2.2.2.1, (x.1.2.2.2.2.2.2.2.2.2.1, (x.1.2.2.2.2.2.2.2.2.2.2.1, (x.1.2.2.2.2.2.2.2.2.2.2.2.1, (x.1.2.2.2.2.2.2.2.2.2.2.2.2.1, (x.1.2.2.2.2.2.2.2.2.2.2.2.2.2.1, ())))))))))))), (x.2.1, ()))).bind fun p1 =>
((qEr k ((x.1.2.2.2.2.2.2.2.2.2.2.2.2.2.2.1, ()), (p1.1, ()))).bind fun p2 =>
some (p2.1, (((), ((), ((), ((), ((), ((), (p1.2.1.2.2.2.2.1, ((), ((), ((), ((), ((), (p1.2.1.2.2.2.2.2.2.2.2.2.2.1, ((), (p2.2.1.1, ((), ())))))))))))))))), ((), ())))))
abbrev E_w_markUser (k : Nat) : qAI := ⟨36, 0, (.cons (.mag (.cons (.int .i64) (.cons (.int .i64) (.cons (.int .i64) (.cons .str (.cons .str (.cons (.int .i64) (.cons yP23 (.cons (.int .i64) (.cons (.int .i64) (.cons .str (.cons .str (.cons (.int .i64) (.cons yP23 (.cons (.int .i64) (.cons (.mut false 229 yT1) yP2)))))))))))))))) yP2), (.int .i64), qDA k⟩
theorem t_w_markUser (k : Nat) (x) : evF qCs k [qHo k, qHp k] [] Tryz.f36 (.cons (.mag (.cons (.int .i64) (.cons (.int .i64) (.cons (.int .i64) (.cons .str (.cons .str (.cons (.int .i64) (.cons yP23 (.cons (.int .i64) (.cons (.int .i64) (.cons .str (.cons .str (.cons (.int .i64) (.cons yP23 (.cons (.int .i64) (.cons (.mut false 229 yT1) yP2)))))))))))))))) yP2) (.int .i64) x = qDA k x := by kernel_rfl
theorem e_w_markUser [Names] (k : Nat) : qAD Tryz.prog (E_w_markUser k) := qAC tokO (qAB (e_w_markSlots k) (qAB (e_w_markShelf k) qAF)) (by kernel_rfl) (by kernel_rfl) (by kernel_rfl) fun x r h => (t_w_markUser k x).trans h
def qEM (k : Nat) (x : (Int × ByteArray × ByteArray × Int × List (Int) × Int × Unit) × Int × Unit) : Option (Int × Unit × Unit × Unit) :=
((qEG k (x.1.2.2.2.2.1, (x.2.1, ()))).bind fun p1 =>
(if (decide (p1.1 < (0 : Int))) = true then
some ((-1 : Int), ((), ((), ())))
else
some (p1.1, ((), ((), ())))))
abbrev E_w_heldSlot (k : Nat) : qAI := ⟨191, 0, (.cons yP10 yP2), (.int .i64), qEM k⟩
theorem t_w_heldSlot (k : Nat) (x) : evF TTab k [E_w_heldIntS k] [] Tryz.f191 (.cons yP10 yP2) (.int .i64) x = qEM k x := by kernel_rfl
theorem e_w_heldSlot [Names] (k : Nat) : qAD Tryz.prog (E_w_heldSlot k) := qAC tok (qAB (e_w_heldIntS k) qAF) (by kernel_rfl) (by kernel_rfl) (by kernel_rfl) fun x r h => (t_w_heldSlot k x).trans h
def qEs (k : Nat) (x : (Int × ByteArray × ByteArray × Int × List (Int) × Int × Int × ByteArray × ByteArray × Int × List (Int) × Int × Unit) × Int × Unit) : Option (Int × Unit × Unit × Unit) :=
((qEM k ((x.1.1, (x.1.2.1, (x.1.2.2.1, (x.1.2.2.2.1, (x.1.2.2.2.2.1, (x.1.2.2.2.2.2.1, ())))))), (x.2.1, ()))).bind fun p1 =>
(if (decide (p1.1 < (0 : Int))) = true then
some ((-1 : Int), ((), ((), ())))
else
((qEM k ((x.1.2.2.2.2.2.2.1, (x.1.2.2.2.2.2.2.2.1, (x.1.2.2.2.2.2.2.2.2.1, (x.1.2.2.2.2.2.2.2.2.2.1, (x.1.2.2.2.2.2.2.2.2.2.2.1, (x.1.2.2.2.2.2.2.2.2.2.2.2.1, ())))))), (p1.1, ()))).bind fun p2 =>
(if (decide (p2.1 < (0 : Int))) = true then
some ((-1 : Int), ((), ((), ())))
else
some (p2.1, ((), ((), ())))))))
abbrev qHq (k : Nat) : qAI := ⟨108, 0, (.cons yP4 yP2), (.int .i64), qEs k⟩
theorem t_w_heldSlots (k : Nat) (x) : evF TTab k [E_w_heldSlot k] [] Tryz.f108 (.cons yP4 yP2) (.int .i64) x = qEs k x := by kernel_rfl
theorem e_w_heldSlots [Names] (k : Nat) : qAD Tryz.prog (qHq k) := qAC tok (qAB (e_w_heldSlot k) qAF) (by kernel_rfl) (by kernel_rfl) (by kernel_rfl) fun x r h => (t_w_heldSlots k x).trans h
def qEt (k : Nat) (x : ((List (Int × Int × Int × List (ByteArray) × List (Bool) × Int)) × Unit) × Int × Unit) : Option (Int × Unit × Unit × Unit) :=
((qDX k (x.1.1, (x.2.1, ()))).bind fun p1 =>
(if (decide (p1.1 < (0 : Int))) = true then
some ((-1 : Int), ((), ((), ())))
else
some (p1.1, ((), ((), ())))))
abbrev qHr (k : Nat) : qAI := ⟨109, 0, (.cons (.agg yP13) yP2), (.int .i64), qEt k⟩
theorem t_w_heldShelf (k : Nat) (x) : evF qCs k [qHk k] [] Tryz.f109 (.cons (.agg yP13) yP2) (.int .i64) x = qEt k x := by kernel_rfl
theorem e_w_heldShelf [Names] (k : Nat) : qAD Tryz.prog (qHr k) := qAC tokO (qAB (e_w_heldHeldS k) qAF) (by kernel_rfl) (by kernel_rfl) (by kernel_rfl) fun x r h => (t_w_heldShelf k x).trans h
def qDB (k : Nat) (x : (Int × Int × Int × ByteArray × ByteArray × Int × List (Int) × Int × Int × ByteArray × ByteArray × Int × List (Int) × Int × (List (Int × Int × Int × List (ByteArray) × List (Bool) × Int)) × Int × Unit) × Int × Unit) : Option (Int × Unit × Unit × Unit) :=
((qEs k ((x.1.2.2.1, (x.1.2.2.2.1, (x.1.2.2.2.2.1, (x.1.2.2.2.2.2.1, (x.1.2.2.2.2.2.2.1, (x.1.2.2.2.2.2.2.2.1, (x.1.2.2.2.2.2.2.2.2.1, (x.1.2.2.2.2.2.2.2.2.2.1, (x.1.2.2.2.2.2.2.2.2.2.2.1, (x.1.2.2.2.2.2.2.2.2.2.2.2.1, (x.1.2.2.2.2.2.2.2.2.2.2.2.2.1, (x.1.2.2.2.2.2.2.2.2.2.2.2.2.2.1, ())))))))))))), (x.2.1, ()))).bind fun p1 =>
(if (decide (p1.1 < (0 : Int))) = true then
some ((-1 : Int), ((), ((), ())))
else
((qEt k ((x.1.2.2.2.2.2.2.2.2.2.2.2.2.2.2.1, ()), (p1.1, ()))).bind fun p2 =>
(if (decide (p2.1 < (0 : Int))) = true then
some ((-1 : Int), ((), ((), ())))
else
some (p2.1, ((), ((), ())))))))
abbrev E_w_heldUser (k : Nat) : qAI := ⟨38, 0, (.cons yP3 yP2), (.int .i64), qDB k⟩
theorem t_w_heldUser (k : Nat) (x) : evF qCs k [qHq k, qHr k] [] Tryz.f38 (.cons yP3 yP2) (.int .i64) x = qDB k x := by kernel_rfl
theorem e_w_heldUser [Names] (k : Nat) : qAD Tryz.prog (E_w_heldUser k) := qAC tokO (qAB (e_w_heldSlots k) (qAB (e_w_heldShelf k) qAF)) (by kernel_rfl) (by kernel_rfl) (by kernel_rfl) fun x r h => (t_w_heldUser k x).trans h
def qEN (k : Nat) (x : (Int × Int × Int × Int × Int × List (Int) × ByteArray × Unit) × Int × Unit) : Option (Int × Unit × Unit × Unit) :=
((qGM k (x.1.2.2.2.2.2.1, (x.2.1, ()))).bind fun p1 =>
(if (decide (p1.1 < (0 : Int))) = true then
some ((-1 : Int), ((), ((), ())))
else
(if (decide ((wi64 (p1.1 - (ByteArray.size x.1.2.2.2.2.2.2.1 : Int))) < (0 : Int))) = true then
some ((-1 : Int), ((), ((), ())))
else
some ((wi64 (p1.1 - (ByteArray.size x.1.2.2.2.2.2.2.1 : Int))), ((), ((), ()))))))
abbrev E_w_szPacket (k : Nat) : qAI := ⟨40, 0, (.cons (.agg yP5) yP2), (.int .i64), qEN k⟩
theorem t_w_szPacket (k : Nat) (x) : evF TTab k [E_w_szIntS k] [] Tryz.f40 (.cons (.agg yP5) yP2) (.int .i64) x = qEN k x := by kernel_rfl
theorem e_w_szPacket [Names] (k : Nat) : qAD Tryz.prog (E_w_szPacket k) := qAC tok (qAB (e_w_szIntS k) qAF) (by kernel_rfl) (by kernel_rfl) (by kernel_rfl) fun x r h => (t_w_szPacket k x).trans h
def qEO (k : Nat) (x : (Int × Int × Int × Int × Int × List (Int) × ByteArray × Unit) × Unit) : Option (Bool × Unit × Unit) :=
((qAy k (x.1.1, ((1 : Int), ((3 : Int), ())))).bind fun p1 =>
(if (!p1.1) = false then
((qAy k (x.1.2.1, ((0 : Int), ((7 : Int), ())))).bind fun p2 =>
(if (!p2.1) = false then
((qAy k (x.1.2.2.1, ((1 : Int), ((99 : Int), ())))).bind fun p3 =>
(if (!p3.1) = false then
((qAy k (x.1.2.2.2.1, ((1 : Int), ((99 : Int), ())))).bind fun p4 =>
(if (!p4.1) = false then
((qAy k (x.1.2.2.2.2.1, ((0 : Int), ((1000000000 : Int), ())))).bind fun p5 =>
(if (!p5.1) = false then
(if (decide ((4 : Int) < (List.length x.1.2.2.2.2.2.1 : Int))) = false then
(if (decide ((120 : Int) < (ByteArray.size x.1.2.2.2.2.2.2.1 : Int))) = true then
some (false, ((), ()))
else
(qAG (fun (rec0 : ((Int × Int × Int × Int × Int × List (Int) × ByteArray × Unit) × Int × Unit) → Option _) (y0 : (Int × Int × Int × Int × Int × List (Int) × ByteArray × Unit) × Int × Unit) =>
(if (decide (y0.2.1 < (List.length y0.1.2.2.2.2.2.1 : Int))) = true then
(if 0 ≤ y0.2.1 ∧ y0.2.1 < (List.length y0.1.2.2.2.2.2.1 : Int) then
((qAy k ((Ty.rd (t := (.int .i64)) y0.1.2.2.2.2.2.1 y0.2.1), ((1 : Int), ((1000000000 : Int), ())))).bind fun p6 =>
(if (!p6.1) = false then
(if (decide (y0.1.1 = (3 : Int))) = true then
some (false, ((), ()))
else
(rec0 ((y0.1.1, (y0.1.2.1, (y0.1.2.2.1, (y0.1.2.2.2.1, (y0.1.2.2.2.2.1, (y0.1.2.2.2.2.2.1, (y0.1.2.2.2.2.2.2.1, ()))))))), ((wi64 (y0.2.1 + (1 : Int))), ()))))
else
some (false, ((), ()))))
else none)
else
((fun (z1 : (Int × Int × Int × Int × Int × List (Int) × ByteArray × Unit) × Unit) =>
(if (!decide (z1.1.1 = (2 : Int))) = false then
(if (decide (z1.1.2.2.2.2.2.2.1 = (⟨#[]⟩ : ByteArray))) = true then
some ((decide (z1.1.2.2.2.2.1 = (0 : Int))), ((), ()))
else
some (false, ((), ())))
else
some (true, ((), ())))) ((y0.1.1, (y0.1.2.1, (y0.1.2.2.1, (y0.1.2.2.2.1, (y0.1.2.2.2.2.1, (y0.1.2.2.2.2.2.1, (y0.1.2.2.2.2.2.2.1, ()))))))), ())))) k ((x.1.1, (x.1.2.1, (x.1.2.2.1, (x.1.2.2.2.1, (x.1.2.2.2.2.1, (x.1.2.2.2.2.2.1, (x.1.2.2.2.2.2.2.1, ()))))))), ((0 : Int), ()))))
else
some (false, ((), ())))
else
some (false, ((), ()))))
else
some (false, ((), ()))))
else
some (false, ((), ()))))
else
some (false, ((), ()))))
else
some (false, ((), ()))))
abbrev E_s_PacketOk (k : Nat) : qAI := ⟨192, 0, (.cons (.agg yP5) .nil), .bool, qEO k⟩
theorem t_s_PacketOk (k : Nat) (x) : evF TTab k [qBl k] [(0, ⟨[1, 3], (.cons (.ptr 0 yP5) yP2)⟩, ⟨[1], (.cons (.ptr 0 yP5) .nil)⟩)] Tryz.f192 (.cons (.agg yP5) .nil) .bool x = qEO k x := by kernel_rfl
theorem e_s_PacketOk [Names] (k : Nat) : qAD Tryz.prog (E_s_PacketOk k) := qAC tok (qAB (qB3 k) qAF) (by kernel_rfl) (by kernel_rfl) (by kernel_rfl) fun x r h => (t_s_PacketOk k x).trans h
def s_l13In (k : Nat) (x : List (Int) × Int × Unit) : Option (Bool × Unit × Unit × Unit) :=
(qAG (fun (rec0 : (List (Int) × Int × Int × Unit) → Option _) (y0 : List (Int) × Int × Int × Unit) =>
(if (decide (y0.2.2.1 < (List.length y0.1 : Int))) = true then
(if 0 ≤ y0.2.2.1 ∧ y0.2.2.1 < (List.length y0.1 : Int) then
(if (decide ((Ty.rd (t := (.int .i64)) y0.1 y0.2.2.1) = y0.2.1)) = true then
some (true, ((), ((), ())))
else
(rec0 (y0.1, (y0.2.1, ((wi64 (y0.2.2.1 + (1 : Int))), ())))))
else none)
else
((fun (z1 : Unit) =>
some (false, ((), ((), ())))) ()))) k (x.1, (x.2.1, ((0 : Int), ()))))
abbrev E_s_l13In (k : Nat) : qAI := ⟨301, 0, yP18, .bool, s_l13In k⟩
theorem t_s_l13In (k : Nat) (x) : evF TTab k [] [(0, ⟨[0, 1, 5], (.cons (.il true (.int .i64)) (.cons (.int .i64) yP2))⟩, ⟨[], .nil⟩)] Tryz.f301 yP18 .bool x = s_l13In k x := by kernel_rfl
theorem e_s_l13In [Names] (k : Nat) : qAD Tryz.prog (E_s_l13In k) := qAC tok qAF (by kernel_rfl) (by kernel_rfl) (by kernel_rfl) fun x r h => (t_s_l13In k x).trans h
def qEP (k : Nat) (x : List (Int) × Int × Unit) : Option (Bool × Unit × Unit × Unit) :=
((qGI k (x.1, ())).bind fun p1 =>
(if (!p1.1) = false then
((qAy k (x.2.1, ((1 : Int), ((1000000000 : Int), ())))).bind fun p2 =>
(if (!p2.1) = false then
((s_l13In k (x.1, (x.2.1, ()))).bind fun p3 =>
(if p3.1 = true then
some (false, ((), ((), ())))
else
(if (decide ((List.length x.1 : Int) = (0 : Int))) = false then
(if 0 ≤ (0 : Int) ∧ (0 : Int) < (List.length x.1 : Int) then
some ((decide ((wi64 ((Ty.rd (t := (.int .i64)) x.1 (0 : Int)) - (6 : Int))) < x.2.1)), ((), ((), ())))
else none)
else
some (true, ((), ((), ()))))))
else
some (false, ((), ((), ())))))
else
some (false, ((), ((), ())))))
abbrev qG2 (k : Nat) : qAI := ⟨261, 0, yP18, .bool, qEP k⟩
theorem t_s_IsFresh (k : Nat) (x) : evF TTab k [qBl k, E_s_SeenOk k, E_s_l13In k] [] Tryz.f261 yP18 .bool x = qEP k x := by kernel_rfl
theorem e_s_IsFresh [Names] (k : Nat) : qAD Tryz.prog (qG2 k) := qAC tok (qAB (qB3 k) (qAB (e_s_SeenOk k) (qAB (e_s_l13In k) qAF))) (by kernel_rfl) (by kernel_rfl) (by kernel_rfl) fun x r h => (t_s_IsFresh k x).trans h
def qHs (k : Nat) (x : ByteArray × ByteArray × Unit) : Option (Bool × Unit × Unit × Unit) :=
some ((decide (x.1 = x.2.1)), ((), ((), ())))
abbrev E_s_SameMac (k : Nat) : qAI := ⟨302, 0, yP24, .bool, qHs k⟩
theorem t_s_SameMac (k : Nat) (x) : evF TTab k [] [] Tryz.f302 yP24 .bool x = qHs k x := by kernel_rfl
theorem e_s_SameMac [Names] (k : Nat) : qAD Tryz.prog (E_s_SameMac k) := qAC tok qAF (by kernel_rfl) (by kernel_rfl) (by kernel_rfl) fun x r h => (t_s_SameMac k x).trans h
def qEQ (k : Nat) (x : ByteArray × Int × ByteArray × Unit) : Option ((ByteArray × Bool × Unit) × Unit × Unit × Unit × Unit) :=
(if (decide ((ByteArray.size x.2.2.1 : Int) < (16 : Int))) = true then
some (((⟨#[]⟩ : ByteArray), (false, ())), ((), ((), ((), ()))))
else
(if 0 ≤ (wi64 ((ByteArray.size x.2.2.1 : Int) - (16 : Int))) ∧ (wi64 ((ByteArray.size x.2.2.1 : Int) - (16 : Int))) ≤ (ByteArray.size x.2.2.1 : Int) then
((s_Mask k (x.1, (x.2.1, ((ByteArray.size (ByteArray.extract x.2.2.1 (Int.toNat (0 : Int)) (Int.toNat (wi64 ((ByteArray.size x.2.2.1 : Int) - (16 : Int))))) : Int), ())))).bind fun p1 =>
(if (!p1.1.2.1) = false then
((qHm k (x.1, (x.2.1, ((ByteArray.extract x.2.2.1 (Int.toNat (0 : Int)) (Int.toNat (wi64 ((ByteArray.size x.2.2.1 : Int) - (16 : Int))))), ())))).bind fun p2 =>
(if 0 ≤ (ByteArray.size (ByteArray.extract x.2.2.1 (Int.toNat (0 : Int)) (Int.toNat (wi64 ((ByteArray.size x.2.2.1 : Int) - (16 : Int))))) : Int) ∧ (ByteArray.size (ByteArray.extract x.2.2.1 (Int.toNat (0 : Int)) (Int.toNat (wi64 ((ByteArray.size x.2.2.1 : Int) - (16 : Int))))) : Int) ≤ (ByteArray.size x.2.2.1 : Int) then
((qHs k (p2.1, ((ByteArray.extract x.2.2.1 (Int.toNat (ByteArray.size (ByteArray.extract x.2.2.1 (Int.toNat (0 : Int)) (Int.toNat (wi64 ((ByteArray.size x.2.2.1 : Int) - (16 : Int))))) : Int)) (Int.toNat (ByteArray.size x.2.2.1 : Int))), ()))).bind fun p3 =>
(if (!p3.1) = true then
some (((⟨#[]⟩ : ByteArray), (false, ())), ((), ((), ((), ()))))
else
((qHl k ((ByteArray.extract x.2.2.1 (Int.toNat (0 : Int)) (Int.toNat (wi64 ((ByteArray.size x.2.2.1 : Int) - (16 : Int))))), (p1.1.1, ()))).bind fun p4 =>
some ((p4.1, (true, ())), ((), ((), ((), ())))))))
else none))
else
some (((⟨#[]⟩ : ByteArray), (false, ())), ((), ((), ((), ()))))))
else none))
abbrev E_s_OpenText (k : Nat) : qAI := ⟨262, 0, (.cons .str yP15), (.tup yP14), qEQ k⟩
theorem t_s_OpenText (k : Nat) (x) : evF TTab k [E_s_Mask k, E_s_l06Xor k, E_s_l06Tag k, E_s_SameMac k] [] Tryz.f262 (.cons .str yP15) (.tup yP14) x = qEQ k x := by kernel_rfl
theorem e_s_OpenText [Names] (k : Nat) : qAD Tryz.prog (E_s_OpenText k) := qAC tok (qAB (e_s_Mask k) (qAB (e_s_l06Xor k) (qAB (e_s_l06Tag k) (qAB (e_s_SameMac k) qAF)))) (by kernel_rfl) (by kernel_rfl) (by kernel_rfl) fun x r h => (t_s_OpenText k x).trans h
def qER (k : Nat) (x : List (Int) × Int × Unit) : Option (List (Int) × Unit × Unit × Unit) :=
((qEP k (x.1, (x.2.1, ()))).bind fun p1 =>
(if (!p1.1) = true then
(if List.length ([] : List (Int)) + List.length x.1 ≤ capMax then
some ((([] : List (Int)) ++ x.1), ((), ((), ())))
else none)
else
(qAG (fun (rec0 : (List (Int) × Int × List (Int) × Int × Unit) → Option _) (y0 : List (Int) × Int × List (Int) × Int × Unit) =>
(if (decide (y0.2.2.2.1 < (List.length y0.1 : Int))) = true then
(if 0 ≤ y0.2.2.2.1 ∧ y0.2.2.2.1 < (List.length y0.1 : Int) then
(if (decide (y0.2.1 < (Ty.rd (t := (.int .i64)) y0.1 y0.2.2.2.1))) = true then
(if 0 ≤ y0.2.2.2.1 ∧ y0.2.2.2.1 < (List.length y0.1 : Int) then
(if List.length y0.2.2.1 + List.length ([(Ty.rd (t := (.int .i64)) y0.1 y0.2.2.2.1)] : List (Int)) ≤ capMax then
(rec0 (y0.1, (y0.2.1, ((y0.2.2.1 ++ ([(Ty.rd (t := (.int .i64)) y0.1 y0.2.2.2.1)] : List (Int))), ((wi64 (y0.2.2.2.1 + (1 : Int))), ())))))
else none)
else none)
else
(rec0 (y0.1, (y0.2.1, (y0.2.2.1, ((wi64 (y0.2.2.2.1 + (1 : Int))), ()))))))
else none)
else
((fun (z1 : List (Int) × Int × List (Int) × Unit) =>
(if List.length z1.2.2.1 + List.length ([z1.2.1] : List (Int)) ≤ capMax then
(qAG (fun (rec2 : (List (Int) × Int × List (Int) × Int × Unit) → Option _) (y2 : List (Int) × Int × List (Int) × Int × Unit) =>
(if (decide (y2.2.2.2.1 < (List.length y2.1 : Int))) = true then
(if 0 ≤ y2.2.2.2.1 ∧ y2.2.2.2.1 < (List.length y2.1 : Int) then
(if (decide ((Ty.rd (t := (.int .i64)) y2.1 y2.2.2.2.1) < y2.2.1)) = true then
(if 0 ≤ y2.2.2.2.1 ∧ y2.2.2.2.1 < (List.length y2.1 : Int) then
(if List.length y2.2.2.1 + List.length ([(Ty.rd (t := (.int .i64)) y2.1 y2.2.2.2.1)] : List (Int)) ≤ capMax then
(rec2 (y2.1, (y2.2.1, ((y2.2.2.1 ++ ([(Ty.rd (t := (.int .i64)) y2.1 y2.2.2.2.1)] : List (Int))), ((wi64 (y2.2.2.2.1 + (1 : Int))), ())))))
else none)
else none)
else
(rec2 (y2.1, (y2.2.1, (y2.2.2.1, ((wi64 (y2.2.2.2.1 + (1 : Int))), ()))))))
else none)
else
((fun (z2 : List (Int) × Unit) =>
(qAG (fun (rec4 : (List (Int) × List (Int) × Int × Unit) → Option _) (y4 : List (Int) × List (Int) × Int × Unit) =>
(if (decide (y4.2.2.1 < (List.length y4.1 : Int))) = true then
(if 0 ≤ y4.2.2.1 ∧ y4.2.2.1 < (List.length y4.1 : Int) then
(if 0 ≤ (0 : Int) ∧ (0 : Int) < (List.length y4.1 : Int) then
(if (decide ((wi64 ((Ty.rd (t := (.int .i64)) y4.1 (0 : Int)) - (6 : Int))) < (Ty.rd (t := (.int .i64)) y4.1 y4.2.2.1))) = true then
(if 0 ≤ y4.2.2.1 ∧ y4.2.2.1 < (List.length y4.1 : Int) then
(if List.length y4.2.1 + List.length ([(Ty.rd (t := (.int .i64)) y4.1 y4.2.2.1)] : List (Int)) ≤ capMax then
(rec4 (y4.1, ((y4.2.1 ++ ([(Ty.rd (t := (.int .i64)) y4.1 y4.2.2.1)] : List (Int))), ((wi64 (y4.2.2.1 + (1 : Int))), ()))))
else none)
else none)
else
(rec4 (y4.1, (y4.2.1, ((wi64 (y4.2.2.1 + (1 : Int))), ())))))
else none)
else none)
else
((fun (z3 : List (Int) × Unit) =>
some (z3.1, ((), ((), ())))) (y4.2.1, ())))) k (z2.1, (([] : List (Int)), ((0 : Int), ()))))) (y2.2.2.1, ())))) k (z1.1, (z1.2.1, ((z1.2.2.1 ++ ([z1.2.1] : List (Int))), ((0 : Int), ())))))
else none)) (y0.1, (y0.2.1, (y0.2.2.1, ())))))) k (x.1, (x.2.1, (([] : List (Int)), ((0 : Int), ())))))))
abbrev E_s_NoteSeen (k : Nat) : qAI := ⟨263, 0, yP18, yP12, qER k⟩
theorem t_s_NoteSeen (k : Nat) (x) : evF TTab k [qG2 k] [(0, ⟨[0, 1, 5, 6], (.cons (.il true (.int .i64)) (.cons (.int .i64) (.cons yP12 yP2)))⟩, ⟨[0, 1, 5], (.cons (.il true (.int .i64)) (.cons (.int .i64) (.cons yP12 .nil)))⟩), (2, ⟨[0, 1, 5, 7], (.cons (.il true (.int .i64)) (.cons (.int .i64) (.cons yP12 yP2)))⟩, ⟨[5], (.cons yP12 .nil)⟩), (4, ⟨[5, 8, 9], (.cons yP12 (.cons yP12 yP2))⟩, ⟨[8], (.cons yP12 .nil)⟩)] Tryz.f263 yP18 yP12 x = qER k x := by kernel_rfl
theorem e_s_NoteSeen [Names] (k : Nat) : qAD Tryz.prog (E_s_NoteSeen k) := qAC tok (qAB (e_s_IsFresh k) qAF) (by kernel_rfl) (by kernel_rfl) (by kernel_rfl) fun x r h => (t_s_NoteSeen k x).trans h
def qEu (k : Nat) (x : (Int × ByteArray × ByteArray × Int × List (Int) × Int × Int × ByteArray × ByteArray × Int × List (Int) × Int × Unit) × Unit) : Option ((Int × ByteArray × ByteArray × Int × List (Int) × Int × Int × ByteArray × ByteArray × Int × List (Int) × Int × Unit) × Unit × Unit) :=
((qBY k ((x.1.1, (x.1.2.1, (x.1.2.2.1, (x.1.2.2.2.1, (x.1.2.2.2.2.1, (x.1.2.2.2.2.2.1, ())))))), ())).bind fun p1 =>
((qBY k ((x.1.2.2.2.2.2.2.1, (x.1.2.2.2.2.2.2.2.1, (x.1.2.2.2.2.2.2.2.2.1, (x.1.2.2.2.2.2.2.2.2.2.1, (x.1.2.2.2.2.2.2.2.2.2.2.1, (x.1.2.2.2.2.2.2.2.2.2.2.2.1, ())))))), ())).bind fun p2 =>
some ((p1.1.1, (p1.1.2.1, (p1.1.2.2.1, (p1.1.2.2.2.1, (p1.1.2.2.2.2.1, (p1.1.2.2.2.2.2.1, (p2.1.1, (p2.1.2.1, (p2.1.2.2.1, (p2.1.2.2.2.1, (p2.1.2.2.2.2.1, (p2.1.2.2.2.2.2.1, ())))))))))))), ((), ()))))
abbrev qHt (k : Nat) : qAI := ⟨170, 0, (.cons yP4 .nil), (.agg (.cons (.int .i64) (.cons .str (.cons .str (.cons (.int .i64) (.cons (.il false (.int .i64)) (.cons (.int .i64) yP16))))))), qEu k⟩
theorem t_s_l17Copy_f (k : Nat) (x) : evF TTab k [qDP k] [] Tryz.f170 (.cons yP4 .nil) (.agg (.cons (.int .i64) (.cons .str (.cons .str (.cons (.int .i64) (.cons (.il false (.int .i64)) (.cons (.int .i64) yP16))))))) x = qEu k x := by kernel_rfl
theorem e_s_l17Copy_f [Names] (k : Nat) : qAD Tryz.prog (qHt k) := qAC tok (qAB (qFV k) qAF) (by kernel_rfl) (by kernel_rfl) (by kernel_rfl) fun x r h => (t_s_l17Copy_f k x).trans h
def qCI (k : Nat) (x : (Int × ByteArray × ByteArray × Int × List (Int) × Int × Unit) × (Int × Int × Int × Int × Int × List (Int) × ByteArray × Unit) × Unit) : Option (((Int × ByteArray × ByteArray × Int × List (Int) × Int × Unit) × ByteArray × Bool × Unit) × Unit × Unit × Unit) :=
((qEP k (x.1.2.2.2.2.1, (x.2.1.2.2.2.2.1, ()))).bind fun p1 =>
(if (!p1.1) = true then
some (((x.1.1, (x.1.2.1, (x.1.2.2.1, (x.1.2.2.2.1, (x.1.2.2.2.2.1, (x.1.2.2.2.2.2.1, ())))))), ((⟨#[]⟩ : ByteArray), (false, ()))), ((), ((), ())))
else
((qEQ k (x.1.2.2.1, (x.2.1.2.2.2.2.1, (x.2.1.2.2.2.2.2.2.1, ())))).bind fun p2 =>
(if (!p2.1.2.1) = true then
some (((x.1.1, (x.1.2.1, (x.1.2.2.1, (x.1.2.2.2.1, (x.1.2.2.2.2.1, (x.1.2.2.2.2.2.1, ())))))), ((⟨#[]⟩ : ByteArray), (false, ()))), ((), ((), ())))
else
((qER k (x.1.2.2.2.2.1, (x.2.1.2.2.2.2.1, ()))).bind fun p3 =>
some (((x.1.1, (x.1.2.1, (x.1.2.2.1, (x.1.2.2.2.1, (p3.1, (x.1.2.2.2.2.2.1, ())))))), (p2.1.1, (true, ()))), ((), ((), ()))))))))
abbrev qGj (k : Nat) : qAI := ⟨194, 0, (.cons (.agg yP16) (.cons (.agg yP5) .nil)), (.tup (.cons (.agg yP16) yP14)), qCI k⟩
theorem t_s_l19Open_v1 (k : Nat) (x) : evF TTab k [qG2 k, E_s_OpenText k, E_s_NoteSeen k] [] Tryz.f194 (.cons (.agg yP16) (.cons (.agg yP5) .nil)) (.tup (.cons (.agg yP16) yP14)) x = qCI k x := by kernel_rfl
theorem e_s_l19Open_v1 [Names] (k : Nat) : qAD Tryz.prog (qGj k) := qAC tok (qAB (e_s_IsFresh k) (qAB (e_s_OpenText k) (qAB (e_s_NoteSeen k) qAF))) (by kernel_rfl) (by kernel_rfl) (by kernel_rfl) fun x r h => (t_s_l19Open_v1 k x).trans h
def qES (k : Nat) (x : (Int × ByteArray × ByteArray × Int × List (Int) × Int × Int × ByteArray × ByteArray × Int × List (Int) × Int × Unit) × (Int × Int × Int × Int × Int × List (Int) × ByteArray × Unit) × Int × Unit) : Option (((Int × ByteArray × ByteArray × Int × List (Int) × Int × Int × ByteArray × ByteArray × Int × List (Int) × Int × Unit) × ByteArray × Bool × Unit) × Unit × Unit × Unit × Unit) :=
((qEu k ((x.1.1, (x.1.2.1, (x.1.2.2.1, (x.1.2.2.2.1, (x.1.2.2.2.2.1, (x.1.2.2.2.2.2.1, (x.1.2.2.2.2.2.2.1, (x.1.2.2.2.2.2.2.2.1, (x.1.2.2.2.2.2.2.2.2.1, (x.1.2.2.2.2.2.2.2.2.2.1, (x.1.2.2.2.2.2.2.2.2.2.2.1, (x.1.2.2.2.2.2.2.2.2.2.2.2.1, ())))))))))))), ())).bind fun p1 =>
((qFX k ((x.1.1, (x.1.2.1, (x.1.2.2.1, (x.1.2.2.2.1, (x.1.2.2.2.2.1, (x.1.2.2.2.2.2.1, (x.1.2.2.2.2.2.2.1, (x.1.2.2.2.2.2.2.2.1, (x.1.2.2.2.2.2.2.2.2.1, (x.1.2.2.2.2.2.2.2.2.2.1, (x.1.2.2.2.2.2.2.2.2.2.2.1, (x.1.2.2.2.2.2.2.2.2.2.2.2.1, ())))))))))))), ())).bind fun p2 =>
(if (!p2.1) = false then
((qEO k ((x.2.1.1, (x.2.1.2.1, (x.2.1.2.2.1, (x.2.1.2.2.2.1, (x.2.1.2.2.2.2.1, (x.2.1.2.2.2.2.2.1, (x.2.1.2.2.2.2.2.2.1, ()))))))), ())).bind fun p3 =>
(if (!p3.1) = false then
(if (!decide (x.2.1.1 = (3 : Int))) = true then
some (((p1.1.1, (p1.1.2.1, (p1.1.2.2.1, (p1.1.2.2.2.1, (p1.1.2.2.2.2.1, (p1.1.2.2.2.2.2.1, (p1.1.2.2.2.2.2.2.1, (p1.1.2.2.2.2.2.2.2.1, (p1.1.2.2.2.2.2.2.2.2.1, (p1.1.2.2.2.2.2.2.2.2.2.1, (p1.1.2.2.2.2.2.2.2.2.2.2.1, (p1.1.2.2.2.2.2.2.2.2.2.2.2.1, ())))))))))))), ((⟨#[]⟩ : ByteArray), (false, ()))), ((), ((), ((), ()))))
else
(jn (
((qBm k ((x.1.2.2.2.2.2.2.1, (x.1.2.2.2.2.2.2.2.1, (x.1.2.2.2.2.2.2.2.2.1, (x.1.2.2.2.2.2.2.2.2.2.1, (x.1.2.2.2.2.2.2.2.2.2.2.1, (x.1.2.2.2.2.2.2.2.2.2.2.2.1, ())))))), ())).bind fun p8 =>
(if (!p8.1) = true then
(if (decide (x.2.2.1 < x.1.2.2.2.2.2.2.2.2.2.2.2.1)) = true then
(if (decide ((Int.tmod x.1.2.2.2.2.2.2.1 (8 : Int)) = x.2.1.2.1)) = true then
((qCI k ((p1.1.2.2.2.2.2.2.1, (p1.1.2.2.2.2.2.2.2.1, (p1.1.2.2.2.2.2.2.2.2.1, (p1.1.2.2.2.2.2.2.2.2.2.1, (p1.1.2.2.2.2.2.2.2.2.2.2.1, (p1.1.2.2.2.2.2.2.2.2.2.2.2.1, ())))))), ((x.2.1.1, (x.2.1.2.1, (x.2.1.2.2.1, (x.2.1.2.2.2.1, (x.2.1.2.2.2.2.1, (x.2.1.2.2.2.2.2.1, (x.2.1.2.2.2.2.2.2.1, ()))))))), ()))).bind fun p9 =>
(if p9.1.2.2.1 = true then
some (((p1.1.1, (p1.1.2.1, (p1.1.2.2.1, (p1.1.2.2.2.1, (p1.1.2.2.2.2.1, (p1.1.2.2.2.2.2.1, (p9.1.1.1, (p9.1.1.2.1, (p9.1.1.2.2.1, (p9.1.1.2.2.2.1, (p9.1.1.2.2.2.2.1, (p9.1.1.2.2.2.2.2.1, ())))))))))))), (p9.1.2.1, (true, ()))), ((), ((), ((), ()))))
else
some (((p1.1.1, (p1.1.2.1, (p1.1.2.2.1, (p1.1.2.2.2.1, (p1.1.2.2.2.2.1, (p1.1.2.2.2.2.2.1, (p1.1.2.2.2.2.2.2.1, (p1.1.2.2.2.2.2.2.2.1, (p1.1.2.2.2.2.2.2.2.2.1, (p1.1.2.2.2.2.2.2.2.2.2.1, (p1.1.2.2.2.2.2.2.2.2.2.2.1, (p1.1.2.2.2.2.2.2.2.2.2.2.2.1, ())))))))))))), ((⟨#[]⟩ : ByteArray), (false, ()))), ((), ((), ((), ()))))))
else
some (((p1.1.1, (p1.1.2.1, (p1.1.2.2.1, (p1.1.2.2.2.1, (p1.1.2.2.2.2.1, (p1.1.2.2.2.2.2.1, (p1.1.2.2.2.2.2.2.1, (p1.1.2.2.2.2.2.2.2.1, (p1.1.2.2.2.2.2.2.2.2.1, (p1.1.2.2.2.2.2.2.2.2.2.1, (p1.1.2.2.2.2.2.2.2.2.2.2.1, (p1.1.2.2.2.2.2.2.2.2.2.2.2.1, ())))))))))))), ((⟨#[]⟩ : ByteArray), (false, ()))), ((), ((), ((), ())))))
else
some (((p1.1.1, (p1.1.2.1, (p1.1.2.2.1, (p1.1.2.2.2.1, (p1.1.2.2.2.2.1, (p1.1.2.2.2.2.2.1, (p1.1.2.2.2.2.2.2.1, (p1.1.2.2.2.2.2.2.2.1, (p1.1.2.2.2.2.2.2.2.2.1, (p1.1.2.2.2.2.2.2.2.2.2.1, (p1.1.2.2.2.2.2.2.2.2.2.2.1, (p1.1.2.2.2.2.2.2.2.2.2.2.2.1, ())))))))))))), ((⟨#[]⟩ : ByteArray), (false, ()))), ((), ((), ((), ())))))
else
some (((p1.1.1, (p1.1.2.1, (p1.1.2.2.1, (p1.1.2.2.2.1, (p1.1.2.2.2.2.1, (p1.1.2.2.2.2.2.1, (p1.1.2.2.2.2.2.2.1, (p1.1.2.2.2.2.2.2.2.1, (p1.1.2.2.2.2.2.2.2.2.1, (p1.1.2.2.2.2.2.2.2.2.2.1, (p1.1.2.2.2.2.2.2.2.2.2.2.1, (p1.1.2.2.2.2.2.2.2.2.2.2.2.1, ())))))))))))), ((⟨#[]⟩ : ByteArray), (false, ()))), ((), ((), ((), ()))))))) (fun (j1 : Option _) =>
((qBm k ((x.1.1, (x.1.2.1, (x.1.2.2.1, (x.1.2.2.2.1, (x.1.2.2.2.2.1, (x.1.2.2.2.2.2.1, ())))))), ())).bind fun p4 =>
(if (!p4.1) = true then
(if (decide ((Int.tmod x.1.1 (8 : Int)) = x.2.1.2.1)) = true then
((qCI k ((p1.1.1, (p1.1.2.1, (p1.1.2.2.1, (p1.1.2.2.2.1, (p1.1.2.2.2.2.1, (p1.1.2.2.2.2.2.1, ())))))), ((x.2.1.1, (x.2.1.2.1, (x.2.1.2.2.1, (x.2.1.2.2.2.1, (x.2.1.2.2.2.2.1, (x.2.1.2.2.2.2.2.1, (x.2.1.2.2.2.2.2.2.1, ()))))))), ()))).bind fun p5 =>
(if p5.1.2.2.1 = true then
some (((p5.1.1.1, (p5.1.1.2.1, (p5.1.1.2.2.1, (p5.1.1.2.2.2.1, (p5.1.1.2.2.2.2.1, (p5.1.1.2.2.2.2.2.1, (p1.1.2.2.2.2.2.2.1, (p1.1.2.2.2.2.2.2.2.1, (p1.1.2.2.2.2.2.2.2.2.1, (p1.1.2.2.2.2.2.2.2.2.2.1, (p1.1.2.2.2.2.2.2.2.2.2.2.1, (p1.1.2.2.2.2.2.2.2.2.2.2.2.1, ())))))))))))), (p5.1.2.1, (true, ()))), ((), ((), ((), ()))))
else
some (((p1.1.1, (p1.1.2.1, (p1.1.2.2.1, (p1.1.2.2.2.1, (p1.1.2.2.2.2.1, (p1.1.2.2.2.2.2.1, (p1.1.2.2.2.2.2.2.1, (p1.1.2.2.2.2.2.2.2.1, (p1.1.2.2.2.2.2.2.2.2.1, (p1.1.2.2.2.2.2.2.2.2.2.1, (p1.1.2.2.2.2.2.2.2.2.2.2.1, (p1.1.2.2.2.2.2.2.2.2.2.2.2.1, ())))))))))))), ((⟨#[]⟩ : ByteArray), (false, ()))), ((), ((), ((), ()))))))
else
j1)
else
j1)))))
else
some (((p1.1.1, (p1.1.2.1, (p1.1.2.2.1, (p1.1.2.2.2.1, (p1.1.2.2.2.2.1, (p1.1.2.2.2.2.2.1, (p1.1.2.2.2.2.2.2.1, (p1.1.2.2.2.2.2.2.2.1, (p1.1.2.2.2.2.2.2.2.2.1, (p1.1.2.2.2.2.2.2.2.2.2.1, (p1.1.2.2.2.2.2.2.2.2.2.2.1, (p1.1.2.2.2.2.2.2.2.2.2.2.2.1, ())))))))))))), ((⟨#[]⟩ : ByteArray), (false, ()))), ((), ((), ((), ()))))))
else
some (((p1.1.1, (p1.1.2.1, (p1.1.2.2.1, (p1.1.2.2.2.1, (p1.1.2.2.2.2.1, (p1.1.2.2.2.2.2.1, (p1.1.2.2.2.2.2.2.1, (p1.1.2.2.2.2.2.2.2.1, (p1.1.2.2.2.2.2.2.2.2.1, (p1.1.2.2.2.2.2.2.2.2.2.1, (p1.1.2.2.2.2.2.2.2.2.2.2.1, (p1.1.2.2.2.2.2.2.2.2.2.2.2.1, ())))))))))))), ((⟨#[]⟩ : ByteArray), (false, ()))), ((), ((), ((), ())))))))
abbrev E_s_OpenData (k : Nat) : qAI := ⟨112, 0, (.cons yP4 (.cons (.agg yP5) yP2)), (.tup (.cons (.agg (.cons (.int .i64) (.cons .str (.cons .str (.cons (.int .i64) (.cons (.il false (.int .i64)) (.cons (.int .i64) yP16))))))) yP14)), qES k⟩
theorem t_s_OpenData (k : Nat) (x) : evF TTab k [qHt k, E_s_SlotsOk k, E_s_PacketOk k, qEk k, qGj k] [] Tryz.f112 (.cons yP4 (.cons (.agg yP5) yP2)) (.tup (.cons (.agg (.cons (.int .i64) (.cons .str (.cons .str (.cons (.int .i64) (.cons (.il false (.int .i64)) (.cons (.int .i64) yP16))))))) yP14)) x = qES k x := by kernel_rfl
theorem e_s_OpenData [Names] (k : Nat) : qAD Tryz.prog (E_s_OpenData k) := qAC tok (qAB (e_s_l17Copy_f k) (qAB (e_s_SlotsOk k) (qAB (e_s_PacketOk k) (qAB (qGz k) (qAB (e_s_l19Open_v1 k) qAF))))) (by kernel_rfl) (by kernel_rfl) (by kernel_rfl) fun x r h => (t_s_OpenData k x).trans h
def qDC (k : Nat) (x : ByteArray × Unit) : Option ((Int × Int × Int × ByteArray × Bool × Unit) × Unit × Unit) :=
(if (decide ((ByteArray.size x.1 : Int) < (3 : Int))) = false then
(if 0 ≤ (2 : Int) ∧ (2 : Int) < (ByteArray.size x.1 : Int) then
((qAy k ((wi64 ((bt x.1 (2 : Int)))), ((1 : Int), ((15 : Int), ())))).bind fun p1 =>
(if (!p1.1) = false then
(if 0 ≤ (1 : Int) ∧ (1 : Int) < (ByteArray.size x.1 : Int) then
(if 0 ≤ (2 : Int) ∧ (2 : Int) < (ByteArray.size x.1 : Int) then
(if (decide ((bt x.1 (2 : Int)) ≤ (bt x.1 (1 : Int)))) = true then
some (((0 : Int), ((0 : Int), ((0 : Int), ((⟨#[]⟩ : ByteArray), (false, ()))))), ((), ()))
else
(if 0 ≤ (0 : Int) ∧ (0 : Int) < (ByteArray.size x.1 : Int) then
(if 0 ≤ (1 : Int) ∧ (1 : Int) < (ByteArray.size x.1 : Int) then
(if 0 ≤ (2 : Int) ∧ (2 : Int) < (ByteArray.size x.1 : Int) then
(if 0 ≤ (3 : Int) ∧ (3 : Int) ≤ (ByteArray.size x.1 : Int) then
some (((wi64 ((bt x.1 (0 : Int)))), ((wi64 ((bt x.1 (1 : Int)))), ((wi64 ((bt x.1 (2 : Int)))), ((ByteArray.extract x.1 (Int.toNat (3 : Int)) (Int.toNat (ByteArray.size x.1 : Int))), (true, ()))))), ((), ()))
else none)
else none)
else none)
else none))
else none)
else none)
else
some (((0 : Int), ((0 : Int), ((0 : Int), ((⟨#[]⟩ : ByteArray), (false, ()))))), ((), ()))))
else none)
else
some (((0 : Int), ((0 : Int), ((0 : Int), ((⟨#[]⟩ : ByteArray), (false, ()))))), ((), ())))
abbrev E_s_ReadPart (k : Nat) : qAI := ⟨195, 0, (.cons .str .nil), (.tup (.cons (.int .i64) (.cons (.int .i64) (.cons (.int .i64) yP14)))), qDC k⟩
theorem t_s_ReadPart (k : Nat) (x) : evF TTab k [qBl k] [] Tryz.f195 (.cons .str .nil) (.tup (.cons (.int .i64) (.cons (.int .i64) (.cons (.int .i64) yP14)))) x = qDC k x := by kernel_rfl
theorem e_s_ReadPart [Names] (k : Nat) : qAD Tryz.prog (E_s_ReadPart k) := qAC tok (qAB (qB3 k) qAF) (by kernel_rfl) (by kernel_rfl) (by kernel_rfl) fun x r h => (t_s_ReadPart k x).trans h
def qFv (k : Nat) (x : (Int × Int × Int × List (ByteArray) × List (Bool) × Int × Unit) × Unit) : Option (Bool × Unit × Unit) :=
((qAy k (x.1.1, ((1 : Int), ((99 : Int), ())))).bind fun p1 =>
(if (!p1.1) = false then
((qAy k (x.1.2.1, ((0 : Int), ((255 : Int), ())))).bind fun p2 =>
(if (!p2.1) = false then
((qAy k (x.1.2.2.1, ((2 : Int), ((15 : Int), ())))).bind fun p3 =>
(if (!p3.1) = false then
(if (!decide ((List.length x.1.2.2.2.1 : Int) = x.1.2.2.1)) = false then
(if (!decide ((List.length x.1.2.2.2.2.1 : Int) = x.1.2.2.1)) = false then
((qAy k (x.1.2.2.2.2.2.1, ((0 : Int), ((1000000000 : Int), ())))).bind fun p4 =>
(if (!p4.1) = true then
some (false, ((), ()))
else
(qAG (fun (rec0 : ((Int × Int × Int × List (ByteArray) × List (Bool) × Int × Unit) × Int × Int × Unit) → Option _) (y0 : (Int × Int × Int × List (ByteArray) × List (Bool) × Int × Unit) × Int × Int × Unit) =>
(if (decide (y0.2.2.1 < y0.1.2.2.1)) = true then
(jn (fun (j1v0 : Int) =>
(if 0 ≤ y0.2.2.1 ∧ y0.2.2.1 < (List.length y0.1.2.2.2.2.1 : Int) then
(if (!(Ty.rd (t := .bool) y0.1.2.2.2.2.1 y0.2.2.1)) = true then
(if 0 ≤ y0.2.2.1 ∧ y0.2.2.1 < (List.length y0.1.2.2.2.1 : Int) then
(if (!decide ((Ty.rd (t := .str) y0.1.2.2.2.1 y0.2.2.1) = (⟨#[]⟩ : ByteArray))) = false then
(if 0 ≤ y0.2.2.1 ∧ y0.2.2.1 < (List.length y0.1.2.2.2.1 : Int) then
(if (decide ((120 : Int) < (ByteArray.size (Ty.rd (t := .str) y0.1.2.2.2.1 y0.2.2.1) : Int))) = true then
some (false, ((), ()))
else
(rec0 ((y0.1.1, (y0.1.2.1, (y0.1.2.2.1, (y0.1.2.2.2.1, (y0.1.2.2.2.2.1, (y0.1.2.2.2.2.2.1, ())))))), (j1v0, ((wi64 (y0.2.2.1 + (1 : Int))), ())))))
else none)
else
some (false, ((), ())))
else none)
else
(if 0 ≤ y0.2.2.1 ∧ y0.2.2.1 < (List.length y0.1.2.2.2.1 : Int) then
(if (decide ((120 : Int) < (ByteArray.size (Ty.rd (t := .str) y0.1.2.2.2.1 y0.2.2.1) : Int))) = true then
some (false, ((), ()))
else
(rec0 ((y0.1.1, (y0.1.2.1, (y0.1.2.2.1, (y0.1.2.2.2.1, (y0.1.2.2.2.2.1, (y0.1.2.2.2.2.2.1, ())))))), (j1v0, ((wi64 (y0.2.2.1 + (1 : Int))), ())))))
else none))
else none)) (fun (j1 : Int → Option _) =>
(if 0 ≤ y0.2.2.1 ∧ y0.2.2.1 < (List.length y0.1.2.2.2.2.1 : Int) then
(if (Ty.rd (t := .bool) y0.1.2.2.2.2.1 y0.2.2.1) = true then
(j1 (wi64 (y0.2.1 + (1 : Int))))
else
(j1 y0.2.1))
else none)))
else
((fun (z1 : (Int × Int × Int × List (ByteArray) × List (Bool) × Int × Unit) × Int × Unit) =>
(if (decide ((1 : Int) ≤ z1.2.1)) = true then
some ((decide (z1.2.1 < z1.1.2.2.1)), ((), ()))
else
some (false, ((), ())))) ((y0.1.1, (y0.1.2.1, (y0.1.2.2.1, (y0.1.2.2.2.1, (y0.1.2.2.2.2.1, (y0.1.2.2.2.2.2.1, ())))))), (y0.2.1, ()))))) k ((x.1.1, (x.1.2.1, (x.1.2.2.1, (x.1.2.2.2.1, (x.1.2.2.2.2.1, (x.1.2.2.2.2.2.1, ())))))), ((0 : Int), ((0 : Int), ()))))))
else
some (false, ((), ())))
else
some (false, ((), ())))
else
some (false, ((), ()))))
else
some (false, ((), ()))))
else
some (false, ((), ()))))
abbrev E_s_l20Held (k : Nat) : qAI := ⟨264, 0, (.cons (.agg yP9) .nil), .bool, qFv k⟩
theorem t_s_l20Held (k : Nat) (x) : evF TTab k [qBl k] [(0, ⟨[1, 3, 4], (.cons (.ptr 0 yP9) (.cons (.int .i64) yP2))⟩, ⟨[1, 3], (.cons (.ptr 0 yP9) yP2)⟩)] Tryz.f264 (.cons (.agg yP9) .nil) .bool x = qFv k x := by kernel_rfl
theorem e_s_l20Held [Names] (k : Nat) : qAD Tryz.prog (E_s_l20Held k) := qAC tok (qAB (qB3 k) qAF) (by kernel_rfl) (by kernel_rfl) (by kernel_rfl) fun x r h => (t_s_l20Held k x).trans h
def qFw (k : Nat) (x : ((List (Int × Int × Int × List (ByteArray) × List (Bool) × Int)) × Unit) × Unit) : Option (Bool × Unit × Unit) :=
(qAG (fun (rec0 : (((List (Int × Int × Int × List (ByteArray) × List (Bool) × Int)) × Unit) × Int × Unit) → Option _) (y0 : ((List (Int × Int × Int × List (ByteArray) × List (Bool) × Int)) × Unit) × Int × Unit) =>
(if (decide (y0.2.1 < (List.length y0.1.1 : Int))) = true then
(if 0 ≤ y0.2.1 ∧ y0.2.1 < (List.length y0.1.1 : Int) then
((qFv k (((Ty.rd (t := yT0) y0.1.1 y0.2.1).1, ((Ty.rd (t := yT0) y0.1.1 y0.2.1).2.1, ((Ty.rd (t := yT0) y0.1.1 y0.2.1).2.2.1, ((Ty.rd (t := yT0) y0.1.1 y0.2.1).2.2.2.1, ((Ty.rd (t := yT0) y0.1.1 y0.2.1).2.2.2.2.1, ((Ty.rd (t := yT0) y0.1.1 y0.2.1).2.2.2.2.2, ())))))), ())).bind fun p1 =>
(if (!p1.1) = true then
some (false, ((), ()))
else
(qAG (fun (rec2 : (((List (Int × Int × Int × List (ByteArray) × List (Bool) × Int)) × Unit) × Int × Int × Unit) → Option _) (y2 : ((List (Int × Int × Int × List (ByteArray) × List (Bool) × Int)) × Unit) × Int × Int × Unit) =>
(if (decide (y2.2.2.1 < y2.2.1)) = true then
(if 0 ≤ y2.2.2.1 ∧ y2.2.2.1 < (List.length y2.1.1 : Int) then
(if 0 ≤ y2.2.1 ∧ y2.2.1 < (List.length y2.1.1 : Int) then
(if (decide ((Ty.rd (t := yT0) y2.1.1 y2.2.2.1).1 = (Ty.rd (t := yT0) y2.1.1 y2.2.1).1)) = true then
(if 0 ≤ y2.2.2.1 ∧ y2.2.2.1 < (List.length y2.1.1 : Int) then
(if 0 ≤ y2.2.1 ∧ y2.2.1 < (List.length y2.1.1 : Int) then
(if (decide ((Ty.rd (t := yT0) y2.1.1 y2.2.2.1).2.1 = (Ty.rd (t := yT0) y2.1.1 y2.2.1).2.1)) = true then
some (false, ((), ()))
else
(rec2 ((y2.1.1, ()), (y2.2.1, ((wi64 (y2.2.2.1 + (1 : Int))), ())))))
else none)
else none)
else
(rec2 ((y2.1.1, ()), (y2.2.1, ((wi64 (y2.2.2.1 + (1 : Int))), ())))))
else none)
else none)
else
((fun (z1 : ((List (Int × Int × Int × List (ByteArray) × List (Bool) × Int)) × Unit) × Int × Unit) =>
(rec0 ((z1.1.1, ()), ((wi64 (z1.2.1 + (1 : Int))), ())))) ((y2.1.1, ()), (y2.2.1, ()))))) k ((y0.1.1, ()), (y0.2.1, ((0 : Int), ()))))))
else none)
else
((fun (z2 : ((List (Int × Int × Int × List (ByteArray) × List (Bool) × Int)) × Unit) × Unit) =>
some ((decide ((List.length z2.1.1 : Int) ≤ (3 : Int))), ((), ()))) ((y0.1.1, ()), ())))) k ((x.1.1, ()), ((0 : Int), ())))
abbrev E_s_ShelfOk (k : Nat) : qAI := ⟨196, 0, (.cons (.agg yP13) .nil), .bool, qFw k⟩
theorem t_s_ShelfOk (k : Nat) (x) : evF TTab k [E_s_l20Held k] [(0, ⟨[1, 3], (.cons (.ptr 0 yP13) yP2)⟩, ⟨[1], (.cons (.ptr 0 yP13) .nil)⟩), (2, ⟨[1, 3, 4], (.cons (.ptr 0 yP13) (.cons (.int .i64) yP2))⟩, ⟨[1, 3], (.cons (.ptr 0 yP13) yP2)⟩)] Tryz.f196 (.cons (.agg yP13) .nil) .bool x = qFw k x := by kernel_rfl
theorem e_s_ShelfOk [Names] (k : Nat) : qAD Tryz.prog (E_s_ShelfOk k) := qAC tok (qAB (e_s_l20Held k) qAF) (by kernel_rfl) (by kernel_rfl) (by kernel_rfl) fun x r h => (t_s_ShelfOk k x).trans h
def qHu (k : Nat) (x : (Int × Int × Int × List (ByteArray) × List (Bool) × Int × Unit) × Unit) : Option (Bool × Unit × Unit) :=
(qAG (fun (rec0 : ((Int × Int × Int × List (ByteArray) × List (Bool) × Int × Unit) × Int × Unit) → Option _) (y0 : (Int × Int × Int × List (ByteArray) × List (Bool) × Int × Unit) × Int × Unit) =>
(if (decide (y0.2.1 < (List.length y0.1.2.2.2.2.1 : Int))) = true then
(if 0 ≤ y0.2.1 ∧ y0.2.1 < (List.length y0.1.2.2.2.2.1 : Int) then
(if (!(Ty.rd (t := .bool) y0.1.2.2.2.2.1 y0.2.1)) = true then
some (false, ((), ()))
else
(rec0 ((y0.1.1, (y0.1.2.1, (y0.1.2.2.1, (y0.1.2.2.2.1, (y0.1.2.2.2.2.1, (y0.1.2.2.2.2.2.1, ())))))), ((wi64 (y0.2.1 + (1 : Int))), ()))))
else none)
else
((fun (z1 : Unit) =>
some (true, ((), ()))) ()))) k ((x.1.1, (x.1.2.1, (x.1.2.2.1, (x.1.2.2.2.1, (x.1.2.2.2.2.1, (x.1.2.2.2.2.2.1, ())))))), ((0 : Int), ())))
abbrev E_s_l20All (k : Nat) : qAI := ⟨197, 0, (.cons (.agg yP9) .nil), .bool, qHu k⟩
theorem t_s_l20All (k : Nat) (x) : evF TTab k [] [(0, ⟨[1, 3], (.cons (.ptr 0 yP9) yP2)⟩, ⟨[], .nil⟩)] Tryz.f197 (.cons (.agg yP9) .nil) .bool x = qHu k x := by kernel_rfl
theorem e_s_l20All [Names] (k : Nat) : qAD Tryz.prog (E_s_l20All k) := qAC tok qAF (by kernel_rfl) (by kernel_rfl) (by kernel_rfl) fun x r h => (t_s_l20All k x).trans h
def qBZ (k : Nat) (x : ((List (Int × Int × Int × List (ByteArray) × List (Bool) × Int)) × Unit) × Unit) : Option (((List (Int × Int × Int × List (ByteArray) × List (Bool) × Int)) × Unit) × Unit × Unit) :=
(qAG (fun (rec0 : (((List (Int × Int × Int × List (ByteArray) × List (Bool) × Int)) × Unit) × ((List (Int × Int × Int × List (ByteArray) × List (Bool) × Int)) × Unit) × ((List (Int × Int × Int × List (ByteArray) × List (Bool) × Int)) × Unit) × Int × Unit) → Option _) (y0 : ((List (Int × Int × Int × List (ByteArray) × List (Bool) × Int)) × Unit) × ((List (Int × Int × Int × List (ByteArray) × List (Bool) × Int)) × Unit) × ((List (Int × Int × Int × List (ByteArray) × List (Bool) × Int)) × Unit) × Int × Unit) =>
(if (decide (y0.2.2.2.1 < (List.length y0.1.1 : Int))) = true then
(if 0 ≤ y0.2.2.2.1 ∧ y0.2.2.2.1 < (List.length y0.1.1 : Int) then
(if List.length ([] : List (ByteArray)) + List.length (Ty.rd (t := yT0) y0.1.1 y0.2.2.2.1).2.2.2.1 ≤ capMax then
(if List.length ([] : List (Bool)) + List.length (Ty.rd (t := yT0) y0.1.1 y0.2.2.2.1).2.2.2.2.1 ≤ capMax then
(if List.length y0.2.2.1.1 + List.length ([((Ty.rd (t := yT0) y0.1.1 y0.2.2.2.1).1, ((Ty.rd (t := yT0) y0.1.1 y0.2.2.2.1).2.1, ((Ty.rd (t := yT0) y0.1.1 y0.2.2.2.1).2.2.1, ((([] : List (ByteArray)) ++ (Ty.rd (t := yT0) y0.1.1 y0.2.2.2.1).2.2.2.1), ((([] : List (Bool)) ++ (Ty.rd (t := yT0) y0.1.1 y0.2.2.2.1).2.2.2.2.1), (Ty.rd (t := yT0) y0.1.1 y0.2.2.2.1).2.2.2.2.2)))))] : List (Int × Int × Int × List (ByteArray) × List (Bool) × Int)) ≤ capMax then
(rec0 ((y0.1.1, ()), ((y0.2.1.1, ()), (((y0.2.2.1.1 ++ ([((Ty.rd (t := yT0) y0.1.1 y0.2.2.2.1).1, ((Ty.rd (t := yT0) y0.1.1 y0.2.2.2.1).2.1, ((Ty.rd (t := yT0) y0.1.1 y0.2.2.2.1).2.2.1, ((([] : List (ByteArray)) ++ (Ty.rd (t := yT0) y0.1.1 y0.2.2.2.1).2.2.2.1), ((([] : List (Bool)) ++ (Ty.rd (t := yT0) y0.1.1 y0.2.2.2.1).2.2.2.2.1), (Ty.rd (t := yT0) y0.1.1 y0.2.2.2.1).2.2.2.2.2)))))] : List (Int × Int × Int × List (ByteArray) × List (Bool) × Int))), ()), ((wi64 (y0.2.2.2.1 + (1 : Int))), ())))))
else none)
else none)
else none)
else none)
else
((fun (z1 : ((List (Int × Int × Int × List (ByteArray) × List (Bool) × Int)) × Unit) × ((List (Int × Int × Int × List (ByteArray) × List (Bool) × Int)) × Unit) × Unit) =>
some ((z1.2.1.1, ()), ((), ()))) ((y0.2.1.1, ()), ((y0.2.2.1.1, ()), ()))))) k ((x.1.1, ()), (([], ()), (([], ()), ((0 : Int), ())))))
abbrev qHv (k : Nat) : qAI := ⟨171, 0, (.cons (.agg yP13) .nil), (.agg yP20), qBZ k⟩
theorem t_s_l20Copy_t (k : Nat) (x) : evF qCs k [] [(0, ⟨[1, 2, 3, 4], (.cons (.ptr 0 yP13) (.cons (.ptr 0 yP20) (.cons (.ptr 0 yP20) yP2)))⟩, ⟨[2, 3], (.cons (.ptr 0 yP20) (.cons (.ptr 0 yP20) .nil))⟩)] Tryz.f171 (.cons (.agg yP13) .nil) (.agg yP20) x = qBZ k x := by kernel_rfl
theorem e_s_l20Copy_t [Names] (k : Nat) : qAD Tryz.prog (qHv k) := qAC tokO qAF (by kernel_rfl) (by kernel_rfl) (by kernel_rfl) fun x r h => (t_s_l20Copy_t k x).trans h
def qCW (k : Nat) (x : ((List (Int × Int × Int × List (ByteArray) × List (Bool) × Int)) × Unit) × Int × ByteArray × Int × Unit) : Option ((((List (Int × Int × Int × List (ByteArray) × List (Bool) × Int)) × Unit) × ByteArray × Bool × Unit) × Unit × Unit × Unit × Unit × Unit) :=
((qDC k (x.2.2.1, ())).bind fun p1 =>
((qBZ k ((x.1.1, ()), ())).bind fun p2 =>
((qFw k ((x.1.1, ()), ())).bind fun p3 =>
(if (!p3.1) = false then
((qAy k (x.2.1, ((1 : Int), ((99 : Int), ())))).bind fun p4 =>
(if (!p4.1) = false then
(if (!p1.1.2.2.2.2.1) = false then
(if (decide ((120 : Int) < (ByteArray.size p1.1.2.2.2.1 : Int))) = false then
((qAy k (x.2.2.2.1, ((0 : Int), ((999999992 : Int), ())))).bind fun p5 =>
(if (!p5.1) = true then
some (((p2.1.1, ()), ((⟨#[]⟩ : ByteArray), (false, ()))), ((), ((), ((), ((), ())))))
else
(if (decide (p1.1.2.2.1 = (1 : Int))) = true then
some (((p2.1.1, ()), (p1.1.2.2.2.1, (true, ()))), ((), ((), ((), ((), ())))))
else
(if p1.1.2.2.1 = p1.1.2.2.1 then
(if 0 ≤ p1.1.2.2.1 ∧ p1.1.2.2.1 ≤ (capMax : Int) then
(if p1.1.2.2.1 = p1.1.2.2.1 then
(if 0 ≤ p1.1.2.2.1 ∧ p1.1.2.2.1 ≤ (capMax : Int) then
(qAG (fun (rec0 : (Int × ((List (Int × Int × Int × List (ByteArray) × List (Bool) × Int)) × Unit) × Int × Int × Int × ByteArray × ((List (Int × Int × Int × Option (List (ByteArray)) × Option (List (Bool)) × Int)) × Unit) × (Int × Int × Int × List (ByteArray) × List (Bool) × Int × Unit) × (List (Int × Int × Int × List (ByteArray) × List (Bool) × Int)) × Int × Int × Unit) → Option _) (y0 : Int × ((List (Int × Int × Int × List (ByteArray) × List (Bool) × Int)) × Unit) × Int × Int × Int × ByteArray × ((List (Int × Int × Int × Option (List (ByteArray)) × Option (List (Bool)) × Int)) × Unit) × (Int × Int × Int × List (ByteArray) × List (Bool) × Int × Unit) × (List (Int × Int × Int × List (ByteArray) × List (Bool) × Int)) × Int × Int × Unit) =>
(if (decide (y0.2.2.2.2.2.2.2.2.2.2.1 < (List.length y0.2.2.2.2.2.2.1.1 : Int))) = true then
(jn (fun (j2v0 : List (Int × Int × Int × List (ByteArray) × List (Bool) × Int)) =>
(rec0 (y0.1, ((y0.2.1.1, ()), (y0.2.2.1, (y0.2.2.2.1, (y0.2.2.2.2.1, (y0.2.2.2.2.2.1, (((List.set y0.2.2.2.2.2.2.1.1 (Int.toNat y0.2.2.2.2.2.2.2.2.2.2.1) (Ty.left yT6 (Ty.rd (t := yT6) y0.2.2.2.2.2.2.1.1 y0.2.2.2.2.2.2.2.2.2.2.1))), ()), ((y0.2.2.2.2.2.2.2.1.1, (y0.2.2.2.2.2.2.2.1.2.1, (y0.2.2.2.2.2.2.2.1.2.2.1, (y0.2.2.2.2.2.2.2.1.2.2.2.1, (y0.2.2.2.2.2.2.2.1.2.2.2.2.1, (y0.2.2.2.2.2.2.2.1.2.2.2.2.2.1, ())))))), (j2v0, (y0.2.2.2.2.2.2.2.2.2.1, ((wi64 (y0.2.2.2.2.2.2.2.2.2.2.1 + (1 : Int))), ()))))))))))))) (fun (j2 : (List (Int × Int × Int × List (ByteArray) × List (Bool) × Int)) → Option _) =>
(if 0 ≤ y0.2.2.2.2.2.2.2.2.2.2.1 ∧ y0.2.2.2.2.2.2.2.2.2.2.1 < (List.length y0.2.2.2.2.2.2.1.1 : Int) then
(Option.bind (Ty.rd (t := yT6) y0.2.2.2.2.2.2.1.1 y0.2.2.2.2.2.2.2.2.2.2.1).2.2.2.1 fun (l1 : List (ByteArray)) =>
(Option.bind (Ty.rd (t := yT6) y0.2.2.2.2.2.2.1.1 y0.2.2.2.2.2.2.2.2.2.2.1).2.2.2.2.1 fun (l2 : List (Bool)) =>
(jn (
(if List.length y0.2.2.2.2.2.2.2.2.1 + List.length ([((Ty.rd (t := yT6) y0.2.2.2.2.2.2.1.1 y0.2.2.2.2.2.2.2.2.2.2.1).1, ((Ty.rd (t := yT6) y0.2.2.2.2.2.2.1.1 y0.2.2.2.2.2.2.2.2.2.2.1).2.1, ((Ty.rd (t := yT6) y0.2.2.2.2.2.2.1.1 y0.2.2.2.2.2.2.2.2.2.2.1).2.2.1, (l1, (l2, (Ty.rd (t := yT6) y0.2.2.2.2.2.2.1.1 y0.2.2.2.2.2.2.2.2.2.2.1).2.2.2.2.2)))))] : List (Int × Int × Int × List (ByteArray) × List (Bool) × Int)) ≤ capMax then
(j2 (y0.2.2.2.2.2.2.2.2.1 ++ ([((Ty.rd (t := yT6) y0.2.2.2.2.2.2.1.1 y0.2.2.2.2.2.2.2.2.2.2.1).1, ((Ty.rd (t := yT6) y0.2.2.2.2.2.2.1.1 y0.2.2.2.2.2.2.2.2.2.2.1).2.1, ((Ty.rd (t := yT6) y0.2.2.2.2.2.2.1.1 y0.2.2.2.2.2.2.2.2.2.2.1).2.2.1, (l1, (l2, (Ty.rd (t := yT6) y0.2.2.2.2.2.2.1.1 y0.2.2.2.2.2.2.2.2.2.2.1).2.2.2.2.2)))))] : List (Int × Int × Int × List (ByteArray) × List (Bool) × Int))))
else none)) (fun (j1 : Option _) =>
(if (decide ((Ty.rd (t := yT6) y0.2.2.2.2.2.2.1.1 y0.2.2.2.2.2.2.2.2.2.2.1).1 = y0.1)) = true then
(if (decide ((Ty.rd (t := yT6) y0.2.2.2.2.2.2.1.1 y0.2.2.2.2.2.2.2.2.2.2.1).2.1 = y0.2.2.1)) = true then
(if (decide ((Ty.rd (t := yT6) y0.2.2.2.2.2.2.1.1 y0.2.2.2.2.2.2.2.2.2.2.1).2.2.1 = y0.2.2.2.2.1)) = true then
(rec0 (y0.1, ((y0.2.1.1, ()), (y0.2.2.1, (y0.2.2.2.1, (y0.2.2.2.2.1, (y0.2.2.2.2.2.1, (((List.set y0.2.2.2.2.2.2.1.1 (Int.toNat y0.2.2.2.2.2.2.2.2.2.2.1) (Ty.left yT6 (Ty.rd (t := yT6) y0.2.2.2.2.2.2.1.1 y0.2.2.2.2.2.2.2.2.2.2.1))), ()), (((Ty.rd (t := yT6) y0.2.2.2.2.2.2.1.1 y0.2.2.2.2.2.2.2.2.2.2.1).1, ((Ty.rd (t := yT6) y0.2.2.2.2.2.2.1.1 y0.2.2.2.2.2.2.2.2.2.2.1).2.1, ((Ty.rd (t := yT6) y0.2.2.2.2.2.2.1.1 y0.2.2.2.2.2.2.2.2.2.2.1).2.2.1, (l1, (l2, ((Ty.rd (t := yT6) y0.2.2.2.2.2.2.1.1 y0.2.2.2.2.2.2.2.2.2.2.1).2.2.2.2.2, ())))))), (y0.2.2.2.2.2.2.2.2.1, ((List.length y0.2.2.2.2.2.2.2.2.1 : Int), ((wi64 (y0.2.2.2.2.2.2.2.2.2.2.1 + (1 : Int))), ()))))))))))))
else
(rec0 (y0.1, ((y0.2.1.1, ()), (y0.2.2.1, (y0.2.2.2.1, (y0.2.2.2.2.1, (y0.2.2.2.2.2.1, (((List.set y0.2.2.2.2.2.2.1.1 (Int.toNat y0.2.2.2.2.2.2.2.2.2.2.1) (Ty.left yT6 (Ty.rd (t := yT6) y0.2.2.2.2.2.2.1.1 y0.2.2.2.2.2.2.2.2.2.2.1))), ()), ((y0.2.2.2.2.2.2.2.1.1, (y0.2.2.2.2.2.2.2.1.2.1, (y0.2.2.2.2.2.2.2.1.2.2.1, (y0.2.2.2.2.2.2.2.1.2.2.2.1, (y0.2.2.2.2.2.2.2.1.2.2.2.2.1, (y0.2.2.2.2.2.2.2.1.2.2.2.2.2.1, ())))))), (y0.2.2.2.2.2.2.2.2.1, (y0.2.2.2.2.2.2.2.2.2.1, ((wi64 (y0.2.2.2.2.2.2.2.2.2.2.1 + (1 : Int))), ())))))))))))))
else
j1)
else
j1)))))
else none)))
else
((fun (z1 : ((List (Int × Int × Int × List (ByteArray) × List (Bool) × Int)) × Unit) × Int × Int × ByteArray × (Int × Int × Int × List (ByteArray) × List (Bool) × Int × Unit) × (List (Int × Int × Int × List (ByteArray) × List (Bool) × Int)) × Int × Unit) =>
(jn (fun (j3v0 : List (ByteArray)) (j3v1 : List (Bool)) =>
((qHu k ((z1.2.2.2.2.1.1, (z1.2.2.2.2.1.2.1, (z1.2.2.2.2.1.2.2.1, (j3v0, (j3v1, (z1.2.2.2.2.1.2.2.2.2.2.1, ())))))), ())).bind fun p11 =>
(if p11.1 = true then
(qAG (fun (rec2 : (((List (Int × Int × Int × List (ByteArray) × List (Bool) × Int)) × Unit) × Int × (Int × Int × Int × List (ByteArray) × List (Bool) × Int × Unit) × (List (Int × Int × Int × List (ByteArray) × List (Bool) × Int)) × ByteArray × Int × Unit) → Option _) (y2 : ((List (Int × Int × Int × List (ByteArray) × List (Bool) × Int)) × Unit) × Int × (Int × Int × Int × List (ByteArray) × List (Bool) × Int × Unit) × (List (Int × Int × Int × List (ByteArray) × List (Bool) × Int)) × ByteArray × Int × Unit) =>
(if (decide (y2.2.2.2.2.2.1 < y2.2.1)) = true then
(if 0 ≤ y2.2.2.2.2.2.1 ∧ y2.2.2.2.2.2.1 < (List.length y2.2.2.1.2.2.2.1 : Int) then
(if ByteArray.size y2.2.2.2.2.1 + ByteArray.size (Ty.rd (t := .str) y2.2.2.1.2.2.2.1 y2.2.2.2.2.2.1) ≤ maxStr then
(rec2 ((y2.1.1, ()), (y2.2.1, ((y2.2.2.1.1, (y2.2.2.1.2.1, (y2.2.2.1.2.2.1, (y2.2.2.1.2.2.2.1, (y2.2.2.1.2.2.2.2.1, (y2.2.2.1.2.2.2.2.2.1, ())))))), (y2.2.2.2.1, ((y2.2.2.2.2.1 ++ (Ty.rd (t := .str) y2.2.2.1.2.2.2.1 y2.2.2.2.2.2.1)), ((wi64 (y2.2.2.2.2.2.1 + (1 : Int))), ())))))))
else none)
else none)
else
((fun (z3 : ((List (Int × Int × Int × List (ByteArray) × List (Bool) × Int)) × Unit) × (List (Int × Int × Int × List (ByteArray) × List (Bool) × Int)) × ByteArray × Unit) =>
((qBZ k ((z3.2.1, ()), ())).bind fun p12 =>
some (((p12.1.1, ()), (z3.2.2.1, (true, ()))), ((), ((), ((), ((), ()))))))) ((y2.1.1, ()), (y2.2.2.2.1, (y2.2.2.2.2.1, ())))))) k ((z1.1.1, ()), (z1.2.2.1, ((z1.2.2.2.2.1.1, (z1.2.2.2.2.1.2.1, (z1.2.2.2.2.1.2.2.1, (j3v0, (j3v1, (z1.2.2.2.2.1.2.2.2.2.2.1, ())))))), (z1.2.2.2.2.2.1, ((⟨#[]⟩ : ByteArray), ((0 : Int), ())))))))
else
(if (decide ((0 : Int) ≤ z1.2.2.2.2.2.2.1)) = true then
(if 0 ≤ z1.2.2.2.2.2.2.1 ∧ z1.2.2.2.2.2.2.1 ≤ (List.length z1.2.2.2.2.2.1 : Int) then
(if List.length ([] : List (Int × Int × Int × List (ByteArray) × List (Bool) × Int)) + List.length (List.drop (Int.toNat (0 : Int)) (List.take (Int.toNat z1.2.2.2.2.2.2.1) z1.2.2.2.2.2.1)) ≤ capMax then
(if List.length (([] : List (Int × Int × Int × List (ByteArray) × List (Bool) × Int)) ++ (List.drop (Int.toNat (0 : Int)) (List.take (Int.toNat z1.2.2.2.2.2.2.1) z1.2.2.2.2.2.1))) + List.length ([(z1.2.2.2.2.1.1, (z1.2.2.2.2.1.2.1, (z1.2.2.2.2.1.2.2.1, (j3v0, (j3v1, z1.2.2.2.2.1.2.2.2.2.2.1)))))] : List (Int × Int × Int × List (ByteArray) × List (Bool) × Int)) ≤ capMax then
(if 0 ≤ z1.2.2.2.2.2.2.1 ∧ z1.2.2.2.2.2.2.1 ≤ (List.length z1.2.2.2.2.2.1 : Int) then
(if List.length ((([] : List (Int × Int × Int × List (ByteArray) × List (Bool) × Int)) ++ (List.drop (Int.toNat (0 : Int)) (List.take (Int.toNat z1.2.2.2.2.2.2.1) z1.2.2.2.2.2.1))) ++ ([(z1.2.2.2.2.1.1, (z1.2.2.2.2.1.2.1, (z1.2.2.2.2.1.2.2.1, (j3v0, (j3v1, z1.2.2.2.2.1.2.2.2.2.2.1)))))] : List (Int × Int × Int × List (ByteArray) × List (Bool) × Int))) + List.length (List.drop (Int.toNat z1.2.2.2.2.2.2.1) (List.take (Int.toNat (List.length z1.2.2.2.2.2.1 : Int)) z1.2.2.2.2.2.1)) ≤ capMax then
((qBZ k (((((([] : List (Int × Int × Int × List (ByteArray) × List (Bool) × Int)) ++ (List.drop (Int.toNat (0 : Int)) (List.take (Int.toNat z1.2.2.2.2.2.2.1) z1.2.2.2.2.2.1))) ++ ([(z1.2.2.2.2.1.1, (z1.2.2.2.2.1.2.1, (z1.2.2.2.2.1.2.2.1, (j3v0, (j3v1, z1.2.2.2.2.1.2.2.2.2.2.1)))))] : List (Int × Int × Int × List (ByteArray) × List (Bool) × Int))) ++ (List.drop (Int.toNat z1.2.2.2.2.2.2.1) (List.take (Int.toNat (List.length z1.2.2.2.2.2.1 : Int)) z1.2.2.2.2.2.1))), ()), ())).bind fun p13 =>
some (((p13.1.1, ()), ((⟨#[]⟩ : ByteArray), (false, ()))), ((), ((), ((), ((), ()))))))
else none)
else none)
else none)
else none)
else none)
else
(if (decide ((List.length z1.2.2.2.2.2.1 : Int) = (3 : Int))) = true then
(if 0 ≤ (1 : Int) ∧ (1 : Int) ≤ (List.length z1.2.2.2.2.2.1 : Int) then
(if (List.length z1.2.2.2.2.2.1 : Int) = (List.length z1.2.2.2.2.2.1 : Int) ∧ List.length z1.2.2.2.2.2.1 + List.length ([(z1.2.2.2.2.1.1, (z1.2.2.2.2.1.2.1, (z1.2.2.2.2.1.2.2.1, (j3v0, (j3v1, z1.2.2.2.2.1.2.2.2.2.2.1)))))] : List (Int × Int × Int × List (ByteArray) × List (Bool) × Int)) ≤ capMax then
((qBZ k ((((List.drop (Int.toNat (1 : Int)) z1.2.2.2.2.2.1) ++ ([(z1.2.2.2.2.1.1, (z1.2.2.2.2.1.2.1, (z1.2.2.2.2.1.2.2.1, (j3v0, (j3v1, z1.2.2.2.2.1.2.2.2.2.2.1)))))] : List (Int × Int × Int × List (ByteArray) × List (Bool) × Int))), ()), ())).bind fun p14 =>
some (((p14.1.1, ()), ((⟨#[]⟩ : ByteArray), (false, ()))), ((), ((), ((), ((), ()))))))
else none)
else none)
else
(if List.length z1.2.2.2.2.2.1 + List.length ([(z1.2.2.2.2.1.1, (z1.2.2.2.2.1.2.1, (z1.2.2.2.2.1.2.2.1, (j3v0, (j3v1, z1.2.2.2.2.1.2.2.2.2.2.1)))))] : List (Int × Int × Int × List (ByteArray) × List (Bool) × Int)) ≤ capMax then
((qBZ k (((z1.2.2.2.2.2.1 ++ ([(z1.2.2.2.2.1.1, (z1.2.2.2.2.1.2.1, (z1.2.2.2.2.1.2.2.1, (j3v0, (j3v1, z1.2.2.2.2.1.2.2.2.2.2.1)))))] : List (Int × Int × Int × List (ByteArray) × List (Bool) × Int))), ()), ())).bind fun p15 =>
some (((p15.1.1, ()), ((⟨#[]⟩ : ByteArray), (false, ()))), ((), ((), ((), ((), ()))))))
else none)))))) (fun (j3 : List (ByteArray) → List (Bool) → Option _) =>
(if 0 ≤ z1.2.1 ∧ z1.2.1 < (List.length z1.2.2.2.2.1.2.2.2.2.1 : Int) then
(if (!(Ty.rd (t := .bool) z1.2.2.2.2.1.2.2.2.2.1 z1.2.1)) = true then
(if 0 ≤ z1.2.1 ∧ z1.2.1 < (List.length z1.2.2.2.2.1.2.2.2.2.1 : Int) then
(if 0 ≤ z1.2.1 ∧ z1.2.1 < (List.length z1.2.2.2.2.1.2.2.2.1 : Int) then
(j3 (List.set z1.2.2.2.2.1.2.2.2.1 (Int.toNat z1.2.1) z1.2.2.2.1) (List.set z1.2.2.2.2.1.2.2.2.2.1 (Int.toNat z1.2.1) true))
else none)
else none)
else
(j3 z1.2.2.2.2.1.2.2.2.1 z1.2.2.2.2.1.2.2.2.2.1))
else none)))) ((y0.2.1.1, ()), (y0.2.2.2.1, (y0.2.2.2.2.1, (y0.2.2.2.2.2.1, ((y0.2.2.2.2.2.2.2.1.1, (y0.2.2.2.2.2.2.2.1.2.1, (y0.2.2.2.2.2.2.2.1.2.2.1, (y0.2.2.2.2.2.2.2.1.2.2.2.1, (y0.2.2.2.2.2.2.2.1.2.2.2.2.1, (y0.2.2.2.2.2.2.2.1.2.2.2.2.2.1, ())))))), (y0.2.2.2.2.2.2.2.2.1, (y0.2.2.2.2.2.2.2.2.2.1, ())))))))))) k (x.2.1, (([], ()), (p1.1.1, (p1.1.2.1, (p1.1.2.2.1, (p1.1.2.2.2.1, (((List.map (Ty.toq yT1) p2.1.1), ()), ((x.2.1, (p1.1.1, (p1.1.2.2.1, ((List.replicate (Int.toNat p1.1.2.2.1) (⟨#[]⟩ : ByteArray)), ((List.replicate (Int.toNat p1.1.2.2.1) false), ((wi64 (x.2.2.2.1 + (8 : Int))), ())))))), (([] : List (Int × Int × Int × List (ByteArray) × List (Bool) × Int)), ((-1 : Int), ((0 : Int), ()))))))))))))
else none)
else none)
else none)
else none))))
else
some (((p2.1.1, ()), ((⟨#[]⟩ : ByteArray), (false, ()))), ((), ((), ((), ((), ()))))))
else
some (((p2.1.1, ()), ((⟨#[]⟩ : ByteArray), (false, ()))), ((), ((), ((), ((), ()))))))
else
some (((p2.1.1, ()), ((⟨#[]⟩ : ByteArray), (false, ()))), ((), ((), ((), ((), ())))))))
else
some (((p2.1.1, ()), ((⟨#[]⟩ : ByteArray), (false, ()))), ((), ((), ((), ((), ())))))))))
abbrev E_s_AddPart (k : Nat) : qAI := ⟨113, 0, (.cons (.agg yP13) (.cons (.int .i64) (.cons .str yP2))), (.tup (.cons (.agg yP20) yP14)), qCW k⟩
theorem t_s_AddPart (k : Nat) (x) : evF TTabQ k [qBl k, qHv k, E_s_ReadPart k, E_s_ShelfOk k, E_s_l20All k] [(0, ⟨[1, 8, 11, 12, 13, 14, 16, 17, 18, 19, 20], (.cons (.int .i64) (.cons (.ptr 0 (.cons (.own false 229 yT0) .nil)) (.cons (.int .i64) (.cons (.int .i64) (.cons (.int .i64) (.cons .str (.cons (.ptr 0 (.cons (.own false 229 yT6) .nil)) (.cons (.ptr 0 yP21) (.cons (.own false 229 yT0) (.cons (.int .i64) yP2))))))))))⟩, ⟨[8, 12, 13, 14, 17, 18, 19], (.cons (.ptr 0 (.cons (.own false 229 yT0) .nil)) (.cons (.int .i64) (.cons (.int .i64) (.cons .str (.cons (.ptr 0 yP21) (.cons (.own false 229 yT0) yP2))))))⟩), (2, ⟨[8, 13, 17, 18, 22, 23], (.cons (.ptr 0 (.cons (.own false 229 yT0) .nil)) (.cons (.int .i64) (.cons (.ptr 0 yP21) (.cons (.own false 229 yT0) (.cons .str yP2)))))⟩, ⟨[8, 18, 22], (.cons (.ptr 0 (.cons (.own false 229 yT0) .nil)) (.cons (.own false 229 yT0) (.cons .str .nil)))⟩)] Tryz.f113 (.cons (.agg yP13) (.cons (.int .i64) (.cons .str yP2))) (.tup (.cons (.agg yP20) yP14)) x = qCW k x := by kernel_rfl
theorem e_s_AddPart [Names] (k : Nat) : qAD Tryz.prog (E_s_AddPart k) := qAC tokQ (qAB (qB3 k) (qAB (e_s_l20Copy_t k) (qAB (e_s_ReadPart k) (qAB (e_s_ShelfOk k) (qAB (e_s_l20All k) qAF))))) (by kernel_rfl) (by kernel_rfl) (by kernel_rfl) fun x r h => (t_s_AddPart k x).trans h
def qCJ (k : Nat) (x : ByteArray × Unit) : Option ((Int × Bool × Unit) × Unit × Unit) :=
(if (!decide ((ByteArray.size x.1 : Int) = (4 : Int))) = true then
some (((0 : Int), (false, ())), ((), ()))
else
(if 0 ≤ (0 : Int) ∧ (0 : Int) < (ByteArray.size x.1 : Int) then
(if 0 ≤ (1 : Int) ∧ (1 : Int) < (ByteArray.size x.1 : Int) then
(if 0 ≤ (2 : Int) ∧ (2 : Int) < (ByteArray.size x.1 : Int) then
(if 0 ≤ (3 : Int) ∧ (3 : Int) < (ByteArray.size x.1 : Int) then
some (((wi64 ((wi64 ((wi64 ((wi64 ((wi64 ((bt x.1 (0 : Int)))) * (16777216 : Int))) + (wi64 ((wi64 ((bt x.1 (1 : Int)))) * (65536 : Int))))) + (wi64 ((wi64 ((bt x.1 (2 : Int)))) * (256 : Int))))) + (wi64 ((bt x.1 (3 : Int)))))), (true, ())), ((), ()))
else none)
else none)
else none)
else none))
abbrev qGk (k : Nat) : qAI := ⟨198, 0, (.cons .str .nil), (.tup (.cons (.int .i64) (.cons .bool .nil))), qCJ k⟩
theorem t_s_ReadNumber (k : Nat) (x) : evF TTab k [] [] Tryz.f198 (.cons .str .nil) (.tup (.cons (.int .i64) (.cons .bool .nil))) x = qCJ k x := by kernel_rfl
theorem e_s_ReadNumber [Names] (k : Nat) : qAD Tryz.prog (qGk k) := qAC tok qAF (by kernel_rfl) (by kernel_rfl) (by kernel_rfl) fun x r h => (t_s_ReadNumber k x).trans h
def qCB (k : Nat) (x : ByteArray × Unit) : Option (((Int × Int × ByteArray × Unit) × Bool × Unit) × Unit × Unit) :=
((qAy k ((ByteArray.size x.1 : Int), ((8 : Int), ((108 : Int), ())))).bind fun p1 =>
(if (!p1.1) = true then
some ((((0 : Int), ((0 : Int), ((⟨#[]⟩ : ByteArray), ()))), (false, ())), ((), ()))
else
(if 0 ≤ (8 : Int) ∧ (8 : Int) ≤ (ByteArray.size x.1 : Int) then
(if 0 ≤ (4 : Int) ∧ (4 : Int) ≤ (ByteArray.size x.1 : Int) then
((qCJ k ((ByteArray.extract x.1 (Int.toNat (0 : Int)) (Int.toNat (4 : Int))), ())).bind fun p2 =>
(if 0 ≤ (8 : Int) ∧ (8 : Int) ≤ (ByteArray.size x.1 : Int) then
(if 0 ≤ (4 : Int) ∧ (4 : Int) ≤ (8 : Int) then
((qCJ k ((ByteArray.extract x.1 (Int.toNat (4 : Int)) (Int.toNat (8 : Int))), ())).bind fun p3 =>
some (((p2.1.1, (p3.1.1, ((ByteArray.extract x.1 (Int.toNat (8 : Int)) (Int.toNat (ByteArray.size x.1 : Int))), ()))), (true, ())), ((), ())))
else none)
else none))
else none)
else none)))
abbrev qHw (k : Nat) : qAI := ⟨114, 0, (.cons .str .nil), (.tup (.cons (.agg (.cons (.int .i64) yP15)) (.cons .bool .nil))), qCB k⟩
theorem t_s_ReadInner (k : Nat) (x) : evF TTab k [qBl k, qGk k] [] Tryz.f114 (.cons .str .nil) (.tup (.cons (.agg (.cons (.int .i64) yP15)) (.cons .bool .nil))) x = qCB k x := by kernel_rfl
theorem e_s_ReadInner [Names] (k : Nat) : qAD Tryz.prog (qHw k) := qAC tok (qAB (qB3 k) (qAB (e_s_ReadNumber k) qAF)) (by kernel_rfl) (by kernel_rfl) (by kernel_rfl) fun x r h => (t_s_ReadInner k x).trans h
def qDD (k : Nat) (x : (Int × Int × Int × ByteArray × ByteArray × Int × List (Int) × Int × Int × ByteArray × ByteArray × Int × List (Int) × Int × (List (Int × Int × Int × List (ByteArray) × List (Bool) × Int)) × Int × Unit) × (Int × Int × Int × Int × Int × List (Int) × ByteArray × Unit) × Int × Unit) : Option (((Int × Int × Int × ByteArray × ByteArray × Int × List (Int) × Int × Int × ByteArray × ByteArray × Int × List (Int) × Int × (List (Int × Int × Int × List (ByteArray) × List (Bool) × Int)) × Int × Unit) × (Int × Int × ByteArray × Unit) × Bool × Unit) × Unit × Unit × Unit × Unit) :=
((qCS k (x.1, ())).bind fun p1 =>
((qES k ((x.1.2.2.1, (x.1.2.2.2.1, (x.1.2.2.2.2.1, (x.1.2.2.2.2.2.1, (x.1.2.2.2.2.2.2.1, (x.1.2.2.2.2.2.2.2.1, (x.1.2.2.2.2.2.2.2.2.1, (x.1.2.2.2.2.2.2.2.2.2.1, (x.1.2.2.2.2.2.2.2.2.2.2.1, (x.1.2.2.2.2.2.2.2.2.2.2.2.1, (x.1.2.2.2.2.2.2.2.2.2.2.2.2.1, (x.1.2.2.2.2.2.2.2.2.2.2.2.2.2.1, ())))))))))))), ((x.2.1.1, (x.2.1.2.1, (x.2.1.2.2.1, (x.2.1.2.2.2.1, (x.2.1.2.2.2.2.1, (x.2.1.2.2.2.2.2.1, (x.2.1.2.2.2.2.2.2.1, ()))))))), (x.2.2.1, ())))).bind fun p2 =>
(if (!p2.1.2.2.1) = true then
some ((p1.1, (((0 : Int), ((0 : Int), ((⟨#[]⟩ : ByteArray), ()))), (false, ()))), ((), ((), ((), ()))))
else
((qCW k ((x.1.2.2.2.2.2.2.2.2.2.2.2.2.2.2.1, ()), (x.2.1.2.2.1, (p2.1.2.1, (x.2.2.1, ()))))).bind fun p3 =>
((qCB k (p3.1.2.1, ())).bind fun p4 =>
(if (!p3.1.2.2.1) = false then
(if (!p4.1.2.1) = true then
some (((p1.1.1, (p1.1.2.1, (p2.1.1.1, (p2.1.1.2.1, (p2.1.1.2.2.1, (p2.1.1.2.2.2.1, (p2.1.1.2.2.2.2.1, (p2.1.1.2.2.2.2.2.1, (p2.1.1.2.2.2.2.2.2.1, (p2.1.1.2.2.2.2.2.2.2.1, (p2.1.1.2.2.2.2.2.2.2.2.1, (p2.1.1.2.2.2.2.2.2.2.2.2.1, (p2.1.1.2.2.2.2.2.2.2.2.2.2.1, (p2.1.1.2.2.2.2.2.2.2.2.2.2.2.1, (p3.1.1.1, (p1.1.2.2.2.2.2.2.2.2.2.2.2.2.2.2.2.1, ())))))))))))))))), (((0 : Int), ((0 : Int), ((⟨#[]⟩ : ByteArray), ()))), (false, ()))), ((), ((), ((), ()))))
else
some (((p1.1.1, (p1.1.2.1, (p2.1.1.1, (p2.1.1.2.1, (p2.1.1.2.2.1, (p2.1.1.2.2.2.1, (p2.1.1.2.2.2.2.1, (p2.1.1.2.2.2.2.2.1, (p2.1.1.2.2.2.2.2.2.1, (p2.1.1.2.2.2.2.2.2.2.1, (p2.1.1.2.2.2.2.2.2.2.2.1, (p2.1.1.2.2.2.2.2.2.2.2.2.1, (p2.1.1.2.2.2.2.2.2.2.2.2.2.1, (p2.1.1.2.2.2.2.2.2.2.2.2.2.2.1, (p3.1.1.1, (p1.1.2.2.2.2.2.2.2.2.2.2.2.2.2.2.2.1, ())))))))))))))))), ((p4.1.1.1, (p4.1.1.2.1, (p4.1.1.2.2.1, ()))), (true, ()))), ((), ((), ((), ())))))
else
some (((p1.1.1, (p1.1.2.1, (p2.1.1.1, (p2.1.1.2.1, (p2.1.1.2.2.1, (p2.1.1.2.2.2.1, (p2.1.1.2.2.2.2.1, (p2.1.1.2.2.2.2.2.1, (p2.1.1.2.2.2.2.2.2.1, (p2.1.1.2.2.2.2.2.2.2.1, (p2.1.1.2.2.2.2.2.2.2.2.1, (p2.1.1.2.2.2.2.2.2.2.2.2.1, (p2.1.1.2.2.2.2.2.2.2.2.2.2.1, (p2.1.1.2.2.2.2.2.2.2.2.2.2.2.1, (p3.1.1.1, (p1.1.2.2.2.2.2.2.2.2.2.2.2.2.2.2.2.1, ())))))))))))))))), (((0 : Int), ((0 : Int), ((⟨#[]⟩ : ByteArray), ()))), (false, ()))), ((), ((), ((), ()))))))))))
abbrev E_s_TakeData (k : Nat) : qAI := ⟨41, 0, (.cons yP3 (.cons (.agg yP5) yP2)), (.tup (.cons (.agg (.cons (.int .i64) (.cons (.int .i64) (.cons (.int .i64) (.cons .str (.cons .str (.cons (.int .i64) (.cons (.il false (.int .i64)) (.cons (.int .i64) (.cons (.int .i64) (.cons .str (.cons .str (.cons (.int .i64) (.cons (.il false (.int .i64)) (.cons (.int .i64) (.cons (.il false yT0) yP2)))))))))))))))) (.cons (.agg (.cons (.int .i64) yP15)) (.cons .bool .nil)))), qDD k⟩
theorem t_s_TakeData (k : Nat) (x) : evF TTab k [qFZ k, E_s_OpenData k, E_s_AddPart k, qHw k] [] Tryz.f41 (.cons yP3 (.cons (.agg yP5) yP2)) (.tup (.cons (.agg (.cons (.int .i64) (.cons (.int .i64) (.cons (.int .i64) (.cons .str (.cons .str (.cons (.int .i64) (.cons (.il false (.int .i64)) (.cons (.int .i64) (.cons (.int .i64) (.cons .str (.cons .str (.cons (.int .i64) (.cons (.il false (.int .i64)) (.cons (.int .i64) (.cons (.il false yT0) yP2)))))))))))))))) (.cons (.agg (.cons (.int .i64) yP15)) (.cons .bool .nil)))) x = qDD k x := by kernel_rfl
theorem e_s_TakeData [Names] (k : Nat) : qAD Tryz.prog (E_s_TakeData k) := qAC tok (qAB (e_s_l22CopyUser k) (qAB (e_s_OpenData k) (qAB (e_s_AddPart k) (qAB (e_s_ReadInner k) qAF)))) (by kernel_rfl) (by kernel_rfl) (by kernel_rfl) fun x r h => (t_s_TakeData k x).trans h
def qCK (k : Nat) (x : (Int × Int × Int × Int × Int × List (Int) × ByteArray × Unit) × Unit) : Option ((Int × Int × Int × Int × Int × List (Int) × ByteArray × Unit) × Unit × Unit) :=
((qGO k (x.1.2.2.2.2.2.1, ())).bind fun p1 =>
some ((x.1.1, (x.1.2.1, (x.1.2.2.1, (x.1.2.2.2.1, (x.1.2.2.2.2.1, (p1.1, (x.1.2.2.2.2.2.2.1, ()))))))), ((), ())))
abbrev E_w_toPacket (k : Nat) : qAI := ⟨42, 0, (.cons (.agg yP5) .nil), (.agg (.cons (.int .i64) (.cons (.int .i64) (.cons (.int .i64) (.cons (.int .i64) (.cons (.int .i64) (.cons yP12 (.cons .str .nil)))))))), qCK k⟩
theorem t_w_toPacket (k : Nat) (x) : evF TTab k [E_w_toIntS k] [] Tryz.f42 (.cons (.agg yP5) .nil) (.agg (.cons (.int .i64) (.cons (.int .i64) (.cons (.int .i64) (.cons (.int .i64) (.cons (.int .i64) (.cons yP12 (.cons .str .nil)))))))) x = qCK k x := by kernel_rfl
theorem e_w_toPacket [Names] (k : Nat) : qAD Tryz.prog (E_w_toPacket k) := qAC tok (qAB (e_w_toIntS k) qAF) (by kernel_rfl) (by kernel_rfl) (by kernel_rfl) fun x r h => (t_w_toPacket k x).trans h
def qET (k : Nat) (x : (Int × Int × Int × Int × Int × List (Int) × ByteArray × Unit) × Unit) : Option (Bool × Unit × Unit) :=
(qAG (fun (rec0 : ((Int × Int × Int × Int × Int × List (Int) × ByteArray × Unit) × List (Int) × Int × Int × Unit) → Option _) (y0 : (Int × Int × Int × Int × Int × List (Int) × ByteArray × Unit) × List (Int) × Int × Int × Unit) =>
(if (decide (y0.2.2.2.1 < y0.2.2.1)) = true then
(if 0 ≤ y0.2.2.2.1 ∧ y0.2.2.2.1 < (List.length y0.2.1 : Int) then
((qAn k ((Ty.rd (t := (.int .i64)) y0.2.1 y0.2.2.2.1), ((1 : Int), ((1000000000 : Int), ())))).bind fun p1 =>
(if (!p1.1) = true then
some (false, ((), ()))
else
(rec0 ((y0.1.1, (y0.1.2.1, (y0.1.2.2.1, (y0.1.2.2.2.1, (y0.1.2.2.2.2.1, (y0.1.2.2.2.2.2.1, (y0.1.2.2.2.2.2.2.1, ()))))))), (y0.2.1, (y0.2.2.1, ((wi64 (y0.2.2.2.1 + (1 : Int))), ())))))))
else none)
else
((fun (z1 : (Int × Int × Int × Int × Int × List (Int) × ByteArray × Unit) × Unit) =>
((qAn k (z1.1.1, ((1 : Int), ((3 : Int), ())))).bind fun p2 =>
(if (!p2.1) = false then
((qAn k (z1.1.2.1, ((0 : Int), ((7 : Int), ())))).bind fun p3 =>
(if (!p3.1) = false then
((i_isId k (z1.1.2.2.1, ())).bind fun p4 =>
(if (!p4.1) = false then
((i_isId k (z1.1.2.2.2.1, ())).bind fun p5 =>
(if (!p5.1) = false then
((qAn k (z1.1.2.2.2.2.1, ((0 : Int), ((1000000000 : Int), ())))).bind fun p6 =>
(if (!p6.1) = true then
some (false, ((), ()))
else
(if (decide ((List.length z1.1.2.2.2.2.2.1 : Int) = (0 : Int))) = false then
(if (!decide (z1.1.1 = (3 : Int))) = true then
(if (decide ((List.length z1.1.2.2.2.2.2.1 : Int) ≤ (4 : Int))) = true then
(if (decide ((ByteArray.size z1.1.2.2.2.2.2.2.1 : Int) ≤ (120 : Int))) = true then
(if (!decide (z1.1.1 = (2 : Int))) = false then
(if (decide (z1.1.2.2.2.2.2.2.1 = (⟨#[]⟩ : ByteArray))) = true then
some ((decide (z1.1.2.2.2.2.1 = (0 : Int))), ((), ()))
else
some (false, ((), ())))
else
some (true, ((), ())))
else
some (false, ((), ())))
else
some (false, ((), ())))
else
some (false, ((), ())))
else
(if (decide ((ByteArray.size z1.1.2.2.2.2.2.2.1 : Int) ≤ (120 : Int))) = true then
(if (!decide (z1.1.1 = (2 : Int))) = false then
(if (decide (z1.1.2.2.2.2.2.2.1 = (⟨#[]⟩ : ByteArray))) = true then
some ((decide (z1.1.2.2.2.2.1 = (0 : Int))), ((), ()))
else
some (false, ((), ())))
else
some (true, ((), ())))
else
some (false, ((), ()))))))
else
some (false, ((), ()))))
else
some (false, ((), ()))))
else
some (false, ((), ()))))
else
some (false, ((), ()))))) ((y0.1.1, (y0.1.2.1, (y0.1.2.2.1, (y0.1.2.2.2.1, (y0.1.2.2.2.2.1, (y0.1.2.2.2.2.2.1, (y0.1.2.2.2.2.2.2.1, ()))))))), ())))) k ((x.1.1, (x.1.2.1, (x.1.2.2.1, (x.1.2.2.2.1, (x.1.2.2.2.2.1, (x.1.2.2.2.2.2.1, (x.1.2.2.2.2.2.2.1, ()))))))), (x.1.2.2.2.2.2.1, ((List.length x.1.2.2.2.2.2.1 : Int), ((0 : Int), ())))))
abbrev E_i_PacketOk (k : Nat) : qAI := ⟨199, 0, (.cons (.agg yP5) .nil), .bool, qET k⟩
theorem t_i_PacketOk (k : Nat) (x) : evF TTab k [qBB k, E_i_isId k] [(0, ⟨[1, 7, 8, 9], (.cons (.ptr 0 yP5) (.cons (.il true (.int .i64)) (.cons (.int .i64) yP2)))⟩, ⟨[1], (.cons (.ptr 0 yP5) .nil)⟩)] Tryz.f199 (.cons (.agg yP5) .nil) .bool x = qET k x := by kernel_rfl
theorem e_i_PacketOk [Names] (k : Nat) : qAD Tryz.prog (E_i_PacketOk k) := qAC tok (qAB (qBG k) (qAB (e_i_isId k) qAF)) (by kernel_rfl) (by kernel_rfl) (by kernel_rfl) fun x r h => (t_i_PacketOk k x).trans h
def qHx (k : Nat) (x : ByteArray × ByteArray × Unit) : Option (Bool × Unit × Unit × Unit) :=
some ((decide (x.1 = x.2.1)), ((), ((), ())))
abbrev E_i_SameMac (k : Nat) : qAI := ⟨303, 0, yP24, .bool, qHx k⟩
theorem t_i_SameMac (k : Nat) (x) : evF TTab k [] [] Tryz.f303 yP24 .bool x = qHx k x := by kernel_rfl
theorem e_i_SameMac [Names] (k : Nat) : qAD Tryz.prog (E_i_SameMac k) := qAC tok qAF (by kernel_rfl) (by kernel_rfl) (by kernel_rfl) fun x r h => (t_i_SameMac k x).trans h
def qDE (k : Nat) (x : ByteArray × Int × ByteArray × Unit) : Option ((ByteArray × Bool × Unit) × Unit × Unit × Unit × Unit) :=
(if (decide ((wi64 ((ByteArray.size x.2.2.1 : Int) - (16 : Int))) < (0 : Int))) = true then
some (((⟨#[]⟩ : ByteArray), (false, ())), ((), ((), ((), ()))))
else
(if 0 ≤ (wi64 ((ByteArray.size x.2.2.1 : Int) - (16 : Int))) ∧ (wi64 ((ByteArray.size x.2.2.1 : Int) - (16 : Int))) ≤ (ByteArray.size x.2.2.1 : Int) then
((qHn k (x.1, (x.2.1, ((ByteArray.extract x.2.2.1 (Int.toNat (0 : Int)) (Int.toNat (wi64 ((ByteArray.size x.2.2.1 : Int) - (16 : Int))))), ())))).bind fun p1 =>
(if (!p1.1.2.1) = false then
(if 0 ≤ (wi64 ((ByteArray.size x.2.2.1 : Int) - (16 : Int))) ∧ (wi64 ((ByteArray.size x.2.2.1 : Int) - (16 : Int))) ≤ (ByteArray.size x.2.2.1 : Int) then
((qFu k (x.1, (x.2.1, ((ByteArray.extract x.2.2.1 (Int.toNat (0 : Int)) (Int.toNat (wi64 ((ByteArray.size x.2.2.1 : Int) - (16 : Int))))), ())))).bind fun p2 =>
(if 0 ≤ (wi64 ((ByteArray.size x.2.2.1 : Int) - (16 : Int))) ∧ (wi64 ((ByteArray.size x.2.2.1 : Int) - (16 : Int))) ≤ (ByteArray.size x.2.2.1 : Int) then
((qHx k (p2.1, ((ByteArray.extract x.2.2.1 (Int.toNat (wi64 ((ByteArray.size x.2.2.1 : Int) - (16 : Int)))) (Int.toNat (ByteArray.size x.2.2.1 : Int))), ()))).bind fun p3 =>
(if (!p3.1) = true then
some (((⟨#[]⟩ : ByteArray), (false, ())), ((), ((), ((), ()))))
else
some ((p1.1.1, (true, ())), ((), ((), ((), ()))))))
else none))
else none)
else
some (((⟨#[]⟩ : ByteArray), (false, ())), ((), ((), ((), ()))))))
else none))
abbrev qFx (k : Nat) : qAI := ⟨265, 0, (.cons .str yP15), (.tup yP14), qDE k⟩
theorem t_i_OpenText (k : Nat) (x) : evF TTab k [E_i_hidden k, E_i_macText k, E_i_SameMac k] [] Tryz.f265 (.cons .str yP15) (.tup yP14) x = qDE k x := by kernel_rfl
theorem e_i_OpenText [Names] (k : Nat) : qAD Tryz.prog (qFx k) := qAC tok (qAB (e_i_hidden k) (qAB (e_i_macText k) (qAB (e_i_SameMac k) qAF))) (by kernel_rfl) (by kernel_rfl) (by kernel_rfl) fun x r h => (t_i_OpenText k x).trans h
def qAv (k : Nat) (x : List (Int) × Int × Unit) : Option (Int × Unit × Unit × Unit) :=
(qAG (fun (rec0 : (List (Int) × Int × Int × Int × Unit) → Option _) (y0 : List (Int) × Int × Int × Int × Unit) =>
(if (decide (y0.2.2.2.1 < y0.2.2.1)) = true then
(if 0 ≤ y0.2.2.2.1 ∧ y0.2.2.2.1 < (List.length y0.1 : Int) then
(if (decide (y0.2.1 = (Ty.rd (t := (.int .i64)) y0.1 y0.2.2.2.1))) = true then
some (y0.2.2.2.1, ((), ((), ())))
else
(rec0 (y0.1, (y0.2.1, (y0.2.2.1, ((wi64 (y0.2.2.2.1 + (1 : Int))), ()))))))
else none)
else
((fun (z1 : Unit) =>
some ((-1 : Int), ((), ((), ())))) ()))) k (x.1, (x.2.1, ((List.length x.1 : Int), ((0 : Int), ())))))
abbrev qCL (k : Nat) : qAI := ⟨324, 0, yP18, (.int .i64), qAv k⟩
theorem qEU (k : Nat) (x) : evF TTab k [] [(0, ⟨[0, 1, 7, 8], (.cons (.il true (.int .i64)) yP19)⟩, ⟨[], .nil⟩)] Tryz.f324 yP18 (.int .i64) x = qAv k x := by kernel_rfl
theorem qEV [Names] (k : Nat) : qAD Tryz.prog (qCL k) := qAC tok qAF (by kernel_rfl) (by kernel_rfl) (by kernel_rfl) fun x r h => (qEU k x).trans h
def qAi (k : Nat) (x : List (Int) × Int × Unit) : Option (Bool × Unit × Unit × Unit) :=
((qAv k (x.1, (x.2.1, ()))).bind fun p1 =>
some ((decide ((0 : Int) ≤ p1.1)), ((), ((), ()))))
abbrev qBq (k : Nat) : qAI := ⟨304, 0, yP18, .bool, qAi k⟩
theorem qDY (k : Nat) (x) : evF TTab k [qCL k] [] Tryz.f304 yP18 .bool x = qAi k x := by kernel_rfl
theorem qDZ [Names] (k : Nat) : qAD Tryz.prog (qBq k) := qAC tok (qAB (qEV k) qAF) (by kernel_rfl) (by kernel_rfl) (by kernel_rfl) fun x r h => (qDY k x).trans h
def qDa (k : Nat) (x : List (Int) × Int × Unit) : Option (Bool × Unit × Unit × Unit) :=
((qGK k (x.1, ())).bind fun p1 =>
(if (!p1.1) = false then
((qAn k (x.2.1, ((1 : Int), ((1000000000 : Int), ())))).bind fun p2 =>
(if (!p2.1) = false then
((qAi k (x.1, (x.2.1, ()))).bind fun p3 =>
(if p3.1 = true then
some (false, ((), ((), ())))
else
(if (decide ((List.length x.1 : Int) = (0 : Int))) = false then
(if 0 ≤ (0 : Int) ∧ (0 : Int) < (List.length x.1 : Int) then
some ((decide ((wi64 ((Ty.rd (t := (.int .i64)) x.1 (0 : Int)) - (6 : Int))) < x.2.1)), ((), ((), ())))
else none)
else
some (true, ((), ((), ()))))))
else
some (false, ((), ((), ())))))
else
some (false, ((), ((), ())))))
abbrev qEv (k : Nat) : qAI := ⟨266, 0, yP18, .bool, qDa k⟩
theorem t_i_IsFresh (k : Nat) (x) : evF TTab k [qBB k, E_i_SeenOk k, qBq k] [] Tryz.f266 yP18 .bool x = qDa k x := by kernel_rfl
theorem qG3 [Names] (k : Nat) : qAD Tryz.prog (qEv k) := qAC tok (qAB (qBG k) (qAB (e_i_SeenOk k) (qAB (qDZ k) qAF))) (by kernel_rfl) (by kernel_rfl) (by kernel_rfl) fun x r h => (t_i_IsFresh k x).trans h
def qB4 (k : Nat) (x : Int × Int × Unit) : Option (Bool × Unit × Unit × Unit) :=
((qBn k (x.1, ())).bind fun p1 =>
(if p1.1 = true then
((qBn k (x.2.1, ())).bind fun p2 =>
(if (!p2.1) = false then
some ((decide (x.1 < x.2.1)), ((), ((), ())))
else
some (true, ((), ((), ())))))
else
some ((decide (x.1 < x.2.1)), ((), ((), ())))))
abbrev qE6 (k : Nat) : qAI := ⟨340, 0, (.cons (.int .i64) yP2), .bool, qB4 k⟩
theorem t_x_cmp_Less_int (k : Nat) (x) : evF TTab k [qED k] [] Tryz.f340 (.cons (.int .i64) yP2) .bool x = qB4 k x := by kernel_rfl
theorem e_x_cmp_Less_int [Names] (k : Nat) : qAD Tryz.prog (qE6 k) := qAC tok (qAB (e_x_cmp_isNaN_int k) qAF) (by kernel_rfl) (by kernel_rfl) (by kernel_rfl) fun x r h => (t_x_cmp_Less_int k x).trans h
def qAb (k : Nat) (x : List (Int) × Int × Int × Unit) : Option (Unit × List (Int) × Unit × Unit × Unit) :=
(qAG (fun (rec0 : (List (Int) × Int × Int × Int × Unit) → Option _) (y0 : List (Int) × Int × Int × Int × Unit) =>
(if (decide (y0.2.2.2.1 < y0.2.2.1)) = true then
(qAG (fun (rec2 : (List (Int) × Int × Int × Int × Int × Unit) → Option _) (y2 : List (Int) × Int × Int × Int × Int × Unit) =>
(if (decide (y2.2.1 < y2.2.2.2.2.1)) = true then
(if 0 ≤ y2.2.2.2.2.1 ∧ y2.2.2.2.2.1 < (List.length y2.1 : Int) then
(if 0 ≤ (wi64 (y2.2.2.2.2.1 - (1 : Int))) ∧ (wi64 (y2.2.2.2.2.1 - (1 : Int))) < (List.length y2.1 : Int) then
((qB4 k ((Ty.rd (t := (.int .i64)) y2.1 y2.2.2.2.2.1), ((Ty.rd (t := (.int .i64)) y2.1 (wi64 (y2.2.2.2.2.1 - (1 : Int)))), ()))).bind fun p1 =>
(if p1.1 = true then
(if 0 ≤ (wi64 (y2.2.2.2.2.1 - (1 : Int))) ∧ (wi64 (y2.2.2.2.2.1 - (1 : Int))) < (List.length y2.1 : Int) then
(if 0 ≤ y2.2.2.2.2.1 ∧ y2.2.2.2.2.1 < (List.length y2.1 : Int) then
(if 0 ≤ y2.2.2.2.2.1 ∧ y2.2.2.2.2.1 < (List.length y2.1 : Int) then
(if 0 ≤ (wi64 (y2.2.2.2.2.1 - (1 : Int))) ∧ (wi64 (y2.2.2.2.2.1 - (1 : Int))) < (List.length (List.set y2.1 (Int.toNat y2.2.2.2.2.1) (Ty.rd (t := (.int .i64)) y2.1 (wi64 (y2.2.2.2.2.1 - (1 : Int))))) : Int) then
(rec2 ((List.set (List.set y2.1 (Int.toNat y2.2.2.2.2.1) (Ty.rd (t := (.int .i64)) y2.1 (wi64 (y2.2.2.2.2.1 - (1 : Int))))) (Int.toNat (wi64 (y2.2.2.2.2.1 - (1 : Int)))) (Ty.rd (t := (.int .i64)) y2.1 y2.2.2.2.2.1)), (y2.2.1, (y2.2.2.1, (y2.2.2.2.1, ((wi64 (y2.2.2.2.2.1 - (1 : Int))), ()))))))
else none)
else none)
else none)
else none)
else
((fun (z1 : List (Int) × Int × Int × Int × Unit) =>
(rec0 (z1.1, (z1.2.1, (z1.2.2.1, ((wi64 (z1.2.2.2.1 + (1 : Int))), ())))))) (y2.1, (y2.2.1, (y2.2.2.1, (y2.2.2.2.1, ())))))))
else none)
else none)
else
((fun (z1 : List (Int) × Int × Int × Int × Unit) =>
(rec0 (z1.1, (z1.2.1, (z1.2.2.1, ((wi64 (z1.2.2.2.1 + (1 : Int))), ())))))) (y2.1, (y2.2.1, (y2.2.2.1, (y2.2.2.2.1, ()))))))) k (y0.1, (y0.2.1, (y0.2.2.1, (y0.2.2.2.1, (y0.2.2.2.1, ()))))))
else
((fun (z2 : List (Int) × Unit) =>
some ((), (z2.1, ((), ((), ()))))) (y0.1, ())))) k (x.1, (x.2.1, (x.2.2.1, ((wi64 (x.2.1 + (1 : Int))), ())))))
abbrev qBC (k : Nat) : qAI := ⟨334, 0, (.cons yP23 (.cons (.int .i64) yP2)), (.tup .nil), qAb k⟩
theorem qCC (k : Nat) (x) : evF TTab k [qE6 k] [(0, ⟨[0, 1, 2, 6], (.cons yP12 yP19)⟩, ⟨[0], (.cons yP12 .nil)⟩), (2, ⟨[0, 1, 2, 6, 7], (.cons yP12 (.cons (.int .i64) yP19))⟩, ⟨[0, 1, 2, 6], (.cons yP12 yP19)⟩)] Tryz.f334 (.cons yP23 (.cons (.int .i64) yP2)) (.tup .nil) x = qAb k x := by kernel_rfl
theorem qCD [Names] (k : Nat) : qAD Tryz.prog (qBC k) := qAC tok (qAB (e_x_cmp_Less_int k) qAF) (by kernel_rfl) (by kernel_rfl) (by kernel_rfl) fun x r h => (qCC k x).trans h
def qDs (k : Nat) (x : Int × Unit) : Option (Int × Unit × Unit) :=
(jn (fun (j4v0 : Int) (j4v1 : Int) =>
(jn (fun (j6v0 : Int) (j6v1 : Int) =>
(jn (fun (j7v0 : Int) (j7v1 : Int) =>
(if 0 ≤ (wu8 (j7v0)) ∧ (wu8 (j7v0)) < (ByteArray.size (⟨#[0, 1, 2, 2, 3, 3, 3, 3, 4, 4, 4, 4, 4, 4, 4, 4, 5, 5, 5, 5, 5, 5, 5, 5, 5, 5, 5, 5, 5, 5, 5, 5, 6, 6, 6, 6, 6, 6, 6, 6, 6, 6, 6, 6, 6, 6, 6, 6, 6, 6, 6, 6, 6, 6, 6, 6, 6, 6, 6, 6, 6, 6, 6, 6, 7, 7, 7, 7, 7, 7, 7, 7, 7, 7, 7, 7, 7, 7, 7, 7, 7, 7, 7, 7, 7, 7, 7, 7, 7, 7, 7, 7, 7, 7, 7, 7, 7, 7, 7, 7, 7, 7, 7, 7, 7, 7, 7, 7, 7, 7, 7, 7, 7, 7, 7, 7, 7, 7, 7, 7, 7, 7, 7, 7, 7, 7, 7, 7, 8, 8, 8, 8, 8, 8, 8, 8, 8, 8, 8, 8, 8, 8, 8, 8, 8, 8, 8, 8, 8, 8, 8, 8, 8, 8, 8, 8, 8, 8, 8, 8, 8, 8, 8, 8, 8, 8, 8, 8, 8, 8, 8, 8, 8, 8, 8, 8, 8, 8, 8, 8, 8, 8, 8, 8, 8, 8, 8, 8, 8, 8, 8, 8, 8, 8, 8, 8, 8, 8, 8, 8, 8, 8, 8, 8, 8, 8, 8, 8, 8, 8, 8, 8, 8, 8, 8, 8, 8, 8, 8, 8, 8, 8, 8, 8, 8, 8, 8, 8, 8, 8, 8, 8, 8, 8, 8, 8, 8, 8, 8, 8, 8, 8, 8, 8, 8, 8, 8, 8, 8, 8, 8, 8, 8, 8, 8, 8]⟩ : ByteArray) : Int) then
some ((wi64 (j7v1 + (wi64 ((bt (⟨#[0, 1, 2, 2, 3, 3, 3, 3, 4, 4, 4, 4, 4, 4, 4, 4, 5, 5, 5, 5, 5, 5, 5, 5, 5, 5, 5, 5, 5, 5, 5, 5, 6, 6, 6, 6, 6, 6, 6, 6, 6, 6, 6, 6, 6, 6, 6, 6, 6, 6, 6, 6, 6, 6, 6, 6, 6, 6, 6, 6, 6, 6, 6, 6, 7, 7, 7, 7, 7, 7, 7, 7, 7, 7, 7, 7, 7, 7, 7, 7, 7, 7, 7, 7, 7, 7, 7, 7, 7, 7, 7, 7, 7, 7, 7, 7, 7, 7, 7, 7, 7, 7, 7, 7, 7, 7, 7, 7, 7, 7, 7, 7, 7, 7, 7, 7, 7, 7, 7, 7, 7, 7, 7, 7, 7, 7, 7, 7, 8, 8, 8, 8, 8, 8, 8, 8, 8, 8, 8, 8, 8, 8, 8, 8, 8, 8, 8, 8, 8, 8, 8, 8, 8, 8, 8, 8, 8, 8, 8, 8, 8, 8, 8, 8, 8, 8, 8, 8, 8, 8, 8, 8, 8, 8, 8, 8, 8, 8, 8, 8, 8, 8, 8, 8, 8, 8, 8, 8, 8, 8, 8, 8, 8, 8, 8, 8, 8, 8, 8, 8, 8, 8, 8, 8, 8, 8, 8, 8, 8, 8, 8, 8, 8, 8, 8, 8, 8, 8, 8, 8, 8, 8, 8, 8, 8, 8, 8, 8, 8, 8, 8, 8, 8, 8, 8, 8, 8, 8, 8, 8, 8, 8, 8, 8, 8, 8, 8, 8, 8, 8, 8, 8, 8, 8, 8, 8]⟩ : ByteArray) (wu8 (j7v0))))))), ((), ()))
else none)) (fun (j7 : Int → Int → Option _) =>
(if (decide ((256 : Int) ≤ j6v0)) = true then
(j7 (Int.fdiv j6v0 (2 ^ (min (Int.toNat (8 : Int)) (IntKind.bits .u64)))) (wi64 (j6v1 + (8 : Int))))
else
(j7 j6v0 j6v1))))) (fun (j6 : Int → Int → Option _) =>
(if (decide ((65536 : Int) ≤ j4v0)) = true then
(j6 (Int.fdiv j4v0 (2 ^ (min (Int.toNat (16 : Int)) (IntKind.bits .u64)))) (wi64 (j4v1 + (16 : Int))))
else
(j6 j4v0 j4v1))))) (fun (j4 : Int → Int → Option _) =>
(if (decide ((4294967296 : Int) ≤ x.1)) = true then
(j4 (Int.fdiv x.1 (2 ^ (min (Int.toNat (32 : Int)) (IntKind.bits .u64)))) (32 : Int))
else
(j4 x.1 (0 : Int)))))
abbrev qGl (k : Nat) : qAI := ⟨344, 0, (.cons (.int .u64) .nil), (.int .i64), qDs k⟩
theorem t_x_bits_Len64 (k : Nat) (x) : evF TTab k [] [] Tryz.f344 (.cons (.int .u64) .nil) (.int .i64) x = qDs k x := by kernel_rfl
theorem e_x_bits_Len64 [Names] (k : Nat) : qAD Tryz.prog (qGl k) := qAC tok qAF (by kernel_rfl) (by kernel_rfl) (by kernel_rfl) fun x r h => (t_x_bits_Len64 k x).trans h
def qEW (k : Nat) (x : Int × Unit) : Option (Int × Unit × Unit) :=
((qDs k (x.1, ())).bind fun p1 =>
some (p1.1, ((), ())))
abbrev E_x_bits_Len (k : Nat) : qAI := ⟨326, 0, (.cons (.int .u64) .nil), (.int .i64), qEW k⟩
theorem t_x_bits_Len (k : Nat) (x) : evF TTab k [qGl k] [] Tryz.f326 (.cons (.int .u64) .nil) (.int .i64) x = qEW k x := by kernel_rfl
theorem e_x_bits_Len [Names] (k : Nat) : qAD Tryz.prog (E_x_bits_Len k) := qAC tok (qAB (e_x_bits_Len64 k) qAF) (by kernel_rfl) (by kernel_rfl) (by kernel_rfl) fun x r h => (t_x_bits_Len k x).trans h
def qAr (k : Nat) (x : List (Int) × Int × Int × Int × Unit) : Option (Unit × List (Int) × Unit × Unit × Unit × Unit) :=
(qAG (fun (rec0 : (List (Int) × Int × Int × Int × Bool × Bool × Unit) → Option _) (y0 : List (Int) × Int × Int × Int × Bool × Bool × Unit) =>
(if (decide ((wi64 (y0.2.2.1 - y0.2.1)) ≤ (12 : Int))) = true then
((qAb k (y0.1, (y0.2.1, (y0.2.2.1, ())))).bind fun p1 =>
some ((), (p1.2.1, ((), ((), ((), ()))))))
else
(if (decide (y0.2.2.2.1 = (0 : Int))) = true then
none
else
(if (!y0.2.2.2.2.1) = true then
none
else
none)))) k (x.1, (x.2.1, (x.2.2.1, (x.2.2.2.1, (true, (true, ())))))))
abbrev qBb (k : Nat) : qAI := ⟨325, 0, (.cons yP23 yP19), (.tup .nil), qAr k⟩
theorem qCv (k : Nat) (x) : evF TTab k [qBC k] [(0, ⟨[0, 1, 2, 3, 8, 9], (.cons yP12 (.cons (.int .i64) (.cons (.int .i64) (.cons (.int .i64) (.cons .bool (.cons .bool .nil))))))⟩, ⟨[], .nil⟩)] Tryz.f325 (.cons yP23 yP19) (.tup .nil) x = qAr k x := by kernel_rfl
theorem qCw [Names] (k : Nat) : qAD Tryz.prog (qBb k) := qAC tok (qAB (qCD k) qAF) (by kernel_rfl) (by kernel_rfl) (by kernel_rfl) fun x r h => (qCv k x).trans h
def qAz (k : Nat) (x : List (Int) × Unit) : Option (Unit × List (Int) × Unit) :=
((qEW k ((wu64 ((List.length x.1 : Int))), ())).bind fun p1 =>
((qAr k (x.1, ((0 : Int), ((List.length x.1 : Int), (p1.1, ()))))).bind fun p2 =>
some ((), (p2.2.1, ()))))
abbrev qCX (k : Nat) : qAI := ⟨305, 0, (.cons yP23 .nil), (.tup .nil), qAz k⟩
theorem qEw (k : Nat) (x) : evF TTab k [qBb k, E_x_bits_Len k] [] Tryz.f305 (.cons yP23 .nil) (.tup .nil) x = qAz k x := by kernel_rfl
theorem qEx [Names] (k : Nat) : qAD Tryz.prog (qCX k) := qAC tok (qAB (qCw k) (qAB (e_x_bits_Len k) qAF)) (by kernel_rfl) (by kernel_rfl) (by kernel_rfl) fun x r h => (qEw k x).trans h
def qAj (k : Nat) (x : List (Int) × Unit) : Option (Unit × List (Int) × Unit) :=
(qAG (fun (rec0 : (List (Int) × Int × Int × Unit) → Option _) (y0 : List (Int) × Int × Int × Unit) =>
(if (decide (y0.2.1 < y0.2.2.1)) = true then
(if 0 ≤ y0.2.2.1 ∧ y0.2.2.1 < (List.length y0.1 : Int) then
(if 0 ≤ y0.2.1 ∧ y0.2.1 < (List.length y0.1 : Int) then
(if 0 ≤ y0.2.1 ∧ y0.2.1 < (List.length y0.1 : Int) then
(if 0 ≤ y0.2.2.1 ∧ y0.2.2.1 < (List.length (List.set y0.1 (Int.toNat y0.2.1) (Ty.rd (t := (.int .i64)) y0.1 y0.2.2.1)) : Int) then
(rec0 ((List.set (List.set y0.1 (Int.toNat y0.2.1) (Ty.rd (t := (.int .i64)) y0.1 y0.2.2.1)) (Int.toNat y0.2.2.1) (Ty.rd (t := (.int .i64)) y0.1 y0.2.1)), ((wi64 (y0.2.1 + (1 : Int))), ((wi64 (y0.2.2.1 - (1 : Int))), ()))))
else none)
else none)
else none)
else none)
else
((fun (z1 : List (Int) × Unit) =>
some ((), (z1.1, ()))) (y0.1, ())))) k (x.1, ((0 : Int), ((wi64 ((List.length x.1 : Int) - (1 : Int))), ()))))
abbrev qBy (k : Nat) : qAI := ⟨306, 0, (.cons yP23 .nil), (.tup .nil), qAj k⟩
theorem qDj (k : Nat) (x) : evF TTab k [] [(0, ⟨[0, 2, 3], (.cons yP12 (.cons (.int .i64) yP2))⟩, ⟨[0], (.cons yP12 .nil)⟩)] Tryz.f306 (.cons yP23 .nil) (.tup .nil) x = qAj k x := by kernel_rfl
theorem qDk [Names] (k : Nat) : qAD Tryz.prog (qBy k) := qAC tok qAF (by kernel_rfl) (by kernel_rfl) (by kernel_rfl) fun x r h => (qDj k x).trans h
def qBr (k : Nat) (x : Int × (Int × Unit) × Unit) : Option (Bool × Unit × (Int × Unit) × Unit) :=
some ((decide (x.1 ≤ (wi64 (x.2.1.1 - (6 : Int))))), ((), ((x.2.1.1, ()), ())))
abbrev qD2 (k : Nat) : qAI := ⟨308, 0, (.cons (.int .i64) (.cons (.ptr 0 yP2) .nil)), .bool, qBr k⟩
theorem t_i_NoteSeen_1 (k : Nat) (x) : evF TTab k [] [] Tryz.f308 (.cons (.int .i64) (.cons (.ptr 0 yP2) .nil)) .bool x = qBr k x := by kernel_rfl
theorem qGm [Names] (k : Nat) : qAD Tryz.prog (qD2 k) := qAC tok qAF (by kernel_rfl) (by kernel_rfl) (by kernel_rfl) fun x r h => (t_i_NoteSeen_1 k x).trans h
def qAU (k : Nat) (x : List (Int) × ((Int × Unit) × Unit) × Unit) : Option (Int × Unit × ((Int × Unit) × Unit) × Unit) :=
(qAG (fun (rec0 : (List (Int) × ((Int × Unit) × Unit) × Int × Int × Unit) → Option _) (y0 : List (Int) × ((Int × Unit) × Unit) × Int × Int × Unit) =>
(if (decide (y0.2.2.2.1 < y0.2.2.1)) = true then
(if 0 ≤ y0.2.2.2.1 ∧ y0.2.2.2.1 < (List.length y0.1 : Int) then
((qBr k ((Ty.rd (t := (.int .i64)) y0.1 y0.2.2.2.1), ((y0.2.1.1.1, ()), ()))).bind fun p1 =>
(if p1.1 = true then
some (y0.2.2.2.1, ((), (((p1.2.2.1.1, ()), ()), ())))
else
(rec0 (y0.1, (((p1.2.2.1.1, ()), ()), (y0.2.2.1, ((wi64 (y0.2.2.2.1 + (1 : Int))), ())))))))
else none)
else
((fun (z1 : ((Int × Unit) × Unit) × Unit) =>
some ((-1 : Int), ((), (((z1.1.1.1, ()), ()), ())))) (((y0.2.1.1.1, ()), ()), ())))) k (x.1, (((x.2.1.1.1, ()), ()), ((List.length x.1 : Int), ((0 : Int), ())))))
abbrev qAo (k : Nat) : qAI := ⟨327, 309, (.cons (.il true (.int .i64)) (.cons (.fn 308 (.cons (.ptr 0 yP2) .nil)) .nil)), (.int .i64), qAU k⟩
theorem qBS (k : Nat) (x) : evF TTab k [qD2 k] [(0, ⟨[0, 1, 7, 8], (.cons (.il true (.int .i64)) (.cons (.fn 308 (.cons (.ptr 0 yP2) .nil)) (.cons (.int .i64) yP2)))⟩, ⟨[1], (.cons (.fn 308 (.cons (.ptr 0 yP2) .nil)) .nil)⟩)] Tryz.f327 (.cons (.il true (.int .i64)) (.cons (.fn 308 (.cons (.ptr 0 yP2) .nil)) .nil)) (.int .i64) x = qAU k x := by kernel_rfl
theorem qBT [Names] (k : Nat) : qAD Tryz.prog (qAo k) := qAC tok (qAB (qGm k) qAF) (by kernel_rfl) (by kernel_rfl) (by kernel_rfl) fun x r h => (qBS k x).trans h
def qAS (k : Nat) (x : List (Int) × ((Int × Unit) × Unit) × Unit) : Option (List (Int) × Unit × ((Int × Unit) × Unit) × Unit) :=
((qAU k (x.1, (((x.2.1.1.1, ()), ()), ()))).bind fun p1 =>
(if (decide (p1.1 = (-1 : Int))) = true then
some (x.1, ((), (((p1.2.2.1.1.1, ()), ()), ())))
else
(qAG (fun (rec0 : (List (Int) × ((Int × Unit) × Unit) × Int × Int × Unit) → Option _) (y0 : List (Int) × ((Int × Unit) × Unit) × Int × Int × Unit) =>
(if (decide (y0.2.2.2.1 < (List.length y0.1 : Int))) = true then
(if 0 ≤ y0.2.2.2.1 ∧ y0.2.2.2.1 < (List.length y0.1 : Int) then
((qBr k ((Ty.rd (t := (.int .i64)) y0.1 y0.2.2.2.1), ((y0.2.1.1.1, ()), ()))).bind fun p2 =>
(if (!p2.1) = true then
(if 0 ≤ y0.2.2.1 ∧ y0.2.2.1 < (List.length y0.1 : Int) then
(rec0 ((List.set y0.1 (Int.toNat y0.2.2.1) (Ty.rd (t := (.int .i64)) y0.1 y0.2.2.2.1)), (((p2.2.2.1.1, ()), ()), ((wi64 (y0.2.2.1 + (1 : Int))), ((wi64 (y0.2.2.2.1 + (1 : Int))), ())))))
else none)
else
(rec0 (y0.1, (((p2.2.2.1.1, ()), ()), (y0.2.2.1, ((wi64 (y0.2.2.2.1 + (1 : Int))), ())))))))
else none)
else
((fun (z1 : List (Int) × ((Int × Unit) × Unit) × Int × Unit) =>
(if 0 ≤ z1.2.2.1 ∧ z1.2.2.1 ≤ (List.length z1.1 : Int) then
(if 0 ≤ z1.2.2.1 ∧ z1.2.2.1 ≤ (List.length (List.take (Int.toNat z1.2.2.1) z1.1 ++ (List.replicate (Int.toNat ((List.length z1.1 : Int) - z1.2.2.1)) (0 : Int) ++ List.drop (Int.toNat (List.length z1.1 : Int)) z1.1)) : Int) then
some ((List.drop (Int.toNat (0 : Int)) (List.take (Int.toNat z1.2.2.1) (List.take (Int.toNat z1.2.2.1) z1.1 ++ (List.replicate (Int.toNat ((List.length z1.1 : Int) - z1.2.2.1)) (0 : Int) ++ List.drop (Int.toNat (List.length z1.1 : Int)) z1.1)))), ((), (((z1.2.1.1.1, ()), ()), ())))
else none)
else none)) (y0.1, (((y0.2.1.1.1, ()), ()), (y0.2.2.1, ())))))) k (x.1, (((p1.2.2.1.1.1, ()), ()), (p1.1, ((wi64 (p1.1 + (1 : Int))), ())))))))
abbrev qAk (k : Nat) : qAI := ⟨307, 309, (.cons yP12 (.cons (.fn 308 (.cons (.ptr 0 yP2) .nil)) .nil)), yP12, qAS k⟩
theorem qBP (k : Nat) (x) : evF TTab k [qD2 k, qAo k] [(0, ⟨[0, 1, 5, 6], (.cons yP12 (.cons (.fn 308 (.cons (.ptr 0 yP2) .nil)) (.cons (.int .i64) yP2)))⟩, ⟨[0, 1, 5], (.cons yP12 (.cons (.fn 308 (.cons (.ptr 0 yP2) .nil)) yP2))⟩)] Tryz.f307 (.cons yP12 (.cons (.fn 308 (.cons (.ptr 0 yP2) .nil)) .nil)) yP12 x = qAS k x := by kernel_rfl
theorem qBQ [Names] (k : Nat) : qAD Tryz.prog (qAk k) := qAC tok (qAB (qGm k) (qAB (qBT k) qAF)) (by kernel_rfl) (by kernel_rfl) (by kernel_rfl) fun x r h => (qBP k x).trans h
def qDF (k : Nat) (x : List (Int) × Int × Unit) : Option (List (Int) × Unit × Unit × Unit) :=
((qDa k (x.1, (x.2.1, ()))).bind fun p1 =>
(if (!p1.1) = true then
((qCH k (x.1, ())).bind fun p2 =>
some (p2.1, ((), ((), ()))))
else
((qCH k (x.1, ())).bind fun p3 =>
(if List.length p3.1 + List.length ([x.2.1] : List (Int)) ≤ capMax then
((qAz k ((p3.1 ++ ([x.2.1] : List (Int))), ())).bind fun p4 =>
((qAj k (p4.2.1, ())).bind fun p5 =>
(if 0 ≤ (0 : Int) ∧ (0 : Int) < (List.length p5.2.1 : Int) then
((qAS k (p5.2.1, ((((Ty.rd (t := (.int .i64)) p5.2.1 (0 : Int)), ()), ()), ()))).bind fun p6 =>
some (p6.1, ((), ((), ()))))
else none)))
else none))))
abbrev qFy (k : Nat) : qAI := ⟨267, 0, yP18, yP12, qDF k⟩
theorem t_i_NoteSeen (k : Nat) (x) : evF TTab k [qFa k, qEv k, qCX k, qBy k, qAk k] [] Tryz.f267 yP18 yP12 x = qDF k x := by kernel_rfl
theorem e_i_NoteSeen [Names] (k : Nat) : qAD Tryz.prog (qFy k) := qAC tok (qAB (e_i_copyInts k) (qAB (qG3 k) (qAB (qEx k) (qAB (qDk k) (qAB (qBQ k) qAF))))) (by kernel_rfl) (by kernel_rfl) (by kernel_rfl) fun x r h => (t_i_NoteSeen k x).trans h
def qCY (k : Nat) (x : (Int × ByteArray × ByteArray × Int × List (Int) × Int × Int × ByteArray × ByteArray × Int × List (Int) × Int × Unit) × (Int × Int × Int × Int × Int × List (Int) × ByteArray × Unit) × Unit) : Option ((ByteArray × Bool × Unit) × (Int × ByteArray × ByteArray × Int × List (Int) × Int × Int × ByteArray × ByteArray × Int × List (Int) × Int × Unit) × Unit × Unit) :=
((qDE k (x.1.2.2.2.2.2.2.2.2.1, (x.2.1.2.2.2.2.1, (x.2.1.2.2.2.2.2.2.1, ())))).bind fun p1 =>
(if (!p1.1.2.1) = false then
((qDa k (x.1.2.2.2.2.2.2.2.2.2.2.1, (x.2.1.2.2.2.2.1, ()))).bind fun p2 =>
(if (!p2.1) = true then
some (((⟨#[]⟩ : ByteArray), (false, ())), ((x.1.1, (x.1.2.1, (x.1.2.2.1, (x.1.2.2.2.1, (x.1.2.2.2.2.1, (x.1.2.2.2.2.2.1, (x.1.2.2.2.2.2.2.1, (x.1.2.2.2.2.2.2.2.1, (x.1.2.2.2.2.2.2.2.2.1, (x.1.2.2.2.2.2.2.2.2.2.1, (x.1.2.2.2.2.2.2.2.2.2.2.1, (x.1.2.2.2.2.2.2.2.2.2.2.2.1, ())))))))))))), ((), ())))
else
((qDF k (x.1.2.2.2.2.2.2.2.2.2.2.1, (x.2.1.2.2.2.2.1, ()))).bind fun p3 =>
some ((p1.1.1, (true, ())), ((x.1.1, (x.1.2.1, (x.1.2.2.1, (x.1.2.2.2.1, (x.1.2.2.2.2.1, (x.1.2.2.2.2.2.1, (x.1.2.2.2.2.2.2.1, (x.1.2.2.2.2.2.2.2.1, (x.1.2.2.2.2.2.2.2.2.1, (x.1.2.2.2.2.2.2.2.2.2.1, (p3.1, (x.1.2.2.2.2.2.2.2.2.2.2.2.1, ())))))))))))), ((), ()))))))
else
some (((⟨#[]⟩ : ByteArray), (false, ())), ((x.1.1, (x.1.2.1, (x.1.2.2.1, (x.1.2.2.2.1, (x.1.2.2.2.2.1, (x.1.2.2.2.2.2.1, (x.1.2.2.2.2.2.2.1, (x.1.2.2.2.2.2.2.2.1, (x.1.2.2.2.2.2.2.2.2.1, (x.1.2.2.2.2.2.2.2.2.2.1, (x.1.2.2.2.2.2.2.2.2.2.2.1, (x.1.2.2.2.2.2.2.2.2.2.2.2.1, ())))))))))))), ((), ())))))
abbrev qFz (k : Nat) : qAI := ⟨200, 1000006, (.cons (.ptr 6 yP8) (.cons (.agg yP5) .nil)), (.tup yP14), qCY k⟩
theorem t_i_openIn_at_6 (k : Nat) (x) : evF TTab k [qFx k, qEv k, qFy k] [] Tryz.f200 (.cons (.ptr 6 yP8) (.cons (.agg yP5) .nil)) (.tup yP14) x = qCY k x := by kernel_rfl
theorem e_i_openIn_at_6 [Names] (k : Nat) : qAD Tryz.prog (qFz k) := qAC tok (qAB (e_i_OpenText k) (qAB (qG3 k) (qAB (e_i_NoteSeen k) qAF))) (by kernel_rfl) (by kernel_rfl) (by kernel_rfl) fun x r h => (t_i_openIn_at_6 k x).trans h
def qDb (k : Nat) (x : (Int × ByteArray × ByteArray × Int × List (Int) × Int × Int × ByteArray × ByteArray × Int × List (Int) × Int × Unit) × (Int × Int × Int × Int × Int × List (Int) × ByteArray × Unit) × Unit) : Option ((ByteArray × Bool × Unit) × (Int × ByteArray × ByteArray × Int × List (Int) × Int × Int × ByteArray × ByteArray × Int × List (Int) × Int × Unit) × Unit × Unit) :=
((qDE k (x.1.2.2.1, (x.2.1.2.2.2.2.1, (x.2.1.2.2.2.2.2.2.1, ())))).bind fun p1 =>
(if (!p1.1.2.1) = false then
((qDa k (x.1.2.2.2.2.1, (x.2.1.2.2.2.2.1, ()))).bind fun p2 =>
(if (!p2.1) = true then
some (((⟨#[]⟩ : ByteArray), (false, ())), ((x.1.1, (x.1.2.1, (x.1.2.2.1, (x.1.2.2.2.1, (x.1.2.2.2.2.1, (x.1.2.2.2.2.2.1, (x.1.2.2.2.2.2.2.1, (x.1.2.2.2.2.2.2.2.1, (x.1.2.2.2.2.2.2.2.2.1, (x.1.2.2.2.2.2.2.2.2.2.1, (x.1.2.2.2.2.2.2.2.2.2.2.1, (x.1.2.2.2.2.2.2.2.2.2.2.2.1, ())))))))))))), ((), ())))
else
((qDF k (x.1.2.2.2.2.1, (x.2.1.2.2.2.2.1, ()))).bind fun p3 =>
some ((p1.1.1, (true, ())), ((x.1.1, (x.1.2.1, (x.1.2.2.1, (x.1.2.2.2.1, (p3.1, (x.1.2.2.2.2.2.1, (x.1.2.2.2.2.2.2.1, (x.1.2.2.2.2.2.2.2.1, (x.1.2.2.2.2.2.2.2.2.1, (x.1.2.2.2.2.2.2.2.2.2.1, (x.1.2.2.2.2.2.2.2.2.2.2.1, (x.1.2.2.2.2.2.2.2.2.2.2.2.1, ())))))))))))), ((), ()))))))
else
some (((⟨#[]⟩ : ByteArray), (false, ())), ((x.1.1, (x.1.2.1, (x.1.2.2.1, (x.1.2.2.2.1, (x.1.2.2.2.2.1, (x.1.2.2.2.2.2.1, (x.1.2.2.2.2.2.2.1, (x.1.2.2.2.2.2.2.2.1, (x.1.2.2.2.2.2.2.2.2.1, (x.1.2.2.2.2.2.2.2.2.2.1, (x.1.2.2.2.2.2.2.2.2.2.2.1, (x.1.2.2.2.2.2.2.2.2.2.2.2.1, ())))))))))))), ((), ())))))
abbrev qHy (k : Nat) : qAI := ⟨200, 0, (.cons (.ptr 0 yP8) (.cons (.agg yP5) .nil)), (.tup yP14), qDb k⟩
theorem t_i_openIn_v1 (k : Nat) (x) : evF TTab k [qFx k, qEv k, qFy k] [] Tryz.f200 (.cons (.ptr 0 yP8) (.cons (.agg yP5) .nil)) (.tup yP14) x = qDb k x := by kernel_rfl
theorem e_i_openIn_v1 [Names] (k : Nat) : qAD Tryz.prog (qHy k) := qAC tok (qAB (e_i_OpenText k) (qAB (qG3 k) (qAB (e_i_NoteSeen k) qAF))) (by kernel_rfl) (by kernel_rfl) (by kernel_rfl) fun x r h => (t_i_openIn_v1 k x).trans h
def qEX (k : Nat) (x : (Int × ByteArray × ByteArray × Int × List (Int) × Int × Int × ByteArray × ByteArray × Int × List (Int) × Int × Unit) × (Int × Int × Int × Int × Int × List (Int) × ByteArray × Unit) × Int × Unit) : Option (((Int × ByteArray × ByteArray × Int × List (Int) × Int × Int × ByteArray × ByteArray × Int × List (Int) × Int × Unit) × ByteArray × Bool × Unit) × Unit × Unit × Unit × Unit) :=
((qCf k ((x.1.1, (x.1.2.1, (x.1.2.2.1, (x.1.2.2.2.1, (x.1.2.2.2.2.1, (x.1.2.2.2.2.2.1, (x.1.2.2.2.2.2.2.1, (x.1.2.2.2.2.2.2.2.1, (x.1.2.2.2.2.2.2.2.2.1, (x.1.2.2.2.2.2.2.2.2.2.1, (x.1.2.2.2.2.2.2.2.2.2.2.1, (x.1.2.2.2.2.2.2.2.2.2.2.2.1, ())))))))))))), ())).bind fun p1 =>
((qFc k ((x.1.1, (x.1.2.1, (x.1.2.2.1, (x.1.2.2.2.1, (x.1.2.2.2.2.1, (x.1.2.2.2.2.2.1, (x.1.2.2.2.2.2.2.1, (x.1.2.2.2.2.2.2.2.1, (x.1.2.2.2.2.2.2.2.2.1, (x.1.2.2.2.2.2.2.2.2.2.1, (x.1.2.2.2.2.2.2.2.2.2.2.1, (x.1.2.2.2.2.2.2.2.2.2.2.2.1, ())))))))))))), ())).bind fun p2 =>
(if (!p2.1) = false then
((qET k ((x.2.1.1, (x.2.1.2.1, (x.2.1.2.2.1, (x.2.1.2.2.2.1, (x.2.1.2.2.2.2.1, (x.2.1.2.2.2.2.2.1, (x.2.1.2.2.2.2.2.2.1, ()))))))), ())).bind fun p3 =>
(if (!p3.1) = false then
(if (!decide (x.2.1.1 = (3 : Int))) = true then
some (((p1.1.1, (p1.1.2.1, (p1.1.2.2.1, (p1.1.2.2.2.1, (p1.1.2.2.2.2.1, (p1.1.2.2.2.2.2.1, (p1.1.2.2.2.2.2.2.1, (p1.1.2.2.2.2.2.2.2.1, (p1.1.2.2.2.2.2.2.2.2.1, (p1.1.2.2.2.2.2.2.2.2.2.1, (p1.1.2.2.2.2.2.2.2.2.2.2.1, (p1.1.2.2.2.2.2.2.2.2.2.2.2.1, ())))))))))))), ((⟨#[]⟩ : ByteArray), (false, ()))), ((), ((), ((), ()))))
else
(jn (
((qCY k ((p1.1.1, (p1.1.2.1, (p1.1.2.2.1, (p1.1.2.2.2.1, (p1.1.2.2.2.2.1, (p1.1.2.2.2.2.2.1, (p1.1.2.2.2.2.2.2.1, (p1.1.2.2.2.2.2.2.2.1, (p1.1.2.2.2.2.2.2.2.2.1, (p1.1.2.2.2.2.2.2.2.2.2.1, (p1.1.2.2.2.2.2.2.2.2.2.2.1, (p1.1.2.2.2.2.2.2.2.2.2.2.2.1, ())))))))))))), ((x.2.1.1, (x.2.1.2.1, (x.2.1.2.2.1, (x.2.1.2.2.2.1, (x.2.1.2.2.2.2.1, (x.2.1.2.2.2.2.2.1, (x.2.1.2.2.2.2.2.2.1, ()))))))), ()))).bind fun p5 =>
some (((p5.2.1.1, (p5.2.1.2.1, (p5.2.1.2.2.1, (p5.2.1.2.2.2.1, (p5.2.1.2.2.2.2.1, (p5.2.1.2.2.2.2.2.1, (p5.2.1.2.2.2.2.2.2.1, (p5.2.1.2.2.2.2.2.2.2.1, (p5.2.1.2.2.2.2.2.2.2.2.1, (p5.2.1.2.2.2.2.2.2.2.2.2.1, (p5.2.1.2.2.2.2.2.2.2.2.2.2.1, (p5.2.1.2.2.2.2.2.2.2.2.2.2.2.1, ())))))))))))), (p5.1.1, (p5.1.2.1, ()))), ((), ((), ((), ())))))) (fun (j1 : Option _) =>
(if (decide (x.1.1 = (0 : Int))) = false then
(if (!decide ((Int.tmod x.1.1 (8 : Int)) = x.2.1.2.1)) = true then
(if (decide (x.1.2.2.2.2.2.2.1 = (0 : Int))) = false then
(if (!decide ((Int.tmod x.1.2.2.2.2.2.2.1 (8 : Int)) = x.2.1.2.1)) = false then
(if (decide (x.1.2.2.2.2.2.2.2.2.2.2.2.1 ≤ x.2.2.1)) = true then
some (((p1.1.1, (p1.1.2.1, (p1.1.2.2.1, (p1.1.2.2.2.1, (p1.1.2.2.2.2.1, (p1.1.2.2.2.2.2.1, (p1.1.2.2.2.2.2.2.1, (p1.1.2.2.2.2.2.2.2.1, (p1.1.2.2.2.2.2.2.2.2.1, (p1.1.2.2.2.2.2.2.2.2.2.1, (p1.1.2.2.2.2.2.2.2.2.2.2.1, (p1.1.2.2.2.2.2.2.2.2.2.2.2.1, ())))))))))))), ((⟨#[]⟩ : ByteArray), (false, ()))), ((), ((), ((), ()))))
else
j1)
else
some (((p1.1.1, (p1.1.2.1, (p1.1.2.2.1, (p1.1.2.2.2.1, (p1.1.2.2.2.2.1, (p1.1.2.2.2.2.2.1, (p1.1.2.2.2.2.2.2.1, (p1.1.2.2.2.2.2.2.2.1, (p1.1.2.2.2.2.2.2.2.2.1, (p1.1.2.2.2.2.2.2.2.2.2.1, (p1.1.2.2.2.2.2.2.2.2.2.2.1, (p1.1.2.2.2.2.2.2.2.2.2.2.2.1, ())))))))))))), ((⟨#[]⟩ : ByteArray), (false, ()))), ((), ((), ((), ())))))
else
some (((p1.1.1, (p1.1.2.1, (p1.1.2.2.1, (p1.1.2.2.2.1, (p1.1.2.2.2.2.1, (p1.1.2.2.2.2.2.1, (p1.1.2.2.2.2.2.2.1, (p1.1.2.2.2.2.2.2.2.1, (p1.1.2.2.2.2.2.2.2.2.1, (p1.1.2.2.2.2.2.2.2.2.2.1, (p1.1.2.2.2.2.2.2.2.2.2.2.1, (p1.1.2.2.2.2.2.2.2.2.2.2.2.1, ())))))))))))), ((⟨#[]⟩ : ByteArray), (false, ()))), ((), ((), ((), ())))))
else
((qDb k ((p1.1.1, (p1.1.2.1, (p1.1.2.2.1, (p1.1.2.2.2.1, (p1.1.2.2.2.2.1, (p1.1.2.2.2.2.2.1, (p1.1.2.2.2.2.2.2.1, (p1.1.2.2.2.2.2.2.2.1, (p1.1.2.2.2.2.2.2.2.2.1, (p1.1.2.2.2.2.2.2.2.2.2.1, (p1.1.2.2.2.2.2.2.2.2.2.2.1, (p1.1.2.2.2.2.2.2.2.2.2.2.2.1, ())))))))))))), ((x.2.1.1, (x.2.1.2.1, (x.2.1.2.2.1, (x.2.1.2.2.2.1, (x.2.1.2.2.2.2.1, (x.2.1.2.2.2.2.2.1, (x.2.1.2.2.2.2.2.2.1, ()))))))), ()))).bind fun p6 =>
some (((p6.2.1.1, (p6.2.1.2.1, (p6.2.1.2.2.1, (p6.2.1.2.2.2.1, (p6.2.1.2.2.2.2.1, (p6.2.1.2.2.2.2.2.1, (p6.2.1.2.2.2.2.2.2.1, (p6.2.1.2.2.2.2.2.2.2.1, (p6.2.1.2.2.2.2.2.2.2.2.1, (p6.2.1.2.2.2.2.2.2.2.2.2.1, (p6.2.1.2.2.2.2.2.2.2.2.2.2.1, (p6.2.1.2.2.2.2.2.2.2.2.2.2.2.1, ())))))))))))), (p6.1.1, (p6.1.2.1, ()))), ((), ((), ((), ()))))))
else
(if (decide (x.1.2.2.2.2.2.2.1 = (0 : Int))) = false then
(if (!decide ((Int.tmod x.1.2.2.2.2.2.2.1 (8 : Int)) = x.2.1.2.1)) = false then
(if (decide (x.1.2.2.2.2.2.2.2.2.2.2.2.1 ≤ x.2.2.1)) = true then
some (((p1.1.1, (p1.1.2.1, (p1.1.2.2.1, (p1.1.2.2.2.1, (p1.1.2.2.2.2.1, (p1.1.2.2.2.2.2.1, (p1.1.2.2.2.2.2.2.1, (p1.1.2.2.2.2.2.2.2.1, (p1.1.2.2.2.2.2.2.2.2.1, (p1.1.2.2.2.2.2.2.2.2.2.1, (p1.1.2.2.2.2.2.2.2.2.2.2.1, (p1.1.2.2.2.2.2.2.2.2.2.2.2.1, ())))))))))))), ((⟨#[]⟩ : ByteArray), (false, ()))), ((), ((), ((), ()))))
else
j1)
else
some (((p1.1.1, (p1.1.2.1, (p1.1.2.2.1, (p1.1.2.2.2.1, (p1.1.2.2.2.2.1, (p1.1.2.2.2.2.2.1, (p1.1.2.2.2.2.2.2.1, (p1.1.2.2.2.2.2.2.2.1, (p1.1.2.2.2.2.2.2.2.2.1, (p1.1.2.2.2.2.2.2.2.2.2.1, (p1.1.2.2.2.2.2.2.2.2.2.2.1, (p1.1.2.2.2.2.2.2.2.2.2.2.2.1, ())))))))))))), ((⟨#[]⟩ : ByteArray), (false, ()))), ((), ((), ((), ())))))
else
some (((p1.1.1, (p1.1.2.1, (p1.1.2.2.1, (p1.1.2.2.2.1, (p1.1.2.2.2.2.1, (p1.1.2.2.2.2.2.1, (p1.1.2.2.2.2.2.2.1, (p1.1.2.2.2.2.2.2.2.1, (p1.1.2.2.2.2.2.2.2.2.1, (p1.1.2.2.2.2.2.2.2.2.2.1, (p1.1.2.2.2.2.2.2.2.2.2.2.1, (p1.1.2.2.2.2.2.2.2.2.2.2.2.1, ())))))))))))), ((⟨#[]⟩ : ByteArray), (false, ()))), ((), ((), ((), ())))))))))
else
some (((p1.1.1, (p1.1.2.1, (p1.1.2.2.1, (p1.1.2.2.2.1, (p1.1.2.2.2.2.1, (p1.1.2.2.2.2.2.1, (p1.1.2.2.2.2.2.2.1, (p1.1.2.2.2.2.2.2.2.1, (p1.1.2.2.2.2.2.2.2.2.1, (p1.1.2.2.2.2.2.2.2.2.2.1, (p1.1.2.2.2.2.2.2.2.2.2.2.1, (p1.1.2.2.2.2.2.2.2.2.2.2.2.1, ())))))))))))), ((⟨#[]⟩ : ByteArray), (false, ()))), ((), ((), ((), ()))))))
else
some (((p1.1.1, (p1.1.2.1, (p1.1.2.2.1, (p1.1.2.2.2.1, (p1.1.2.2.2.2.1, (p1.1.2.2.2.2.2.1, (p1.1.2.2.2.2.2.2.1, (p1.1.2.2.2.2.2.2.2.1, (p1.1.2.2.2.2.2.2.2.2.1, (p1.1.2.2.2.2.2.2.2.2.2.1, (p1.1.2.2.2.2.2.2.2.2.2.2.1, (p1.1.2.2.2.2.2.2.2.2.2.2.2.1, ())))))))))))), ((⟨#[]⟩ : ByteArray), (false, ()))), ((), ((), ((), ())))))))
abbrev E_i_OpenData (k : Nat) : qAI := ⟨116, 0, (.cons yP4 (.cons (.agg yP5) yP2)), (.tup (.cons (.agg yP8) yP14)), qEX k⟩
theorem t_i_OpenData (k : Nat) (x) : evF TTab k [qEl k, E_i_SlotsOk k, E_i_PacketOk k, qHy k, qFz k] [] Tryz.f116 (.cons yP4 (.cons (.agg yP5) yP2)) (.tup (.cons (.agg yP8) yP14)) x = qEX k x := by kernel_rfl
theorem e_i_OpenData [Names] (k : Nat) : qAD Tryz.prog (E_i_OpenData k) := qAC tok (qAB (qHU k) (qAB (e_i_SlotsOk k) (qAB (e_i_PacketOk k) (qAB (e_i_openIn_v1 k) (qAB (e_i_openIn_at_6 k) qAF))))) (by kernel_rfl) (by kernel_rfl) (by kernel_rfl) fun x r h => (t_i_OpenData k x).trans h
def qEY (k : Nat) (x : ByteArray × Unit) : Option ((Int × Int × Int × ByteArray × Bool × Unit) × Unit × Unit) :=
(if (decide ((ByteArray.size x.1 : Int) < (3 : Int))) = false then
(if 0 ≤ (2 : Int) ∧ (2 : Int) < (ByteArray.size x.1 : Int) then
((qAn k ((wi64 ((bt x.1 (2 : Int)))), ((1 : Int), ((15 : Int), ())))).bind fun p1 =>
(if (!p1.1) = false then
(if 0 ≤ (1 : Int) ∧ (1 : Int) < (ByteArray.size x.1 : Int) then
(if 0 ≤ (2 : Int) ∧ (2 : Int) < (ByteArray.size x.1 : Int) then
(if (decide ((bt x.1 (2 : Int)) ≤ (bt x.1 (1 : Int)))) = true then
some (((0 : Int), ((0 : Int), ((0 : Int), ((⟨#[]⟩ : ByteArray), (false, ()))))), ((), ()))
else
(if 0 ≤ (0 : Int) ∧ (0 : Int) < (ByteArray.size x.1 : Int) then
(if 0 ≤ (1 : Int) ∧ (1 : Int) < (ByteArray.size x.1 : Int) then
(if 0 ≤ (2 : Int) ∧ (2 : Int) < (ByteArray.size x.1 : Int) then
(if 0 ≤ (3 : Int) ∧ (3 : Int) ≤ (ByteArray.size x.1 : Int) then
some (((wi64 ((bt x.1 (0 : Int)))), ((wi64 ((bt x.1 (1 : Int)))), ((wi64 ((bt x.1 (2 : Int)))), ((ByteArray.extract x.1 (Int.toNat (3 : Int)) (Int.toNat (ByteArray.size x.1 : Int))), (true, ()))))), ((), ()))
else none)
else none)
else none)
else none))
else none)
else none)
else
some (((0 : Int), ((0 : Int), ((0 : Int), ((⟨#[]⟩ : ByteArray), (false, ()))))), ((), ()))))
else none)
else
some (((0 : Int), ((0 : Int), ((0 : Int), ((⟨#[]⟩ : ByteArray), (false, ()))))), ((), ())))
abbrev E_i_ReadPart (k : Nat) : qAI := ⟨201, 0, (.cons .str .nil), (.tup (.cons (.int .i64) (.cons (.int .i64) (.cons (.int .i64) yP14)))), qEY k⟩
theorem t_i_ReadPart (k : Nat) (x) : evF TTab k [qBB k] [] Tryz.f201 (.cons .str .nil) (.tup (.cons (.int .i64) (.cons (.int .i64) (.cons (.int .i64) yP14)))) x = qEY k x := by kernel_rfl
theorem e_i_ReadPart [Names] (k : Nat) : qAD Tryz.prog (E_i_ReadPart k) := qAC tok (qAB (qBG k) qAF) (by kernel_rfl) (by kernel_rfl) (by kernel_rfl) fun x r h => (t_i_ReadPart k x).trans h
def qEZ (k : Nat) (x : (Int × Int × Int × List (ByteArray) × List (Bool) × Int × Unit) × (Int × Unit) × (Int × Unit) × Unit) : Option (Bool × Unit × (Int × Unit) × (Int × Unit) × Unit) :=
(if (decide (x.1.1 = x.2.1.1)) = true then
some ((decide (x.1.2.1 = x.2.2.1.1)), ((), ((x.2.1.1, ()), ((x.2.2.1.1, ()), ()))))
else
some (false, ((), ((x.2.1.1, ()), ((x.2.2.1.1, ()), ())))))
abbrev E_i_heldAt_1 (k : Nat) : qAI := ⟨270, 0, (.cons (.agg yP9) (.cons (.ptr 0 yP2) (.cons (.ptr 0 yP2) .nil))), .bool, qEZ k⟩
theorem t_i_heldAt_1 (k : Nat) (x) : evF qCs k [] [] Tryz.f270 (.cons (.agg yP9) (.cons (.ptr 0 yP2) (.cons (.ptr 0 yP2) .nil))) .bool x = qEZ k x := by kernel_rfl
theorem e_i_heldAt_1 [Names] (k : Nat) : qAD Tryz.prog (E_i_heldAt_1 k) := qAC tokO qAF (by kernel_rfl) (by kernel_rfl) (by kernel_rfl) fun x r h => (t_i_heldAt_1 k x).trans h
def qAQ (k : Nat) (x : (List (Int × Int × Int × List (ByteArray) × List (Bool) × Int)) × ((Int × Unit) × (Int × Unit) × Unit) × Unit) : Option (Int × Unit × ((Int × Unit) × (Int × Unit) × Unit) × Unit) :=
(qAG (fun (rec0 : ((List (Int × Int × Int × List (ByteArray) × List (Bool) × Int)) × ((Int × Unit) × (Int × Unit) × Unit) × Int × Int × Unit) → Option _) (y0 : (List (Int × Int × Int × List (ByteArray) × List (Bool) × Int)) × ((Int × Unit) × (Int × Unit) × Unit) × Int × Int × Unit) =>
(if (decide (y0.2.2.2.1 < y0.2.2.1)) = true then
(if 0 ≤ y0.2.2.2.1 ∧ y0.2.2.2.1 < (List.length y0.1 : Int) then
((qEZ k (((Ty.rd (t := yT0) y0.1 y0.2.2.2.1).1, ((Ty.rd (t := yT0) y0.1 y0.2.2.2.1).2.1, ((Ty.rd (t := yT0) y0.1 y0.2.2.2.1).2.2.1, ((Ty.rd (t := yT0) y0.1 y0.2.2.2.1).2.2.2.1, ((Ty.rd (t := yT0) y0.1 y0.2.2.2.1).2.2.2.2.1, ((Ty.rd (t := yT0) y0.1 y0.2.2.2.1).2.2.2.2.2, ())))))), ((y0.2.1.1.1, ()), ((y0.2.1.2.1.1, ()), ())))).bind fun p1 =>
(if p1.1 = true then
some (y0.2.2.2.1, ((), (((p1.2.2.1.1, ()), ((p1.2.2.2.1.1, ()), ())), ())))
else
(rec0 (y0.1, (((p1.2.2.1.1, ()), ((p1.2.2.2.1.1, ()), ())), (y0.2.2.1, ((wi64 (y0.2.2.2.1 + (1 : Int))), ())))))))
else none)
else
((fun (z1 : ((Int × Unit) × (Int × Unit) × Unit) × Unit) =>
some ((-1 : Int), ((), (((z1.1.1.1, ()), ((z1.1.2.1.1, ()), ())), ())))) (((y0.2.1.1.1, ()), ((y0.2.1.2.1.1, ()), ())), ())))) k (x.1, (((x.2.1.1.1, ()), ((x.2.1.2.1.1, ()), ())), ((List.length x.1 : Int), ((0 : Int), ())))))
abbrev qAd (k : Nat) : qAI := ⟨269, 271, (.cons (.il true yT0) (.cons (.fn 270 (.cons (.ptr 0 yP2) (.cons (.ptr 0 yP2) .nil))) .nil)), (.int .i64), qAQ k⟩
theorem qA3 (k : Nat) (x) : evF qCs k [E_i_heldAt_1 k] [(0, ⟨[0, 1, 7, 8], (.cons (.il true yT0) (.cons (.fn 270 (.cons (.ptr 0 yP2) (.cons (.ptr 0 yP2) .nil))) (.cons (.int .i64) yP2)))⟩, ⟨[1], (.cons (.fn 270 (.cons (.ptr 0 yP2) (.cons (.ptr 0 yP2) .nil))) .nil)⟩)] Tryz.f269 (.cons (.il true yT0) (.cons (.fn 270 (.cons (.ptr 0 yP2) (.cons (.ptr 0 yP2) .nil))) .nil)) (.int .i64) x = qAQ k x := by kernel_rfl
theorem qA4 [Names] (k : Nat) : qAD Tryz.prog (qAd k) := qAC tokO (qAB (e_i_heldAt_1 k) qAF) (by kernel_rfl) (by kernel_rfl) (by kernel_rfl) fun x r h => (qA3 k x).trans h
def qGT (k : Nat) (x : ((List (Int × Int × Int × List (ByteArray) × List (Bool) × Int)) × Unit) × Int × Int × Unit) : Option (Int × Unit × Unit × Unit × Unit) :=
((qAQ k (x.1.1, (((x.2.1, ()), ((x.2.2.1, ()), ())), ()))).bind fun p1 =>
some (p1.1, ((), ((), ((), ())))))
abbrev E_i_heldAt (k : Nat) : qAI := ⟨203, 0, (.cons (.agg yP13) (.cons (.int .i64) yP2)), (.int .i64), qGT k⟩
theorem t_i_heldAt (k : Nat) (x) : evF qCs k [qAd k] [] Tryz.f203 (.cons (.agg yP13) (.cons (.int .i64) yP2)) (.int .i64) x = qGT k x := by kernel_rfl
theorem e_i_heldAt [Names] (k : Nat) : qAD Tryz.prog (E_i_heldAt k) := qAC tokO (qAB (qA4 k) qAF) (by kernel_rfl) (by kernel_rfl) (by kernel_rfl) fun x r h => (t_i_heldAt k x).trans h
def qHz (k : Nat) (x : (Int × Int × Int × List (ByteArray) × List (Bool) × Int × Unit) × Unit) : Option (Bool × Unit × Unit) :=
((i_isId k (x.1.1, ())).bind fun p1 =>
(if (!p1.1) = false then
((qAn k (x.1.2.1, ((0 : Int), ((255 : Int), ())))).bind fun p2 =>
(if (!p2.1) = false then
((qAn k (x.1.2.2.1, ((2 : Int), ((15 : Int), ())))).bind fun p3 =>
(if (!p3.1) = false then
(if (!decide ((List.length x.1.2.2.2.1 : Int) = x.1.2.2.1)) = false then
(if (!decide ((List.length x.1.2.2.2.2.1 : Int) = x.1.2.2.1)) = true then
some (false, ((), ()))
else
(qAG (fun (rec0 : ((Int × Int × Int × List (ByteArray) × List (Bool) × Int × Unit) × Int × List (Bool) × Int × Int × Unit) → Option _) (y0 : (Int × Int × Int × List (ByteArray) × List (Bool) × Int × Unit) × Int × List (Bool) × Int × Int × Unit) =>
(if (decide (y0.2.2.2.2.1 < y0.2.2.2.1)) = true then
(if 0 ≤ y0.2.2.2.2.1 ∧ y0.2.2.2.2.1 < (List.length y0.2.2.1 : Int) then
(if (Ty.rd (t := .bool) y0.2.2.1 y0.2.2.2.2.1) = true then
(if 0 ≤ y0.2.2.2.2.1 ∧ y0.2.2.2.2.1 < (List.length y0.1.2.2.2.1 : Int) then
(if (decide ((120 : Int) < (ByteArray.size (Ty.rd (t := .str) y0.1.2.2.2.1 y0.2.2.2.2.1) : Int))) = false then
(if (!(Ty.rd (t := .bool) y0.2.2.1 y0.2.2.2.2.1)) = true then
(if 0 ≤ y0.2.2.2.2.1 ∧ y0.2.2.2.2.1 < (List.length y0.1.2.2.2.1 : Int) then
(if (!decide ((Ty.rd (t := .str) y0.1.2.2.2.1 y0.2.2.2.2.1) = (⟨#[]⟩ : ByteArray))) = true then
some (false, ((), ()))
else
(rec0 ((y0.1.1, (y0.1.2.1, (y0.1.2.2.1, (y0.1.2.2.2.1, (y0.1.2.2.2.2.1, (y0.1.2.2.2.2.2.1, ())))))), ((wi64 (y0.2.1 + (1 : Int))), (y0.2.2.1, (y0.2.2.2.1, ((wi64 (y0.2.2.2.2.1 + (1 : Int))), ())))))))
else none)
else
(rec0 ((y0.1.1, (y0.1.2.1, (y0.1.2.2.1, (y0.1.2.2.2.1, (y0.1.2.2.2.2.1, (y0.1.2.2.2.2.2.1, ())))))), ((wi64 (y0.2.1 + (1 : Int))), (y0.2.2.1, (y0.2.2.2.1, ((wi64 (y0.2.2.2.2.1 + (1 : Int))), ())))))))
else
some (false, ((), ())))
else none)
else
(if 0 ≤ y0.2.2.2.2.1 ∧ y0.2.2.2.2.1 < (List.length y0.1.2.2.2.1 : Int) then
(if (decide ((120 : Int) < (ByteArray.size (Ty.rd (t := .str) y0.1.2.2.2.1 y0.2.2.2.2.1) : Int))) = false then
(if (!(Ty.rd (t := .bool) y0.2.2.1 y0.2.2.2.2.1)) = true then
(if 0 ≤ y0.2.2.2.2.1 ∧ y0.2.2.2.2.1 < (List.length y0.1.2.2.2.1 : Int) then
(if (!decide ((Ty.rd (t := .str) y0.1.2.2.2.1 y0.2.2.2.2.1) = (⟨#[]⟩ : ByteArray))) = true then
some (false, ((), ()))
else
(rec0 ((y0.1.1, (y0.1.2.1, (y0.1.2.2.1, (y0.1.2.2.2.1, (y0.1.2.2.2.2.1, (y0.1.2.2.2.2.2.1, ())))))), (y0.2.1, (y0.2.2.1, (y0.2.2.2.1, ((wi64 (y0.2.2.2.2.1 + (1 : Int))), ())))))))
else none)
else
(rec0 ((y0.1.1, (y0.1.2.1, (y0.1.2.2.1, (y0.1.2.2.2.1, (y0.1.2.2.2.2.1, (y0.1.2.2.2.2.2.1, ())))))), (y0.2.1, (y0.2.2.1, (y0.2.2.2.1, ((wi64 (y0.2.2.2.2.1 + (1 : Int))), ())))))))
else
some (false, ((), ())))
else none))
else none)
else
((fun (z1 : (Int × Int × Int × List (ByteArray) × List (Bool) × Int × Unit) × Int × Unit) =>
((qAn k (z1.2.1, ((1 : Int), ((wi64 (z1.1.2.2.1 - (1 : Int))), ())))).bind fun p4 =>
(if p4.1 = true then
((qAn k (z1.1.2.2.2.2.2.1, ((0 : Int), ((1000000000 : Int), ())))).bind fun p5 =>
some (p5.1, ((), ())))
else
some (false, ((), ()))))) ((y0.1.1, (y0.1.2.1, (y0.1.2.2.1, (y0.1.2.2.2.1, (y0.1.2.2.2.2.1, (y0.1.2.2.2.2.2.1, ())))))), (y0.2.1, ()))))) k ((x.1.1, (x.1.2.1, (x.1.2.2.1, (x.1.2.2.2.1, (x.1.2.2.2.2.1, (x.1.2.2.2.2.2.1, ())))))), ((0 : Int), (x.1.2.2.2.2.1, ((List.length x.1.2.2.2.2.1 : Int), ((0 : Int), ())))))))
else
some (false, ((), ())))
else
some (false, ((), ()))))
else
some (false, ((), ()))))
else
some (false, ((), ()))))
abbrev E_i_heldOk (k : Nat) : qAI := ⟨268, 0, (.cons (.agg yP9) .nil), .bool, qHz k⟩
theorem t_i_heldOk (k : Nat) (x) : evF TTab k [qBB k, E_i_isId k] [(0, ⟨[1, 3, 39, 40, 41], (.cons (.ptr 0 yP9) (.cons (.int .i64) (.cons (.il true .bool) (.cons (.int .i64) yP2))))⟩, ⟨[1, 3], (.cons (.ptr 0 yP9) yP2)⟩)] Tryz.f268 (.cons (.agg yP9) .nil) .bool x = qHz k x := by kernel_rfl
theorem e_i_heldOk [Names] (k : Nat) : qAD Tryz.prog (E_i_heldOk k) := qAC tok (qAB (qBG k) (qAB (e_i_isId k) qAF)) (by kernel_rfl) (by kernel_rfl) (by kernel_rfl) fun x r h => (t_i_heldOk k x).trans h
def qF0 (k : Nat) (x : ((List (Int × Int × Int × List (ByteArray) × List (Bool) × Int)) × Unit) × Unit) : Option (Bool × Unit × Unit) :=
(qAG (fun (rec0 : (((List (Int × Int × Int × List (ByteArray) × List (Bool) × Int)) × Unit) × (List (Int × Int × Int × List (ByteArray) × List (Bool) × Int)) × Int × Int × Unit) → Option _) (y0 : ((List (Int × Int × Int × List (ByteArray) × List (Bool) × Int)) × Unit) × (List (Int × Int × Int × List (ByteArray) × List (Bool) × Int)) × Int × Int × Unit) =>
(if (decide (y0.2.2.2.1 < y0.2.2.1)) = true then
(if 0 ≤ y0.2.2.2.1 ∧ y0.2.2.2.1 < (List.length y0.2.1 : Int) then
((qHz k (((Ty.rd (t := yT0) y0.2.1 y0.2.2.2.1).1, ((Ty.rd (t := yT0) y0.2.1 y0.2.2.2.1).2.1, ((Ty.rd (t := yT0) y0.2.1 y0.2.2.2.1).2.2.1, ((Ty.rd (t := yT0) y0.2.1 y0.2.2.2.1).2.2.2.1, ((Ty.rd (t := yT0) y0.2.1 y0.2.2.2.1).2.2.2.2.1, ((Ty.rd (t := yT0) y0.2.1 y0.2.2.2.1).2.2.2.2.2, ())))))), ())).bind fun p1 =>
(if (!p1.1) = false then
((qGT k ((y0.1.1, ()), ((Ty.rd (t := yT0) y0.2.1 y0.2.2.2.1).1, ((Ty.rd (t := yT0) y0.2.1 y0.2.2.2.1).2.1, ())))).bind fun p2 =>
(if (!decide (p2.1 = y0.2.2.2.1)) = true then
some (false, ((), ()))
else
(rec0 ((y0.1.1, ()), (y0.2.1, (y0.2.2.1, ((wi64 (y0.2.2.2.1 + (1 : Int))), ())))))))
else
some (false, ((), ()))))
else none)
else
((fun (z1 : ((List (Int × Int × Int × List (ByteArray) × List (Bool) × Int)) × Unit) × Unit) =>
some ((decide ((List.length z1.1.1 : Int) ≤ (3 : Int))), ((), ()))) ((y0.1.1, ()), ())))) k ((x.1.1, ()), (x.1.1, ((List.length x.1.1 : Int), ((0 : Int), ())))))
abbrev E_i_ShelfOk (k : Nat) : qAI := ⟨202, 0, (.cons (.agg yP13) .nil), .bool, qF0 k⟩
theorem t_i_ShelfOk (k : Nat) (x) : evF qCs k [E_i_heldAt k, E_i_heldOk k] [(0, ⟨[1, 6, 7, 8], (.cons (.ptr 0 yP13) (.cons (.il true yT0) (.cons (.int .i64) yP2)))⟩, ⟨[1], (.cons (.ptr 0 yP13) .nil)⟩)] Tryz.f202 (.cons (.agg yP13) .nil) .bool x = qF0 k x := by kernel_rfl
theorem e_i_ShelfOk [Names] (k : Nat) : qAD Tryz.prog (E_i_ShelfOk k) := qAC tokO (qAB (e_i_heldAt k) (qAB (e_i_heldOk k) qAF)) (by kernel_rfl) (by kernel_rfl) (by kernel_rfl) fun x r h => (t_i_ShelfOk k x).trans h
def qAT (k : Nat) (x : (List (Int × Int × Int × Nat × Nat × Int)) × Int × Int × Unit) : Option ((List (Int × Int × Int × Nat × Nat × Int)) × Unit × Unit × Unit × Unit) :=
(if 0 ≤ (List.length x.1 : Int) ∧ (List.length x.1 : Int) ≤ (List.length x.1 : Int) then
(if 0 ≤ x.2.2.1 ∧ x.2.2.1 ≤ (List.length x.1 : Int) then
(if 0 ≤ x.2.1 ∧ x.2.1 ≤ x.2.2.1 then
(if (decide (x.2.1 = x.2.2.1)) = true then
some (x.1, ((), ((), ((), ()))))
else
(if 0 ≤ x.2.1 ∧ x.2.1 ≤ (List.length x.1 : Int) then
(if 0 ≤ x.2.2.1 ∧ x.2.2.1 ≤ (List.length x.1 : Int) then
(if x.2.1 + List.length (List.drop (Int.toNat x.2.2.1) (List.take (Int.toNat (List.length x.1 : Int)) x.1)) ≤ List.length x.1 ∧ x.2.1 - (0 : Int) + List.length (List.drop (Int.toNat x.2.2.1) (List.take (Int.toNat (List.length x.1 : Int)) x.1)) ≤ capMax then
(if 0 ≤ (List.length x.1 : Int) ∧ (List.length x.1 : Int) ≤ ((List.length (List.take (Int.toNat x.2.1) x.1 ++ ((List.drop (Int.toNat x.2.2.1) (List.take (Int.toNat (List.length x.1 : Int)) x.1)) ++ List.drop (Int.toNat x.2.1 + List.length (List.drop (Int.toNat x.2.2.1) (List.take (Int.toNat (List.length x.1 : Int)) x.1))) x.1)) : Int) - (0 : Int)) then
(if 0 ≤ ((x.2.1 + List.length (List.drop (Int.toNat x.2.2.1) (List.take (Int.toNat (List.length x.1 : Int)) x.1))) - (0 : Int)) ∧ ((x.2.1 + List.length (List.drop (Int.toNat x.2.2.1) (List.take (Int.toNat (List.length x.1 : Int)) x.1))) - (0 : Int)) ≤ (List.length x.1 : Int) then
some ((List.drop (Int.toNat (0 : Int)) (List.take (Int.toNat (x.2.1 + List.length (List.drop (Int.toNat x.2.2.1) (List.take (Int.toNat (List.length x.1 : Int)) x.1)))) (List.take (Int.toNat ((0 : Int) + ((x.2.1 + List.length (List.drop (Int.toNat x.2.2.1) (List.take (Int.toNat (List.length x.1 : Int)) x.1))) - (0 : Int)))) (List.take (Int.toNat x.2.1) x.1 ++ ((List.drop (Int.toNat x.2.2.1) (List.take (Int.toNat (List.length x.1 : Int)) x.1)) ++ List.drop (Int.toNat x.2.1 + List.length (List.drop (Int.toNat x.2.2.1) (List.take (Int.toNat (List.length x.1 : Int)) x.1))) x.1)) ++ (List.replicate (Int.toNat (((0 : Int) + (List.length x.1 : Int)) - ((0 : Int) + ((x.2.1 + List.length (List.drop (Int.toNat x.2.2.1) (List.take (Int.toNat (List.length x.1 : Int)) x.1))) - (0 : Int))))) ((0 : Int), ((0 : Int), ((0 : Int), ((0 : Nat), ((0 : Nat), (0 : Int)))))) ++ List.drop (Int.toNat ((0 : Int) + (List.length x.1 : Int))) (List.take (Int.toNat x.2.1) x.1 ++ ((List.drop (Int.toNat x.2.2.1) (List.take (Int.toNat (List.length x.1 : Int)) x.1)) ++ List.drop (Int.toNat x.2.1 + List.length (List.drop (Int.toNat x.2.2.1) (List.take (Int.toNat (List.length x.1 : Int)) x.1))) x.1)))))), ((), ((), ((), ()))))
else none)
else none)
else none)
else none)
else none))
else none)
else none)
else none)
abbrev qBs (k : Nat) : qAI := ⟨204, 0, (.cons (.own false 229 (.pair (.int .i64) (.pair (.int .i64) (.pair (.int .i64) (.pair .nm (.pair .nm (.int .i64))))))) (.cons (.int .i64) yP2)), (.own false 229 (.pair (.int .i64) (.pair (.int .i64) (.pair (.int .i64) (.pair .nm (.pair .nm (.int .i64))))))), qAT k⟩
theorem qBt (k : Nat) (x) : evF TTabN k [] [] Tryz.f204 (.cons (.own false 229 (.pair (.int .i64) (.pair (.int .i64) (.pair (.int .i64) (.pair .nm (.pair .nm (.int .i64))))))) (.cons (.int .i64) yP2)) (.own false 229 (.pair (.int .i64) (.pair (.int .i64) (.pair (.int .i64) (.pair .nm (.pair .nm (.int .i64))))))) x = qAT k x := by kernel_rfl
theorem qBu [Names] (k : Nat) : qAD Tryz.prog (qBs k) := qAC tokN qAF (by kernel_rfl) (by kernel_rfl) (by kernel_rfl) fun x r h => (qBt k x).trans h
def qAJ (k : Nat) (x : (List (Int × Int × Int × List (ByteArray) × List (Bool) × Int)) × Int × Int × Unit) : Option ((List (Int × Int × Int × List (ByteArray) × List (Bool) × Int)) × Unit × Unit × Unit × Unit) :=
treeF yT1 (qAT k) x
abbrev qA5 (k : Nat) : qAI := ⟨204, 0, (.cons (.own false 229 yT1) (.cons (.int .i64) yP2)), (.own false 229 yT1), qAJ k⟩
theorem qB0 [Names] (k : Nat) : qAD Tryz.prog (qA5 k) := names_entry (t := yT1) (by kernel_rfl) (by kernel_rfl) (fun N => @qBu N k) inferInstance
def qAl (k : Nat) (x : List (Bool) × Bool × Unit) : Option (Int × Unit × Unit × Unit) :=
(qAG (fun (rec0 : (List (Bool) × Bool × Int × Int × Unit) → Option _) (y0 : List (Bool) × Bool × Int × Int × Unit) =>
(if (decide (y0.2.2.2.1 < y0.2.2.1)) = true then
(if 0 ≤ y0.2.2.2.1 ∧ y0.2.2.2.1 < (List.length y0.1 : Int) then
(if (decide (y0.2.1 = (Ty.rd (t := .bool) y0.1 y0.2.2.2.1))) = true then
some (y0.2.2.2.1, ((), ((), ())))
else
(rec0 (y0.1, (y0.2.1, (y0.2.2.1, ((wi64 (y0.2.2.2.1 + (1 : Int))), ()))))))
else none)
else
((fun (z1 : Unit) =>
some ((-1 : Int), ((), ((), ())))) ()))) k (x.1, (x.2.1, ((List.length x.1 : Int), ((0 : Int), ())))))
abbrev qBz (k : Nat) : qAI := ⟨271, 0, (.cons (.il true .bool) (.cons .bool .nil)), (.int .i64), qAl k⟩
theorem qDl (k : Nat) (x) : evF TTab k [] [(0, ⟨[0, 1, 7, 8], (.cons (.il true .bool) (.cons .bool (.cons (.int .i64) yP2)))⟩, ⟨[], .nil⟩)] Tryz.f271 (.cons (.il true .bool) (.cons .bool .nil)) (.int .i64) x = qAl k x := by kernel_rfl
theorem qDm [Names] (k : Nat) : qAD Tryz.prog (qBz k) := qAC tok qAF (by kernel_rfl) (by kernel_rfl) (by kernel_rfl) fun x r h => (qDl k x).trans h
end Go.Proofs.YtnfllchbpechlaaGreat
