import Derived.Test.YtnfllchbpechlaaGreatFun1
/- What functions of the program compute, as plain functions, and that their calls do so (part 2). Conditions: the plain function answers. -/
set_option linter.unusedVariables false
namespace Go.Proofs.YtnfllchbpechlaaGreat
open Go Go.Eng Go.Proofs
def i_round (k : Nat) (x : ByteArray × ByteArray × Unit) : Option (ByteArray × Unit × Unit × Unit) :=
((i_constants k ()).bind fun p1 =>
((i_expanded k (x.2.1, ())).bind fun p2 =>
((i_wordsOf k (x.1, ())).bind fun p3 =>
(if 0 ≤ (0 : Int) ∧ (0 : Int) < (List.length p3.1 : Int) then
(if 0 ≤ (1 : Int) ∧ (1 : Int) < (List.length p3.1 : Int) then
(if 0 ≤ (2 : Int) ∧ (2 : Int) < (List.length p3.1 : Int) then
(if 0 ≤ (3 : Int) ∧ (3 : Int) < (List.length p3.1 : Int) then
(if 0 ≤ (4 : Int) ∧ (4 : Int) < (List.length p3.1 : Int) then
(if 0 ≤ (5 : Int) ∧ (5 : Int) < (List.length p3.1 : Int) then
(if 0 ≤ (6 : Int) ∧ (6 : Int) < (List.length p3.1 : Int) then
(if 0 ≤ (7 : Int) ∧ (7 : Int) < (List.length p3.1 : Int) then
(whileK (fun (rec0 : ((Int × Int × Int × Int × Int × Int × Int × Int × Int × Int × Int × Int × Int × Int × Int × Int × Int × Int × Int × Int × Int × Int × Int × Int × Int × Int × Int × Int × Int × Int × Int × Int × Int × Int × Int × Int × Int × Int × Int × Int × Int × Int × Int × Int × Int × Int × Int × Int × Int × Int × Int × Int × Int × Int × Int × Int × Int × Int × Int × Int × Int × Int × Int × Int × Unit) × List (Int) × List (Int) × Int × Int × Int × Int × Int × Int × Int × Int × Int × Unit) → Option _) (y0 : (Int × Int × Int × Int × Int × Int × Int × Int × Int × Int × Int × Int × Int × Int × Int × Int × Int × Int × Int × Int × Int × Int × Int × Int × Int × Int × Int × Int × Int × Int × Int × Int × Int × Int × Int × Int × Int × Int × Int × Int × Int × Int × Int × Int × Int × Int × Int × Int × Int × Int × Int × Int × Int × Int × Int × Int × Int × Int × Int × Int × Int × Int × Int × Int × Unit) × List (Int) × List (Int) × Int × Int × Int × Int × Int × Int × Int × Int × Int × Unit) =>
(if (decide (y0.2.2.2.2.2.2.2.2.2.2.2.1 < (64 : Int))) = true then
((i_turnRight k (y0.2.2.2.2.2.2.2.1, ((6 : Int), ()))).bind fun p4 =>
((i_turnRight k (y0.2.2.2.2.2.2.2.1, ((11 : Int), ()))).bind fun p5 =>
((i_turnRight k (y0.2.2.2.2.2.2.2.1, ((25 : Int), ()))).bind fun p6 =>
(if 0 ≤ y0.2.2.2.2.2.2.2.2.2.2.2.1 ∧ y0.2.2.2.2.2.2.2.2.2.2.2.1 < (64 : Int) then
(if y0.2.2.2.2.2.2.2.2.2.2.2.1 < (List.length ([y0.1.1, y0.1.2.1, y0.1.2.2.1, y0.1.2.2.2.1, y0.1.2.2.2.2.1, y0.1.2.2.2.2.2.1, y0.1.2.2.2.2.2.2.1, y0.1.2.2.2.2.2.2.2.1, y0.1.2.2.2.2.2.2.2.2.1, y0.1.2.2.2.2.2.2.2.2.2.1, y0.1.2.2.2.2.2.2.2.2.2.2.1, y0.1.2.2.2.2.2.2.2.2.2.2.2.1, y0.1.2.2.2.2.2.2.2.2.2.2.2.2.1, y0.1.2.2.2.2.2.2.2.2.2.2.2.2.2.1, y0.1.2.2.2.2.2.2.2.2.2.2.2.2.2.2.1, y0.1.2.2.2.2.2.2.2.2.2.2.2.2.2.2.2.1, y0.1.2.2.2.2.2.2.2.2.2.2.2.2.2.2.2.2.1, y0.1.2.2.2.2.2.2.2.2.2.2.2.2.2.2.2.2.2.1, y0.1.2.2.2.2.2.2.2.2.2.2.2.2.2.2.2.2.2.2.1, y0.1.2.2.2.2.2.2.2.2.2.2.2.2.2.2.2.2.2.2.2.1, y0.1.2.2.2.2.2.2.2.2.2.2.2.2.2.2.2.2.2.2.2.2.1, y0.1.2.2.2.2.2.2.2.2.2.2.2.2.2.2.2.2.2.2.2.2.2.1, y0.1.2.2.2.2.2.2.2.2.2.2.2.2.2.2.2.2.2.2.2.2.2.2.1, y0.1.2.2.2.2.2.2.2.2.2.2.2.2.2.2.2.2.2.2.2.2.2.2.2.1, y0.1.2.2.2.2.2.2.2.2.2.2.2.2.2.2.2.2.2.2.2.2.2.2.2.2.1, y0.1.2.2.2.2.2.2.2.2.2.2.2.2.2.2.2.2.2.2.2.2.2.2.2.2.2.1, y0.1.2.2.2.2.2.2.2.2.2.2.2.2.2.2.2.2.2.2.2.2.2.2.2.2.2.2.1, y0.1.2.2.2.2.2.2.2.2.2.2.2.2.2.2.2.2.2.2.2.2.2.2.2.2.2.2.2.1, y0.1.2.2.2.2.2.2.2.2.2.2.2.2.2.2.2.2.2.2.2.2.2.2.2.2.2.2.2.2.1, y0.1.2.2.2.2.2.2.2.2.2.2.2.2.2.2.2.2.2.2.2.2.2.2.2.2.2.2.2.2.2.1, y0.1.2.2.2.2.2.2.2.2.2.2.2.2.2.2.2.2.2.2.2.2.2.2.2.2.2.2.2.2.2.2.1, y0.1.2.2.2.2.2.2.2.2.2.2.2.2.2.2.2.2.2.2.2.2.2.2.2.2.2.2.2.2.2.2.2.1, y0.1.2.2.2.2.2.2.2.2.2.2.2.2.2.2.2.2.2.2.2.2.2.2.2.2.2.2.2.2.2.2.2.2.1, y0.1.2.2.2.2.2.2.2.2.2.2.2.2.2.2.2.2.2.2.2.2.2.2.2.2.2.2.2.2.2.2.2.2.2.1, y0.1.2.2.2.2.2.2.2.2.2.2.2.2.2.2.2.2.2.2.2.2.2.2.2.2.2.2.2.2.2.2.2.2.2.2.1, y0.1.2.2.2.2.2.2.2.2.2.2.2.2.2.2.2.2.2.2.2.2.2.2.2.2.2.2.2.2.2.2.2.2.2.2.2.1, y0.1.2.2.2.2.2.2.2.2.2.2.2.2.2.2.2.2.2.2.2.2.2.2.2.2.2.2.2.2.2.2.2.2.2.2.2.2.1, y0.1.2.2.2.2.2.2.2.2.2.2.2.2.2.2.2.2.2.2.2.2.2.2.2.2.2.2.2.2.2.2.2.2.2.2.2.2.2.1, y0.1.2.2.2.2.2.2.2.2.2.2.2.2.2.2.2.2.2.2.2.2.2.2.2.2.2.2.2.2.2.2.2.2.2.2.2.2.2.2.1, y0.1.2.2.2.2.2.2.2.2.2.2.2.2.2.2.2.2.2.2.2.2.2.2.2.2.2.2.2.2.2.2.2.2.2.2.2.2.2.2.2.1, y0.1.2.2.2.2.2.2.2.2.2.2.2.2.2.2.2.2.2.2.2.2.2.2.2.2.2.2.2.2.2.2.2.2.2.2.2.2.2.2.2.2.1, y0.1.2.2.2.2.2.2.2.2.2.2.2.2.2.2.2.2.2.2.2.2.2.2.2.2.2.2.2.2.2.2.2.2.2.2.2.2.2.2.2.2.2.1, y0.1.2.2.2.2.2.2.2.2.2.2.2.2.2.2.2.2.2.2.2.2.2.2.2.2.2.2.2.2.2.2.2.2.2.2.2.2.2.2.2.2.2.2.1, y0.1.2.2.2.2.2.2.2.2.2.2.2.2.2.2.2.2.2.2.2.2.2.2.2.2.2.2.2.2.2.2.2.2.2.2.2.2.2.2.2.2.2.2.2.1, y0.1.2.2.2.2.2.2.2.2.2.2.2.2.2.2.2.2.2.2.2.2.2.2.2.2.2.2.2.2.2.2.2.2.2.2.2.2.2.2.2.2.2.2.2.2.1, y0.1.2.2.2.2.2.2.2.2.2.2.2.2.2.2.2.2.2.2.2.2.2.2.2.2.2.2.2.2.2.2.2.2.2.2.2.2.2.2.2.2.2.2.2.2.2.1, y0.1.2.2.2.2.2.2.2.2.2.2.2.2.2.2.2.2.2.2.2.2.2.2.2.2.2.2.2.2.2.2.2.2.2.2.2.2.2.2.2.2.2.2.2.2.2.2.1, y0.1.2.2.2.2.2.2.2.2.2.2.2.2.2.2.2.2.2.2.2.2.2.2.2.2.2.2.2.2.2.2.2.2.2.2.2.2.2.2.2.2.2.2.2.2.2.2.2.1, y0.1.2.2.2.2.2.2.2.2.2.2.2.2.2.2.2.2.2.2.2.2.2.2.2.2.2.2.2.2.2.2.2.2.2.2.2.2.2.2.2.2.2.2.2.2.2.2.2.2.1, y0.1.2.2.2.2.2.2.2.2.2.2.2.2.2.2.2.2.2.2.2.2.2.2.2.2.2.2.2.2.2.2.2.2.2.2.2.2.2.2.2.2.2.2.2.2.2.2.2.2.2.1, y0.1.2.2.2.2.2.2.2.2.2.2.2.2.2.2.2.2.2.2.2.2.2.2.2.2.2.2.2.2.2.2.2.2.2.2.2.2.2.2.2.2.2.2.2.2.2.2.2.2.2.2.1, y0.1.2.2.2.2.2.2.2.2.2.2.2.2.2.2.2.2.2.2.2.2.2.2.2.2.2.2.2.2.2.2.2.2.2.2.2.2.2.2.2.2.2.2.2.2.2.2.2.2.2.2.2.1, y0.1.2.2.2.2.2.2.2.2.2.2.2.2.2.2.2.2.2.2.2.2.2.2.2.2.2.2.2.2.2.2.2.2.2.2.2.2.2.2.2.2.2.2.2.2.2.2.2.2.2.2.2.2.1, y0.1.2.2.2.2.2.2.2.2.2.2.2.2.2.2.2.2.2.2.2.2.2.2.2.2.2.2.2.2.2.2.2.2.2.2.2.2.2.2.2.2.2.2.2.2.2.2.2.2.2.2.2.2.2.1, y0.1.2.2.2.2.2.2.2.2.2.2.2.2.2.2.2.2.2.2.2.2.2.2.2.2.2.2.2.2.2.2.2.2.2.2.2.2.2.2.2.2.2.2.2.2.2.2.2.2.2.2.2.2.2.2.1, y0.1.2.2.2.2.2.2.2.2.2.2.2.2.2.2.2.2.2.2.2.2.2.2.2.2.2.2.2.2.2.2.2.2.2.2.2.2.2.2.2.2.2.2.2.2.2.2.2.2.2.2.2.2.2.2.2.1, y0.1.2.2.2.2.2.2.2.2.2.2.2.2.2.2.2.2.2.2.2.2.2.2.2.2.2.2.2.2.2.2.2.2.2.2.2.2.2.2.2.2.2.2.2.2.2.2.2.2.2.2.2.2.2.2.2.2.1, y0.1.2.2.2.2.2.2.2.2.2.2.2.2.2.2.2.2.2.2.2.2.2.2.2.2.2.2.2.2.2.2.2.2.2.2.2.2.2.2.2.2.2.2.2.2.2.2.2.2.2.2.2.2.2.2.2.2.2.1, y0.1.2.2.2.2.2.2.2.2.2.2.2.2.2.2.2.2.2.2.2.2.2.2.2.2.2.2.2.2.2.2.2.2.2.2.2.2.2.2.2.2.2.2.2.2.2.2.2.2.2.2.2.2.2.2.2.2.2.2.1, y0.1.2.2.2.2.2.2.2.2.2.2.2.2.2.2.2.2.2.2.2.2.2.2.2.2.2.2.2.2.2.2.2.2.2.2.2.2.2.2.2.2.2.2.2.2.2.2.2.2.2.2.2.2.2.2.2.2.2.2.2.1, y0.1.2.2.2.2.2.2.2.2.2.2.2.2.2.2.2.2.2.2.2.2.2.2.2.2.2.2.2.2.2.2.2.2.2.2.2.2.2.2.2.2.2.2.2.2.2.2.2.2.2.2.2.2.2.2.2.2.2.2.2.2.1, y0.1.2.2.2.2.2.2.2.2.2.2.2.2.2.2.2.2.2.2.2.2.2.2.2.2.2.2.2.2.2.2.2.2.2.2.2.2.2.2.2.2.2.2.2.2.2.2.2.2.2.2.2.2.2.2.2.2.2.2.2.2.2.1, y0.1.2.2.2.2.2.2.2.2.2.2.2.2.2.2.2.2.2.2.2.2.2.2.2.2.2.2.2.2.2.2.2.2.2.2.2.2.2.2.2.2.2.2.2.2.2.2.2.2.2.2.2.2.2.2.2.2.2.2.2.2.2.2.1, y0.1.2.2.2.2.2.2.2.2.2.2.2.2.2.2.2.2.2.2.2.2.2.2.2.2.2.2.2.2.2.2.2.2.2.2.2.2.2.2.2.2.2.2.2.2.2.2.2.2.2.2.2.2.2.2.2.2.2.2.2.2.2.2.2.1] : List Int) : Int) then
(if 0 ≤ y0.2.2.2.2.2.2.2.2.2.2.2.1 ∧ y0.2.2.2.2.2.2.2.2.2.2.2.1 < (List.length y0.2.1 : Int) then
((i_turnRight k (y0.2.2.2.1, ((2 : Int), ()))).bind fun p7 =>
((i_turnRight k (y0.2.2.2.1, ((13 : Int), ()))).bind fun p8 =>
((i_turnRight k (y0.2.2.2.1, ((22 : Int), ()))).bind fun p9 =>
(rec0 (y0.1, (y0.2.1, (y0.2.2.1, ((bitsI .and .i64 (wi64 ((wi64 ((wi64 ((wi64 ((wi64 (y0.2.2.2.2.2.2.2.2.2.2.1 + (bitsI .xor .i64 (bitsI .xor .i64 p4.1 p5.1) p6.1))) + (bitsI .xor .i64 (bitsI .and .i64 y0.2.2.2.2.2.2.2.1 y0.2.2.2.2.2.2.2.2.1) (bitsI .and .i64 (bitsI .xor .i64 (4294967295 : Int) y0.2.2.2.2.2.2.2.1) y0.2.2.2.2.2.2.2.2.2.1)))) + (Ty.rd (t := .int .i64) ([y0.1.1, y0.1.2.1, y0.1.2.2.1, y0.1.2.2.2.1, y0.1.2.2.2.2.1, y0.1.2.2.2.2.2.1, y0.1.2.2.2.2.2.2.1, y0.1.2.2.2.2.2.2.2.1, y0.1.2.2.2.2.2.2.2.2.1, y0.1.2.2.2.2.2.2.2.2.2.1, y0.1.2.2.2.2.2.2.2.2.2.2.1, y0.1.2.2.2.2.2.2.2.2.2.2.2.1, y0.1.2.2.2.2.2.2.2.2.2.2.2.2.1, y0.1.2.2.2.2.2.2.2.2.2.2.2.2.2.1, y0.1.2.2.2.2.2.2.2.2.2.2.2.2.2.2.1, y0.1.2.2.2.2.2.2.2.2.2.2.2.2.2.2.2.1, y0.1.2.2.2.2.2.2.2.2.2.2.2.2.2.2.2.2.1, y0.1.2.2.2.2.2.2.2.2.2.2.2.2.2.2.2.2.2.1, y0.1.2.2.2.2.2.2.2.2.2.2.2.2.2.2.2.2.2.2.1, y0.1.2.2.2.2.2.2.2.2.2.2.2.2.2.2.2.2.2.2.2.1, y0.1.2.2.2.2.2.2.2.2.2.2.2.2.2.2.2.2.2.2.2.2.1, y0.1.2.2.2.2.2.2.2.2.2.2.2.2.2.2.2.2.2.2.2.2.2.1, y0.1.2.2.2.2.2.2.2.2.2.2.2.2.2.2.2.2.2.2.2.2.2.2.1, y0.1.2.2.2.2.2.2.2.2.2.2.2.2.2.2.2.2.2.2.2.2.2.2.2.1, y0.1.2.2.2.2.2.2.2.2.2.2.2.2.2.2.2.2.2.2.2.2.2.2.2.2.1, y0.1.2.2.2.2.2.2.2.2.2.2.2.2.2.2.2.2.2.2.2.2.2.2.2.2.2.1, y0.1.2.2.2.2.2.2.2.2.2.2.2.2.2.2.2.2.2.2.2.2.2.2.2.2.2.2.1, y0.1.2.2.2.2.2.2.2.2.2.2.2.2.2.2.2.2.2.2.2.2.2.2.2.2.2.2.2.1, y0.1.2.2.2.2.2.2.2.2.2.2.2.2.2.2.2.2.2.2.2.2.2.2.2.2.2.2.2.2.1, y0.1.2.2.2.2.2.2.2.2.2.2.2.2.2.2.2.2.2.2.2.2.2.2.2.2.2.2.2.2.2.1, y0.1.2.2.2.2.2.2.2.2.2.2.2.2.2.2.2.2.2.2.2.2.2.2.2.2.2.2.2.2.2.2.1, y0.1.2.2.2.2.2.2.2.2.2.2.2.2.2.2.2.2.2.2.2.2.2.2.2.2.2.2.2.2.2.2.2.1, y0.1.2.2.2.2.2.2.2.2.2.2.2.2.2.2.2.2.2.2.2.2.2.2.2.2.2.2.2.2.2.2.2.2.1, y0.1.2.2.2.2.2.2.2.2.2.2.2.2.2.2.2.2.2.2.2.2.2.2.2.2.2.2.2.2.2.2.2.2.2.1, y0.1.2.2.2.2.2.2.2.2.2.2.2.2.2.2.2.2.2.2.2.2.2.2.2.2.2.2.2.2.2.2.2.2.2.2.1, y0.1.2.2.2.2.2.2.2.2.2.2.2.2.2.2.2.2.2.2.2.2.2.2.2.2.2.2.2.2.2.2.2.2.2.2.2.1, y0.1.2.2.2.2.2.2.2.2.2.2.2.2.2.2.2.2.2.2.2.2.2.2.2.2.2.2.2.2.2.2.2.2.2.2.2.2.1, y0.1.2.2.2.2.2.2.2.2.2.2.2.2.2.2.2.2.2.2.2.2.2.2.2.2.2.2.2.2.2.2.2.2.2.2.2.2.2.1, y0.1.2.2.2.2.2.2.2.2.2.2.2.2.2.2.2.2.2.2.2.2.2.2.2.2.2.2.2.2.2.2.2.2.2.2.2.2.2.2.1, y0.1.2.2.2.2.2.2.2.2.2.2.2.2.2.2.2.2.2.2.2.2.2.2.2.2.2.2.2.2.2.2.2.2.2.2.2.2.2.2.2.1, y0.1.2.2.2.2.2.2.2.2.2.2.2.2.2.2.2.2.2.2.2.2.2.2.2.2.2.2.2.2.2.2.2.2.2.2.2.2.2.2.2.2.1, y0.1.2.2.2.2.2.2.2.2.2.2.2.2.2.2.2.2.2.2.2.2.2.2.2.2.2.2.2.2.2.2.2.2.2.2.2.2.2.2.2.2.2.1, y0.1.2.2.2.2.2.2.2.2.2.2.2.2.2.2.2.2.2.2.2.2.2.2.2.2.2.2.2.2.2.2.2.2.2.2.2.2.2.2.2.2.2.2.1, y0.1.2.2.2.2.2.2.2.2.2.2.2.2.2.2.2.2.2.2.2.2.2.2.2.2.2.2.2.2.2.2.2.2.2.2.2.2.2.2.2.2.2.2.2.1, y0.1.2.2.2.2.2.2.2.2.2.2.2.2.2.2.2.2.2.2.2.2.2.2.2.2.2.2.2.2.2.2.2.2.2.2.2.2.2.2.2.2.2.2.2.2.1, y0.1.2.2.2.2.2.2.2.2.2.2.2.2.2.2.2.2.2.2.2.2.2.2.2.2.2.2.2.2.2.2.2.2.2.2.2.2.2.2.2.2.2.2.2.2.2.1, y0.1.2.2.2.2.2.2.2.2.2.2.2.2.2.2.2.2.2.2.2.2.2.2.2.2.2.2.2.2.2.2.2.2.2.2.2.2.2.2.2.2.2.2.2.2.2.2.1, y0.1.2.2.2.2.2.2.2.2.2.2.2.2.2.2.2.2.2.2.2.2.2.2.2.2.2.2.2.2.2.2.2.2.2.2.2.2.2.2.2.2.2.2.2.2.2.2.2.1, y0.1.2.2.2.2.2.2.2.2.2.2.2.2.2.2.2.2.2.2.2.2.2.2.2.2.2.2.2.2.2.2.2.2.2.2.2.2.2.2.2.2.2.2.2.2.2.2.2.2.1, y0.1.2.2.2.2.2.2.2.2.2.2.2.2.2.2.2.2.2.2.2.2.2.2.2.2.2.2.2.2.2.2.2.2.2.2.2.2.2.2.2.2.2.2.2.2.2.2.2.2.2.1, y0.1.2.2.2.2.2.2.2.2.2.2.2.2.2.2.2.2.2.2.2.2.2.2.2.2.2.2.2.2.2.2.2.2.2.2.2.2.2.2.2.2.2.2.2.2.2.2.2.2.2.2.1, y0.1.2.2.2.2.2.2.2.2.2.2.2.2.2.2.2.2.2.2.2.2.2.2.2.2.2.2.2.2.2.2.2.2.2.2.2.2.2.2.2.2.2.2.2.2.2.2.2.2.2.2.2.1, y0.1.2.2.2.2.2.2.2.2.2.2.2.2.2.2.2.2.2.2.2.2.2.2.2.2.2.2.2.2.2.2.2.2.2.2.2.2.2.2.2.2.2.2.2.2.2.2.2.2.2.2.2.2.1, y0.1.2.2.2.2.2.2.2.2.2.2.2.2.2.2.2.2.2.2.2.2.2.2.2.2.2.2.2.2.2.2.2.2.2.2.2.2.2.2.2.2.2.2.2.2.2.2.2.2.2.2.2.2.2.1, y0.1.2.2.2.2.2.2.2.2.2.2.2.2.2.2.2.2.2.2.2.2.2.2.2.2.2.2.2.2.2.2.2.2.2.2.2.2.2.2.2.2.2.2.2.2.2.2.2.2.2.2.2.2.2.2.1, y0.1.2.2.2.2.2.2.2.2.2.2.2.2.2.2.2.2.2.2.2.2.2.2.2.2.2.2.2.2.2.2.2.2.2.2.2.2.2.2.2.2.2.2.2.2.2.2.2.2.2.2.2.2.2.2.2.1, y0.1.2.2.2.2.2.2.2.2.2.2.2.2.2.2.2.2.2.2.2.2.2.2.2.2.2.2.2.2.2.2.2.2.2.2.2.2.2.2.2.2.2.2.2.2.2.2.2.2.2.2.2.2.2.2.2.2.1, y0.1.2.2.2.2.2.2.2.2.2.2.2.2.2.2.2.2.2.2.2.2.2.2.2.2.2.2.2.2.2.2.2.2.2.2.2.2.2.2.2.2.2.2.2.2.2.2.2.2.2.2.2.2.2.2.2.2.2.1, y0.1.2.2.2.2.2.2.2.2.2.2.2.2.2.2.2.2.2.2.2.2.2.2.2.2.2.2.2.2.2.2.2.2.2.2.2.2.2.2.2.2.2.2.2.2.2.2.2.2.2.2.2.2.2.2.2.2.2.2.1, y0.1.2.2.2.2.2.2.2.2.2.2.2.2.2.2.2.2.2.2.2.2.2.2.2.2.2.2.2.2.2.2.2.2.2.2.2.2.2.2.2.2.2.2.2.2.2.2.2.2.2.2.2.2.2.2.2.2.2.2.2.1, y0.1.2.2.2.2.2.2.2.2.2.2.2.2.2.2.2.2.2.2.2.2.2.2.2.2.2.2.2.2.2.2.2.2.2.2.2.2.2.2.2.2.2.2.2.2.2.2.2.2.2.2.2.2.2.2.2.2.2.2.2.2.1, y0.1.2.2.2.2.2.2.2.2.2.2.2.2.2.2.2.2.2.2.2.2.2.2.2.2.2.2.2.2.2.2.2.2.2.2.2.2.2.2.2.2.2.2.2.2.2.2.2.2.2.2.2.2.2.2.2.2.2.2.2.2.2.1, y0.1.2.2.2.2.2.2.2.2.2.2.2.2.2.2.2.2.2.2.2.2.2.2.2.2.2.2.2.2.2.2.2.2.2.2.2.2.2.2.2.2.2.2.2.2.2.2.2.2.2.2.2.2.2.2.2.2.2.2.2.2.2.2.1, y0.1.2.2.2.2.2.2.2.2.2.2.2.2.2.2.2.2.2.2.2.2.2.2.2.2.2.2.2.2.2.2.2.2.2.2.2.2.2.2.2.2.2.2.2.2.2.2.2.2.2.2.2.2.2.2.2.2.2.2.2.2.2.2.2.1] : List Int) y0.2.2.2.2.2.2.2.2.2.2.2.1))) + (Ty.rd (t := (.int .i64)) y0.2.1 y0.2.2.2.2.2.2.2.2.2.2.2.1))) + (wi64 ((bitsI .xor .i64 (bitsI .xor .i64 p7.1 p8.1) p9.1) + (bitsI .xor .i64 (bitsI .xor .i64 (bitsI .and .i64 y0.2.2.2.1 y0.2.2.2.2.1) (bitsI .and .i64 y0.2.2.2.1 y0.2.2.2.2.2.1)) (bitsI .and .i64 y0.2.2.2.2.1 y0.2.2.2.2.2.1)))))) (4294967295 : Int)), (y0.2.2.2.1, (y0.2.2.2.2.1, (y0.2.2.2.2.2.1, ((bitsI .and .i64 (wi64 (y0.2.2.2.2.2.2.1 + (wi64 ((wi64 ((wi64 ((wi64 (y0.2.2.2.2.2.2.2.2.2.2.1 + (bitsI .xor .i64 (bitsI .xor .i64 p4.1 p5.1) p6.1))) + (bitsI .xor .i64 (bitsI .and .i64 y0.2.2.2.2.2.2.2.1 y0.2.2.2.2.2.2.2.2.1) (bitsI .and .i64 (bitsI .xor .i64 (4294967295 : Int) y0.2.2.2.2.2.2.2.1) y0.2.2.2.2.2.2.2.2.2.1)))) + (Ty.rd (t := .int .i64) ([y0.1.1, y0.1.2.1, y0.1.2.2.1, y0.1.2.2.2.1, y0.1.2.2.2.2.1, y0.1.2.2.2.2.2.1, y0.1.2.2.2.2.2.2.1, y0.1.2.2.2.2.2.2.2.1, y0.1.2.2.2.2.2.2.2.2.1, y0.1.2.2.2.2.2.2.2.2.2.1, y0.1.2.2.2.2.2.2.2.2.2.2.1, y0.1.2.2.2.2.2.2.2.2.2.2.2.1, y0.1.2.2.2.2.2.2.2.2.2.2.2.2.1, y0.1.2.2.2.2.2.2.2.2.2.2.2.2.2.1, y0.1.2.2.2.2.2.2.2.2.2.2.2.2.2.2.1, y0.1.2.2.2.2.2.2.2.2.2.2.2.2.2.2.2.1, y0.1.2.2.2.2.2.2.2.2.2.2.2.2.2.2.2.2.1, y0.1.2.2.2.2.2.2.2.2.2.2.2.2.2.2.2.2.2.1, y0.1.2.2.2.2.2.2.2.2.2.2.2.2.2.2.2.2.2.2.1, y0.1.2.2.2.2.2.2.2.2.2.2.2.2.2.2.2.2.2.2.2.1, y0.1.2.2.2.2.2.2.2.2.2.2.2.2.2.2.2.2.2.2.2.2.1, y0.1.2.2.2.2.2.2.2.2.2.2.2.2.2.2.2.2.2.2.2.2.2.1, y0.1.2.2.2.2.2.2.2.2.2.2.2.2.2.2.2.2.2.2.2.2.2.2.1, y0.1.2.2.2.2.2.2.2.2.2.2.2.2.2.2.2.2.2.2.2.2.2.2.2.1, y0.1.2.2.2.2.2.2.2.2.2.2.2.2.2.2.2.2.2.2.2.2.2.2.2.2.1, y0.1.2.2.2.2.2.2.2.2.2.2.2.2.2.2.2.2.2.2.2.2.2.2.2.2.2.1, y0.1.2.2.2.2.2.2.2.2.2.2.2.2.2.2.2.2.2.2.2.2.2.2.2.2.2.2.1, y0.1.2.2.2.2.2.2.2.2.2.2.2.2.2.2.2.2.2.2.2.2.2.2.2.2.2.2.2.1, y0.1.2.2.2.2.2.2.2.2.2.2.2.2.2.2.2.2.2.2.2.2.2.2.2.2.2.2.2.2.1, y0.1.2.2.2.2.2.2.2.2.2.2.2.2.2.2.2.2.2.2.2.2.2.2.2.2.2.2.2.2.2.1, y0.1.2.2.2.2.2.2.2.2.2.2.2.2.2.2.2.2.2.2.2.2.2.2.2.2.2.2.2.2.2.2.1, y0.1.2.2.2.2.2.2.2.2.2.2.2.2.2.2.2.2.2.2.2.2.2.2.2.2.2.2.2.2.2.2.2.1, y0.1.2.2.2.2.2.2.2.2.2.2.2.2.2.2.2.2.2.2.2.2.2.2.2.2.2.2.2.2.2.2.2.2.1, y0.1.2.2.2.2.2.2.2.2.2.2.2.2.2.2.2.2.2.2.2.2.2.2.2.2.2.2.2.2.2.2.2.2.2.1, y0.1.2.2.2.2.2.2.2.2.2.2.2.2.2.2.2.2.2.2.2.2.2.2.2.2.2.2.2.2.2.2.2.2.2.2.1, y0.1.2.2.2.2.2.2.2.2.2.2.2.2.2.2.2.2.2.2.2.2.2.2.2.2.2.2.2.2.2.2.2.2.2.2.2.1, y0.1.2.2.2.2.2.2.2.2.2.2.2.2.2.2.2.2.2.2.2.2.2.2.2.2.2.2.2.2.2.2.2.2.2.2.2.2.1, y0.1.2.2.2.2.2.2.2.2.2.2.2.2.2.2.2.2.2.2.2.2.2.2.2.2.2.2.2.2.2.2.2.2.2.2.2.2.2.1, y0.1.2.2.2.2.2.2.2.2.2.2.2.2.2.2.2.2.2.2.2.2.2.2.2.2.2.2.2.2.2.2.2.2.2.2.2.2.2.2.1, y0.1.2.2.2.2.2.2.2.2.2.2.2.2.2.2.2.2.2.2.2.2.2.2.2.2.2.2.2.2.2.2.2.2.2.2.2.2.2.2.2.1, y0.1.2.2.2.2.2.2.2.2.2.2.2.2.2.2.2.2.2.2.2.2.2.2.2.2.2.2.2.2.2.2.2.2.2.2.2.2.2.2.2.2.1, y0.1.2.2.2.2.2.2.2.2.2.2.2.2.2.2.2.2.2.2.2.2.2.2.2.2.2.2.2.2.2.2.2.2.2.2.2.2.2.2.2.2.2.1, y0.1.2.2.2.2.2.2.2.2.2.2.2.2.2.2.2.2.2.2.2.2.2.2.2.2.2.2.2.2.2.2.2.2.2.2.2.2.2.2.2.2.2.2.1, y0.1.2.2.2.2.2.2.2.2.2.2.2.2.2.2.2.2.2.2.2.2.2.2.2.2.2.2.2.2.2.2.2.2.2.2.2.2.2.2.2.2.2.2.2.1, y0.1.2.2.2.2.2.2.2.2.2.2.2.2.2.2.2.2.2.2.2.2.2.2.2.2.2.2.2.2.2.2.2.2.2.2.2.2.2.2.2.2.2.2.2.2.1, y0.1.2.2.2.2.2.2.2.2.2.2.2.2.2.2.2.2.2.2.2.2.2.2.2.2.2.2.2.2.2.2.2.2.2.2.2.2.2.2.2.2.2.2.2.2.2.1, y0.1.2.2.2.2.2.2.2.2.2.2.2.2.2.2.2.2.2.2.2.2.2.2.2.2.2.2.2.2.2.2.2.2.2.2.2.2.2.2.2.2.2.2.2.2.2.2.1, y0.1.2.2.2.2.2.2.2.2.2.2.2.2.2.2.2.2.2.2.2.2.2.2.2.2.2.2.2.2.2.2.2.2.2.2.2.2.2.2.2.2.2.2.2.2.2.2.2.1, y0.1.2.2.2.2.2.2.2.2.2.2.2.2.2.2.2.2.2.2.2.2.2.2.2.2.2.2.2.2.2.2.2.2.2.2.2.2.2.2.2.2.2.2.2.2.2.2.2.2.1, y0.1.2.2.2.2.2.2.2.2.2.2.2.2.2.2.2.2.2.2.2.2.2.2.2.2.2.2.2.2.2.2.2.2.2.2.2.2.2.2.2.2.2.2.2.2.2.2.2.2.2.1, y0.1.2.2.2.2.2.2.2.2.2.2.2.2.2.2.2.2.2.2.2.2.2.2.2.2.2.2.2.2.2.2.2.2.2.2.2.2.2.2.2.2.2.2.2.2.2.2.2.2.2.2.1, y0.1.2.2.2.2.2.2.2.2.2.2.2.2.2.2.2.2.2.2.2.2.2.2.2.2.2.2.2.2.2.2.2.2.2.2.2.2.2.2.2.2.2.2.2.2.2.2.2.2.2.2.2.1, y0.1.2.2.2.2.2.2.2.2.2.2.2.2.2.2.2.2.2.2.2.2.2.2.2.2.2.2.2.2.2.2.2.2.2.2.2.2.2.2.2.2.2.2.2.2.2.2.2.2.2.2.2.2.1, y0.1.2.2.2.2.2.2.2.2.2.2.2.2.2.2.2.2.2.2.2.2.2.2.2.2.2.2.2.2.2.2.2.2.2.2.2.2.2.2.2.2.2.2.2.2.2.2.2.2.2.2.2.2.2.1, y0.1.2.2.2.2.2.2.2.2.2.2.2.2.2.2.2.2.2.2.2.2.2.2.2.2.2.2.2.2.2.2.2.2.2.2.2.2.2.2.2.2.2.2.2.2.2.2.2.2.2.2.2.2.2.2.1, y0.1.2.2.2.2.2.2.2.2.2.2.2.2.2.2.2.2.2.2.2.2.2.2.2.2.2.2.2.2.2.2.2.2.2.2.2.2.2.2.2.2.2.2.2.2.2.2.2.2.2.2.2.2.2.2.2.1, y0.1.2.2.2.2.2.2.2.2.2.2.2.2.2.2.2.2.2.2.2.2.2.2.2.2.2.2.2.2.2.2.2.2.2.2.2.2.2.2.2.2.2.2.2.2.2.2.2.2.2.2.2.2.2.2.2.2.1, y0.1.2.2.2.2.2.2.2.2.2.2.2.2.2.2.2.2.2.2.2.2.2.2.2.2.2.2.2.2.2.2.2.2.2.2.2.2.2.2.2.2.2.2.2.2.2.2.2.2.2.2.2.2.2.2.2.2.2.1, y0.1.2.2.2.2.2.2.2.2.2.2.2.2.2.2.2.2.2.2.2.2.2.2.2.2.2.2.2.2.2.2.2.2.2.2.2.2.2.2.2.2.2.2.2.2.2.2.2.2.2.2.2.2.2.2.2.2.2.2.1, y0.1.2.2.2.2.2.2.2.2.2.2.2.2.2.2.2.2.2.2.2.2.2.2.2.2.2.2.2.2.2.2.2.2.2.2.2.2.2.2.2.2.2.2.2.2.2.2.2.2.2.2.2.2.2.2.2.2.2.2.2.1, y0.1.2.2.2.2.2.2.2.2.2.2.2.2.2.2.2.2.2.2.2.2.2.2.2.2.2.2.2.2.2.2.2.2.2.2.2.2.2.2.2.2.2.2.2.2.2.2.2.2.2.2.2.2.2.2.2.2.2.2.2.2.1, y0.1.2.2.2.2.2.2.2.2.2.2.2.2.2.2.2.2.2.2.2.2.2.2.2.2.2.2.2.2.2.2.2.2.2.2.2.2.2.2.2.2.2.2.2.2.2.2.2.2.2.2.2.2.2.2.2.2.2.2.2.2.2.1, y0.1.2.2.2.2.2.2.2.2.2.2.2.2.2.2.2.2.2.2.2.2.2.2.2.2.2.2.2.2.2.2.2.2.2.2.2.2.2.2.2.2.2.2.2.2.2.2.2.2.2.2.2.2.2.2.2.2.2.2.2.2.2.2.1, y0.1.2.2.2.2.2.2.2.2.2.2.2.2.2.2.2.2.2.2.2.2.2.2.2.2.2.2.2.2.2.2.2.2.2.2.2.2.2.2.2.2.2.2.2.2.2.2.2.2.2.2.2.2.2.2.2.2.2.2.2.2.2.2.2.1] : List Int) y0.2.2.2.2.2.2.2.2.2.2.2.1))) + (Ty.rd (t := (.int .i64)) y0.2.1 y0.2.2.2.2.2.2.2.2.2.2.2.1))))) (4294967295 : Int)), (y0.2.2.2.2.2.2.2.1, (y0.2.2.2.2.2.2.2.2.1, (y0.2.2.2.2.2.2.2.2.2.1, ((wi64 (y0.2.2.2.2.2.2.2.2.2.2.2.1 + (1 : Int))), ()))))))))))))))))
else none)
else none)
else none))))
else
((fun (z1 : List (Int) × Int × Int × Int × Int × Int × Int × Int × Int × Unit) =>
(whileK (fun (rec2 : (List (Int) × List (Int) × Int × Int × Unit) → Option _) (y2 : List (Int) × List (Int) × Int × Int × Unit) =>
(if (decide (y2.2.2.2.1 < y2.2.2.1)) = true then
(if 0 ≤ y2.2.2.2.1 ∧ y2.2.2.2.1 < (List.length y2.2.1 : Int) then
(if 0 ≤ y2.2.2.2.1 ∧ y2.2.2.2.1 < (List.length y2.1 : Int) then
(if 0 ≤ y2.2.2.2.1 ∧ y2.2.2.2.1 < (List.length y2.1 : Int) then
(rec2 ((List.set y2.1 (Int.toNat y2.2.2.2.1) (bitsI .and .i64 (wi64 ((Ty.rd (t := (.int .i64)) y2.1 y2.2.2.2.1) + (Ty.rd (t := (.int .i64)) y2.2.1 y2.2.2.2.1))) (4294967295 : Int))), (y2.2.1, (y2.2.2.1, ((wi64 (y2.2.2.2.1 + (1 : Int))), ())))))
else none)
else none)
else none)
else
((fun (z2 : List (Int) × Unit) =>
((i_wordsText k (z2.1, ())).bind fun p10 =>
some (p10.1, ((), ((), ()))))) (y2.1, ())))) k (z1.1, (([z1.2.1, z1.2.2.1, z1.2.2.2.1, z1.2.2.2.2.1, z1.2.2.2.2.2.1, z1.2.2.2.2.2.2.1, z1.2.2.2.2.2.2.2.1, z1.2.2.2.2.2.2.2.2.1] : List (Int)), ((List.length ([z1.2.1, z1.2.2.1, z1.2.2.2.1, z1.2.2.2.2.1, z1.2.2.2.2.2.1, z1.2.2.2.2.2.2.1, z1.2.2.2.2.2.2.2.1, z1.2.2.2.2.2.2.2.2.1] : List (Int)) : Int), ((0 : Int), ())))))) (y0.2.2.1, (y0.2.2.2.1, (y0.2.2.2.2.1, (y0.2.2.2.2.2.1, (y0.2.2.2.2.2.2.1, (y0.2.2.2.2.2.2.2.1, (y0.2.2.2.2.2.2.2.2.1, (y0.2.2.2.2.2.2.2.2.2.1, (y0.2.2.2.2.2.2.2.2.2.2.1, ())))))))))))) k (p1.1, (p2.1, (p3.1, ((Ty.rd (t := (.int .i64)) p3.1 (0 : Int)), ((Ty.rd (t := (.int .i64)) p3.1 (1 : Int)), ((Ty.rd (t := (.int .i64)) p3.1 (2 : Int)), ((Ty.rd (t := (.int .i64)) p3.1 (3 : Int)), ((Ty.rd (t := (.int .i64)) p3.1 (4 : Int)), ((Ty.rd (t := (.int .i64)) p3.1 (5 : Int)), ((Ty.rd (t := (.int .i64)) p3.1 (6 : Int)), ((Ty.rd (t := (.int .i64)) p3.1 (7 : Int)), ((0 : Int), ())))))))))))))
else none)
else none)
else none)
else none)
else none)
else none)
else none)
else none))))
theorem t_i_round (k : Nat) (x) : evF TTab k [⟨285, 0, yP29, .str, i_wordsText k⟩, ⟨315, 0, .nil, (.agg yP8), i_constants k⟩, ⟨316, 0, (.cons .str .nil), yP17, i_expanded k⟩, ⟨317, 0, (.cons .str .nil), yP17, i_wordsOf k⟩, ⟨318, 0, (.cons (.int .i64) yP2), (.int .i64), i_turnRight k⟩] [(0, ⟨[5, 6, 7, 8, 9, 10, 11, 12, 13, 14, 15, 52], (.cons (.ptr 0 yP8) (.cons yP17 (.cons yP17 (.cons (.int .i64) (.cons (.int .i64) (.cons (.int .i64) (.cons (.int .i64) (.cons (.int .i64) (.cons (.int .i64) yP12)))))))))⟩, ⟨[7, 8, 9, 10, 11, 12, 13, 14, 15], (.cons yP17 (.cons (.int .i64) (.cons (.int .i64) (.cons (.int .i64) (.cons (.int .i64) (.cons (.int .i64) yP12))))))⟩), (2, ⟨[7, 128, 129, 130], (.cons yP17 (.cons yP17 (.cons (.int .i64) yP2)))⟩, ⟨[7], (.cons yP17 .nil)⟩)] Tryz.f284 yP32 .str x = i_round k x := by kernel_rfl
theorem e_i_round [Names] (k : Nat) : EntryOk Tryz.prog ⟨284, 0, yP32, .str, i_round k⟩ := entry_ok tok (by intro e he; simp only [List.mem_cons, List.not_mem_nil, or_false] at he; rcases he with rfl | rfl | rfl | rfl | rfl <;> first | exact e_i_wordsText k | exact e_i_constants k | exact e_i_expanded k | exact e_i_wordsOf k | exact e_i_turnRight k) (by kernel_rfl) (fn := Tryz.f284) (k := k) (es := [⟨285, 0, yP29, .str, i_wordsText k⟩, ⟨315, 0, .nil, (.agg yP8), i_constants k⟩, ⟨316, 0, (.cons .str .nil), yP17, i_expanded k⟩, ⟨317, 0, (.cons .str .nil), yP17, i_wordsOf k⟩, ⟨318, 0, (.cons (.int .i64) yP2), (.int .i64), i_turnRight k⟩]) (loops := [(0, ⟨[5, 6, 7, 8, 9, 10, 11, 12, 13, 14, 15, 52], (.cons (.ptr 0 yP8) (.cons yP17 (.cons yP17 (.cons (.int .i64) (.cons (.int .i64) (.cons (.int .i64) (.cons (.int .i64) (.cons (.int .i64) (.cons (.int .i64) yP12)))))))))⟩, ⟨[7, 8, 9, 10, 11, 12, 13, 14, 15], (.cons yP17 (.cons (.int .i64) (.cons (.int .i64) (.cons (.int .i64) (.cons (.int .i64) (.cons (.int .i64) yP12))))))⟩), (2, ⟨[7, 128, 129, 130], (.cons yP17 (.cons yP17 (.cons (.int .i64) yP2)))⟩, ⟨[7], (.cons yP17 .nil)⟩)]) (by kernel_rfl) (by kernel_rfl) (fun x r h => (t_i_round k x).trans h)
def i_rounds (k : Nat) (x : ByteArray × ByteArray × Unit) : Option ((ByteArray × ByteArray × Unit) × Unit × Unit × Unit) :=
(whileK (fun (rec0 : (ByteArray × ByteArray × Unit) → Option _) (y0 : ByteArray × ByteArray × Unit) =>
(if (decide ((64 : Int) ≤ (ByteArray.size y0.2.1 : Int))) = true then
(if 0 ≤ (64 : Int) ∧ (64 : Int) ≤ (ByteArray.size y0.2.1 : Int) then
((i_round k (y0.1, ((ByteArray.extract y0.2.1 (Int.toNat (0 : Int)) (Int.toNat (64 : Int))), ()))).bind fun p1 =>
(if 0 ≤ (64 : Int) ∧ (64 : Int) ≤ (ByteArray.size y0.2.1 : Int) then
(rec0 (p1.1, ((ByteArray.extract y0.2.1 (Int.toNat (64 : Int)) (Int.toNat (ByteArray.size y0.2.1 : Int))), ())))
else none))
else none)
else
((fun (z1 : ByteArray × ByteArray × Unit) =>
some ((z1.1, (z1.2.1, ())), ((), ((), ())))) (y0.1, (y0.2.1, ()))))) k (x.1, (x.2.1, ())))
theorem t_i_rounds (k : Nat) (x) : evF TTab k [⟨284, 0, yP32, .str, i_round k⟩] [(0, ⟨[0, 1], yP32⟩, ⟨[0, 1], yP32⟩)] Tryz.f227 yP32 (.tup yP32) x = i_rounds k x := by kernel_rfl
theorem e_i_rounds [Names] (k : Nat) : EntryOk Tryz.prog ⟨227, 0, yP32, (.tup yP32), i_rounds k⟩ := entry_ok tok (by intro e he; simp only [List.mem_cons, List.not_mem_nil, or_false] at he; rcases he with rfl <;> first | exact e_i_round k) (by kernel_rfl) (fn := Tryz.f227) (k := k) (es := [⟨284, 0, yP32, .str, i_round k⟩]) (loops := [(0, ⟨[0, 1], yP32⟩, ⟨[0, 1], yP32⟩)]) (by kernel_rfl) (by kernel_rfl) (fun x r h => (t_i_rounds k x).trans h)
def i_firstState (k : Nat) (x : Unit) : Option (ByteArray × Unit) :=
((i_wordsText k (([(1779033703 : Int), (3144134277 : Int), (1013904242 : Int), (2773480762 : Int), (1359893119 : Int), (2600822924 : Int), (528734635 : Int), (1541459225 : Int)] : List (Int)), ())).bind fun p1 =>
some (p1.1, ()))
theorem t_i_firstState (k : Nat) (x) : evF TTab k [⟨285, 0, yP29, .str, i_wordsText k⟩] [] Tryz.f228 .nil .str x = i_firstState k x := by kernel_rfl
theorem e_i_firstState [Names] (k : Nat) : EntryOk Tryz.prog ⟨228, 0, .nil, .str, i_firstState k⟩ := entry_ok tok (by intro e he; simp only [List.mem_cons, List.not_mem_nil, or_false] at he; rcases he with rfl <;> first | exact e_i_wordsText k) (by kernel_rfl) (fn := Tryz.f228) (k := k) (es := [⟨285, 0, yP29, .str, i_wordsText k⟩]) (loops := []) (by kernel_rfl) (by kernel_rfl) (fun x r h => (t_i_firstState k x).trans h)
def x_strings_Repeat (k : Nat) (x : ByteArray × Int × Unit) : Option (ByteArray × Unit × Unit × Unit) := repF x
theorem e_x_strings_Repeat [Names] (k : Nat) : EntryOk Tryz.prog ⟨286, 0, (.cons .str yP2), .str, x_strings_Repeat k⟩ := entry_repeat Tryz.func286 (by kernel_rfl) Tryz.strings_Repeat
def i_padding (k : Nat) (x : Int × Unit) : Option (ByteArray × Unit × Unit) :=
((x_strings_Repeat k ((⟨#[0]⟩ : ByteArray), ((Int.tmod (wi64 ((119 : Int) - (Int.tmod x.1 (64 : Int)))) (64 : Int)), ()))).bind fun p1 =>
(if ByteArray.size (⟨#[128]⟩ : ByteArray) + ByteArray.size p1.1 ≤ maxStr then
((i_NumberText k ((Int.fdiv (wi64 ((8 : Int) * x.1)) (2 ^ (min (Int.toNat (32 : Int)) (IntKind.bits .i64)))), ())).bind fun p2 =>
(if ByteArray.size ((⟨#[128]⟩ : ByteArray) ++ p1.1) + ByteArray.size p2.1 ≤ maxStr then
((i_NumberText k ((bitsI .and .i64 (wi64 ((8 : Int) * x.1)) (4294967295 : Int)), ())).bind fun p3 =>
(if ByteArray.size (((⟨#[128]⟩ : ByteArray) ++ p1.1) ++ p2.1) + ByteArray.size p3.1 ≤ maxStr then
some (((((⟨#[128]⟩ : ByteArray) ++ p1.1) ++ p2.1) ++ p3.1), ((), ()))
else none))
else none))
else none))
theorem t_i_padding (k : Nat) (x) : evF TTab k [⟨181, 0, yP2, .str, i_NumberText k⟩, ⟨286, 0, (.cons .str yP2), .str, x_strings_Repeat k⟩] [] Tryz.f229 yP2 .str x = i_padding k x := by kernel_rfl
theorem e_i_padding [Names] (k : Nat) : EntryOk Tryz.prog ⟨229, 0, yP2, .str, i_padding k⟩ := entry_ok tok (by intro e he; simp only [List.mem_cons, List.not_mem_nil, or_false] at he; rcases he with rfl | rfl <;> first | exact e_i_NumberText k | exact e_x_strings_Repeat k) (by kernel_rfl) (fn := Tryz.f229) (k := k) (es := [⟨181, 0, yP2, .str, i_NumberText k⟩, ⟨286, 0, (.cons .str yP2), .str, x_strings_Repeat k⟩]) (loops := []) (by kernel_rfl) (by kernel_rfl) (fun x r h => (t_i_padding k x).trans h)
def i_DigestOf (k : Nat) (x : ByteArray × Unit) : Option (ByteArray × Unit × Unit) :=
((i_firstState k ()).bind fun p1 =>
((i_padding k ((ByteArray.size x.1 : Int), ())).bind fun p2 =>
(if ByteArray.size x.1 + ByteArray.size p2.1 ≤ maxStr then
((i_rounds k (p1.1, ((x.1 ++ p2.1), ()))).bind fun p3 =>
some (p3.1.1, ((), ())))
else none)))
theorem t_i_DigestOf (k : Nat) (x) : evF TTab k [⟨227, 0, yP32, (.tup yP32), i_rounds k⟩, ⟨228, 0, .nil, .str, i_firstState k⟩, ⟨229, 0, yP2, .str, i_padding k⟩] [] Tryz.f141 (.cons .str .nil) .str x = i_DigestOf k x := by kernel_rfl
theorem e_i_DigestOf [Names] (k : Nat) : EntryOk Tryz.prog ⟨141, 0, (.cons .str .nil), .str, i_DigestOf k⟩ := entry_ok tok (by intro e he; simp only [List.mem_cons, List.not_mem_nil, or_false] at he; rcases he with rfl | rfl | rfl <;> first | exact e_i_rounds k | exact e_i_firstState k | exact e_i_padding k) (by kernel_rfl) (fn := Tryz.f141) (k := k) (es := [⟨227, 0, yP32, (.tup yP32), i_rounds k⟩, ⟨228, 0, .nil, .str, i_firstState k⟩, ⟨229, 0, yP2, .str, i_padding k⟩]) (loops := []) (by kernel_rfl) (by kernel_rfl) (fun x r h => (t_i_DigestOf k x).trans h)
def i_SeenOk (k : Nat) (x : List (Int) × Unit) : Option (Bool × Unit × Unit) :=
(whileK (fun (rec0 : (List (Int) × List (Int) × Int × Int × Unit) → Option _) (y0 : List (Int) × List (Int) × Int × Int × Unit) =>
(if (decide (y0.2.2.2.1 < y0.2.2.1)) = true then
(if 0 ≤ y0.2.2.2.1 ∧ y0.2.2.2.1 < (List.length y0.2.1 : Int) then
((i_within k ((Ty.rd (t := (.int .i64)) y0.2.1 y0.2.2.2.1), ((1 : Int), ((1000000000 : Int), ())))).bind fun p1 =>
(if (!p1.1) = false then
(if (decide ((0 : Int) < y0.2.2.2.1)) = true then
(if 0 ≤ (wi64 (y0.2.2.2.1 - (1 : Int))) ∧ (wi64 (y0.2.2.2.1 - (1 : Int))) < (List.length y0.1 : Int) then
(if (decide ((Ty.rd (t := (.int .i64)) y0.1 (wi64 (y0.2.2.2.1 - (1 : Int)))) ≤ (Ty.rd (t := (.int .i64)) y0.2.1 y0.2.2.2.1))) = false then
(if 0 ≤ (0 : Int) ∧ (0 : Int) < (List.length y0.1 : Int) then
(if (decide ((Ty.rd (t := (.int .i64)) y0.2.1 y0.2.2.2.1) ≤ (wi64 ((Ty.rd (t := (.int .i64)) y0.1 (0 : Int)) - (6 : Int))))) = true then
some (false, ((), ()))
else
(rec0 (y0.1, (y0.2.1, (y0.2.2.1, ((wi64 (y0.2.2.2.1 + (1 : Int))), ()))))))
else none)
else
some (false, ((), ())))
else none)
else
(if 0 ≤ (0 : Int) ∧ (0 : Int) < (List.length y0.1 : Int) then
(if (decide ((Ty.rd (t := (.int .i64)) y0.2.1 y0.2.2.2.1) ≤ (wi64 ((Ty.rd (t := (.int .i64)) y0.1 (0 : Int)) - (6 : Int))))) = true then
some (false, ((), ()))
else
(rec0 (y0.1, (y0.2.1, (y0.2.2.1, ((wi64 (y0.2.2.2.1 + (1 : Int))), ()))))))
else none))
else
some (false, ((), ()))))
else none)
else
((fun (z1 : List (Int) × Unit) =>
some ((decide ((List.length z1.1 : Int) ≤ (6 : Int))), ((), ()))) (y0.1, ())))) k (x.1, (x.1, ((List.length x.1 : Int), ((0 : Int), ())))))
theorem t_i_SeenOk (k : Nat) (x) : evF TTab k [⟨55, 0, yP12, .bool, i_within k⟩] [(0, ⟨[0, 5, 6, 7], (.cons (.il true (.int .i64)) (.cons (.il true (.int .i64)) (.cons (.int .i64) yP2)))⟩, ⟨[0], yP29⟩)] Tryz.f295 yP29 .bool x = i_SeenOk k x := by kernel_rfl
theorem e_i_SeenOk [Names] (k : Nat) : EntryOk Tryz.prog ⟨295, 0, yP29, .bool, i_SeenOk k⟩ := entry_ok tok (by intro e he; simp only [List.mem_cons, List.not_mem_nil, or_false] at he; rcases he with rfl <;> first | exact e_i_within k) (by kernel_rfl) (fn := Tryz.f295) (k := k) (es := [⟨55, 0, yP12, .bool, i_within k⟩]) (loops := [(0, ⟨[0, 5, 6, 7], (.cons (.il true (.int .i64)) (.cons (.il true (.int .i64)) (.cons (.int .i64) yP2)))⟩, ⟨[0], yP29⟩)]) (by kernel_rfl) (by kernel_rfl) (fun x r h => (t_i_SeenOk k x).trans h)
def i_SlotOk (k : Nat) (x : (Int × ByteArray × ByteArray × Int × List (Int) × Int × Unit) × Unit) : Option (Bool × Unit × Unit) :=
(if (decide (x.1.1 = (0 : Int))) = true then
(if (decide (x.1.2.1 = (⟨#[]⟩ : ByteArray))) = true then
(if (decide (x.1.2.2.1 = (⟨#[]⟩ : ByteArray))) = true then
(if (decide (x.1.2.2.2.1 = (0 : Int))) = true then
(if (decide ((List.length x.1.2.2.2.2.1 : Int) = (0 : Int))) = true then
some ((decide (x.1.2.2.2.2.2.1 = (0 : Int))), ((), ()))
else
some (false, ((), ())))
else
some (false, ((), ())))
else
some (false, ((), ())))
else
some (false, ((), ())))
else
(if (decide ((ByteArray.size x.1.2.1 : Int) = (32 : Int))) = true then
((i_within k (x.1.1, ((1 : Int), ((1000000000 : Int), ())))).bind fun p1 =>
(if p1.1 = true then
(if (decide ((ByteArray.size x.1.2.2.1 : Int) = (32 : Int))) = true then
((i_within k (x.1.2.2.2.1, ((0 : Int), ((12 : Int), ())))).bind fun p2 =>
(if p2.1 = true then
((i_SeenOk k (x.1.2.2.2.2.1, ())).bind fun p3 =>
(if p3.1 = true then
((i_within k (x.1.2.2.2.2.2.1, ((0 : Int), ((1000000000 : Int), ())))).bind fun p4 =>
some (p4.1, ((), ())))
else
some (false, ((), ()))))
else
some (false, ((), ()))))
else
some (false, ((), ())))
else
some (false, ((), ()))))
else
((i_within k (x.1.1, ((1 : Int), ((1000000000 : Int), ())))).bind fun p5 =>
(if p5.1 = true then
some (false, ((), ()))
else
some (false, ((), ()))))))
theorem t_i_SlotOk (k : Nat) (x) : evF TTab k [⟨55, 0, yP12, .bool, i_within k⟩, ⟨295, 0, yP29, .bool, i_SeenOk k⟩] [] Tryz.f256 yP15 .bool x = i_SlotOk k x := by kernel_rfl
theorem e_i_SlotOk [Names] (k : Nat) : EntryOk Tryz.prog ⟨256, 0, yP15, .bool, i_SlotOk k⟩ := entry_ok tok (by intro e he; simp only [List.mem_cons, List.not_mem_nil, or_false] at he; rcases he with rfl | rfl <;> first | exact e_i_within k | exact e_i_SeenOk k) (by kernel_rfl) (fn := Tryz.f256) (k := k) (es := [⟨55, 0, yP12, .bool, i_within k⟩, ⟨295, 0, yP29, .bool, i_SeenOk k⟩]) (loops := []) (by kernel_rfl) (by kernel_rfl) (fun x r h => (t_i_SlotOk k x).trans h)
def i_SlotsOk (k : Nat) (x : (Int × ByteArray × ByteArray × Int × List (Int) × Int × Int × ByteArray × ByteArray × Int × List (Int) × Int × Unit) × Unit) : Option (Bool × Unit × Unit) :=
((i_SlotOk k ((x.1.1, (x.1.2.1, (x.1.2.2.1, (x.1.2.2.2.1, (x.1.2.2.2.2.1, (x.1.2.2.2.2.2.1, ())))))), ())).bind fun p1 =>
(if p1.1 = true then
((i_SlotOk k ((x.1.2.2.2.2.2.2.1, (x.1.2.2.2.2.2.2.2.1, (x.1.2.2.2.2.2.2.2.2.1, (x.1.2.2.2.2.2.2.2.2.2.1, (x.1.2.2.2.2.2.2.2.2.2.2.1, (x.1.2.2.2.2.2.2.2.2.2.2.2.1, ())))))), ())).bind fun p2 =>
(if p2.1 = true then
(if (decide (x.1.2.2.2.2.2.2.1 = (0 : Int))) = false then
some ((decide (x.1.2.2.2.2.2.2.1 < x.1.1)), ((), ()))
else
some (true, ((), ())))
else
some (false, ((), ()))))
else
some (false, ((), ()))))
theorem t_i_SlotsOk (k : Nat) (x) : evF TTab k [⟨256, 0, yP15, .bool, i_SlotOk k⟩] [] Tryz.f185 (.cons yP6 .nil) .bool x = i_SlotsOk k x := by kernel_rfl
theorem e_i_SlotsOk [Names] (k : Nat) : EntryOk Tryz.prog ⟨185, 0, (.cons yP6 .nil), .bool, i_SlotsOk k⟩ := entry_ok tok (by intro e he; simp only [List.mem_cons, List.not_mem_nil, or_false] at he; rcases he with rfl <;> first | exact e_i_SlotOk k) (by kernel_rfl) (fn := Tryz.f185) (k := k) (es := [⟨256, 0, yP15, .bool, i_SlotOk k⟩]) (loops := []) (by kernel_rfl) (by kernel_rfl) (fun x r h => (t_i_SlotsOk k x).trans h)
def i_AddNet (k : Nat) (x : (Int × Int × (List (Int × Int × Int)) × (List (Int × Int)) × (List ((Int × Int) × Int)) × (List (Int × Int × ((Int × ByteArray × ByteArray × Int × List (Int) × Int) × Int × ByteArray × ByteArray × Int × List (Int) × Int) × List (Int × Int × Int × List (ByteArray) × List (Bool) × Int) × Int)) × Unit) × Int × (Int × Int × Unit) × Unit) : Option (((Int × Int × (List (Int × Int × Int)) × (List (Int × Int)) × (List ((Int × Int) × Int)) × (List (Int × Int × ((Int × ByteArray × ByteArray × Int × List (Int) × Int) × Int × ByteArray × ByteArray × Int × List (Int) × Int) × List (Int × Int × Int × List (ByteArray) × List (Bool) × Int) × Int)) × Unit) × Bool × Unit) × Unit × Unit × Unit × Unit) :=
((i_copyHub k ((x.1.1, (x.1.2.1, (x.1.2.2.1, (x.1.2.2.2.1, (x.1.2.2.2.2.1, (x.1.2.2.2.2.2.1, ())))))), ())).bind fun p1 =>
((i_PutRoute k (x.1.2.2.2.2.1, ((x.2.2.1.1, (x.2.2.1.2.1, (x.2.1, ()))), ()))).bind fun p2 =>
((i_userAt k (x.1.2.2.2.2.2.1, (x.2.1, ()))).bind fun p3 =>
(if (decide (p3.1 < (0 : Int))) = false then
(if (!p2.1.2.1) = true then
some (((p1.1.1, (p1.1.2.1, (p1.1.2.2.1, (p1.1.2.2.2.1, (p1.1.2.2.2.2.1, (p1.1.2.2.2.2.2.1, ())))))), (false, ())), ((), ((), ((), ()))))
else
some (((p1.1.1, (p1.1.2.1, (p1.1.2.2.1, (p1.1.2.2.2.1, (p2.1.1, (p1.1.2.2.2.2.2.1, ())))))), (true, ())), ((), ((), ((), ())))))
else
some (((p1.1.1, (p1.1.2.1, (p1.1.2.2.1, (p1.1.2.2.2.1, (p1.1.2.2.2.2.1, (p1.1.2.2.2.2.2.1, ())))))), (false, ())), ((), ((), ((), ()))))))))
theorem t_i_AddNet (k : Nat) (x) : evF TTabO k [⟨54, 0, (.cons yP27 .nil), yP16, i_copyHub k⟩, ⟨56, 0, (.cons (.il true yT0) yP2), (.int .i64), i_userAt k⟩, ⟨58, 0, (.cons yP23 (.cons (.agg yP12) .nil)), (.tup (.cons yP21 (.cons .bool .nil))), i_PutRoute k⟩] [] Tryz.f23 (.cons yP27 (.cons (.int .i64) (.cons yP28 .nil))) (.tup (.cons yP16 (.cons .bool .nil))) x = i_AddNet k x := by kernel_rfl
theorem e_i_AddNet [Names] (k : Nat) : EntryOk Tryz.prog ⟨23, 0, (.cons yP27 (.cons (.int .i64) (.cons yP28 .nil))), (.tup (.cons yP16 (.cons .bool .nil))), i_AddNet k⟩ := entry_ok tokO (by intro e he; simp only [List.mem_cons, List.not_mem_nil, or_false] at he; rcases he with rfl | rfl | rfl <;> first | exact e_i_copyHub k | exact e_i_userAt k | exact e_i_PutRoute k) (by kernel_rfl) (fn := Tryz.f23) (k := k) (es := [⟨54, 0, (.cons yP27 .nil), yP16, i_copyHub k⟩, ⟨56, 0, (.cons (.il true yT0) yP2), (.int .i64), i_userAt k⟩, ⟨58, 0, (.cons yP23 (.cons (.agg yP12) .nil)), (.tup (.cons yP21 (.cons .bool .nil))), i_PutRoute k⟩]) (loops := []) (by kernel_rfl) (by kernel_rfl) (fun x r h => (t_i_AddNet k x).trans h)
def i_InnerOk (k : Nat) (x : (Int × Int × ByteArray × Unit) × Unit) : Option (Bool × Unit × Unit) :=
((i_AddrOk k (x.1.1, ())).bind fun p1 =>
(if p1.1 = true then
((i_AddrOk k (x.1.2.1, ())).bind fun p2 =>
(if p2.1 = true then
some ((decide ((ByteArray.size x.1.2.2.1 : Int) ≤ (100 : Int))), ((), ()))
else
some (false, ((), ()))))
else
some (false, ((), ()))))
theorem t_i_InnerOk (k : Nat) (x) : evF TTab k [⟨236, 0, yP2, .bool, i_AddrOk k⟩] [] Tryz.f180 (.cons yP35 .nil) .bool x = i_InnerOk k x := by kernel_rfl
theorem e_i_InnerOk [Names] (k : Nat) : EntryOk Tryz.prog ⟨180, 0, (.cons yP35 .nil), .bool, i_InnerOk k⟩ := entry_ok tok (by intro e he; simp only [List.mem_cons, List.not_mem_nil, or_false] at he; rcases he with rfl <;> first | exact e_i_AddrOk k) (by kernel_rfl) (fn := Tryz.f180) (k := k) (es := [⟨236, 0, yP2, .bool, i_AddrOk k⟩]) (loops := []) (by kernel_rfl) (by kernel_rfl) (fun x r h => (t_i_InnerOk k x).trans h)
def i_InnerText (k : Nat) (x : (Int × Int × ByteArray × Unit) × Unit) : Option ((ByteArray × Bool × Unit) × Unit × Unit) :=
((i_InnerOk k ((x.1.1, (x.1.2.1, (x.1.2.2.1, ()))), ())).bind fun p1 =>
(if (!p1.1) = true then
some (((⟨#[]⟩ : ByteArray), (false, ())), ((), ()))
else
((i_NumberText k (x.1.1, ())).bind fun p2 =>
((i_NumberText k (x.1.2.1, ())).bind fun p3 =>
(if ByteArray.size p2.1 + ByteArray.size p3.1 ≤ maxStr then
(if ByteArray.size (p2.1 ++ p3.1) + ByteArray.size x.1.2.2.1 ≤ maxStr then
some ((((p2.1 ++ p3.1) ++ x.1.2.2.1), (true, ())), ((), ()))
else none)
else none)))))
theorem t_i_InnerText (k : Nat) (x) : evF TTab k [⟨180, 0, (.cons yP35 .nil), .bool, i_InnerOk k⟩, ⟨181, 0, yP2, .str, i_NumberText k⟩] [] Tryz.f98 (.cons yP35 .nil) (.tup yP22) x = i_InnerText k x := by kernel_rfl
theorem e_i_InnerText [Names] (k : Nat) : EntryOk Tryz.prog ⟨98, 0, (.cons yP35 .nil), (.tup yP22), i_InnerText k⟩ := entry_ok tok (by intro e he; simp only [List.mem_cons, List.not_mem_nil, or_false] at he; rcases he with rfl | rfl <;> first | exact e_i_InnerOk k | exact e_i_NumberText k) (by kernel_rfl) (fn := Tryz.f98) (k := k) (es := [⟨180, 0, (.cons yP35 .nil), .bool, i_InnerOk k⟩, ⟨181, 0, yP2, .str, i_NumberText k⟩]) (loops := []) (by kernel_rfl) (by kernel_rfl) (fun x r h => (t_i_InnerText k x).trans h)
def i_byteText (k : Nat) (x : Int × Unit) : Option (ByteArray × Unit × Unit) :=
some ((strOf ([(wu8 (x.1))] : List (Int))), ((), ()))
theorem t_i_byteText (k : Nat) (x) : evF TTab k [] [] Tryz.f182 yP2 .str x = i_byteText k x := by kernel_rfl
theorem e_i_byteText [Names] (k : Nat) : EntryOk Tryz.prog ⟨182, 0, yP2, .str, i_byteText k⟩ := entry_ok tok (by simp) (by kernel_rfl) (fn := Tryz.f182) (k := k) (es := []) (loops := []) (by kernel_rfl) (by kernel_rfl) (fun x r h => (t_i_byteText k x).trans h)
def i_Split (k : Nat) (x : Int × ByteArray × Int × Unit) : Option ((List (ByteArray) × Bool × Unit) × Unit × Unit × Unit × Unit) :=
((i_within k (x.1, ((0 : Int), ((255 : Int), ())))).bind fun p1 =>
(if (!p1.1) = false then
((i_within k (x.2.2.1, ((20 : Int), ((120 : Int), ())))).bind fun p2 =>
(if (!p2.1) = false then
(if (decide ((300 : Int) < (ByteArray.size x.2.1 : Int))) = true then
some (([], (false, ())), ((), ((), ((), ()))))
else
(if x.2.2.1 = 0 then
none
else
(if (decide ((15 : Int) < (if (1 : Int) < (wi64 (Int.tdiv (wi64 ((wi64 ((ByteArray.size x.2.1 : Int) + x.2.2.1)) - (1 : Int))) x.2.2.1)) then (wi64 (Int.tdiv (wi64 ((wi64 ((ByteArray.size x.2.1 : Int) + x.2.2.1)) - (1 : Int))) x.2.2.1)) else (1 : Int)))) = true then
some (([], (false, ())), ((), ((), ((), ()))))
else
(whileK (fun (rec0 : (Int × ByteArray × Int × Int × List (ByteArray) × Int × Int × Unit) → Option _) (y0 : Int × ByteArray × Int × Int × List (ByteArray) × Int × Int × Unit) =>
(if (decide (y0.2.2.2.2.2.2.1 < y0.2.2.2.2.2.1)) = true then
(if 0 ≤ (if (ByteArray.size y0.2.1 : Int) < (wi64 ((wi64 (y0.2.2.2.2.2.2.1 + (1 : Int))) * y0.2.2.1)) then (ByteArray.size y0.2.1 : Int) else (wi64 ((wi64 (y0.2.2.2.2.2.2.1 + (1 : Int))) * y0.2.2.1))) ∧ (if (ByteArray.size y0.2.1 : Int) < (wi64 ((wi64 (y0.2.2.2.2.2.2.1 + (1 : Int))) * y0.2.2.1)) then (ByteArray.size y0.2.1 : Int) else (wi64 ((wi64 (y0.2.2.2.2.2.2.1 + (1 : Int))) * y0.2.2.1))) ≤ (ByteArray.size y0.2.1 : Int) then
(if 0 ≤ (wi64 (y0.2.2.2.2.2.2.1 * y0.2.2.1)) ∧ (wi64 (y0.2.2.2.2.2.2.1 * y0.2.2.1)) ≤ (if (ByteArray.size y0.2.1 : Int) < (wi64 ((wi64 (y0.2.2.2.2.2.2.1 + (1 : Int))) * y0.2.2.1)) then (ByteArray.size y0.2.1 : Int) else (wi64 ((wi64 (y0.2.2.2.2.2.2.1 + (1 : Int))) * y0.2.2.1))) then
((i_byteText k (y0.1, ())).bind fun p3 =>
((i_byteText k (y0.2.2.2.2.2.2.1, ())).bind fun p4 =>
(if ByteArray.size p3.1 + ByteArray.size p4.1 ≤ maxStr then
((i_byteText k (y0.2.2.2.1, ())).bind fun p5 =>
(if ByteArray.size (p3.1 ++ p4.1) + ByteArray.size p5.1 ≤ maxStr then
(if ByteArray.size ((p3.1 ++ p4.1) ++ p5.1) + ByteArray.size (ByteArray.extract y0.2.1 (Int.toNat (wi64 (y0.2.2.2.2.2.2.1 * y0.2.2.1))) (Int.toNat (if (ByteArray.size y0.2.1 : Int) < (wi64 ((wi64 (y0.2.2.2.2.2.2.1 + (1 : Int))) * y0.2.2.1)) then (ByteArray.size y0.2.1 : Int) else (wi64 ((wi64 (y0.2.2.2.2.2.2.1 + (1 : Int))) * y0.2.2.1))))) ≤ maxStr then
(if List.length y0.2.2.2.2.1 + List.length ([(((p3.1 ++ p4.1) ++ p5.1) ++ (ByteArray.extract y0.2.1 (Int.toNat (wi64 (y0.2.2.2.2.2.2.1 * y0.2.2.1))) (Int.toNat (if (ByteArray.size y0.2.1 : Int) < (wi64 ((wi64 (y0.2.2.2.2.2.2.1 + (1 : Int))) * y0.2.2.1)) then (ByteArray.size y0.2.1 : Int) else (wi64 ((wi64 (y0.2.2.2.2.2.2.1 + (1 : Int))) * y0.2.2.1))))))] : List (ByteArray)) ≤ capMax then
(rec0 (y0.1, (y0.2.1, (y0.2.2.1, (y0.2.2.2.1, ((y0.2.2.2.2.1 ++ ([(((p3.1 ++ p4.1) ++ p5.1) ++ (ByteArray.extract y0.2.1 (Int.toNat (wi64 (y0.2.2.2.2.2.2.1 * y0.2.2.1))) (Int.toNat (if (ByteArray.size y0.2.1 : Int) < (wi64 ((wi64 (y0.2.2.2.2.2.2.1 + (1 : Int))) * y0.2.2.1)) then (ByteArray.size y0.2.1 : Int) else (wi64 ((wi64 (y0.2.2.2.2.2.2.1 + (1 : Int))) * y0.2.2.1))))))] : List (ByteArray))), (y0.2.2.2.2.2.1, ((wi64 (y0.2.2.2.2.2.2.1 + (1 : Int))), ()))))))))
else none)
else none)
else none))
else none)))
else none)
else none)
else
((fun (z1 : List (ByteArray) × Unit) =>
some ((z1.1, (true, ())), ((), ((), ((), ()))))) (y0.2.2.2.2.1, ())))) k (x.1, (x.2.1, (x.2.2.1, ((if (1 : Int) < (wi64 (Int.tdiv (wi64 ((wi64 ((ByteArray.size x.2.1 : Int) + x.2.2.1)) - (1 : Int))) x.2.2.1)) then (wi64 (Int.tdiv (wi64 ((wi64 ((ByteArray.size x.2.1 : Int) + x.2.2.1)) - (1 : Int))) x.2.2.1)) else (1 : Int)), (([] : List (ByteArray)), ((if (1 : Int) < (wi64 (Int.tdiv (wi64 ((wi64 ((ByteArray.size x.2.1 : Int) + x.2.2.1)) - (1 : Int))) x.2.2.1)) then (wi64 (Int.tdiv (wi64 ((wi64 ((ByteArray.size x.2.1 : Int) + x.2.2.1)) - (1 : Int))) x.2.2.1)) else (1 : Int)), ((0 : Int), ())))))))))))
else
some (([], (false, ())), ((), ((), ((), ()))))))
else
some (([], (false, ())), ((), ((), ((), ()))))))
theorem t_i_Split (k : Nat) (x) : evF TTab k [⟨55, 0, yP12, .bool, i_within k⟩, ⟨182, 0, yP2, .str, i_byteText k⟩] [(0, ⟨[0, 1, 2, 8, 9, 36, 37], (.cons (.int .i64) (.cons .str (.cons (.int .i64) (.cons (.int .i64) (.cons (.own false 9 .str) (.cons (.int .i64) yP2))))))⟩, ⟨[9], (.cons (.own false 9 .str) .nil)⟩)] Tryz.f99 (.cons (.int .i64) (.cons .str yP2)) (.tup (.cons (.own false 9 .str) (.cons .bool .nil))) x = i_Split k x := by kernel_rfl
theorem e_i_Split [Names] (k : Nat) : EntryOk Tryz.prog ⟨99, 0, (.cons (.int .i64) (.cons .str yP2)), (.tup (.cons (.own false 9 .str) (.cons .bool .nil))), i_Split k⟩ := entry_ok tok (by intro e he; simp only [List.mem_cons, List.not_mem_nil, or_false] at he; rcases he with rfl | rfl <;> first | exact e_i_within k | exact e_i_byteText k) (by kernel_rfl) (fn := Tryz.f99) (k := k) (es := [⟨55, 0, yP12, .bool, i_within k⟩, ⟨182, 0, yP2, .str, i_byteText k⟩]) (loops := [(0, ⟨[0, 1, 2, 8, 9, 36, 37], (.cons (.int .i64) (.cons .str (.cons (.int .i64) (.cons (.int .i64) (.cons (.own false 9 .str) (.cons (.int .i64) yP2))))))⟩, ⟨[9], (.cons (.own false 9 .str) .nil)⟩)]) (by kernel_rfl) (by kernel_rfl) (fun x r h => (t_i_Split k x).trans h)
def i_noSlot (k : Nat) (x : (Int × ByteArray × ByteArray × Int × List (Int) × Int × Unit) × Unit) : Option (Bool × Unit × Unit) :=
(if (decide (x.1.1 = (0 : Int))) = true then
(if (decide (x.1.2.1 = (⟨#[]⟩ : ByteArray))) = true then
(if (decide (x.1.2.2.1 = (⟨#[]⟩ : ByteArray))) = true then
(if (decide (x.1.2.2.2.1 = (0 : Int))) = true then
(if (decide ((List.length x.1.2.2.2.2.1 : Int) = (0 : Int))) = true then
some ((decide (x.1.2.2.2.2.2.1 = (0 : Int))), ((), ()))
else
some (false, ((), ())))
else
some (false, ((), ())))
else
some (false, ((), ())))
else
some (false, ((), ())))
else
some (false, ((), ())))
theorem t_i_noSlot (k : Nat) (x) : evF TTab k [] [] Tryz.f257 yP15 .bool x = i_noSlot k x := by kernel_rfl
theorem e_i_noSlot [Names] (k : Nat) : EntryOk Tryz.prog ⟨257, 0, yP15, .bool, i_noSlot k⟩ := entry_ok tok (by simp) (by kernel_rfl) (fn := Tryz.f257) (k := k) (es := []) (loops := []) (by kernel_rfl) (by kernel_rfl) (fun x r h => (t_i_noSlot k x).trans h)
def i_Spent (k : Nat) (x : (Int × ByteArray × ByteArray × Int × List (Int) × Int × Int × ByteArray × ByteArray × Int × List (Int) × Int × Unit) × Unit) : Option (Bool × Unit × Unit) :=
((i_noSlot k ((x.1.1, (x.1.2.1, (x.1.2.2.1, (x.1.2.2.2.1, (x.1.2.2.2.2.1, (x.1.2.2.2.2.2.1, ())))))), ())).bind fun p1 =>
(if p1.1 = false then
some ((decide (x.1.2.2.2.1 = (12 : Int))), ((), ()))
else
some (true, ((), ()))))
theorem t_i_Spent (k : Nat) (x) : evF TTab k [⟨257, 0, yP15, .bool, i_noSlot k⟩] [] Tryz.f186 (.cons yP6 .nil) .bool x = i_Spent k x := by kernel_rfl
theorem e_i_Spent [Names] (k : Nat) : EntryOk Tryz.prog ⟨186, 0, (.cons yP6 .nil), .bool, i_Spent k⟩ := entry_ok tok (by intro e he; simp only [List.mem_cons, List.not_mem_nil, or_false] at he; rcases he with rfl <;> first | exact e_i_noSlot k) (by kernel_rfl) (fn := Tryz.f186) (k := k) (es := [⟨257, 0, yP15, .bool, i_noSlot k⟩]) (loops := []) (by kernel_rfl) (by kernel_rfl) (fun x r h => (t_i_Spent k x).trans h)
def i_VarText (k : Nat) (x : Int × Unit) : Option ((ByteArray × Bool × Unit) × Unit × Unit) :=
((i_within k (x.1, ((0 : Int), ((1000000000 : Int), ())))).bind fun p1 =>
(if (!p1.1) = true then
some (((⟨#[]⟩ : ByteArray), (false, ())), ((), ()))
else
(whileK (fun (rec0 : (Int × List (Int) × Unit) → Option _) (y0 : Int × List (Int) × Unit) =>
(if (decide ((127 : Int) < y0.1)) = true then
(if List.length y0.2.1 + List.length ([(wu8 ((wi64 ((Int.tmod y0.1 (128 : Int)) + (128 : Int)))))] : List (Int)) ≤ capMax then
(rec0 ((wi64 (Int.tdiv y0.1 (128 : Int))), ((y0.2.1 ++ ([(wu8 ((wi64 ((Int.tmod y0.1 (128 : Int)) + (128 : Int)))))] : List (Int))), ())))
else none)
else
((fun (z1 : Int × List (Int) × Unit) =>
(if List.length z1.2.1 + List.length ([(wu8 (z1.1))] : List (Int)) ≤ capMax then
some (((strOf (z1.2.1 ++ ([(wu8 (z1.1))] : List (Int)))), (true, ())), ((), ()))
else none)) (y0.1, (y0.2.1, ()))))) k (x.1, (([] : List (Int)), ())))))
theorem t_i_VarText (k : Nat) (x) : evF TTab k [⟨55, 0, yP12, .bool, i_within k⟩] [(0, ⟨[0, 4], (.cons (.int .i64) (.cons (.own false 5 (.int .u8)) .nil))⟩, ⟨[0, 4], (.cons (.int .i64) (.cons (.own false 5 (.int .u8)) .nil))⟩)] Tryz.f297 yP2 (.tup yP22) x = i_VarText k x := by kernel_rfl
theorem e_i_VarText [Names] (k : Nat) : EntryOk Tryz.prog ⟨297, 0, yP2, (.tup yP22), i_VarText k⟩ := entry_ok tok (by intro e he; simp only [List.mem_cons, List.not_mem_nil, or_false] at he; rcases he with rfl <;> first | exact e_i_within k) (by kernel_rfl) (fn := Tryz.f297) (k := k) (es := [⟨55, 0, yP12, .bool, i_within k⟩]) (loops := [(0, ⟨[0, 4], (.cons (.int .i64) (.cons (.own false 5 (.int .u8)) .nil))⟩, ⟨[0, 4], (.cons (.int .i64) (.cons (.own false 5 (.int .u8)) .nil))⟩)]) (by kernel_rfl) (by kernel_rfl) (fun x r h => (t_i_VarText k x).trans h)
def i_masked (k : Nat) (x : ByteArray × Int × Unit) : Option (ByteArray × Unit × Unit × Unit) :=
(if ByteArray.size x.1 ≤ maxStr then
(whileK (fun (rec0 : (Int × List (Int) × Int × Int × Unit) → Option _) (y0 : Int × List (Int) × Int × Int × Unit) =>
(if (decide (y0.2.2.2.1 < y0.2.2.1)) = true then
(if 0 ≤ y0.2.2.2.1 ∧ y0.2.2.2.1 < (List.length y0.2.1 : Int) then
(if 0 ≤ y0.2.2.2.1 ∧ y0.2.2.2.1 < (List.length y0.2.1 : Int) then
(rec0 (y0.1, ((List.set y0.2.1 (Int.toNat y0.2.2.2.1) (bitsI .xor .u8 (Ty.rd (t := (.int .u8)) y0.2.1 y0.2.2.2.1) y0.1)), (y0.2.2.1, ((wi64 (y0.2.2.2.1 + (1 : Int))), ())))))
else none)
else none)
else
((fun (z1 : List (Int) × Unit) =>
some ((strOf z1.1), ((), ((), ())))) (y0.2.1, ())))) k (x.2.1, ((bytesOf x.1), ((List.length (bytesOf x.1) : Int), ((0 : Int), ())))))
else none)
theorem t_i_masked (k : Nat) (x) : evF TTab k [] [(0, ⟨[1, 5, 10, 11], (.cons (.int .u8) (.cons (.own true 5 (.int .u8)) (.cons (.int .i64) yP2)))⟩, ⟨[5], (.cons (.own true 5 (.int .u8)) .nil)⟩)] Tryz.f323 (.cons .str (.cons (.int .u8) .nil)) .str x = i_masked k x := by kernel_rfl
theorem e_i_masked [Names] (k : Nat) : EntryOk Tryz.prog ⟨323, 0, (.cons .str (.cons (.int .u8) .nil)), .str, i_masked k⟩ := entry_ok tok (by simp) (by kernel_rfl) (fn := Tryz.f323) (k := k) (es := []) (loops := [(0, ⟨[1, 5, 10, 11], (.cons (.int .u8) (.cons (.own true 5 (.int .u8)) (.cons (.int .i64) yP2)))⟩, ⟨[5], (.cons (.own true 5 (.int .u8)) .nil)⟩)]) (by kernel_rfl) (by kernel_rfl) (fun x r h => (t_i_masked k x).trans h)
def i_MacOf (k : Nat) (x : ByteArray × ByteArray × Unit) : Option (ByteArray × Unit × Unit × Unit) :=
(if (decide ((64 : Int) < (ByteArray.size x.1 : Int))) = true then
((i_DigestOf k (x.1, ())).bind fun p1 =>
((x_strings_Repeat k ((⟨#[0]⟩ : ByteArray), ((wi64 ((64 : Int) - (ByteArray.size p1.1 : Int))), ()))).bind fun p7 =>
(if ByteArray.size p1.1 + ByteArray.size p7.1 ≤ maxStr then
((i_masked k ((p1.1 ++ p7.1), ((92 : Int), ()))).bind fun p8 =>
((i_masked k ((p1.1 ++ p7.1), ((54 : Int), ()))).bind fun p9 =>
(if ByteArray.size p9.1 + ByteArray.size x.2.1 ≤ maxStr then
((i_DigestOf k ((p9.1 ++ x.2.1), ())).bind fun p10 =>
(if ByteArray.size p8.1 + ByteArray.size p10.1 ≤ maxStr then
((i_DigestOf k ((p8.1 ++ p10.1), ())).bind fun p11 =>
some (p11.1, ((), ((), ()))))
else none))
else none)))
else none)))
else
((x_strings_Repeat k ((⟨#[0]⟩ : ByteArray), ((wi64 ((64 : Int) - (ByteArray.size x.1 : Int))), ()))).bind fun p12 =>
(if ByteArray.size x.1 + ByteArray.size p12.1 ≤ maxStr then
((i_masked k ((x.1 ++ p12.1), ((92 : Int), ()))).bind fun p13 =>
((i_masked k ((x.1 ++ p12.1), ((54 : Int), ()))).bind fun p14 =>
(if ByteArray.size p14.1 + ByteArray.size x.2.1 ≤ maxStr then
((i_DigestOf k ((p14.1 ++ x.2.1), ())).bind fun p15 =>
(if ByteArray.size p13.1 + ByteArray.size p15.1 ≤ maxStr then
((i_DigestOf k ((p13.1 ++ p15.1), ())).bind fun p16 =>
some (p16.1, ((), ((), ()))))
else none))
else none)))
else none)))
theorem t_i_MacOf (k : Nat) (x) : evF TTab k [⟨141, 0, (.cons .str .nil), .str, i_DigestOf k⟩, ⟨286, 0, (.cons .str yP2), .str, x_strings_Repeat k⟩, ⟨323, 0, (.cons .str (.cons (.int .u8) .nil)), .str, i_masked k⟩] [] Tryz.f298 yP32 .str x = i_MacOf k x := by kernel_rfl
theorem e_i_MacOf [Names] (k : Nat) : EntryOk Tryz.prog ⟨298, 0, yP32, .str, i_MacOf k⟩ := entry_ok tok (by intro e he; simp only [List.mem_cons, List.not_mem_nil, or_false] at he; rcases he with rfl | rfl | rfl <;> first | exact e_i_DigestOf k | exact e_x_strings_Repeat k | exact e_i_masked k) (by kernel_rfl) (fn := Tryz.f298) (k := k) (es := [⟨141, 0, (.cons .str .nil), .str, i_DigestOf k⟩, ⟨286, 0, (.cons .str yP2), .str, x_strings_Repeat k⟩, ⟨323, 0, (.cons .str (.cons (.int .u8) .nil)), .str, i_masked k⟩]) (loops := []) (by kernel_rfl) (by kernel_rfl) (fun x r h => (t_i_MacOf k x).trans h)
def i_Mask (k : Nat) (x : ByteArray × Int × Int × Unit) : Option ((ByteArray × Bool × Unit) × Unit × Unit × Unit × Unit) :=
((i_VarText k (x.2.1, ())).bind fun p1 =>
(if (!p1.1.2.1) = false then
((i_within k (x.2.2.1, ((0 : Int), ((8000 : Int), ())))).bind fun p2 =>
(if (!p2.1) = true then
some (((⟨#[]⟩ : ByteArray), (false, ())), ((), ((), ((), ()))))
else
(whileK (fun (rec0 : (ByteArray × Int × ByteArray × List (Int) × Int × Unit) → Option _) (y0 : ByteArray × Int × ByteArray × List (Int) × Int × Unit) =>
(if (decide ((List.length y0.2.2.2.1 : Int) < y0.2.1)) = true then
(if ByteArray.size (⟨#[109]⟩ : ByteArray) + ByteArray.size y0.2.2.1 ≤ maxStr then
((i_byteText k (y0.2.2.2.2.1, ())).bind fun p3 =>
(if ByteArray.size ((⟨#[109]⟩ : ByteArray) ++ y0.2.2.1) + ByteArray.size p3.1 ≤ maxStr then
((i_MacOf k (y0.1, ((((⟨#[109]⟩ : ByteArray) ++ y0.2.2.1) ++ p3.1), ()))).bind fun p4 =>
(if List.length y0.2.2.2.1 + List.length (bytesOf p4.1) ≤ capMax then
(rec0 (y0.1, (y0.2.1, (y0.2.2.1, ((y0.2.2.2.1 ++ (bytesOf p4.1)), ((wi64 (y0.2.2.2.2.1 + (1 : Int))), ()))))))
else none))
else none))
else none)
else
((fun (z1 : Int × List (Int) × Unit) =>
(if 0 ≤ z1.1 ∧ z1.1 ≤ (List.length z1.2.1 : Int) then
some (((strOf (List.drop (Int.toNat (0 : Int)) (List.take (Int.toNat z1.1) z1.2.1))), (true, ())), ((), ((), ((), ()))))
else none)) (y0.2.1, (y0.2.2.2.1, ()))))) k (x.1, (x.2.2.1, (p1.1.1, (([] : List (Int)), ((0 : Int), ()))))))))
else
some (((⟨#[]⟩ : ByteArray), (false, ())), ((), ((), ((), ()))))))
theorem t_i_Mask (k : Nat) (x) : evF TTab k [⟨55, 0, yP12, .bool, i_within k⟩, ⟨182, 0, yP2, .str, i_byteText k⟩, ⟨297, 0, yP2, (.tup yP22), i_VarText k⟩, ⟨298, 0, yP32, .str, i_MacOf k⟩] [(0, ⟨[0, 2, 8, 10, 11], (.cons .str (.cons (.int .i64) (.cons .str (.cons (.own false 5 (.int .u8)) yP2))))⟩, ⟨[2, 10], (.cons (.int .i64) (.cons (.own false 5 (.int .u8)) .nil))⟩)] Tryz.f296 (.cons .str (.cons (.int .i64) yP2)) (.tup yP22) x = i_Mask k x := by kernel_rfl
theorem e_i_Mask [Names] (k : Nat) : EntryOk Tryz.prog ⟨296, 0, (.cons .str (.cons (.int .i64) yP2)), (.tup yP22), i_Mask k⟩ := entry_ok tok (by intro e he; simp only [List.mem_cons, List.not_mem_nil, or_false] at he; rcases he with rfl | rfl | rfl | rfl <;> first | exact e_i_within k | exact e_i_byteText k | exact e_i_VarText k | exact e_i_MacOf k) (by kernel_rfl) (fn := Tryz.f296) (k := k) (es := [⟨55, 0, yP12, .bool, i_within k⟩, ⟨182, 0, yP2, .str, i_byteText k⟩, ⟨297, 0, yP2, (.tup yP22), i_VarText k⟩, ⟨298, 0, yP32, .str, i_MacOf k⟩]) (loops := [(0, ⟨[0, 2, 8, 10, 11], (.cons .str (.cons (.int .i64) (.cons .str (.cons (.own false 5 (.int .u8)) yP2))))⟩, ⟨[2, 10], (.cons (.int .i64) (.cons (.own false 5 (.int .u8)) .nil))⟩)]) (by kernel_rfl) (by kernel_rfl) (fun x r h => (t_i_Mask k x).trans h)
def i_hidden (k : Nat) (x : ByteArray × Int × ByteArray × Unit) : Option ((ByteArray × Bool × Unit) × Unit × Unit × Unit × Unit) :=
((i_Mask k (x.1, (x.2.1, ((ByteArray.size x.2.2.1 : Int), ())))).bind fun p1 =>
(if (!p1.1.2.1) = true then
some (((⟨#[]⟩ : ByteArray), (false, ())), ((), ((), ((), ()))))
else
(if ByteArray.size x.2.2.1 ≤ maxStr then
(whileK (fun (rec0 : (ByteArray × List (Int) × Int × Int × Unit) → Option _) (y0 : ByteArray × List (Int) × Int × Int × Unit) =>
(if (decide (y0.2.2.2.1 < y0.2.2.1)) = true then
(if 0 ≤ y0.2.2.2.1 ∧ y0.2.2.2.1 < (List.length y0.2.1 : Int) then
(if 0 ≤ y0.2.2.2.1 ∧ y0.2.2.2.1 < (ByteArray.size y0.1 : Int) then
(if 0 ≤ y0.2.2.2.1 ∧ y0.2.2.2.1 < (List.length y0.2.1 : Int) then
(rec0 (y0.1, ((List.set y0.2.1 (Int.toNat y0.2.2.2.1) (bitsI .xor .u8 (Ty.rd (t := (.int .u8)) y0.2.1 y0.2.2.2.1) (bt y0.1 y0.2.2.2.1))), (y0.2.2.1, ((wi64 (y0.2.2.2.1 + (1 : Int))), ())))))
else none)
else none)
else none)
else
((fun (z1 : List (Int) × Unit) =>
some (((strOf z1.1), (true, ())), ((), ((), ((), ()))))) (y0.2.1, ())))) k (p1.1.1, ((bytesOf x.2.2.1), ((List.length (bytesOf x.2.2.1) : Int), ((0 : Int), ())))))
else none)))
theorem t_i_hidden (k : Nat) (x) : evF TTab k [⟨296, 0, (.cons .str (.cons (.int .i64) yP2)), (.tup yP22), i_Mask k⟩] [(0, ⟨[8, 10, 25, 26], (.cons .str (.cons (.own true 5 (.int .u8)) (.cons (.int .i64) yP2)))⟩, ⟨[10], (.cons (.own true 5 (.int .u8)) .nil)⟩)] Tryz.f258 (.cons .str yP19) (.tup yP22) x = i_hidden k x := by kernel_rfl
theorem e_i_hidden [Names] (k : Nat) : EntryOk Tryz.prog ⟨258, 0, (.cons .str yP19), (.tup yP22), i_hidden k⟩ := entry_ok tok (by intro e he; simp only [List.mem_cons, List.not_mem_nil, or_false] at he; rcases he with rfl <;> first | exact e_i_Mask k) (by kernel_rfl) (fn := Tryz.f258) (k := k) (es := [⟨296, 0, (.cons .str (.cons (.int .i64) yP2)), (.tup yP22), i_Mask k⟩]) (loops := [(0, ⟨[8, 10, 25, 26], (.cons .str (.cons (.own true 5 (.int .u8)) (.cons (.int .i64) yP2)))⟩, ⟨[10], (.cons (.own true 5 (.int .u8)) .nil)⟩)]) (by kernel_rfl) (by kernel_rfl) (fun x r h => (t_i_hidden k x).trans h)
def i_macText (k : Nat) (x : ByteArray × Int × ByteArray × Unit) : Option (ByteArray × Unit × Unit × Unit × Unit) :=
((i_VarText k (x.2.1, ())).bind fun p1 =>
(if ByteArray.size (⟨#[116]⟩ : ByteArray) + ByteArray.size p1.1.1 ≤ maxStr then
(if ByteArray.size ((⟨#[116]⟩ : ByteArray) ++ p1.1.1) + ByteArray.size x.2.2.1 ≤ maxStr then
((i_MacOf k (x.1, ((((⟨#[116]⟩ : ByteArray) ++ p1.1.1) ++ x.2.2.1), ()))).bind fun p2 =>
(if 0 ≤ (16 : Int) ∧ (16 : Int) ≤ (ByteArray.size p2.1 : Int) then
some ((ByteArray.extract p2.1 (Int.toNat (0 : Int)) (Int.toNat (16 : Int))), ((), ((), ((), ()))))
else none))
else none)
else none))
theorem t_i_macText (k : Nat) (x) : evF TTab k [⟨297, 0, yP2, (.tup yP22), i_VarText k⟩, ⟨298, 0, yP32, .str, i_MacOf k⟩] [] Tryz.f259 (.cons .str yP19) .str x = i_macText k x := by kernel_rfl
theorem e_i_macText [Names] (k : Nat) : EntryOk Tryz.prog ⟨259, 0, (.cons .str yP19), .str, i_macText k⟩ := entry_ok tok (by intro e he; simp only [List.mem_cons, List.not_mem_nil, or_false] at he; rcases he with rfl | rfl <;> first | exact e_i_VarText k | exact e_i_MacOf k) (by kernel_rfl) (fn := Tryz.f259) (k := k) (es := [⟨297, 0, yP2, (.tup yP22), i_VarText k⟩, ⟨298, 0, yP32, .str, i_MacOf k⟩]) (loops := []) (by kernel_rfl) (by kernel_rfl) (fun x r h => (t_i_macText k x).trans h)
def i_LockText (k : Nat) (x : ByteArray × Int × ByteArray × Unit) : Option ((ByteArray × Bool × Unit) × Unit × Unit × Unit × Unit) :=
((i_hidden k (x.1, (x.2.1, (x.2.2.1, ())))).bind fun p1 =>
(if (!p1.1.2.1) = true then
some (((⟨#[]⟩ : ByteArray), (false, ())), ((), ((), ((), ()))))
else
((i_macText k (x.1, (x.2.1, (p1.1.1, ())))).bind fun p2 =>
(if ByteArray.size p1.1.1 + ByteArray.size p2.1 ≤ maxStr then
some (((p1.1.1 ++ p2.1), (true, ())), ((), ((), ((), ()))))
else none))))
theorem t_i_LockText (k : Nat) (x) : evF TTab k [⟨258, 0, (.cons .str yP19), (.tup yP22), i_hidden k⟩, ⟨259, 0, (.cons .str yP19), .str, i_macText k⟩] [] Tryz.f187 (.cons .str yP19) (.tup yP22) x = i_LockText k x := by kernel_rfl
theorem e_i_LockText [Names] (k : Nat) : EntryOk Tryz.prog ⟨187, 0, (.cons .str yP19), (.tup yP22), i_LockText k⟩ := entry_ok tok (by intro e he; simp only [List.mem_cons, List.not_mem_nil, or_false] at he; rcases he with rfl | rfl <;> first | exact e_i_hidden k | exact e_i_macText k) (by kernel_rfl) (fn := Tryz.f187) (k := k) (es := [⟨258, 0, (.cons .str yP19), (.tup yP22), i_hidden k⟩, ⟨259, 0, (.cons .str yP19), .str, i_macText k⟩]) (loops := []) (by kernel_rfl) (by kernel_rfl) (fun x r h => (t_i_LockText k x).trans h)
def i_SealData (k : Nat) (x : (Int × ByteArray × ByteArray × Int × List (Int) × Int × Int × ByteArray × ByteArray × Int × List (Int) × Int × Unit) × Int × Int × ByteArray × Unit) : Option (((Int × ByteArray × ByteArray × Int × List (Int) × Int × Int × ByteArray × ByteArray × Int × List (Int) × Int × Unit) × (Int × Int × Int × Int × Int × List (Int) × ByteArray × Unit) × Bool × Unit) × Unit × Unit × Unit × Unit × Unit) :=
((i_copySlots k ((x.1.1, (x.1.2.1, (x.1.2.2.1, (x.1.2.2.2.1, (x.1.2.2.2.2.1, (x.1.2.2.2.2.2.1, (x.1.2.2.2.2.2.2.1, (x.1.2.2.2.2.2.2.2.1, (x.1.2.2.2.2.2.2.2.2.1, (x.1.2.2.2.2.2.2.2.2.2.1, (x.1.2.2.2.2.2.2.2.2.2.2.1, (x.1.2.2.2.2.2.2.2.2.2.2.2.1, ())))))))))))), ())).bind fun p1 =>
((i_SlotsOk k ((x.1.1, (x.1.2.1, (x.1.2.2.1, (x.1.2.2.2.1, (x.1.2.2.2.2.1, (x.1.2.2.2.2.2.1, (x.1.2.2.2.2.2.2.1, (x.1.2.2.2.2.2.2.2.1, (x.1.2.2.2.2.2.2.2.2.1, (x.1.2.2.2.2.2.2.2.2.2.1, (x.1.2.2.2.2.2.2.2.2.2.2.1, (x.1.2.2.2.2.2.2.2.2.2.2.2.1, ())))))))))))), ())).bind fun p2 =>
(if (!p2.1) = false then
((i_Spent k ((x.1.1, (x.1.2.1, (x.1.2.2.1, (x.1.2.2.2.1, (x.1.2.2.2.2.1, (x.1.2.2.2.2.2.1, (x.1.2.2.2.2.2.2.1, (x.1.2.2.2.2.2.2.2.1, (x.1.2.2.2.2.2.2.2.2.1, (x.1.2.2.2.2.2.2.2.2.2.1, (x.1.2.2.2.2.2.2.2.2.2.2.1, (x.1.2.2.2.2.2.2.2.2.2.2.2.1, ())))))))))))), ())).bind fun p3 =>
(if p3.1 = false then
((i_isId k (x.2.1, ())).bind fun p4 =>
(if (!p4.1) = false then
((i_isId k (x.2.2.1, ())).bind fun p5 =>
(if (!p5.1) = false then
(if (decide ((104 : Int) < (ByteArray.size x.2.2.2.1 : Int))) = true then
some (((p1.1.1, (p1.1.2.1, (p1.1.2.2.1, (p1.1.2.2.2.1, (p1.1.2.2.2.2.1, (p1.1.2.2.2.2.2.1, (p1.1.2.2.2.2.2.2.1, (p1.1.2.2.2.2.2.2.2.1, (p1.1.2.2.2.2.2.2.2.2.1, (p1.1.2.2.2.2.2.2.2.2.2.1, (p1.1.2.2.2.2.2.2.2.2.2.2.1, (p1.1.2.2.2.2.2.2.2.2.2.2.2.1, ())))))))))))), (((0 : Int), ((0 : Int), ((0 : Int), ((0 : Int), ((0 : Int), ([], ((⟨#[]⟩ : ByteArray), ()))))))), (false, ()))), ((), ((), ((), ((), ())))))
else
((i_LockText k (x.1.2.1, ((wi64 (p1.1.2.2.2.1 + (1 : Int))), (x.2.2.2.1, ())))).bind fun p6 =>
some (((p1.1.1, (p1.1.2.1, (p1.1.2.2.1, ((wi64 (p1.1.2.2.2.1 + (1 : Int))), (p1.1.2.2.2.2.1, (p1.1.2.2.2.2.2.1, (p1.1.2.2.2.2.2.2.1, (p1.1.2.2.2.2.2.2.2.1, (p1.1.2.2.2.2.2.2.2.2.1, (p1.1.2.2.2.2.2.2.2.2.2.1, (p1.1.2.2.2.2.2.2.2.2.2.2.1, (p1.1.2.2.2.2.2.2.2.2.2.2.2.1, ())))))))))))), (((3 : Int), ((Int.tmod x.1.1 (8 : Int)), (x.2.1, (x.2.2.1, ((wi64 (p1.1.2.2.2.1 + (1 : Int))), ([], (p6.1.1, ()))))))), (true, ()))), ((), ((), ((), ((), ())))))))
else
some (((p1.1.1, (p1.1.2.1, (p1.1.2.2.1, (p1.1.2.2.2.1, (p1.1.2.2.2.2.1, (p1.1.2.2.2.2.2.1, (p1.1.2.2.2.2.2.2.1, (p1.1.2.2.2.2.2.2.2.1, (p1.1.2.2.2.2.2.2.2.2.1, (p1.1.2.2.2.2.2.2.2.2.2.1, (p1.1.2.2.2.2.2.2.2.2.2.2.1, (p1.1.2.2.2.2.2.2.2.2.2.2.2.1, ())))))))))))), (((0 : Int), ((0 : Int), ((0 : Int), ((0 : Int), ((0 : Int), ([], ((⟨#[]⟩ : ByteArray), ()))))))), (false, ()))), ((), ((), ((), ((), ())))))))
else
some (((p1.1.1, (p1.1.2.1, (p1.1.2.2.1, (p1.1.2.2.2.1, (p1.1.2.2.2.2.1, (p1.1.2.2.2.2.2.1, (p1.1.2.2.2.2.2.2.1, (p1.1.2.2.2.2.2.2.2.1, (p1.1.2.2.2.2.2.2.2.2.1, (p1.1.2.2.2.2.2.2.2.2.2.1, (p1.1.2.2.2.2.2.2.2.2.2.2.1, (p1.1.2.2.2.2.2.2.2.2.2.2.2.1, ())))))))))))), (((0 : Int), ((0 : Int), ((0 : Int), ((0 : Int), ((0 : Int), ([], ((⟨#[]⟩ : ByteArray), ()))))))), (false, ()))), ((), ((), ((), ((), ())))))))
else
some (((p1.1.1, (p1.1.2.1, (p1.1.2.2.1, (p1.1.2.2.2.1, (p1.1.2.2.2.2.1, (p1.1.2.2.2.2.2.1, (p1.1.2.2.2.2.2.2.1, (p1.1.2.2.2.2.2.2.2.1, (p1.1.2.2.2.2.2.2.2.2.1, (p1.1.2.2.2.2.2.2.2.2.2.1, (p1.1.2.2.2.2.2.2.2.2.2.2.1, (p1.1.2.2.2.2.2.2.2.2.2.2.2.1, ())))))))))))), (((0 : Int), ((0 : Int), ((0 : Int), ((0 : Int), ((0 : Int), ([], ((⟨#[]⟩ : ByteArray), ()))))))), (false, ()))), ((), ((), ((), ((), ())))))))
else
some (((p1.1.1, (p1.1.2.1, (p1.1.2.2.1, (p1.1.2.2.2.1, (p1.1.2.2.2.2.1, (p1.1.2.2.2.2.2.1, (p1.1.2.2.2.2.2.2.1, (p1.1.2.2.2.2.2.2.2.1, (p1.1.2.2.2.2.2.2.2.2.1, (p1.1.2.2.2.2.2.2.2.2.2.1, (p1.1.2.2.2.2.2.2.2.2.2.2.1, (p1.1.2.2.2.2.2.2.2.2.2.2.2.1, ())))))))))))), (((0 : Int), ((0 : Int), ((0 : Int), ((0 : Int), ((0 : Int), ([], ((⟨#[]⟩ : ByteArray), ()))))))), (false, ()))), ((), ((), ((), ((), ()))))))))
theorem t_i_SealData (k : Nat) (x) : evF TTab k [⟨133, 0, yP2, .bool, i_isId k⟩, ⟨183, 0, (.cons yP6 .nil), (.agg yP5), i_copySlots k⟩, ⟨185, 0, (.cons yP6 .nil), .bool, i_SlotsOk k⟩, ⟨186, 0, (.cons yP6 .nil), .bool, i_Spent k⟩, ⟨187, 0, (.cons .str yP19), (.tup yP22), i_LockText k⟩] [] Tryz.f101 (.cons yP6 (.cons (.int .i64) yP19)) yP33 x = i_SealData k x := by kernel_rfl
theorem e_i_SealData [Names] (k : Nat) : EntryOk Tryz.prog ⟨101, 0, (.cons yP6 (.cons (.int .i64) yP19)), yP33, i_SealData k⟩ := entry_ok tok (by intro e he; simp only [List.mem_cons, List.not_mem_nil, or_false] at he; rcases he with rfl | rfl | rfl | rfl | rfl <;> first | exact e_i_isId k | exact e_i_copySlots k | exact e_i_SlotsOk k | exact e_i_Spent k | exact e_i_LockText k) (by kernel_rfl) (fn := Tryz.f101) (k := k) (es := [⟨133, 0, yP2, .bool, i_isId k⟩, ⟨183, 0, (.cons yP6 .nil), (.agg yP5), i_copySlots k⟩, ⟨185, 0, (.cons yP6 .nil), .bool, i_SlotsOk k⟩, ⟨186, 0, (.cons yP6 .nil), .bool, i_Spent k⟩, ⟨187, 0, (.cons .str yP19), (.tup yP22), i_LockText k⟩]) (loops := []) (by kernel_rfl) (by kernel_rfl) (fun x r h => (t_i_SealData k x).trans h)
def i_SendInner (k : Nat) (x : (Int × Int × Int × ByteArray × ByteArray × Int × List (Int) × Int × Int × ByteArray × ByteArray × Int × List (Int) × Int × (List (Int × Int × Int × List (ByteArray) × List (Bool) × Int)) × Int × Unit) × Int × Int × (Int × Int × ByteArray × Unit) × Unit) : Option (((Int × Int × Int × ByteArray × ByteArray × Int × List (Int) × Int × Int × ByteArray × ByteArray × Int × List (Int) × Int × (List (Int × Int × Int × List (ByteArray) × List (Bool) × Int)) × Int × Unit) × (List (Int × Int × Int × Int × Int × List (Int) × ByteArray)) × Bool × Unit) × Unit × Unit × Unit × Unit × Unit) :=
((i_InnerText k ((x.2.2.2.1.1, (x.2.2.2.1.2.1, (x.2.2.2.1.2.2.1, ()))), ())).bind fun p1 =>
((i_Split k ((bitsI .and .i64 x.1.2.2.2.2.2.2.2.2.2.2.2.2.2.2.2.1 (255 : Int)), (p1.1.1, ((60 : Int), ())))).bind fun p2 =>
(if (!p1.1.2.1) = false then
(if (!p2.1.2.1) = true then
((i_copyUser k (x.1, ())).bind fun p3 =>
some ((p3.1, ([], (false, ()))), ((), ((), ((), ((), ()))))))
else
((i_copyUser k (x.1, ())).bind fun p5 =>
(whileK (fun (rec0 : (Int × Int × (Int × Int × Int × ByteArray × ByteArray × Int × List (Int) × Int × Int × ByteArray × ByteArray × Int × List (Int) × Int × (List (Int × Int × Int × List (ByteArray) × List (Bool) × Int)) × Int × Unit) × (Int × Int × Int × ByteArray × ByteArray × Int × List (Int) × Int × Int × ByteArray × ByteArray × Int × List (Int) × Int × (List (Int × Int × Int × List (ByteArray) × List (Bool) × Int)) × Int × Unit) × (Int × Int × Int × ByteArray × ByteArray × Int × List (Int) × Int × Int × ByteArray × ByteArray × Int × List (Int) × Int × (List (Int × Int × Int × List (ByteArray) × List (Bool) × Int)) × Int × Unit) × (List (Int × Int × Int × Int × Int × List (Int) × ByteArray)) × List (ByteArray) × Int × Int × Unit) → Option _) (y0 : Int × Int × (Int × Int × Int × ByteArray × ByteArray × Int × List (Int) × Int × Int × ByteArray × ByteArray × Int × List (Int) × Int × (List (Int × Int × Int × List (ByteArray) × List (Bool) × Int)) × Int × Unit) × (Int × Int × Int × ByteArray × ByteArray × Int × List (Int) × Int × Int × ByteArray × ByteArray × Int × List (Int) × Int × (List (Int × Int × Int × List (ByteArray) × List (Bool) × Int)) × Int × Unit) × (Int × Int × Int × ByteArray × ByteArray × Int × List (Int) × Int × Int × ByteArray × ByteArray × Int × List (Int) × Int × (List (Int × Int × Int × List (ByteArray) × List (Bool) × Int)) × Int × Unit) × (List (Int × Int × Int × Int × Int × List (Int) × ByteArray)) × List (ByteArray) × Int × Int × Unit) =>
(if (decide (y0.2.2.2.2.2.2.2.2.1 < y0.2.2.2.2.2.2.2.1)) = true then
(if 0 ≤ y0.2.2.2.2.2.2.2.2.1 ∧ y0.2.2.2.2.2.2.2.2.1 < (List.length y0.2.2.2.2.2.2.1 : Int) then
((i_SealData k ((y0.2.2.2.2.1.2.2.1, (y0.2.2.2.2.1.2.2.2.1, (y0.2.2.2.2.1.2.2.2.2.1, (y0.2.2.2.2.1.2.2.2.2.2.1, (y0.2.2.2.2.1.2.2.2.2.2.2.1, (y0.2.2.2.2.1.2.2.2.2.2.2.2.1, (y0.2.2.2.2.1.2.2.2.2.2.2.2.2.1, (y0.2.2.2.2.1.2.2.2.2.2.2.2.2.2.1, (y0.2.2.2.2.1.2.2.2.2.2.2.2.2.2.2.1, (y0.2.2.2.2.1.2.2.2.2.2.2.2.2.2.2.2.1, (y0.2.2.2.2.1.2.2.2.2.2.2.2.2.2.2.2.2.1, (y0.2.2.2.2.1.2.2.2.2.2.2.2.2.2.2.2.2.2.1, ())))))))))))), (y0.1, (y0.2.1, ((Ty.rd (t := .str) y0.2.2.2.2.2.2.1 y0.2.2.2.2.2.2.2.2.1), ()))))).bind fun p6 =>
(if (!p6.1.2.2.1) = true then
((i_copyUser k (y0.2.2.1, ())).bind fun p7 =>
some ((p7.1, ([], (false, ()))), ((), ((), ((), ((), ()))))))
else
(if List.length y0.2.2.2.2.2.1 + List.length ([(p6.1.2.1.1, (p6.1.2.1.2.1, (p6.1.2.1.2.2.1, (p6.1.2.1.2.2.2.1, (p6.1.2.1.2.2.2.2.1, (p6.1.2.1.2.2.2.2.2.1, p6.1.2.1.2.2.2.2.2.2.1))))))] : List (Int × Int × Int × Int × Int × List (Int) × ByteArray)) ≤ capMax then
(rec0 (y0.1, (y0.2.1, (y0.2.2.1, (y0.2.2.2.1, ((y0.2.2.2.2.1.1, (y0.2.2.2.2.1.2.1, (p6.1.1.1, (p6.1.1.2.1, (p6.1.1.2.2.1, (p6.1.1.2.2.2.1, (p6.1.1.2.2.2.2.1, (p6.1.1.2.2.2.2.2.1, (p6.1.1.2.2.2.2.2.2.1, (p6.1.1.2.2.2.2.2.2.2.1, (p6.1.1.2.2.2.2.2.2.2.2.1, (p6.1.1.2.2.2.2.2.2.2.2.2.1, (p6.1.1.2.2.2.2.2.2.2.2.2.2.1, (p6.1.1.2.2.2.2.2.2.2.2.2.2.2.1, (y0.2.2.2.2.1.2.2.2.2.2.2.2.2.2.2.2.2.2.2.1, (y0.2.2.2.2.1.2.2.2.2.2.2.2.2.2.2.2.2.2.2.2.1, ())))))))))))))))), ((y0.2.2.2.2.2.1 ++ ([(p6.1.2.1.1, (p6.1.2.1.2.1, (p6.1.2.1.2.2.1, (p6.1.2.1.2.2.2.1, (p6.1.2.1.2.2.2.2.1, (p6.1.2.1.2.2.2.2.2.1, p6.1.2.1.2.2.2.2.2.2.1))))))] : List (Int × Int × Int × Int × Int × List (Int) × ByteArray))), (y0.2.2.2.2.2.2.1, (y0.2.2.2.2.2.2.2.1, ((wi64 (y0.2.2.2.2.2.2.2.2.1 + (1 : Int))), ()))))))))))
else none)))
else none)
else
((fun (z1 : (Int × Int × Int × ByteArray × ByteArray × Int × List (Int) × Int × Int × ByteArray × ByteArray × Int × List (Int) × Int × (List (Int × Int × Int × List (ByteArray) × List (Bool) × Int)) × Int × Unit) × (Int × Int × Int × ByteArray × ByteArray × Int × List (Int) × Int × Int × ByteArray × ByteArray × Int × List (Int) × Int × (List (Int × Int × Int × List (ByteArray) × List (Bool) × Int)) × Int × Unit) × (List (Int × Int × Int × Int × Int × List (Int) × ByteArray)) × Unit) =>
some (((z1.2.1.1, (z1.2.1.2.1, (z1.2.1.2.2.1, (z1.2.1.2.2.2.1, (z1.2.1.2.2.2.2.1, (z1.2.1.2.2.2.2.2.1, (z1.2.1.2.2.2.2.2.2.1, (z1.2.1.2.2.2.2.2.2.2.1, (z1.2.1.2.2.2.2.2.2.2.2.1, (z1.2.1.2.2.2.2.2.2.2.2.2.1, (z1.2.1.2.2.2.2.2.2.2.2.2.2.1, (z1.2.1.2.2.2.2.2.2.2.2.2.2.2.1, (z1.2.1.2.2.2.2.2.2.2.2.2.2.2.2.1, (z1.2.1.2.2.2.2.2.2.2.2.2.2.2.2.2.1, (z1.2.1.2.2.2.2.2.2.2.2.2.2.2.2.2.2.1, ((wi64 (z1.2.1.2.2.2.2.2.2.2.2.2.2.2.2.2.2.2.1 + (1 : Int))), ())))))))))))))))), (z1.2.2.1, (true, ()))), ((), ((), ((), ((), ())))))) (y0.2.2.2.1, (y0.2.2.2.2.1, (y0.2.2.2.2.2.1, ())))))) k (x.2.1, (x.2.2.1, (x.1, (((0 : Int), ((0 : Int), ((0 : Int), ((⟨#[]⟩ : ByteArray), ((⟨#[]⟩ : ByteArray), ((0 : Int), ([], ((0 : Int), ((0 : Int), ((⟨#[]⟩ : ByteArray), ((⟨#[]⟩ : ByteArray), ((0 : Int), ([], ((0 : Int), ([], ((0 : Int), ())))))))))))))))), (p5.1, (([] : List (Int × Int × Int × Int × Int × List (Int) × ByteArray)), (p2.1.1, ((List.length p2.1.1 : Int), ((0 : Int), ()))))))))))))
else
((i_copyUser k (x.1, ())).bind fun p4 =>
some ((p4.1, ([], (false, ()))), ((), ((), ((), ((), ())))))))))
theorem t_i_SendInner (k : Nat) (x) : evF TTabO k [⟨98, 0, (.cons yP35 .nil), (.tup yP22), i_InnerText k⟩, ⟨99, 0, (.cons (.int .i64) (.cons .str yP2)), (.tup (.cons (.own false 9 .str) (.cons .bool .nil))), i_Split k⟩, ⟨100, 0, (.cons (.agg yP9) .nil), (.agg yP3), i_copyUser k⟩, ⟨101, 0, (.cons yP6 (.cons (.int .i64) yP19)), yP33, i_SealData k⟩] [(0, ⟨[1, 2, 4, 8, 15, 16, 46, 47, 48], (.cons (.int .i64) (.cons (.int .i64) (.cons (.ptr 0 yP9) (.cons (.ptr 0 yP3) (.cons (.ptr 0 yP3) (.cons (.own false 100 yT13) (.cons (.own false 9 .str) (.cons (.int .i64) yP2))))))))⟩, ⟨[8, 15, 16], (.cons (.ptr 0 yP3) (.cons (.ptr 0 yP3) (.cons (.own false 100 yT13) .nil)))⟩)] Tryz.f33 (.cons (.agg yP9) (.cons (.int .i64) (.cons (.int .i64) (.cons yP35 .nil)))) (.tup (.cons (.agg yP3) (.cons (.own false 100 yT13) (.cons .bool .nil)))) x = i_SendInner k x := by kernel_rfl
theorem e_i_SendInner [Names] (k : Nat) : EntryOk Tryz.prog ⟨33, 0, (.cons (.agg yP9) (.cons (.int .i64) (.cons (.int .i64) (.cons yP35 .nil)))), (.tup (.cons (.agg yP3) (.cons (.own false 100 yT13) (.cons .bool .nil)))), i_SendInner k⟩ := entry_ok tokO (by intro e he; simp only [List.mem_cons, List.not_mem_nil, or_false] at he; rcases he with rfl | rfl | rfl | rfl <;> first | exact e_i_InnerText k | exact e_i_Split k | exact e_i_copyUser k | exact e_i_SealData k) (by kernel_rfl) (fn := Tryz.f33) (k := k) (es := [⟨98, 0, (.cons yP35 .nil), (.tup yP22), i_InnerText k⟩, ⟨99, 0, (.cons (.int .i64) (.cons .str yP2)), (.tup (.cons (.own false 9 .str) (.cons .bool .nil))), i_Split k⟩, ⟨100, 0, (.cons (.agg yP9) .nil), (.agg yP3), i_copyUser k⟩, ⟨101, 0, (.cons yP6 (.cons (.int .i64) yP19)), yP33, i_SealData k⟩]) (loops := [(0, ⟨[1, 2, 4, 8, 15, 16, 46, 47, 48], (.cons (.int .i64) (.cons (.int .i64) (.cons (.ptr 0 yP9) (.cons (.ptr 0 yP3) (.cons (.ptr 0 yP3) (.cons (.own false 100 yT13) (.cons (.own false 9 .str) (.cons (.int .i64) yP2))))))))⟩, ⟨[8, 15, 16], (.cons (.ptr 0 yP3) (.cons (.ptr 0 yP3) (.cons (.own false 100 yT13) .nil)))⟩)]) (by kernel_rfl) (by kernel_rfl) (fun x r h => (t_i_SendInner k x).trans h)
def i_PacketOk (k : Nat) (x : (Int × Int × Int × Int × Int × List (Int) × ByteArray × Unit) × Unit) : Option (Bool × Unit × Unit) :=
(whileK (fun (rec0 : ((Int × Int × Int × Int × Int × List (Int) × ByteArray × Unit) × List (Int) × Int × Int × Unit) → Option _) (y0 : (Int × Int × Int × Int × Int × List (Int) × ByteArray × Unit) × List (Int) × Int × Int × Unit) =>
(if (decide (y0.2.2.2.1 < y0.2.2.1)) = true then
(if 0 ≤ y0.2.2.2.1 ∧ y0.2.2.2.1 < (List.length y0.2.1 : Int) then
((i_within k ((Ty.rd (t := (.int .i64)) y0.2.1 y0.2.2.2.1), ((1 : Int), ((1000000000 : Int), ())))).bind fun p1 =>
(if (!p1.1) = true then
some (false, ((), ()))
else
(rec0 ((y0.1.1, (y0.1.2.1, (y0.1.2.2.1, (y0.1.2.2.2.1, (y0.1.2.2.2.2.1, (y0.1.2.2.2.2.2.1, (y0.1.2.2.2.2.2.2.1, ()))))))), (y0.2.1, (y0.2.2.1, ((wi64 (y0.2.2.2.1 + (1 : Int))), ())))))))
else none)
else
((fun (z1 : (Int × Int × Int × Int × Int × List (Int) × ByteArray × Unit) × Unit) =>
((i_within k (z1.1.1, ((1 : Int), ((3 : Int), ())))).bind fun p2 =>
(if (!p2.1) = false then
((i_within k (z1.1.2.1, ((0 : Int), ((7 : Int), ())))).bind fun p3 =>
(if (!p3.1) = false then
((i_isId k (z1.1.2.2.1, ())).bind fun p4 =>
(if (!p4.1) = false then
((i_isId k (z1.1.2.2.2.1, ())).bind fun p5 =>
(if (!p5.1) = false then
((i_within k (z1.1.2.2.2.2.1, ((0 : Int), ((1000000000 : Int), ())))).bind fun p6 =>
(if (!p6.1) = true then
some (false, ((), ()))
else
(if (decide ((List.length z1.1.2.2.2.2.2.1 : Int) = (0 : Int))) = false then
(if (!decide (z1.1.1 = (3 : Int))) = true then
(if (decide ((List.length z1.1.2.2.2.2.2.1 : Int) ≤ (4 : Int))) = true then
(if (decide ((ByteArray.size z1.1.2.2.2.2.2.2.1 : Int) ≤ (120 : Int))) = true then
(if (!decide (z1.1.1 = (2 : Int))) = false then
(if (decide (z1.1.2.2.2.2.2.2.1 = (⟨#[]⟩ : ByteArray))) = true then
some ((decide (z1.1.2.2.2.2.1 = (0 : Int))), ((), ()))
else
some (false, ((), ())))
else
some (true, ((), ())))
else
some (false, ((), ())))
else
some (false, ((), ())))
else
some (false, ((), ())))
else
(if (decide ((ByteArray.size z1.1.2.2.2.2.2.2.1 : Int) ≤ (120 : Int))) = true then
(if (!decide (z1.1.1 = (2 : Int))) = false then
(if (decide (z1.1.2.2.2.2.2.2.1 = (⟨#[]⟩ : ByteArray))) = true then
some ((decide (z1.1.2.2.2.2.1 = (0 : Int))), ((), ()))
else
some (false, ((), ())))
else
some (true, ((), ())))
else
some (false, ((), ()))))))
else
some (false, ((), ()))))
else
some (false, ((), ()))))
else
some (false, ((), ()))))
else
some (false, ((), ()))))) ((y0.1.1, (y0.1.2.1, (y0.1.2.2.1, (y0.1.2.2.2.1, (y0.1.2.2.2.2.1, (y0.1.2.2.2.2.2.1, (y0.1.2.2.2.2.2.2.1, ()))))))), ())))) k ((x.1.1, (x.1.2.1, (x.1.2.2.1, (x.1.2.2.2.1, (x.1.2.2.2.2.1, (x.1.2.2.2.2.2.1, (x.1.2.2.2.2.2.2.1, ()))))))), (x.1.2.2.2.2.2.1, ((List.length x.1.2.2.2.2.2.1 : Int), ((0 : Int), ())))))
theorem t_i_PacketOk (k : Nat) (x) : evF TTab k [⟨55, 0, yP12, .bool, i_within k⟩, ⟨133, 0, yP2, .bool, i_isId k⟩] [(0, ⟨[1, 7, 8, 9], (.cons (.ptr 0 yP11) (.cons (.il true (.int .i64)) (.cons (.int .i64) yP2)))⟩, ⟨[1], (.cons (.ptr 0 yP11) .nil)⟩)] Tryz.f199 (.cons (.agg yP11) .nil) .bool x = i_PacketOk k x := by kernel_rfl
theorem e_i_PacketOk [Names] (k : Nat) : EntryOk Tryz.prog ⟨199, 0, (.cons (.agg yP11) .nil), .bool, i_PacketOk k⟩ := entry_ok tok (by intro e he; simp only [List.mem_cons, List.not_mem_nil, or_false] at he; rcases he with rfl | rfl <;> first | exact e_i_within k | exact e_i_isId k) (by kernel_rfl) (fn := Tryz.f199) (k := k) (es := [⟨55, 0, yP12, .bool, i_within k⟩, ⟨133, 0, yP2, .bool, i_isId k⟩]) (loops := [(0, ⟨[1, 7, 8, 9], (.cons (.ptr 0 yP11) (.cons (.il true (.int .i64)) (.cons (.int .i64) yP2)))⟩, ⟨[1], (.cons (.ptr 0 yP11) .nil)⟩)]) (by kernel_rfl) (by kernel_rfl) (fun x r h => (t_i_PacketOk k x).trans h)
def i_SameMac (k : Nat) (x : ByteArray × ByteArray × Unit) : Option (Bool × Unit × Unit × Unit) :=
some ((decide (x.1 = x.2.1)), ((), ((), ())))
theorem t_i_SameMac (k : Nat) (x) : evF TTab k [] [] Tryz.f303 yP32 .bool x = i_SameMac k x := by kernel_rfl
theorem e_i_SameMac [Names] (k : Nat) : EntryOk Tryz.prog ⟨303, 0, yP32, .bool, i_SameMac k⟩ := entry_ok tok (by simp) (by kernel_rfl) (fn := Tryz.f303) (k := k) (es := []) (loops := []) (by kernel_rfl) (by kernel_rfl) (fun x r h => (t_i_SameMac k x).trans h)
def i_OpenText (k : Nat) (x : ByteArray × Int × ByteArray × Unit) : Option ((ByteArray × Bool × Unit) × Unit × Unit × Unit × Unit) :=
(if (decide ((wi64 ((ByteArray.size x.2.2.1 : Int) - (16 : Int))) < (0 : Int))) = true then
some (((⟨#[]⟩ : ByteArray), (false, ())), ((), ((), ((), ()))))
else
(if 0 ≤ (wi64 ((ByteArray.size x.2.2.1 : Int) - (16 : Int))) ∧ (wi64 ((ByteArray.size x.2.2.1 : Int) - (16 : Int))) ≤ (ByteArray.size x.2.2.1 : Int) then
((i_hidden k (x.1, (x.2.1, ((ByteArray.extract x.2.2.1 (Int.toNat (0 : Int)) (Int.toNat (wi64 ((ByteArray.size x.2.2.1 : Int) - (16 : Int))))), ())))).bind fun p1 =>
(if (!p1.1.2.1) = false then
(if 0 ≤ (wi64 ((ByteArray.size x.2.2.1 : Int) - (16 : Int))) ∧ (wi64 ((ByteArray.size x.2.2.1 : Int) - (16 : Int))) ≤ (ByteArray.size x.2.2.1 : Int) then
((i_macText k (x.1, (x.2.1, ((ByteArray.extract x.2.2.1 (Int.toNat (0 : Int)) (Int.toNat (wi64 ((ByteArray.size x.2.2.1 : Int) - (16 : Int))))), ())))).bind fun p2 =>
(if 0 ≤ (wi64 ((ByteArray.size x.2.2.1 : Int) - (16 : Int))) ∧ (wi64 ((ByteArray.size x.2.2.1 : Int) - (16 : Int))) ≤ (ByteArray.size x.2.2.1 : Int) then
((i_SameMac k (p2.1, ((ByteArray.extract x.2.2.1 (Int.toNat (wi64 ((ByteArray.size x.2.2.1 : Int) - (16 : Int)))) (Int.toNat (ByteArray.size x.2.2.1 : Int))), ()))).bind fun p3 =>
(if (!p3.1) = true then
some (((⟨#[]⟩ : ByteArray), (false, ())), ((), ((), ((), ()))))
else
some ((p1.1.1, (true, ())), ((), ((), ((), ()))))))
else none))
else none)
else
some (((⟨#[]⟩ : ByteArray), (false, ())), ((), ((), ((), ()))))))
else none))
theorem t_i_OpenText (k : Nat) (x) : evF TTab k [⟨258, 0, (.cons .str yP19), (.tup yP22), i_hidden k⟩, ⟨259, 0, (.cons .str yP19), .str, i_macText k⟩, ⟨303, 0, yP32, .bool, i_SameMac k⟩] [] Tryz.f265 (.cons .str yP19) (.tup yP22) x = i_OpenText k x := by kernel_rfl
theorem e_i_OpenText [Names] (k : Nat) : EntryOk Tryz.prog ⟨265, 0, (.cons .str yP19), (.tup yP22), i_OpenText k⟩ := entry_ok tok (by intro e he; simp only [List.mem_cons, List.not_mem_nil, or_false] at he; rcases he with rfl | rfl | rfl <;> first | exact e_i_hidden k | exact e_i_macText k | exact e_i_SameMac k) (by kernel_rfl) (fn := Tryz.f265) (k := k) (es := [⟨258, 0, (.cons .str yP19), (.tup yP22), i_hidden k⟩, ⟨259, 0, (.cons .str yP19), .str, i_macText k⟩, ⟨303, 0, yP32, .bool, i_SameMac k⟩]) (loops := []) (by kernel_rfl) (by kernel_rfl) (fun x r h => (t_i_OpenText k x).trans h)
def x_slices_Index_int_int (k : Nat) (x : List (Int) × Int × Unit) : Option (Int × Unit × Unit × Unit) :=
(whileK (fun (rec0 : (List (Int) × Int × Int × Int × Unit) → Option _) (y0 : List (Int) × Int × Int × Int × Unit) =>
(if (decide (y0.2.2.2.1 < y0.2.2.1)) = true then
(if 0 ≤ y0.2.2.2.1 ∧ y0.2.2.2.1 < (List.length y0.1 : Int) then
(if (decide (y0.2.1 = (Ty.rd (t := (.int .i64)) y0.1 y0.2.2.2.1))) = true then
some (y0.2.2.2.1, ((), ((), ())))
else
(rec0 (y0.1, (y0.2.1, (y0.2.2.1, ((wi64 (y0.2.2.2.1 + (1 : Int))), ()))))))
else none)
else
((fun (z1 : Unit) =>
some ((-1 : Int), ((), ((), ())))) ()))) k (x.1, (x.2.1, ((List.length x.1 : Int), ((0 : Int), ())))))
theorem t_x_slices_Index_int_int (k : Nat) (x) : evF TTab k [] [(0, ⟨[0, 1, 7, 8], (.cons (.il true (.int .i64)) yP12)⟩, ⟨[], .nil⟩)] Tryz.f324 yP31 (.int .i64) x = x_slices_Index_int_int k x := by kernel_rfl
theorem e_x_slices_Index_int_int [Names] (k : Nat) : EntryOk Tryz.prog ⟨324, 0, yP31, (.int .i64), x_slices_Index_int_int k⟩ := entry_ok tok (by simp) (by kernel_rfl) (fn := Tryz.f324) (k := k) (es := []) (loops := [(0, ⟨[0, 1, 7, 8], (.cons (.il true (.int .i64)) yP12)⟩, ⟨[], .nil⟩)]) (by kernel_rfl) (by kernel_rfl) (fun x r h => (t_x_slices_Index_int_int k x).trans h)
def x_slices_Contains_int_int (k : Nat) (x : List (Int) × Int × Unit) : Option (Bool × Unit × Unit × Unit) :=
((x_slices_Index_int_int k (x.1, (x.2.1, ()))).bind fun p1 =>
some ((decide ((0 : Int) ≤ p1.1)), ((), ((), ()))))
theorem t_x_slices_Contains_int_int (k : Nat) (x) : evF TTab k [⟨324, 0, yP31, (.int .i64), x_slices_Index_int_int k⟩] [] Tryz.f304 yP31 .bool x = x_slices_Contains_int_int k x := by kernel_rfl
theorem e_x_slices_Contains_int_int [Names] (k : Nat) : EntryOk Tryz.prog ⟨304, 0, yP31, .bool, x_slices_Contains_int_int k⟩ := entry_ok tok (by intro e he; simp only [List.mem_cons, List.not_mem_nil, or_false] at he; rcases he with rfl <;> first | exact e_x_slices_Index_int_int k) (by kernel_rfl) (fn := Tryz.f304) (k := k) (es := [⟨324, 0, yP31, (.int .i64), x_slices_Index_int_int k⟩]) (loops := []) (by kernel_rfl) (by kernel_rfl) (fun x r h => (t_x_slices_Contains_int_int k x).trans h)
def i_IsFresh (k : Nat) (x : List (Int) × Int × Unit) : Option (Bool × Unit × Unit × Unit) :=
((i_SeenOk k (x.1, ())).bind fun p1 =>
(if (!p1.1) = false then
((i_within k (x.2.1, ((1 : Int), ((1000000000 : Int), ())))).bind fun p2 =>
(if (!p2.1) = false then
((x_slices_Contains_int_int k (x.1, (x.2.1, ()))).bind fun p3 =>
(if p3.1 = true then
some (false, ((), ((), ())))
else
(if (decide ((List.length x.1 : Int) = (0 : Int))) = false then
(if 0 ≤ (0 : Int) ∧ (0 : Int) < (List.length x.1 : Int) then
some ((decide ((wi64 ((Ty.rd (t := (.int .i64)) x.1 (0 : Int)) - (6 : Int))) < x.2.1)), ((), ((), ())))
else none)
else
some (true, ((), ((), ()))))))
else
some (false, ((), ((), ())))))
else
some (false, ((), ((), ())))))
theorem t_i_IsFresh (k : Nat) (x) : evF TTab k [⟨55, 0, yP12, .bool, i_within k⟩, ⟨295, 0, yP29, .bool, i_SeenOk k⟩, ⟨304, 0, yP31, .bool, x_slices_Contains_int_int k⟩] [] Tryz.f266 yP31 .bool x = i_IsFresh k x := by kernel_rfl
theorem e_i_IsFresh [Names] (k : Nat) : EntryOk Tryz.prog ⟨266, 0, yP31, .bool, i_IsFresh k⟩ := entry_ok tok (by intro e he; simp only [List.mem_cons, List.not_mem_nil, or_false] at he; rcases he with rfl | rfl | rfl <;> first | exact e_i_within k | exact e_i_SeenOk k | exact e_x_slices_Contains_int_int k) (by kernel_rfl) (fn := Tryz.f266) (k := k) (es := [⟨55, 0, yP12, .bool, i_within k⟩, ⟨295, 0, yP29, .bool, i_SeenOk k⟩, ⟨304, 0, yP31, .bool, x_slices_Contains_int_int k⟩]) (loops := []) (by kernel_rfl) (by kernel_rfl) (fun x r h => (t_i_IsFresh k x).trans h)
def x_cmp_Less_int (k : Nat) (x : Int × Int × Unit) : Option (Bool × Unit × Unit × Unit) :=
((x_cmp_isNaN_int k (x.1, ())).bind fun p1 =>
(if p1.1 = true then
((x_cmp_isNaN_int k (x.2.1, ())).bind fun p2 =>
(if (!p2.1) = false then
some ((decide (x.1 < x.2.1)), ((), ((), ())))
else
some (true, ((), ((), ())))))
else
some ((decide (x.1 < x.2.1)), ((), ((), ())))))
theorem t_x_cmp_Less_int (k : Nat) (x) : evF TTab k [⟨282, 0, yP2, .bool, x_cmp_isNaN_int k⟩] [] Tryz.f340 (.cons (.int .i64) yP2) .bool x = x_cmp_Less_int k x := by kernel_rfl
theorem e_x_cmp_Less_int [Names] (k : Nat) : EntryOk Tryz.prog ⟨340, 0, (.cons (.int .i64) yP2), .bool, x_cmp_Less_int k⟩ := entry_ok tok (by intro e he; simp only [List.mem_cons, List.not_mem_nil, or_false] at he; rcases he with rfl <;> first | exact e_x_cmp_isNaN_int k) (by kernel_rfl) (fn := Tryz.f340) (k := k) (es := [⟨282, 0, yP2, .bool, x_cmp_isNaN_int k⟩]) (loops := []) (by kernel_rfl) (by kernel_rfl) (fun x r h => (t_x_cmp_Less_int k x).trans h)
def x_slices_insertionSortOrdered_int (k : Nat) (x : List (Int) × Int × Int × Unit) : Option (Unit × List (Int) × Unit × Unit × Unit) :=
(whileK (fun (rec0 : (List (Int) × Int × Int × Int × Unit) → Option _) (y0 : List (Int) × Int × Int × Int × Unit) =>
(if (decide (y0.2.2.2.1 < y0.2.2.1)) = true then
(whileK (fun (rec2 : (List (Int) × Int × Int × Int × Int × Unit) → Option _) (y2 : List (Int) × Int × Int × Int × Int × Unit) =>
(if (decide (y2.2.1 < y2.2.2.2.2.1)) = true then
(if 0 ≤ y2.2.2.2.2.1 ∧ y2.2.2.2.2.1 < (List.length y2.1 : Int) then
(if 0 ≤ (wi64 (y2.2.2.2.2.1 - (1 : Int))) ∧ (wi64 (y2.2.2.2.2.1 - (1 : Int))) < (List.length y2.1 : Int) then
((x_cmp_Less_int k ((Ty.rd (t := (.int .i64)) y2.1 y2.2.2.2.2.1), ((Ty.rd (t := (.int .i64)) y2.1 (wi64 (y2.2.2.2.2.1 - (1 : Int)))), ()))).bind fun p1 =>
(if p1.1 = true then
(if 0 ≤ (wi64 (y2.2.2.2.2.1 - (1 : Int))) ∧ (wi64 (y2.2.2.2.2.1 - (1 : Int))) < (List.length y2.1 : Int) then
(if 0 ≤ y2.2.2.2.2.1 ∧ y2.2.2.2.2.1 < (List.length y2.1 : Int) then
(if 0 ≤ y2.2.2.2.2.1 ∧ y2.2.2.2.2.1 < (List.length y2.1 : Int) then
(if 0 ≤ (wi64 (y2.2.2.2.2.1 - (1 : Int))) ∧ (wi64 (y2.2.2.2.2.1 - (1 : Int))) < (List.length (List.set y2.1 (Int.toNat y2.2.2.2.2.1) (Ty.rd (t := (.int .i64)) y2.1 (wi64 (y2.2.2.2.2.1 - (1 : Int))))) : Int) then
(rec2 ((List.set (List.set y2.1 (Int.toNat y2.2.2.2.2.1) (Ty.rd (t := (.int .i64)) y2.1 (wi64 (y2.2.2.2.2.1 - (1 : Int))))) (Int.toNat (wi64 (y2.2.2.2.2.1 - (1 : Int)))) (Ty.rd (t := (.int .i64)) y2.1 y2.2.2.2.2.1)), (y2.2.1, (y2.2.2.1, (y2.2.2.2.1, ((wi64 (y2.2.2.2.2.1 - (1 : Int))), ()))))))
else none)
else none)
else none)
else none)
else
((fun (z1 : List (Int) × Int × Int × Int × Unit) =>
(rec0 (z1.1, (z1.2.1, (z1.2.2.1, ((wi64 (z1.2.2.2.1 + (1 : Int))), ())))))) (y2.1, (y2.2.1, (y2.2.2.1, (y2.2.2.2.1, ())))))))
else none)
else none)
else
((fun (z1 : List (Int) × Int × Int × Int × Unit) =>
(rec0 (z1.1, (z1.2.1, (z1.2.2.1, ((wi64 (z1.2.2.2.1 + (1 : Int))), ())))))) (y2.1, (y2.2.1, (y2.2.2.1, (y2.2.2.2.1, ()))))))) k (y0.1, (y0.2.1, (y0.2.2.1, (y0.2.2.2.1, (y0.2.2.2.1, ()))))))
else
((fun (z2 : List (Int) × Unit) =>
some ((), (z2.1, ((), ((), ()))))) (y0.1, ())))) k (x.1, (x.2.1, (x.2.2.1, ((wi64 (x.2.1 + (1 : Int))), ())))))
theorem t_x_slices_insertionSortOrdered_int (k : Nat) (x) : evF TTab k [⟨340, 0, (.cons (.int .i64) yP2), .bool, x_cmp_Less_int k⟩] [(0, ⟨[0, 1, 2, 6], (.cons yP17 yP12)⟩, ⟨[0], (.cons yP17 .nil)⟩), (2, ⟨[0, 1, 2, 6, 7], (.cons yP17 (.cons (.int .i64) yP12))⟩, ⟨[0, 1, 2, 6], (.cons yP17 yP12)⟩)] Tryz.f334 (.cons (.mut false 3 (.int .i64)) (.cons (.int .i64) yP2)) (.tup .nil) x = x_slices_insertionSortOrdered_int k x := by kernel_rfl
theorem e_x_slices_insertionSortOrdered_int [Names] (k : Nat) : EntryOk Tryz.prog ⟨334, 0, (.cons (.mut false 3 (.int .i64)) (.cons (.int .i64) yP2)), (.tup .nil), x_slices_insertionSortOrdered_int k⟩ := entry_ok tok (by intro e he; simp only [List.mem_cons, List.not_mem_nil, or_false] at he; rcases he with rfl <;> first | exact e_x_cmp_Less_int k) (by kernel_rfl) (fn := Tryz.f334) (k := k) (es := [⟨340, 0, (.cons (.int .i64) yP2), .bool, x_cmp_Less_int k⟩]) (loops := [(0, ⟨[0, 1, 2, 6], (.cons yP17 yP12)⟩, ⟨[0], (.cons yP17 .nil)⟩), (2, ⟨[0, 1, 2, 6, 7], (.cons yP17 (.cons (.int .i64) yP12))⟩, ⟨[0, 1, 2, 6], (.cons yP17 yP12)⟩)]) (by kernel_rfl) (by kernel_rfl) (fun x r h => (t_x_slices_insertionSortOrdered_int k x).trans h)
def x_bits_Len64 (k : Nat) (x : Int × Unit) : Option (Int × Unit × Unit) :=
(jn (fun (j4v0 : Int) (j4v1 : Int) =>
(jn (fun (j6v0 : Int) (j6v1 : Int) =>
(jn (fun (j7v0 : Int) (j7v1 : Int) =>
(if 0 ≤ (wu8 (j7v0)) ∧ (wu8 (j7v0)) < (ByteArray.size (⟨#[0, 1, 2, 2, 3, 3, 3, 3, 4, 4, 4, 4, 4, 4, 4, 4, 5, 5, 5, 5, 5, 5, 5, 5, 5, 5, 5, 5, 5, 5, 5, 5, 6, 6, 6, 6, 6, 6, 6, 6, 6, 6, 6, 6, 6, 6, 6, 6, 6, 6, 6, 6, 6, 6, 6, 6, 6, 6, 6, 6, 6, 6, 6, 6, 7, 7, 7, 7, 7, 7, 7, 7, 7, 7, 7, 7, 7, 7, 7, 7, 7, 7, 7, 7, 7, 7, 7, 7, 7, 7, 7, 7, 7, 7, 7, 7, 7, 7, 7, 7, 7, 7, 7, 7, 7, 7, 7, 7, 7, 7, 7, 7, 7, 7, 7, 7, 7, 7, 7, 7, 7, 7, 7, 7, 7, 7, 7, 7, 8, 8, 8, 8, 8, 8, 8, 8, 8, 8, 8, 8, 8, 8, 8, 8, 8, 8, 8, 8, 8, 8, 8, 8, 8, 8, 8, 8, 8, 8, 8, 8, 8, 8, 8, 8, 8, 8, 8, 8, 8, 8, 8, 8, 8, 8, 8, 8, 8, 8, 8, 8, 8, 8, 8, 8, 8, 8, 8, 8, 8, 8, 8, 8, 8, 8, 8, 8, 8, 8, 8, 8, 8, 8, 8, 8, 8, 8, 8, 8, 8, 8, 8, 8, 8, 8, 8, 8, 8, 8, 8, 8, 8, 8, 8, 8, 8, 8, 8, 8, 8, 8, 8, 8, 8, 8, 8, 8, 8, 8, 8, 8, 8, 8, 8, 8, 8, 8, 8, 8, 8, 8, 8, 8, 8, 8, 8, 8]⟩ : ByteArray) : Int) then
some ((wi64 (j7v1 + (wi64 ((bt (⟨#[0, 1, 2, 2, 3, 3, 3, 3, 4, 4, 4, 4, 4, 4, 4, 4, 5, 5, 5, 5, 5, 5, 5, 5, 5, 5, 5, 5, 5, 5, 5, 5, 6, 6, 6, 6, 6, 6, 6, 6, 6, 6, 6, 6, 6, 6, 6, 6, 6, 6, 6, 6, 6, 6, 6, 6, 6, 6, 6, 6, 6, 6, 6, 6, 7, 7, 7, 7, 7, 7, 7, 7, 7, 7, 7, 7, 7, 7, 7, 7, 7, 7, 7, 7, 7, 7, 7, 7, 7, 7, 7, 7, 7, 7, 7, 7, 7, 7, 7, 7, 7, 7, 7, 7, 7, 7, 7, 7, 7, 7, 7, 7, 7, 7, 7, 7, 7, 7, 7, 7, 7, 7, 7, 7, 7, 7, 7, 7, 8, 8, 8, 8, 8, 8, 8, 8, 8, 8, 8, 8, 8, 8, 8, 8, 8, 8, 8, 8, 8, 8, 8, 8, 8, 8, 8, 8, 8, 8, 8, 8, 8, 8, 8, 8, 8, 8, 8, 8, 8, 8, 8, 8, 8, 8, 8, 8, 8, 8, 8, 8, 8, 8, 8, 8, 8, 8, 8, 8, 8, 8, 8, 8, 8, 8, 8, 8, 8, 8, 8, 8, 8, 8, 8, 8, 8, 8, 8, 8, 8, 8, 8, 8, 8, 8, 8, 8, 8, 8, 8, 8, 8, 8, 8, 8, 8, 8, 8, 8, 8, 8, 8, 8, 8, 8, 8, 8, 8, 8, 8, 8, 8, 8, 8, 8, 8, 8, 8, 8, 8, 8, 8, 8, 8, 8, 8, 8]⟩ : ByteArray) (wu8 (j7v0))))))), ((), ()))
else none)) (fun (j7 : Int → Int → Option _) =>
(if (decide ((256 : Int) ≤ j6v0)) = true then
(j7 (Int.fdiv j6v0 (2 ^ (min (Int.toNat (8 : Int)) (IntKind.bits .u64)))) (wi64 (j6v1 + (8 : Int))))
else
(j7 j6v0 j6v1))))) (fun (j6 : Int → Int → Option _) =>
(if (decide ((65536 : Int) ≤ j4v0)) = true then
(j6 (Int.fdiv j4v0 (2 ^ (min (Int.toNat (16 : Int)) (IntKind.bits .u64)))) (wi64 (j4v1 + (16 : Int))))
else
(j6 j4v0 j4v1))))) (fun (j4 : Int → Int → Option _) =>
(if (decide ((4294967296 : Int) ≤ x.1)) = true then
(j4 (Int.fdiv x.1 (2 ^ (min (Int.toNat (32 : Int)) (IntKind.bits .u64)))) (32 : Int))
else
(j4 x.1 (0 : Int)))))
theorem t_x_bits_Len64 (k : Nat) (x) : evF TTab k [] [] Tryz.f344 (.cons (.int .u64) .nil) (.int .i64) x = x_bits_Len64 k x := by kernel_rfl
theorem e_x_bits_Len64 [Names] (k : Nat) : EntryOk Tryz.prog ⟨344, 0, (.cons (.int .u64) .nil), (.int .i64), x_bits_Len64 k⟩ := entry_ok tok (by simp) (by kernel_rfl) (fn := Tryz.f344) (k := k) (es := []) (loops := []) (by kernel_rfl) (by kernel_rfl) (fun x r h => (t_x_bits_Len64 k x).trans h)
def x_bits_Len (k : Nat) (x : Int × Unit) : Option (Int × Unit × Unit) :=
((x_bits_Len64 k (x.1, ())).bind fun p1 =>
some (p1.1, ((), ())))
theorem t_x_bits_Len (k : Nat) (x) : evF TTab k [⟨344, 0, (.cons (.int .u64) .nil), (.int .i64), x_bits_Len64 k⟩] [] Tryz.f326 (.cons (.int .u64) .nil) (.int .i64) x = x_bits_Len k x := by kernel_rfl
theorem e_x_bits_Len [Names] (k : Nat) : EntryOk Tryz.prog ⟨326, 0, (.cons (.int .u64) .nil), (.int .i64), x_bits_Len k⟩ := entry_ok tok (by intro e he; simp only [List.mem_cons, List.not_mem_nil, or_false] at he; rcases he with rfl <;> first | exact e_x_bits_Len64 k) (by kernel_rfl) (fn := Tryz.f326) (k := k) (es := [⟨344, 0, (.cons (.int .u64) .nil), (.int .i64), x_bits_Len64 k⟩]) (loops := []) (by kernel_rfl) (by kernel_rfl) (fun x r h => (t_x_bits_Len k x).trans h)
def x_slices_pdqsortOrdered_int (k : Nat) (x : List (Int) × Int × Int × Int × Unit) : Option (Unit × List (Int) × Unit × Unit × Unit × Unit) :=
(whileK (fun (rec0 : (List (Int) × Int × Int × Int × Bool × Bool × Unit) → Option _) (y0 : List (Int) × Int × Int × Int × Bool × Bool × Unit) =>
(if (decide ((wi64 (y0.2.2.1 - y0.2.1)) ≤ (12 : Int))) = true then
((x_slices_insertionSortOrdered_int k (y0.1, (y0.2.1, (y0.2.2.1, ())))).bind fun p1 =>
some ((), (p1.2.1, ((), ((), ((), ()))))))
else
(if (decide (y0.2.2.2.1 = (0 : Int))) = true then
none
else
(if (!y0.2.2.2.2.1) = true then
none
else
none)))) k (x.1, (x.2.1, (x.2.2.1, (x.2.2.2.1, (true, (true, ())))))))
theorem t_x_slices_pdqsortOrdered_int (k : Nat) (x) : evF TTab k [⟨334, 0, (.cons (.mut false 3 (.int .i64)) (.cons (.int .i64) yP2)), (.tup .nil), x_slices_insertionSortOrdered_int k⟩] [(0, ⟨[0, 1, 2, 3, 8, 9], (.cons yP17 (.cons (.int .i64) (.cons (.int .i64) (.cons (.int .i64) (.cons .bool (.cons .bool .nil))))))⟩, ⟨[], .nil⟩)] Tryz.f325 (.cons (.mut false 3 (.int .i64)) yP12) (.tup .nil) x = x_slices_pdqsortOrdered_int k x := by kernel_rfl
theorem e_x_slices_pdqsortOrdered_int [Names] (k : Nat) : EntryOk Tryz.prog ⟨325, 0, (.cons (.mut false 3 (.int .i64)) yP12), (.tup .nil), x_slices_pdqsortOrdered_int k⟩ := entry_ok tok (by intro e he; simp only [List.mem_cons, List.not_mem_nil, or_false] at he; rcases he with rfl <;> first | exact e_x_slices_insertionSortOrdered_int k) (by kernel_rfl) (fn := Tryz.f325) (k := k) (es := [⟨334, 0, (.cons (.mut false 3 (.int .i64)) (.cons (.int .i64) yP2)), (.tup .nil), x_slices_insertionSortOrdered_int k⟩]) (loops := [(0, ⟨[0, 1, 2, 3, 8, 9], (.cons yP17 (.cons (.int .i64) (.cons (.int .i64) (.cons (.int .i64) (.cons .bool (.cons .bool .nil))))))⟩, ⟨[], .nil⟩)]) (by kernel_rfl) (by kernel_rfl) (fun x r h => (t_x_slices_pdqsortOrdered_int k x).trans h)
def x_slices_Sort_int_int (k : Nat) (x : List (Int) × Unit) : Option (Unit × List (Int) × Unit) :=
((x_bits_Len k ((wu64 ((List.length x.1 : Int))), ())).bind fun p1 =>
((x_slices_pdqsortOrdered_int k (x.1, ((0 : Int), ((List.length x.1 : Int), (p1.1, ()))))).bind fun p2 =>
some ((), (p2.2.1, ()))))
theorem t_x_slices_Sort_int_int (k : Nat) (x) : evF TTab k [⟨325, 0, (.cons (.mut false 3 (.int .i64)) yP12), (.tup .nil), x_slices_pdqsortOrdered_int k⟩, ⟨326, 0, (.cons (.int .u64) .nil), (.int .i64), x_bits_Len k⟩] [] Tryz.f305 (.cons (.mut false 3 (.int .i64)) .nil) (.tup .nil) x = x_slices_Sort_int_int k x := by kernel_rfl
theorem e_x_slices_Sort_int_int [Names] (k : Nat) : EntryOk Tryz.prog ⟨305, 0, (.cons (.mut false 3 (.int .i64)) .nil), (.tup .nil), x_slices_Sort_int_int k⟩ := entry_ok tok (by intro e he; simp only [List.mem_cons, List.not_mem_nil, or_false] at he; rcases he with rfl | rfl <;> first | exact e_x_slices_pdqsortOrdered_int k | exact e_x_bits_Len k) (by kernel_rfl) (fn := Tryz.f305) (k := k) (es := [⟨325, 0, (.cons (.mut false 3 (.int .i64)) yP12), (.tup .nil), x_slices_pdqsortOrdered_int k⟩, ⟨326, 0, (.cons (.int .u64) .nil), (.int .i64), x_bits_Len k⟩]) (loops := []) (by kernel_rfl) (by kernel_rfl) (fun x r h => (t_x_slices_Sort_int_int k x).trans h)
def x_slices_Reverse_int_int (k : Nat) (x : List (Int) × Unit) : Option (Unit × List (Int) × Unit) :=
(whileK (fun (rec0 : (List (Int) × Int × Int × Unit) → Option _) (y0 : List (Int) × Int × Int × Unit) =>
(if (decide (y0.2.1 < y0.2.2.1)) = true then
(if 0 ≤ y0.2.2.1 ∧ y0.2.2.1 < (List.length y0.1 : Int) then
(if 0 ≤ y0.2.1 ∧ y0.2.1 < (List.length y0.1 : Int) then
(if 0 ≤ y0.2.1 ∧ y0.2.1 < (List.length y0.1 : Int) then
(if 0 ≤ y0.2.2.1 ∧ y0.2.2.1 < (List.length (List.set y0.1 (Int.toNat y0.2.1) (Ty.rd (t := (.int .i64)) y0.1 y0.2.2.1)) : Int) then
(rec0 ((List.set (List.set y0.1 (Int.toNat y0.2.1) (Ty.rd (t := (.int .i64)) y0.1 y0.2.2.1)) (Int.toNat y0.2.2.1) (Ty.rd (t := (.int .i64)) y0.1 y0.2.1)), ((wi64 (y0.2.1 + (1 : Int))), ((wi64 (y0.2.2.1 - (1 : Int))), ()))))
else none)
else none)
else none)
else none)
else
((fun (z1 : List (Int) × Unit) =>
some ((), (z1.1, ()))) (y0.1, ())))) k (x.1, ((0 : Int), ((wi64 ((List.length x.1 : Int) - (1 : Int))), ()))))
theorem t_x_slices_Reverse_int_int (k : Nat) (x) : evF TTab k [] [(0, ⟨[0, 2, 3], (.cons yP17 (.cons (.int .i64) yP2))⟩, ⟨[0], (.cons yP17 .nil)⟩)] Tryz.f306 (.cons (.mut false 3 (.int .i64)) .nil) (.tup .nil) x = x_slices_Reverse_int_int k x := by kernel_rfl
theorem e_x_slices_Reverse_int_int [Names] (k : Nat) : EntryOk Tryz.prog ⟨306, 0, (.cons (.mut false 3 (.int .i64)) .nil), (.tup .nil), x_slices_Reverse_int_int k⟩ := entry_ok tok (by simp) (by kernel_rfl) (fn := Tryz.f306) (k := k) (es := []) (loops := [(0, ⟨[0, 2, 3], (.cons yP17 (.cons (.int .i64) yP2))⟩, ⟨[0], (.cons yP17 .nil)⟩)]) (by kernel_rfl) (by kernel_rfl) (fun x r h => (t_x_slices_Reverse_int_int k x).trans h)
def i_NoteSeen_1 (k : Nat) (x : Int × (Int × Unit) × Unit) : Option (Bool × Unit × (Int × Unit) × Unit) :=
some ((decide (x.1 ≤ (wi64 (x.2.1.1 - (6 : Int))))), ((), ((x.2.1.1, ()), ())))
theorem t_i_NoteSeen_1 (k : Nat) (x) : evF TTab k [] [] Tryz.f308 (.cons (.int .i64) yP25) .bool x = i_NoteSeen_1 k x := by kernel_rfl
theorem e_i_NoteSeen_1 [Names] (k : Nat) : EntryOk Tryz.prog ⟨308, 0, (.cons (.int .i64) yP25), .bool, i_NoteSeen_1 k⟩ := entry_ok tok (by simp) (by kernel_rfl) (fn := Tryz.f308) (k := k) (es := []) (loops := []) (by kernel_rfl) (by kernel_rfl) (fun x r h => (t_i_NoteSeen_1 k x).trans h)
def x_slices_IndexFunc_int_int_of_i_NoteSeen_1 (k : Nat) (x : List (Int) × ((Int × Unit) × Unit) × Unit) : Option (Int × Unit × ((Int × Unit) × Unit) × Unit) :=
(whileK (fun (rec0 : (List (Int) × ((Int × Unit) × Unit) × Int × Int × Unit) → Option _) (y0 : List (Int) × ((Int × Unit) × Unit) × Int × Int × Unit) =>
(if (decide (y0.2.2.2.1 < y0.2.2.1)) = true then
(if 0 ≤ y0.2.2.2.1 ∧ y0.2.2.2.1 < (List.length y0.1 : Int) then
((i_NoteSeen_1 k ((Ty.rd (t := (.int .i64)) y0.1 y0.2.2.2.1), ((y0.2.1.1.1, ()), ()))).bind fun p1 =>
(if p1.1 = true then
some (y0.2.2.2.1, ((), (((p1.2.2.1.1, ()), ()), ())))
else
(rec0 (y0.1, (((p1.2.2.1.1, ()), ()), (y0.2.2.1, ((wi64 (y0.2.2.2.1 + (1 : Int))), ())))))))
else none)
else
((fun (z1 : ((Int × Unit) × Unit) × Unit) =>
some ((-1 : Int), ((), (((z1.1.1.1, ()), ()), ())))) (((y0.2.1.1.1, ()), ()), ())))) k (x.1, (((x.2.1.1.1, ()), ()), ((List.length x.1 : Int), ((0 : Int), ())))))
theorem t_x_slices_IndexFunc_int_int_of_i_NoteSeen_1 (k : Nat) (x) : evF TTab k [⟨308, 0, (.cons (.int .i64) yP25), .bool, i_NoteSeen_1 k⟩] [(0, ⟨[0, 1, 7, 8], (.cons (.il true (.int .i64)) (.cons (.fn 308 yP25) (.cons (.int .i64) yP2)))⟩, ⟨[1], (.cons (.fn 308 yP25) .nil)⟩)] Tryz.f327 (.cons (.il true (.int .i64)) (.cons (.fn 308 yP25) .nil)) (.int .i64) x = x_slices_IndexFunc_int_int_of_i_NoteSeen_1 k x := by kernel_rfl
theorem e_x_slices_IndexFunc_int_int_of_i_NoteSeen_1 [Names] (k : Nat) : EntryOk Tryz.prog ⟨327, 309, (.cons (.il true (.int .i64)) (.cons (.fn 308 yP25) .nil)), (.int .i64), x_slices_IndexFunc_int_int_of_i_NoteSeen_1 k⟩ := entry_ok tok (by intro e he; simp only [List.mem_cons, List.not_mem_nil, or_false] at he; rcases he with rfl <;> first | exact e_i_NoteSeen_1 k) (by kernel_rfl) (fn := Tryz.f327) (k := k) (es := [⟨308, 0, (.cons (.int .i64) yP25), .bool, i_NoteSeen_1 k⟩]) (loops := [(0, ⟨[0, 1, 7, 8], (.cons (.il true (.int .i64)) (.cons (.fn 308 yP25) (.cons (.int .i64) yP2)))⟩, ⟨[1], (.cons (.fn 308 yP25) .nil)⟩)]) (by kernel_rfl) (by kernel_rfl) (fun x r h => (t_x_slices_IndexFunc_int_int_of_i_NoteSeen_1 k x).trans h)
def x_slices_DeleteFunc_int_int_of_i_NoteSeen_1 (k : Nat) (x : List (Int) × ((Int × Unit) × Unit) × Unit) : Option (List (Int) × Unit × ((Int × Unit) × Unit) × Unit) :=
((x_slices_IndexFunc_int_int_of_i_NoteSeen_1 k (x.1, (((x.2.1.1.1, ()), ()), ()))).bind fun p1 =>
(if (decide (p1.1 = (-1 : Int))) = true then
some (x.1, ((), (((p1.2.2.1.1.1, ()), ()), ())))
else
(whileK (fun (rec0 : (List (Int) × ((Int × Unit) × Unit) × Int × Int × Unit) → Option _) (y0 : List (Int) × ((Int × Unit) × Unit) × Int × Int × Unit) =>
(if (decide (y0.2.2.2.1 < (List.length y0.1 : Int))) = true then
(if 0 ≤ y0.2.2.2.1 ∧ y0.2.2.2.1 < (List.length y0.1 : Int) then
((i_NoteSeen_1 k ((Ty.rd (t := (.int .i64)) y0.1 y0.2.2.2.1), ((y0.2.1.1.1, ()), ()))).bind fun p2 =>
(if (!p2.1) = true then
(if 0 ≤ y0.2.2.1 ∧ y0.2.2.1 < (List.length y0.1 : Int) then
(rec0 ((List.set y0.1 (Int.toNat y0.2.2.1) (Ty.rd (t := (.int .i64)) y0.1 y0.2.2.2.1)), (((p2.2.2.1.1, ()), ()), ((wi64 (y0.2.2.1 + (1 : Int))), ((wi64 (y0.2.2.2.1 + (1 : Int))), ())))))
else none)
else
(rec0 (y0.1, (((p2.2.2.1.1, ()), ()), (y0.2.2.1, ((wi64 (y0.2.2.2.1 + (1 : Int))), ())))))))
else none)
else
((fun (z1 : List (Int) × ((Int × Unit) × Unit) × Int × Unit) =>
(if 0 ≤ z1.2.2.1 ∧ z1.2.2.1 ≤ (List.length z1.1 : Int) then
(if 0 ≤ z1.2.2.1 ∧ z1.2.2.1 ≤ (List.length (List.take (Int.toNat z1.2.2.1) z1.1 ++ (List.replicate (Int.toNat ((List.length z1.1 : Int) - z1.2.2.1)) (0 : Int) ++ List.drop (Int.toNat (List.length z1.1 : Int)) z1.1)) : Int) then
some ((List.drop (Int.toNat (0 : Int)) (List.take (Int.toNat z1.2.2.1) (List.take (Int.toNat z1.2.2.1) z1.1 ++ (List.replicate (Int.toNat ((List.length z1.1 : Int) - z1.2.2.1)) (0 : Int) ++ List.drop (Int.toNat (List.length z1.1 : Int)) z1.1)))), ((), (((z1.2.1.1.1, ()), ()), ())))
else none)
else none)) (y0.1, (((y0.2.1.1.1, ()), ()), (y0.2.2.1, ())))))) k (x.1, (((p1.2.2.1.1.1, ()), ()), (p1.1, ((wi64 (p1.1 + (1 : Int))), ())))))))
theorem t_x_slices_DeleteFunc_int_int_of_i_NoteSeen_1 (k : Nat) (x) : evF TTab k [⟨308, 0, (.cons (.int .i64) yP25), .bool, i_NoteSeen_1 k⟩, ⟨327, 309, (.cons (.il true (.int .i64)) (.cons (.fn 308 yP25) .nil)), (.int .i64), x_slices_IndexFunc_int_int_of_i_NoteSeen_1 k⟩] [(0, ⟨[0, 1, 5, 6], (.cons yP17 (.cons (.fn 308 yP25) (.cons (.int .i64) yP2)))⟩, ⟨[0, 1, 5], (.cons yP17 (.cons (.fn 308 yP25) yP2))⟩)] Tryz.f307 (.cons yP17 (.cons (.fn 308 yP25) .nil)) yP17 x = x_slices_DeleteFunc_int_int_of_i_NoteSeen_1 k x := by kernel_rfl
theorem e_x_slices_DeleteFunc_int_int_of_i_NoteSeen_1 [Names] (k : Nat) : EntryOk Tryz.prog ⟨307, 309, (.cons yP17 (.cons (.fn 308 yP25) .nil)), yP17, x_slices_DeleteFunc_int_int_of_i_NoteSeen_1 k⟩ := entry_ok tok (by intro e he; simp only [List.mem_cons, List.not_mem_nil, or_false] at he; rcases he with rfl | rfl <;> first | exact e_i_NoteSeen_1 k | exact e_x_slices_IndexFunc_int_int_of_i_NoteSeen_1 k) (by kernel_rfl) (fn := Tryz.f307) (k := k) (es := [⟨308, 0, (.cons (.int .i64) yP25), .bool, i_NoteSeen_1 k⟩, ⟨327, 309, (.cons (.il true (.int .i64)) (.cons (.fn 308 yP25) .nil)), (.int .i64), x_slices_IndexFunc_int_int_of_i_NoteSeen_1 k⟩]) (loops := [(0, ⟨[0, 1, 5, 6], (.cons yP17 (.cons (.fn 308 yP25) (.cons (.int .i64) yP2)))⟩, ⟨[0, 1, 5], (.cons yP17 (.cons (.fn 308 yP25) yP2))⟩)]) (by kernel_rfl) (by kernel_rfl) (fun x r h => (t_x_slices_DeleteFunc_int_int_of_i_NoteSeen_1 k x).trans h)
def i_NoteSeen (k : Nat) (x : List (Int) × Int × Unit) : Option (List (Int) × Unit × Unit × Unit) :=
((i_IsFresh k (x.1, (x.2.1, ()))).bind fun p1 =>
(if (!p1.1) = true then
((i_copyInts k (x.1, ())).bind fun p2 =>
some (p2.1, ((), ((), ()))))
else
((i_copyInts k (x.1, ())).bind fun p3 =>
(if List.length p3.1 + List.length ([x.2.1] : List (Int)) ≤ capMax then
((x_slices_Sort_int_int k ((p3.1 ++ ([x.2.1] : List (Int))), ())).bind fun p4 =>
((x_slices_Reverse_int_int k (p4.2.1, ())).bind fun p5 =>
(if 0 ≤ (0 : Int) ∧ (0 : Int) < (List.length p5.2.1 : Int) then
((x_slices_DeleteFunc_int_int_of_i_NoteSeen_1 k (p5.2.1, ((((Ty.rd (t := (.int .i64)) p5.2.1 (0 : Int)), ()), ()), ()))).bind fun p6 =>
some (p6.1, ((), ((), ()))))
else none)))
else none))))
theorem t_i_NoteSeen (k : Nat) (x) : evF TTab k [⟨254, 0, yP29, yP17, i_copyInts k⟩, ⟨266, 0, yP31, .bool, i_IsFresh k⟩, ⟨305, 0, (.cons (.mut false 3 (.int .i64)) .nil), (.tup .nil), x_slices_Sort_int_int k⟩, ⟨306, 0, (.cons (.mut false 3 (.int .i64)) .nil), (.tup .nil), x_slices_Reverse_int_int k⟩, ⟨307, 309, (.cons yP17 (.cons (.fn 308 yP25) .nil)), yP17, x_slices_DeleteFunc_int_int_of_i_NoteSeen_1 k⟩] [] Tryz.f267 yP31 yP17 x = i_NoteSeen k x := by kernel_rfl
theorem e_i_NoteSeen [Names] (k : Nat) : EntryOk Tryz.prog ⟨267, 0, yP31, yP17, i_NoteSeen k⟩ := entry_ok tok (by intro e he; simp only [List.mem_cons, List.not_mem_nil, or_false] at he; rcases he with rfl | rfl | rfl | rfl | rfl <;> first | exact e_i_copyInts k | exact e_i_IsFresh k | exact e_x_slices_Sort_int_int k | exact e_x_slices_Reverse_int_int k | exact e_x_slices_DeleteFunc_int_int_of_i_NoteSeen_1 k) (by kernel_rfl) (fn := Tryz.f267) (k := k) (es := [⟨254, 0, yP29, yP17, i_copyInts k⟩, ⟨266, 0, yP31, .bool, i_IsFresh k⟩, ⟨305, 0, (.cons (.mut false 3 (.int .i64)) .nil), (.tup .nil), x_slices_Sort_int_int k⟩, ⟨306, 0, (.cons (.mut false 3 (.int .i64)) .nil), (.tup .nil), x_slices_Reverse_int_int k⟩, ⟨307, 309, (.cons yP17 (.cons (.fn 308 yP25) .nil)), yP17, x_slices_DeleteFunc_int_int_of_i_NoteSeen_1 k⟩]) (loops := []) (by kernel_rfl) (by kernel_rfl) (fun x r h => (t_i_NoteSeen k x).trans h)
def i_openIn_at_6 (k : Nat) (x : (Int × ByteArray × ByteArray × Int × List (Int) × Int × Int × ByteArray × ByteArray × Int × List (Int) × Int × Unit) × (Int × Int × Int × Int × Int × List (Int) × ByteArray × Unit) × Unit) : Option ((ByteArray × Bool × Unit) × (Int × ByteArray × ByteArray × Int × List (Int) × Int × Int × ByteArray × ByteArray × Int × List (Int) × Int × Unit) × Unit × Unit) :=
((i_OpenText k (x.1.2.2.2.2.2.2.2.2.1, (x.2.1.2.2.2.2.1, (x.2.1.2.2.2.2.2.2.1, ())))).bind fun p1 =>
(if (!p1.1.2.1) = false then
((i_IsFresh k (x.1.2.2.2.2.2.2.2.2.2.2.1, (x.2.1.2.2.2.2.1, ()))).bind fun p2 =>
(if (!p2.1) = true then
some (((⟨#[]⟩ : ByteArray), (false, ())), ((x.1.1, (x.1.2.1, (x.1.2.2.1, (x.1.2.2.2.1, (x.1.2.2.2.2.1, (x.1.2.2.2.2.2.1, (x.1.2.2.2.2.2.2.1, (x.1.2.2.2.2.2.2.2.1, (x.1.2.2.2.2.2.2.2.2.1, (x.1.2.2.2.2.2.2.2.2.2.1, (x.1.2.2.2.2.2.2.2.2.2.2.1, (x.1.2.2.2.2.2.2.2.2.2.2.2.1, ())))))))))))), ((), ())))
else
((i_NoteSeen k (x.1.2.2.2.2.2.2.2.2.2.2.1, (x.2.1.2.2.2.2.1, ()))).bind fun p3 =>
some ((p1.1.1, (true, ())), ((x.1.1, (x.1.2.1, (x.1.2.2.1, (x.1.2.2.2.1, (x.1.2.2.2.2.1, (x.1.2.2.2.2.2.1, (x.1.2.2.2.2.2.2.1, (x.1.2.2.2.2.2.2.2.1, (x.1.2.2.2.2.2.2.2.2.1, (x.1.2.2.2.2.2.2.2.2.2.1, (p3.1, (x.1.2.2.2.2.2.2.2.2.2.2.2.1, ())))))))))))), ((), ()))))))
else
some (((⟨#[]⟩ : ByteArray), (false, ())), ((x.1.1, (x.1.2.1, (x.1.2.2.1, (x.1.2.2.2.1, (x.1.2.2.2.2.1, (x.1.2.2.2.2.2.1, (x.1.2.2.2.2.2.2.1, (x.1.2.2.2.2.2.2.2.1, (x.1.2.2.2.2.2.2.2.2.1, (x.1.2.2.2.2.2.2.2.2.2.1, (x.1.2.2.2.2.2.2.2.2.2.2.1, (x.1.2.2.2.2.2.2.2.2.2.2.2.1, ())))))))))))), ((), ())))))
theorem t_i_openIn_at_6 (k : Nat) (x) : evF TTab k [⟨265, 0, (.cons .str yP19), (.tup yP22), i_OpenText k⟩, ⟨266, 0, yP31, .bool, i_IsFresh k⟩, ⟨267, 0, yP31, yP17, i_NoteSeen k⟩] [] Tryz.f200 (.cons (.ptr 6 yP5) (.cons (.agg yP11) .nil)) (.tup yP22) x = i_openIn_at_6 k x := by kernel_rfl
theorem e_i_openIn_at_6 [Names] (k : Nat) : EntryOk Tryz.prog ⟨200, 1000006, (.cons (.ptr 6 yP5) (.cons (.agg yP11) .nil)), (.tup yP22), i_openIn_at_6 k⟩ := entry_ok tok (by intro e he; simp only [List.mem_cons, List.not_mem_nil, or_false] at he; rcases he with rfl | rfl | rfl <;> first | exact e_i_OpenText k | exact e_i_IsFresh k | exact e_i_NoteSeen k) (by kernel_rfl) (fn := Tryz.f200) (k := k) (es := [⟨265, 0, (.cons .str yP19), (.tup yP22), i_OpenText k⟩, ⟨266, 0, yP31, .bool, i_IsFresh k⟩, ⟨267, 0, yP31, yP17, i_NoteSeen k⟩]) (loops := []) (by kernel_rfl) (by kernel_rfl) (fun x r h => (t_i_openIn_at_6 k x).trans h)
def i_openIn_v1 (k : Nat) (x : (Int × ByteArray × ByteArray × Int × List (Int) × Int × Int × ByteArray × ByteArray × Int × List (Int) × Int × Unit) × (Int × Int × Int × Int × Int × List (Int) × ByteArray × Unit) × Unit) : Option ((ByteArray × Bool × Unit) × (Int × ByteArray × ByteArray × Int × List (Int) × Int × Int × ByteArray × ByteArray × Int × List (Int) × Int × Unit) × Unit × Unit) :=
((i_OpenText k (x.1.2.2.1, (x.2.1.2.2.2.2.1, (x.2.1.2.2.2.2.2.2.1, ())))).bind fun p1 =>
(if (!p1.1.2.1) = false then
((i_IsFresh k (x.1.2.2.2.2.1, (x.2.1.2.2.2.2.1, ()))).bind fun p2 =>
(if (!p2.1) = true then
some (((⟨#[]⟩ : ByteArray), (false, ())), ((x.1.1, (x.1.2.1, (x.1.2.2.1, (x.1.2.2.2.1, (x.1.2.2.2.2.1, (x.1.2.2.2.2.2.1, (x.1.2.2.2.2.2.2.1, (x.1.2.2.2.2.2.2.2.1, (x.1.2.2.2.2.2.2.2.2.1, (x.1.2.2.2.2.2.2.2.2.2.1, (x.1.2.2.2.2.2.2.2.2.2.2.1, (x.1.2.2.2.2.2.2.2.2.2.2.2.1, ())))))))))))), ((), ())))
else
((i_NoteSeen k (x.1.2.2.2.2.1, (x.2.1.2.2.2.2.1, ()))).bind fun p3 =>
some ((p1.1.1, (true, ())), ((x.1.1, (x.1.2.1, (x.1.2.2.1, (x.1.2.2.2.1, (p3.1, (x.1.2.2.2.2.2.1, (x.1.2.2.2.2.2.2.1, (x.1.2.2.2.2.2.2.2.1, (x.1.2.2.2.2.2.2.2.2.1, (x.1.2.2.2.2.2.2.2.2.2.1, (x.1.2.2.2.2.2.2.2.2.2.2.1, (x.1.2.2.2.2.2.2.2.2.2.2.2.1, ())))))))))))), ((), ()))))))
else
some (((⟨#[]⟩ : ByteArray), (false, ())), ((x.1.1, (x.1.2.1, (x.1.2.2.1, (x.1.2.2.2.1, (x.1.2.2.2.2.1, (x.1.2.2.2.2.2.1, (x.1.2.2.2.2.2.2.1, (x.1.2.2.2.2.2.2.2.1, (x.1.2.2.2.2.2.2.2.2.1, (x.1.2.2.2.2.2.2.2.2.2.1, (x.1.2.2.2.2.2.2.2.2.2.2.1, (x.1.2.2.2.2.2.2.2.2.2.2.2.1, ())))))))))))), ((), ())))))
theorem t_i_openIn_v1 (k : Nat) (x) : evF TTab k [⟨265, 0, (.cons .str yP19), (.tup yP22), i_OpenText k⟩, ⟨266, 0, yP31, .bool, i_IsFresh k⟩, ⟨267, 0, yP31, yP17, i_NoteSeen k⟩] [] Tryz.f200 (.cons (.ptr 0 yP5) (.cons (.agg yP11) .nil)) (.tup yP22) x = i_openIn_v1 k x := by kernel_rfl
theorem e_i_openIn_v1 [Names] (k : Nat) : EntryOk Tryz.prog ⟨200, 0, (.cons (.ptr 0 yP5) (.cons (.agg yP11) .nil)), (.tup yP22), i_openIn_v1 k⟩ := entry_ok tok (by intro e he; simp only [List.mem_cons, List.not_mem_nil, or_false] at he; rcases he with rfl | rfl | rfl <;> first | exact e_i_OpenText k | exact e_i_IsFresh k | exact e_i_NoteSeen k) (by kernel_rfl) (fn := Tryz.f200) (k := k) (es := [⟨265, 0, (.cons .str yP19), (.tup yP22), i_OpenText k⟩, ⟨266, 0, yP31, .bool, i_IsFresh k⟩, ⟨267, 0, yP31, yP17, i_NoteSeen k⟩]) (loops := []) (by kernel_rfl) (by kernel_rfl) (fun x r h => (t_i_openIn_v1 k x).trans h)
def i_OpenData (k : Nat) (x : (Int × ByteArray × ByteArray × Int × List (Int) × Int × Int × ByteArray × ByteArray × Int × List (Int) × Int × Unit) × (Int × Int × Int × Int × Int × List (Int) × ByteArray × Unit) × Int × Unit) : Option (((Int × ByteArray × ByteArray × Int × List (Int) × Int × Int × ByteArray × ByteArray × Int × List (Int) × Int × Unit) × ByteArray × Bool × Unit) × Unit × Unit × Unit × Unit) :=
((i_copySlots k ((x.1.1, (x.1.2.1, (x.1.2.2.1, (x.1.2.2.2.1, (x.1.2.2.2.2.1, (x.1.2.2.2.2.2.1, (x.1.2.2.2.2.2.2.1, (x.1.2.2.2.2.2.2.2.1, (x.1.2.2.2.2.2.2.2.2.1, (x.1.2.2.2.2.2.2.2.2.2.1, (x.1.2.2.2.2.2.2.2.2.2.2.1, (x.1.2.2.2.2.2.2.2.2.2.2.2.1, ())))))))))))), ())).bind fun p1 =>
((i_SlotsOk k ((x.1.1, (x.1.2.1, (x.1.2.2.1, (x.1.2.2.2.1, (x.1.2.2.2.2.1, (x.1.2.2.2.2.2.1, (x.1.2.2.2.2.2.2.1, (x.1.2.2.2.2.2.2.2.1, (x.1.2.2.2.2.2.2.2.2.1, (x.1.2.2.2.2.2.2.2.2.2.1, (x.1.2.2.2.2.2.2.2.2.2.2.1, (x.1.2.2.2.2.2.2.2.2.2.2.2.1, ())))))))))))), ())).bind fun p2 =>
(if (!p2.1) = false then
((i_PacketOk k ((x.2.1.1, (x.2.1.2.1, (x.2.1.2.2.1, (x.2.1.2.2.2.1, (x.2.1.2.2.2.2.1, (x.2.1.2.2.2.2.2.1, (x.2.1.2.2.2.2.2.2.1, ()))))))), ())).bind fun p3 =>
(if (!p3.1) = false then
(if (!decide (x.2.1.1 = (3 : Int))) = true then
some (((p1.1.1, (p1.1.2.1, (p1.1.2.2.1, (p1.1.2.2.2.1, (p1.1.2.2.2.2.1, (p1.1.2.2.2.2.2.1, (p1.1.2.2.2.2.2.2.1, (p1.1.2.2.2.2.2.2.2.1, (p1.1.2.2.2.2.2.2.2.2.1, (p1.1.2.2.2.2.2.2.2.2.2.1, (p1.1.2.2.2.2.2.2.2.2.2.2.1, (p1.1.2.2.2.2.2.2.2.2.2.2.2.1, ())))))))))))), ((⟨#[]⟩ : ByteArray), (false, ()))), ((), ((), ((), ()))))
else
(jn (
((i_openIn_at_6 k ((p1.1.1, (p1.1.2.1, (p1.1.2.2.1, (p1.1.2.2.2.1, (p1.1.2.2.2.2.1, (p1.1.2.2.2.2.2.1, (p1.1.2.2.2.2.2.2.1, (p1.1.2.2.2.2.2.2.2.1, (p1.1.2.2.2.2.2.2.2.2.1, (p1.1.2.2.2.2.2.2.2.2.2.1, (p1.1.2.2.2.2.2.2.2.2.2.2.1, (p1.1.2.2.2.2.2.2.2.2.2.2.2.1, ())))))))))))), ((x.2.1.1, (x.2.1.2.1, (x.2.1.2.2.1, (x.2.1.2.2.2.1, (x.2.1.2.2.2.2.1, (x.2.1.2.2.2.2.2.1, (x.2.1.2.2.2.2.2.2.1, ()))))))), ()))).bind fun p5 =>
some (((p5.2.1.1, (p5.2.1.2.1, (p5.2.1.2.2.1, (p5.2.1.2.2.2.1, (p5.2.1.2.2.2.2.1, (p5.2.1.2.2.2.2.2.1, (p5.2.1.2.2.2.2.2.2.1, (p5.2.1.2.2.2.2.2.2.2.1, (p5.2.1.2.2.2.2.2.2.2.2.1, (p5.2.1.2.2.2.2.2.2.2.2.2.1, (p5.2.1.2.2.2.2.2.2.2.2.2.2.1, (p5.2.1.2.2.2.2.2.2.2.2.2.2.2.1, ())))))))))))), (p5.1.1, (p5.1.2.1, ()))), ((), ((), ((), ())))))) (fun (j1 : Option _) =>
(if (decide (x.1.1 = (0 : Int))) = false then
(if (!decide ((Int.tmod x.1.1 (8 : Int)) = x.2.1.2.1)) = true then
(if (decide (x.1.2.2.2.2.2.2.1 = (0 : Int))) = false then
(if (!decide ((Int.tmod x.1.2.2.2.2.2.2.1 (8 : Int)) = x.2.1.2.1)) = false then
(if (decide (x.1.2.2.2.2.2.2.2.2.2.2.2.1 ≤ x.2.2.1)) = true then
some (((p1.1.1, (p1.1.2.1, (p1.1.2.2.1, (p1.1.2.2.2.1, (p1.1.2.2.2.2.1, (p1.1.2.2.2.2.2.1, (p1.1.2.2.2.2.2.2.1, (p1.1.2.2.2.2.2.2.2.1, (p1.1.2.2.2.2.2.2.2.2.1, (p1.1.2.2.2.2.2.2.2.2.2.1, (p1.1.2.2.2.2.2.2.2.2.2.2.1, (p1.1.2.2.2.2.2.2.2.2.2.2.2.1, ())))))))))))), ((⟨#[]⟩ : ByteArray), (false, ()))), ((), ((), ((), ()))))
else
j1)
else
some (((p1.1.1, (p1.1.2.1, (p1.1.2.2.1, (p1.1.2.2.2.1, (p1.1.2.2.2.2.1, (p1.1.2.2.2.2.2.1, (p1.1.2.2.2.2.2.2.1, (p1.1.2.2.2.2.2.2.2.1, (p1.1.2.2.2.2.2.2.2.2.1, (p1.1.2.2.2.2.2.2.2.2.2.1, (p1.1.2.2.2.2.2.2.2.2.2.2.1, (p1.1.2.2.2.2.2.2.2.2.2.2.2.1, ())))))))))))), ((⟨#[]⟩ : ByteArray), (false, ()))), ((), ((), ((), ())))))
else
some (((p1.1.1, (p1.1.2.1, (p1.1.2.2.1, (p1.1.2.2.2.1, (p1.1.2.2.2.2.1, (p1.1.2.2.2.2.2.1, (p1.1.2.2.2.2.2.2.1, (p1.1.2.2.2.2.2.2.2.1, (p1.1.2.2.2.2.2.2.2.2.1, (p1.1.2.2.2.2.2.2.2.2.2.1, (p1.1.2.2.2.2.2.2.2.2.2.2.1, (p1.1.2.2.2.2.2.2.2.2.2.2.2.1, ())))))))))))), ((⟨#[]⟩ : ByteArray), (false, ()))), ((), ((), ((), ())))))
else
((i_openIn_v1 k ((p1.1.1, (p1.1.2.1, (p1.1.2.2.1, (p1.1.2.2.2.1, (p1.1.2.2.2.2.1, (p1.1.2.2.2.2.2.1, (p1.1.2.2.2.2.2.2.1, (p1.1.2.2.2.2.2.2.2.1, (p1.1.2.2.2.2.2.2.2.2.1, (p1.1.2.2.2.2.2.2.2.2.2.1, (p1.1.2.2.2.2.2.2.2.2.2.2.1, (p1.1.2.2.2.2.2.2.2.2.2.2.2.1, ())))))))))))), ((x.2.1.1, (x.2.1.2.1, (x.2.1.2.2.1, (x.2.1.2.2.2.1, (x.2.1.2.2.2.2.1, (x.2.1.2.2.2.2.2.1, (x.2.1.2.2.2.2.2.2.1, ()))))))), ()))).bind fun p6 =>
some (((p6.2.1.1, (p6.2.1.2.1, (p6.2.1.2.2.1, (p6.2.1.2.2.2.1, (p6.2.1.2.2.2.2.1, (p6.2.1.2.2.2.2.2.1, (p6.2.1.2.2.2.2.2.2.1, (p6.2.1.2.2.2.2.2.2.2.1, (p6.2.1.2.2.2.2.2.2.2.2.1, (p6.2.1.2.2.2.2.2.2.2.2.2.1, (p6.2.1.2.2.2.2.2.2.2.2.2.2.1, (p6.2.1.2.2.2.2.2.2.2.2.2.2.2.1, ())))))))))))), (p6.1.1, (p6.1.2.1, ()))), ((), ((), ((), ()))))))
else
(if (decide (x.1.2.2.2.2.2.2.1 = (0 : Int))) = false then
(if (!decide ((Int.tmod x.1.2.2.2.2.2.2.1 (8 : Int)) = x.2.1.2.1)) = false then
(if (decide (x.1.2.2.2.2.2.2.2.2.2.2.2.1 ≤ x.2.2.1)) = true then
some (((p1.1.1, (p1.1.2.1, (p1.1.2.2.1, (p1.1.2.2.2.1, (p1.1.2.2.2.2.1, (p1.1.2.2.2.2.2.1, (p1.1.2.2.2.2.2.2.1, (p1.1.2.2.2.2.2.2.2.1, (p1.1.2.2.2.2.2.2.2.2.1, (p1.1.2.2.2.2.2.2.2.2.2.1, (p1.1.2.2.2.2.2.2.2.2.2.2.1, (p1.1.2.2.2.2.2.2.2.2.2.2.2.1, ())))))))))))), ((⟨#[]⟩ : ByteArray), (false, ()))), ((), ((), ((), ()))))
else
j1)
else
some (((p1.1.1, (p1.1.2.1, (p1.1.2.2.1, (p1.1.2.2.2.1, (p1.1.2.2.2.2.1, (p1.1.2.2.2.2.2.1, (p1.1.2.2.2.2.2.2.1, (p1.1.2.2.2.2.2.2.2.1, (p1.1.2.2.2.2.2.2.2.2.1, (p1.1.2.2.2.2.2.2.2.2.2.1, (p1.1.2.2.2.2.2.2.2.2.2.2.1, (p1.1.2.2.2.2.2.2.2.2.2.2.2.1, ())))))))))))), ((⟨#[]⟩ : ByteArray), (false, ()))), ((), ((), ((), ())))))
else
some (((p1.1.1, (p1.1.2.1, (p1.1.2.2.1, (p1.1.2.2.2.1, (p1.1.2.2.2.2.1, (p1.1.2.2.2.2.2.1, (p1.1.2.2.2.2.2.2.1, (p1.1.2.2.2.2.2.2.2.1, (p1.1.2.2.2.2.2.2.2.2.1, (p1.1.2.2.2.2.2.2.2.2.2.1, (p1.1.2.2.2.2.2.2.2.2.2.2.1, (p1.1.2.2.2.2.2.2.2.2.2.2.2.1, ())))))))))))), ((⟨#[]⟩ : ByteArray), (false, ()))), ((), ((), ((), ())))))))))
else
some (((p1.1.1, (p1.1.2.1, (p1.1.2.2.1, (p1.1.2.2.2.1, (p1.1.2.2.2.2.1, (p1.1.2.2.2.2.2.1, (p1.1.2.2.2.2.2.2.1, (p1.1.2.2.2.2.2.2.2.1, (p1.1.2.2.2.2.2.2.2.2.1, (p1.1.2.2.2.2.2.2.2.2.2.1, (p1.1.2.2.2.2.2.2.2.2.2.2.1, (p1.1.2.2.2.2.2.2.2.2.2.2.2.1, ())))))))))))), ((⟨#[]⟩ : ByteArray), (false, ()))), ((), ((), ((), ()))))))
else
some (((p1.1.1, (p1.1.2.1, (p1.1.2.2.1, (p1.1.2.2.2.1, (p1.1.2.2.2.2.1, (p1.1.2.2.2.2.2.1, (p1.1.2.2.2.2.2.2.1, (p1.1.2.2.2.2.2.2.2.1, (p1.1.2.2.2.2.2.2.2.2.1, (p1.1.2.2.2.2.2.2.2.2.2.1, (p1.1.2.2.2.2.2.2.2.2.2.2.1, (p1.1.2.2.2.2.2.2.2.2.2.2.2.1, ())))))))))))), ((⟨#[]⟩ : ByteArray), (false, ()))), ((), ((), ((), ())))))))
theorem t_i_OpenData (k : Nat) (x) : evF TTab k [⟨183, 0, (.cons yP6 .nil), (.agg yP5), i_copySlots k⟩, ⟨185, 0, (.cons yP6 .nil), .bool, i_SlotsOk k⟩, ⟨199, 0, (.cons (.agg yP11) .nil), .bool, i_PacketOk k⟩, ⟨200, 0, (.cons (.ptr 0 yP5) (.cons (.agg yP11) .nil)), (.tup yP22), i_openIn_v1 k⟩, ⟨200, 1000006, (.cons (.ptr 6 yP5) (.cons (.agg yP11) .nil)), (.tup yP22), i_openIn_at_6 k⟩] [] Tryz.f116 (.cons yP6 (.cons (.agg yP11) yP2)) (.tup (.cons (.agg yP5) yP22)) x = i_OpenData k x := by kernel_rfl
theorem e_i_OpenData [Names] (k : Nat) : EntryOk Tryz.prog ⟨116, 0, (.cons yP6 (.cons (.agg yP11) yP2)), (.tup (.cons (.agg yP5) yP22)), i_OpenData k⟩ := entry_ok tok (by intro e he; simp only [List.mem_cons, List.not_mem_nil, or_false] at he; rcases he with rfl | rfl | rfl | rfl | rfl <;> first | exact e_i_copySlots k | exact e_i_SlotsOk k | exact e_i_PacketOk k | exact e_i_openIn_v1 k | exact e_i_openIn_at_6 k) (by kernel_rfl) (fn := Tryz.f116) (k := k) (es := [⟨183, 0, (.cons yP6 .nil), (.agg yP5), i_copySlots k⟩, ⟨185, 0, (.cons yP6 .nil), .bool, i_SlotsOk k⟩, ⟨199, 0, (.cons (.agg yP11) .nil), .bool, i_PacketOk k⟩, ⟨200, 0, (.cons (.ptr 0 yP5) (.cons (.agg yP11) .nil)), (.tup yP22), i_openIn_v1 k⟩, ⟨200, 1000006, (.cons (.ptr 6 yP5) (.cons (.agg yP11) .nil)), (.tup yP22), i_openIn_at_6 k⟩]) (loops := []) (by kernel_rfl) (by kernel_rfl) (fun x r h => (t_i_OpenData k x).trans h)
def i_ReadPart (k : Nat) (x : ByteArray × Unit) : Option ((Int × Int × Int × ByteArray × Bool × Unit) × Unit × Unit) :=
(if (decide ((ByteArray.size x.1 : Int) < (3 : Int))) = false then
(if 0 ≤ (2 : Int) ∧ (2 : Int) < (ByteArray.size x.1 : Int) then
((i_within k ((wi64 ((bt x.1 (2 : Int)))), ((1 : Int), ((15 : Int), ())))).bind fun p1 =>
(if (!p1.1) = false then
(if 0 ≤ (1 : Int) ∧ (1 : Int) < (ByteArray.size x.1 : Int) then
(if 0 ≤ (2 : Int) ∧ (2 : Int) < (ByteArray.size x.1 : Int) then
(if (decide ((bt x.1 (2 : Int)) ≤ (bt x.1 (1 : Int)))) = true then
some (((0 : Int), ((0 : Int), ((0 : Int), ((⟨#[]⟩ : ByteArray), (false, ()))))), ((), ()))
else
(if 0 ≤ (0 : Int) ∧ (0 : Int) < (ByteArray.size x.1 : Int) then
(if 0 ≤ (1 : Int) ∧ (1 : Int) < (ByteArray.size x.1 : Int) then
(if 0 ≤ (2 : Int) ∧ (2 : Int) < (ByteArray.size x.1 : Int) then
(if 0 ≤ (3 : Int) ∧ (3 : Int) ≤ (ByteArray.size x.1 : Int) then
some (((wi64 ((bt x.1 (0 : Int)))), ((wi64 ((bt x.1 (1 : Int)))), ((wi64 ((bt x.1 (2 : Int)))), ((ByteArray.extract x.1 (Int.toNat (3 : Int)) (Int.toNat (ByteArray.size x.1 : Int))), (true, ()))))), ((), ()))
else none)
else none)
else none)
else none))
else none)
else none)
else
some (((0 : Int), ((0 : Int), ((0 : Int), ((⟨#[]⟩ : ByteArray), (false, ()))))), ((), ()))))
else none)
else
some (((0 : Int), ((0 : Int), ((0 : Int), ((⟨#[]⟩ : ByteArray), (false, ()))))), ((), ())))
theorem t_i_ReadPart (k : Nat) (x) : evF TTab k [⟨55, 0, yP12, .bool, i_within k⟩] [] Tryz.f201 (.cons .str .nil) (.tup (.cons (.int .i64) (.cons (.int .i64) (.cons (.int .i64) yP22)))) x = i_ReadPart k x := by kernel_rfl
theorem e_i_ReadPart [Names] (k : Nat) : EntryOk Tryz.prog ⟨201, 0, (.cons .str .nil), (.tup (.cons (.int .i64) (.cons (.int .i64) (.cons (.int .i64) yP22)))), i_ReadPart k⟩ := entry_ok tok (by intro e he; simp only [List.mem_cons, List.not_mem_nil, or_false] at he; rcases he with rfl <;> first | exact e_i_within k) (by kernel_rfl) (fn := Tryz.f201) (k := k) (es := [⟨55, 0, yP12, .bool, i_within k⟩]) (loops := []) (by kernel_rfl) (by kernel_rfl) (fun x r h => (t_i_ReadPart k x).trans h)
def i_heldAt_1 (k : Nat) (x : (Int × Int × Int × List (ByteArray) × List (Bool) × Int × Unit) × (Int × Unit) × (Int × Unit) × Unit) : Option (Bool × Unit × (Int × Unit) × (Int × Unit) × Unit) :=
(if (decide (x.1.1 = x.2.1.1)) = true then
some ((decide (x.1.2.1 = x.2.2.1.1)), ((), ((x.2.1.1, ()), ((x.2.2.1.1, ()), ()))))
else
some (false, ((), ((x.2.1.1, ()), ((x.2.2.1.1, ()), ())))))
theorem t_i_heldAt_1 (k : Nat) (x) : evF TTabO k [] [] Tryz.f270 (.cons (.agg yP24) (.cons (.ptr 0 yP2) yP25)) .bool x = i_heldAt_1 k x := by kernel_rfl
theorem e_i_heldAt_1 [Names] (k : Nat) : EntryOk Tryz.prog ⟨270, 0, (.cons (.agg yP24) (.cons (.ptr 0 yP2) yP25)), .bool, i_heldAt_1 k⟩ := entry_ok tokO (by simp) (by kernel_rfl) (fn := Tryz.f270) (k := k) (es := []) (loops := []) (by kernel_rfl) (by kernel_rfl) (fun x r h => (t_i_heldAt_1 k x).trans h)
def x_slices_IndexFunc_impl_Held_impl_Held_of_i_heldAt_1 (k : Nat) (x : (List (Int × Int × Int × List (ByteArray) × List (Bool) × Int)) × ((Int × Unit) × (Int × Unit) × Unit) × Unit) : Option (Int × Unit × ((Int × Unit) × (Int × Unit) × Unit) × Unit) :=
(whileK (fun (rec0 : ((List (Int × Int × Int × List (ByteArray) × List (Bool) × Int)) × ((Int × Unit) × (Int × Unit) × Unit) × Int × Int × Unit) → Option _) (y0 : (List (Int × Int × Int × List (ByteArray) × List (Bool) × Int)) × ((Int × Unit) × (Int × Unit) × Unit) × Int × Int × Unit) =>
(if (decide (y0.2.2.2.1 < y0.2.2.1)) = true then
(if 0 ≤ y0.2.2.2.1 ∧ y0.2.2.2.1 < (List.length y0.1 : Int) then
((i_heldAt_1 k (((Ty.rd (t := yT4) y0.1 y0.2.2.2.1).1, ((Ty.rd (t := yT4) y0.1 y0.2.2.2.1).2.1, ((Ty.rd (t := yT4) y0.1 y0.2.2.2.1).2.2.1, ((Ty.rd (t := yT4) y0.1 y0.2.2.2.1).2.2.2.1, ((Ty.rd (t := yT4) y0.1 y0.2.2.2.1).2.2.2.2.1, ((Ty.rd (t := yT4) y0.1 y0.2.2.2.1).2.2.2.2.2, ())))))), ((y0.2.1.1.1, ()), ((y0.2.1.2.1.1, ()), ())))).bind fun p1 =>
(if p1.1 = true then
some (y0.2.2.2.1, ((), (((p1.2.2.1.1, ()), ((p1.2.2.2.1.1, ()), ())), ())))
else
(rec0 (y0.1, (((p1.2.2.1.1, ()), ((p1.2.2.2.1.1, ()), ())), (y0.2.2.1, ((wi64 (y0.2.2.2.1 + (1 : Int))), ())))))))
else none)
else
((fun (z1 : ((Int × Unit) × (Int × Unit) × Unit) × Unit) =>
some ((-1 : Int), ((), (((z1.1.1.1, ()), ((z1.1.2.1.1, ()), ())), ())))) (((y0.2.1.1.1, ()), ((y0.2.1.2.1.1, ()), ())), ())))) k (x.1, (((x.2.1.1.1, ()), ((x.2.1.2.1.1, ()), ())), ((List.length x.1 : Int), ((0 : Int), ())))))
theorem t_x_slices_IndexFunc_impl_Held_impl_Held_of_i_heldAt_1 (k : Nat) (x) : evF TTabO k [⟨270, 0, (.cons (.agg yP24) (.cons (.ptr 0 yP2) yP25)), .bool, i_heldAt_1 k⟩] [(0, ⟨[0, 1, 7, 8], (.cons (.il true yT4) (.cons (.fn 270 (.cons (.ptr 0 yP2) yP25)) (.cons (.int .i64) yP2)))⟩, ⟨[1], (.cons (.fn 270 (.cons (.ptr 0 yP2) yP25)) .nil)⟩)] Tryz.f269 (.cons (.il true yT4) (.cons (.fn 270 (.cons (.ptr 0 yP2) yP25)) .nil)) (.int .i64) x = x_slices_IndexFunc_impl_Held_impl_Held_of_i_heldAt_1 k x := by kernel_rfl
theorem e_x_slices_IndexFunc_impl_Held_impl_Held_of_i_heldAt_1 [Names] (k : Nat) : EntryOk Tryz.prog ⟨269, 271, (.cons (.il true yT4) (.cons (.fn 270 (.cons (.ptr 0 yP2) yP25)) .nil)), (.int .i64), x_slices_IndexFunc_impl_Held_impl_Held_of_i_heldAt_1 k⟩ := entry_ok tokO (by intro e he; simp only [List.mem_cons, List.not_mem_nil, or_false] at he; rcases he with rfl <;> first | exact e_i_heldAt_1 k) (by kernel_rfl) (fn := Tryz.f269) (k := k) (es := [⟨270, 0, (.cons (.agg yP24) (.cons (.ptr 0 yP2) yP25)), .bool, i_heldAt_1 k⟩]) (loops := [(0, ⟨[0, 1, 7, 8], (.cons (.il true yT4) (.cons (.fn 270 (.cons (.ptr 0 yP2) yP25)) (.cons (.int .i64) yP2)))⟩, ⟨[1], (.cons (.fn 270 (.cons (.ptr 0 yP2) yP25)) .nil)⟩)]) (by kernel_rfl) (by kernel_rfl) (fun x r h => (t_x_slices_IndexFunc_impl_Held_impl_Held_of_i_heldAt_1 k x).trans h)
def i_heldAt (k : Nat) (x : ((List (Int × Int × Int × List (ByteArray) × List (Bool) × Int)) × Unit) × Int × Int × Unit) : Option (Int × Unit × Unit × Unit × Unit) :=
((x_slices_IndexFunc_impl_Held_impl_Held_of_i_heldAt_1 k (x.1.1, (((x.2.1, ()), ((x.2.2.1, ()), ())), ()))).bind fun p1 =>
some (p1.1, ((), ((), ((), ())))))
theorem t_i_heldAt (k : Nat) (x) : evF TTabO k [⟨269, 271, (.cons (.il true yT4) (.cons (.fn 270 (.cons (.ptr 0 yP2) yP25)) .nil)), (.int .i64), x_slices_IndexFunc_impl_Held_impl_Held_of_i_heldAt_1 k⟩] [] Tryz.f203 (.cons yP34 (.cons (.int .i64) yP2)) (.int .i64) x = i_heldAt k x := by kernel_rfl
theorem e_i_heldAt [Names] (k : Nat) : EntryOk Tryz.prog ⟨203, 0, (.cons yP34 (.cons (.int .i64) yP2)), (.int .i64), i_heldAt k⟩ := entry_ok tokO (by intro e he; simp only [List.mem_cons, List.not_mem_nil, or_false] at he; rcases he with rfl <;> first | exact e_x_slices_IndexFunc_impl_Held_impl_Held_of_i_heldAt_1 k) (by kernel_rfl) (fn := Tryz.f203) (k := k) (es := [⟨269, 271, (.cons (.il true yT4) (.cons (.fn 270 (.cons (.ptr 0 yP2) yP25)) .nil)), (.int .i64), x_slices_IndexFunc_impl_Held_impl_Held_of_i_heldAt_1 k⟩]) (loops := []) (by kernel_rfl) (by kernel_rfl) (fun x r h => (t_i_heldAt k x).trans h)
def i_heldOk (k : Nat) (x : (Int × Int × Int × List (ByteArray) × List (Bool) × Int × Unit) × Unit) : Option (Bool × Unit × Unit) :=
((i_isId k (x.1.1, ())).bind fun p1 =>
(if (!p1.1) = false then
((i_within k (x.1.2.1, ((0 : Int), ((255 : Int), ())))).bind fun p2 =>
(if (!p2.1) = false then
((i_within k (x.1.2.2.1, ((2 : Int), ((15 : Int), ())))).bind fun p3 =>
(if (!p3.1) = false then
(if (!decide ((List.length x.1.2.2.2.1 : Int) = x.1.2.2.1)) = false then
(if (!decide ((List.length x.1.2.2.2.2.1 : Int) = x.1.2.2.1)) = true then
some (false, ((), ()))
else
(whileK (fun (rec0 : ((Int × Int × Int × List (ByteArray) × List (Bool) × Int × Unit) × Int × List (Bool) × Int × Int × Unit) → Option _) (y0 : (Int × Int × Int × List (ByteArray) × List (Bool) × Int × Unit) × Int × List (Bool) × Int × Int × Unit) =>
(if (decide (y0.2.2.2.2.1 < y0.2.2.2.1)) = true then
(if 0 ≤ y0.2.2.2.2.1 ∧ y0.2.2.2.2.1 < (List.length y0.2.2.1 : Int) then
(if (Ty.rd (t := .bool) y0.2.2.1 y0.2.2.2.2.1) = true then
(if 0 ≤ y0.2.2.2.2.1 ∧ y0.2.2.2.2.1 < (List.length y0.1.2.2.2.1 : Int) then
(if (decide ((120 : Int) < (ByteArray.size (Ty.rd (t := .str) y0.1.2.2.2.1 y0.2.2.2.2.1) : Int))) = false then
(if (!(Ty.rd (t := .bool) y0.2.2.1 y0.2.2.2.2.1)) = true then
(if 0 ≤ y0.2.2.2.2.1 ∧ y0.2.2.2.2.1 < (List.length y0.1.2.2.2.1 : Int) then
(if (!decide ((Ty.rd (t := .str) y0.1.2.2.2.1 y0.2.2.2.2.1) = (⟨#[]⟩ : ByteArray))) = true then
some (false, ((), ()))
else
(rec0 ((y0.1.1, (y0.1.2.1, (y0.1.2.2.1, (y0.1.2.2.2.1, (y0.1.2.2.2.2.1, (y0.1.2.2.2.2.2.1, ())))))), ((wi64 (y0.2.1 + (1 : Int))), (y0.2.2.1, (y0.2.2.2.1, ((wi64 (y0.2.2.2.2.1 + (1 : Int))), ())))))))
else none)
else
(rec0 ((y0.1.1, (y0.1.2.1, (y0.1.2.2.1, (y0.1.2.2.2.1, (y0.1.2.2.2.2.1, (y0.1.2.2.2.2.2.1, ())))))), ((wi64 (y0.2.1 + (1 : Int))), (y0.2.2.1, (y0.2.2.2.1, ((wi64 (y0.2.2.2.2.1 + (1 : Int))), ())))))))
else
some (false, ((), ())))
else none)
else
(if 0 ≤ y0.2.2.2.2.1 ∧ y0.2.2.2.2.1 < (List.length y0.1.2.2.2.1 : Int) then
(if (decide ((120 : Int) < (ByteArray.size (Ty.rd (t := .str) y0.1.2.2.2.1 y0.2.2.2.2.1) : Int))) = false then
(if (!(Ty.rd (t := .bool) y0.2.2.1 y0.2.2.2.2.1)) = true then
(if 0 ≤ y0.2.2.2.2.1 ∧ y0.2.2.2.2.1 < (List.length y0.1.2.2.2.1 : Int) then
(if (!decide ((Ty.rd (t := .str) y0.1.2.2.2.1 y0.2.2.2.2.1) = (⟨#[]⟩ : ByteArray))) = true then
some (false, ((), ()))
else
(rec0 ((y0.1.1, (y0.1.2.1, (y0.1.2.2.1, (y0.1.2.2.2.1, (y0.1.2.2.2.2.1, (y0.1.2.2.2.2.2.1, ())))))), (y0.2.1, (y0.2.2.1, (y0.2.2.2.1, ((wi64 (y0.2.2.2.2.1 + (1 : Int))), ())))))))
else none)
else
(rec0 ((y0.1.1, (y0.1.2.1, (y0.1.2.2.1, (y0.1.2.2.2.1, (y0.1.2.2.2.2.1, (y0.1.2.2.2.2.2.1, ())))))), (y0.2.1, (y0.2.2.1, (y0.2.2.2.1, ((wi64 (y0.2.2.2.2.1 + (1 : Int))), ())))))))
else
some (false, ((), ())))
else none))
else none)
else
((fun (z1 : (Int × Int × Int × List (ByteArray) × List (Bool) × Int × Unit) × Int × Unit) =>
((i_within k (z1.2.1, ((1 : Int), ((wi64 (z1.1.2.2.1 - (1 : Int))), ())))).bind fun p4 =>
(if p4.1 = true then
((i_within k (z1.1.2.2.2.2.2.1, ((0 : Int), ((1000000000 : Int), ())))).bind fun p5 =>
some (p5.1, ((), ())))
else
some (false, ((), ()))))) ((y0.1.1, (y0.1.2.1, (y0.1.2.2.1, (y0.1.2.2.2.1, (y0.1.2.2.2.2.1, (y0.1.2.2.2.2.2.1, ())))))), (y0.2.1, ()))))) k ((x.1.1, (x.1.2.1, (x.1.2.2.1, (x.1.2.2.2.1, (x.1.2.2.2.2.1, (x.1.2.2.2.2.2.1, ())))))), ((0 : Int), (x.1.2.2.2.2.1, ((List.length x.1.2.2.2.2.1 : Int), ((0 : Int), ())))))))
else
some (false, ((), ())))
else
some (false, ((), ()))))
else
some (false, ((), ()))))
else
some (false, ((), ()))))
theorem t_i_heldOk (k : Nat) (x) : evF TTab k [⟨55, 0, yP12, .bool, i_within k⟩, ⟨133, 0, yP2, .bool, i_isId k⟩] [(0, ⟨[1, 3, 39, 40, 41], (.cons (.ptr 0 yP24) (.cons (.int .i64) (.cons (.il true .bool) (.cons (.int .i64) yP2))))⟩, ⟨[1, 3], (.cons (.ptr 0 yP24) yP2)⟩)] Tryz.f268 (.cons (.agg yP24) .nil) .bool x = i_heldOk k x := by kernel_rfl
theorem e_i_heldOk [Names] (k : Nat) : EntryOk Tryz.prog ⟨268, 0, (.cons (.agg yP24) .nil), .bool, i_heldOk k⟩ := entry_ok tok (by intro e he; simp only [List.mem_cons, List.not_mem_nil, or_false] at he; rcases he with rfl | rfl <;> first | exact e_i_within k | exact e_i_isId k) (by kernel_rfl) (fn := Tryz.f268) (k := k) (es := [⟨55, 0, yP12, .bool, i_within k⟩, ⟨133, 0, yP2, .bool, i_isId k⟩]) (loops := [(0, ⟨[1, 3, 39, 40, 41], (.cons (.ptr 0 yP24) (.cons (.int .i64) (.cons (.il true .bool) (.cons (.int .i64) yP2))))⟩, ⟨[1, 3], (.cons (.ptr 0 yP24) yP2)⟩)]) (by kernel_rfl) (by kernel_rfl) (fun x r h => (t_i_heldOk k x).trans h)
def i_ShelfOk (k : Nat) (x : ((List (Int × Int × Int × List (ByteArray) × List (Bool) × Int)) × Unit) × Unit) : Option (Bool × Unit × Unit) :=
(whileK (fun (rec0 : (((List (Int × Int × Int × List (ByteArray) × List (Bool) × Int)) × Unit) × (List (Int × Int × Int × List (ByteArray) × List (Bool) × Int)) × Int × Int × Unit) → Option _) (y0 : ((List (Int × Int × Int × List (ByteArray) × List (Bool) × Int)) × Unit) × (List (Int × Int × Int × List (ByteArray) × List (Bool) × Int)) × Int × Int × Unit) =>
(if (decide (y0.2.2.2.1 < y0.2.2.1)) = true then
(if 0 ≤ y0.2.2.2.1 ∧ y0.2.2.2.1 < (List.length y0.2.1 : Int) then
((i_heldOk k (((Ty.rd (t := yT4) y0.2.1 y0.2.2.2.1).1, ((Ty.rd (t := yT4) y0.2.1 y0.2.2.2.1).2.1, ((Ty.rd (t := yT4) y0.2.1 y0.2.2.2.1).2.2.1, ((Ty.rd (t := yT4) y0.2.1 y0.2.2.2.1).2.2.2.1, ((Ty.rd (t := yT4) y0.2.1 y0.2.2.2.1).2.2.2.2.1, ((Ty.rd (t := yT4) y0.2.1 y0.2.2.2.1).2.2.2.2.2, ())))))), ())).bind fun p1 =>
(if (!p1.1) = false then
((i_heldAt k ((y0.1.1, ()), ((Ty.rd (t := yT4) y0.2.1 y0.2.2.2.1).1, ((Ty.rd (t := yT4) y0.2.1 y0.2.2.2.1).2.1, ())))).bind fun p2 =>
(if (!decide (p2.1 = y0.2.2.2.1)) = true then
some (false, ((), ()))
else
(rec0 ((y0.1.1, ()), (y0.2.1, (y0.2.2.1, ((wi64 (y0.2.2.2.1 + (1 : Int))), ())))))))
else
some (false, ((), ()))))
else none)
else
((fun (z1 : ((List (Int × Int × Int × List (ByteArray) × List (Bool) × Int)) × Unit) × Unit) =>
some ((decide ((List.length z1.1.1 : Int) ≤ (3 : Int))), ((), ()))) ((y0.1.1, ()), ())))) k ((x.1.1, ()), (x.1.1, ((List.length x.1.1 : Int), ((0 : Int), ())))))
theorem t_i_ShelfOk (k : Nat) (x) : evF TTabO k [⟨203, 0, (.cons yP34 (.cons (.int .i64) yP2)), (.int .i64), i_heldAt k⟩, ⟨268, 0, (.cons (.agg yP24) .nil), .bool, i_heldOk k⟩] [(0, ⟨[1, 6, 7, 8], (.cons (.ptr 0 (.cons (.il true yT4) .nil)) (.cons (.il true yT4) (.cons (.int .i64) yP2)))⟩, ⟨[1], (.cons (.ptr 0 (.cons (.il true yT4) .nil)) .nil)⟩)] Tryz.f202 (.cons yP34 .nil) .bool x = i_ShelfOk k x := by kernel_rfl
theorem e_i_ShelfOk [Names] (k : Nat) : EntryOk Tryz.prog ⟨202, 0, (.cons yP34 .nil), .bool, i_ShelfOk k⟩ := entry_ok tokO (by intro e he; simp only [List.mem_cons, List.not_mem_nil, or_false] at he; rcases he with rfl | rfl <;> first | exact e_i_heldAt k | exact e_i_heldOk k) (by kernel_rfl) (fn := Tryz.f202) (k := k) (es := [⟨203, 0, (.cons yP34 (.cons (.int .i64) yP2)), (.int .i64), i_heldAt k⟩, ⟨268, 0, (.cons (.agg yP24) .nil), .bool, i_heldOk k⟩]) (loops := [(0, ⟨[1, 6, 7, 8], (.cons (.ptr 0 (.cons (.il true yT4) .nil)) (.cons (.il true yT4) (.cons (.int .i64) yP2)))⟩, ⟨[1], (.cons (.ptr 0 (.cons (.il true yT4) .nil)) .nil)⟩)]) (by kernel_rfl) (by kernel_rfl) (fun x r h => (t_i_ShelfOk k x).trans h)
def x_slices_Delete_impl_Held_impl_Held_n (k : Nat) (x : (List (Int × Int × Int × Nat × Nat × Int)) × Int × Int × Unit) : Option ((List (Int × Int × Int × Nat × Nat × Int)) × Unit × Unit × Unit × Unit) :=
(if 0 ≤ (List.length x.1 : Int) ∧ (List.length x.1 : Int) ≤ (List.length x.1 : Int) then
(if 0 ≤ x.2.2.1 ∧ x.2.2.1 ≤ (List.length x.1 : Int) then
(if 0 ≤ x.2.1 ∧ x.2.1 ≤ x.2.2.1 then
(if (decide (x.2.1 = x.2.2.1)) = true then
some (x.1, ((), ((), ((), ()))))
else
(if 0 ≤ x.2.1 ∧ x.2.1 ≤ (List.length x.1 : Int) then
(if 0 ≤ x.2.2.1 ∧ x.2.2.1 ≤ (List.length x.1 : Int) then
(if x.2.1 + List.length (List.drop (Int.toNat x.2.2.1) (List.take (Int.toNat (List.length x.1 : Int)) x.1)) ≤ List.length x.1 ∧ x.2.1 - (0 : Int) + List.length (List.drop (Int.toNat x.2.2.1) (List.take (Int.toNat (List.length x.1 : Int)) x.1)) ≤ capMax then
(if 0 ≤ (List.length x.1 : Int) ∧ (List.length x.1 : Int) ≤ ((List.length (List.take (Int.toNat x.2.1) x.1 ++ ((List.drop (Int.toNat x.2.2.1) (List.take (Int.toNat (List.length x.1 : Int)) x.1)) ++ List.drop (Int.toNat x.2.1 + List.length (List.drop (Int.toNat x.2.2.1) (List.take (Int.toNat (List.length x.1 : Int)) x.1))) x.1)) : Int) - (0 : Int)) then
(if 0 ≤ ((x.2.1 + List.length (List.drop (Int.toNat x.2.2.1) (List.take (Int.toNat (List.length x.1 : Int)) x.1))) - (0 : Int)) ∧ ((x.2.1 + List.length (List.drop (Int.toNat x.2.2.1) (List.take (Int.toNat (List.length x.1 : Int)) x.1))) - (0 : Int)) ≤ (List.length x.1 : Int) then
some ((List.drop (Int.toNat (0 : Int)) (List.take (Int.toNat (x.2.1 + List.length (List.drop (Int.toNat x.2.2.1) (List.take (Int.toNat (List.length x.1 : Int)) x.1)))) (List.take (Int.toNat ((0 : Int) + ((x.2.1 + List.length (List.drop (Int.toNat x.2.2.1) (List.take (Int.toNat (List.length x.1 : Int)) x.1))) - (0 : Int)))) (List.take (Int.toNat x.2.1) x.1 ++ ((List.drop (Int.toNat x.2.2.1) (List.take (Int.toNat (List.length x.1 : Int)) x.1)) ++ List.drop (Int.toNat x.2.1 + List.length (List.drop (Int.toNat x.2.2.1) (List.take (Int.toNat (List.length x.1 : Int)) x.1))) x.1)) ++ (List.replicate (Int.toNat (((0 : Int) + (List.length x.1 : Int)) - ((0 : Int) + ((x.2.1 + List.length (List.drop (Int.toNat x.2.2.1) (List.take (Int.toNat (List.length x.1 : Int)) x.1))) - (0 : Int))))) ((0 : Int), ((0 : Int), ((0 : Int), ((0 : Nat), ((0 : Nat), (0 : Int)))))) ++ List.drop (Int.toNat ((0 : Int) + (List.length x.1 : Int))) (List.take (Int.toNat x.2.1) x.1 ++ ((List.drop (Int.toNat x.2.2.1) (List.take (Int.toNat (List.length x.1 : Int)) x.1)) ++ List.drop (Int.toNat x.2.1 + List.length (List.drop (Int.toNat x.2.2.1) (List.take (Int.toNat (List.length x.1 : Int)) x.1))) x.1)))))), ((), ((), ((), ()))))
else none)
else none)
else none)
else none)
else none))
else none)
else none)
else none)
theorem t_x_slices_Delete_impl_Held_impl_Held_n (k : Nat) (x) : evF TTabN k [] [] Tryz.f204 (.cons (.own false 229 (.pair (.int .i64) (.pair (.int .i64) (.pair (.int .i64) (.pair .nm (.pair .nm (.int .i64))))))) (.cons (.int .i64) yP2)) (.own false 229 (.pair (.int .i64) (.pair (.int .i64) (.pair (.int .i64) (.pair .nm (.pair .nm (.int .i64))))))) x = x_slices_Delete_impl_Held_impl_Held_n k x := by kernel_rfl
theorem e_x_slices_Delete_impl_Held_impl_Held_n [Names] (k : Nat) : EntryOk Tryz.prog ⟨204, 0, (.cons (.own false 229 (.pair (.int .i64) (.pair (.int .i64) (.pair (.int .i64) (.pair .nm (.pair .nm (.int .i64))))))) (.cons (.int .i64) yP2)), (.own false 229 (.pair (.int .i64) (.pair (.int .i64) (.pair (.int .i64) (.pair .nm (.pair .nm (.int .i64))))))), x_slices_Delete_impl_Held_impl_Held_n k⟩ := entry_ok tokN (by simp) (by kernel_rfl) (fn := Tryz.f204) (k := k) (es := []) (loops := []) (by kernel_rfl) (by kernel_rfl) (fun x r h => (t_x_slices_Delete_impl_Held_impl_Held_n k x).trans h)
def x_slices_Delete_impl_Held_impl_Held (k : Nat) (x : (List (Int × Int × Int × List (ByteArray) × List (Bool) × Int)) × Int × Int × Unit) : Option ((List (Int × Int × Int × List (ByteArray) × List (Bool) × Int)) × Unit × Unit × Unit × Unit) :=
treeF yT1 (x_slices_Delete_impl_Held_impl_Held_n k) x
theorem e_x_slices_Delete_impl_Held_impl_Held [Names] (k : Nat) : EntryOk Tryz.prog ⟨204, 0, (.cons (.own false 229 yT1) (.cons (.int .i64) yP2)), (.own false 229 yT1), x_slices_Delete_impl_Held_impl_Held k⟩ := names_entry (t := yT1) (by kernel_rfl) (by kernel_rfl) (fun N => @e_x_slices_Delete_impl_Held_impl_Held_n N k) inferInstance
def x_slices_Index_bool_bool (k : Nat) (x : List (Bool) × Bool × Unit) : Option (Int × Unit × Unit × Unit) :=
(whileK (fun (rec0 : (List (Bool) × Bool × Int × Int × Unit) → Option _) (y0 : List (Bool) × Bool × Int × Int × Unit) =>
(if (decide (y0.2.2.2.1 < y0.2.2.1)) = true then
(if 0 ≤ y0.2.2.2.1 ∧ y0.2.2.2.1 < (List.length y0.1 : Int) then
(if (decide (y0.2.1 = (Ty.rd (t := .bool) y0.1 y0.2.2.2.1))) = true then
some (y0.2.2.2.1, ((), ((), ())))
else
(rec0 (y0.1, (y0.2.1, (y0.2.2.1, ((wi64 (y0.2.2.2.1 + (1 : Int))), ()))))))
else none)
else
((fun (z1 : Unit) =>
some ((-1 : Int), ((), ((), ())))) ()))) k (x.1, (x.2.1, ((List.length x.1 : Int), ((0 : Int), ())))))
theorem t_x_slices_Index_bool_bool (k : Nat) (x) : evF TTab k [] [(0, ⟨[0, 1, 7, 8], (.cons (.il true .bool) (.cons .bool (.cons (.int .i64) yP2)))⟩, ⟨[], .nil⟩)] Tryz.f271 (.cons (.il true .bool) (.cons .bool .nil)) (.int .i64) x = x_slices_Index_bool_bool k x := by kernel_rfl
theorem e_x_slices_Index_bool_bool [Names] (k : Nat) : EntryOk Tryz.prog ⟨271, 0, (.cons (.il true .bool) (.cons .bool .nil)), (.int .i64), x_slices_Index_bool_bool k⟩ := entry_ok tok (by simp) (by kernel_rfl) (fn := Tryz.f271) (k := k) (es := []) (loops := [(0, ⟨[0, 1, 7, 8], (.cons (.il true .bool) (.cons .bool (.cons (.int .i64) yP2)))⟩, ⟨[], .nil⟩)]) (by kernel_rfl) (by kernel_rfl) (fun x r h => (t_x_slices_Index_bool_bool k x).trans h)
def x_slices_Contains_bool_bool (k : Nat) (x : List (Bool) × Bool × Unit) : Option (Bool × Unit × Unit × Unit) :=
((x_slices_Index_bool_bool k (x.1, (x.2.1, ()))).bind fun p1 =>
some ((decide ((0 : Int) ≤ p1.1)), ((), ((), ()))))
theorem t_x_slices_Contains_bool_bool (k : Nat) (x) : evF TTab k [⟨271, 0, (.cons (.il true .bool) (.cons .bool .nil)), (.int .i64), x_slices_Index_bool_bool k⟩] [] Tryz.f205 (.cons (.il true .bool) (.cons .bool .nil)) .bool x = x_slices_Contains_bool_bool k x := by kernel_rfl
theorem e_x_slices_Contains_bool_bool [Names] (k : Nat) : EntryOk Tryz.prog ⟨205, 0, (.cons (.il true .bool) (.cons .bool .nil)), .bool, x_slices_Contains_bool_bool k⟩ := entry_ok tok (by intro e he; simp only [List.mem_cons, List.not_mem_nil, or_false] at he; rcases he with rfl <;> first | exact e_x_slices_Index_bool_bool k) (by kernel_rfl) (fn := Tryz.f205) (k := k) (es := [⟨271, 0, (.cons (.il true .bool) (.cons .bool .nil)), (.int .i64), x_slices_Index_bool_bool k⟩]) (loops := []) (by kernel_rfl) (by kernel_rfl) (fun x r h => (t_x_slices_Contains_bool_bool k x).trans h)
def x_strings_Join (k : Nat) (x : List (ByteArray) × ByteArray × Unit) : Option (ByteArray × Unit × Unit × Unit) := joinF x
theorem e_x_strings_Join [Names] (k : Nat) : EntryOk Tryz.prog ⟨206, 0, (.cons (.il true .str) (.cons .str .nil)), .str, x_strings_Join k⟩ := entry_join Tryz.func206 (by kernel_rfl) Tryz.strings_Join_none Tryz.strings_Join true
end Go.Proofs.YtnfllchbpechlaaGreat
