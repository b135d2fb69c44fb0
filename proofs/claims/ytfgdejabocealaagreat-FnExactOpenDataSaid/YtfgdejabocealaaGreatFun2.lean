import Derived.Test.YtfgdejabocealaaGreatFun1
/- What functions of the program compute, as plain functions, and that their calls do so (part 2). Conditions: the plain function answers. -/
set_option linter.unusedVariables false
namespace Go.Proofs.YtfgdejabocealaaGreat
open Go Go.Eng Go.Proofs
def i_round (k : Nat) (x : ByteArray × ByteArray × Unit) : Option (ByteArray × Unit × Unit × Unit) :=
((i_constants k ()).bind fun p1 =>
((i_expanded k (x.2.1, ())).bind fun p2 =>
((i_wordsOf k (x.1, ())).bind fun p3 =>
(if 0 ≤ (0 : Int) ∧ (0 : Int) < (List.length p3.1 : Int) then
(if 0 ≤ (1 : Int) ∧ (1 : Int) < (List.length p3.1 : Int) then
(if 0 ≤ (2 : Int) ∧ (2 : Int) < (List.length p3.1 : Int) then
(if 0 ≤ (3 : Int) ∧ (3 : Int) < (List.length p3.1 : Int) then
(if 0 ≤ (4 : Int) ∧ (4 : Int) < (List.length p3.1 : Int) then
(if 0 ≤ (5 : Int) ∧ (5 : Int) < (List.length p3.1 : Int) then
(if 0 ≤ (6 : Int) ∧ (6 : Int) < (List.length p3.1 : Int) then
(if 0 ≤ (7 : Int) ∧ (7 : Int) < (List.length p3.1 : Int) then
(whileK (fun (rec0 : ((Int × Int × Int × Int × Int × Int × Int × Int × Int × Int × Int × Int × Int × Int × Int × Int × Int × Int × Int × Int × Int × Int × Int × Int × Int × Int × Int × Int × Int × Int × Int × Int × Int × Int × Int × Int × Int × Int × Int × Int × Int × Int × Int × Int × Int × Int × Int × Int × Int × Int × Int × Int × Int × Int × Int × Int × Int × Int × Int × Int × Int × Int × Int × Int × Unit) × List (Int) × List (Int) × Int × Int × Int × Int × Int × Int × Int × Int × Int × Unit) → Option _) (y0 : (Int × Int × Int × Int × Int × Int × Int × Int × Int × Int × Int × Int × Int × Int × Int × Int × Int × Int × Int × Int × Int × Int × Int × Int × Int × Int × Int × Int × Int × Int × Int × Int × Int × Int × Int × Int × Int × Int × Int × Int × Int × Int × Int × Int × Int × Int × Int × Int × Int × Int × Int × Int × Int × Int × Int × Int × Int × Int × Int × Int × Int × Int × Int × Int × Unit) × List (Int) × List (Int) × Int × Int × Int × Int × Int × Int × Int × Int × Int × Unit) =>
(if (decide (y0.2.2.2.2.2.2.2.2.2.2.2.1 < (64 : Int))) = true then
((i_turnRight k (y0.2.2.2.2.2.2.2.1, ((6 : Int), ()))).bind fun p4 =>
((i_turnRight k (y0.2.2.2.2.2.2.2.1, ((11 : Int), ()))).bind fun p5 =>
((i_turnRight k (y0.2.2.2.2.2.2.2.1, ((25 : Int), ()))).bind fun p6 =>
(if 0 ≤ y0.2.2.2.2.2.2.2.2.2.2.2.1 ∧ y0.2.2.2.2.2.2.2.2.2.2.2.1 < (64 : Int) then
(if y0.2.2.2.2.2.2.2.2.2.2.2.1 < (List.length ([y0.1.1, y0.1.2.1, y0.1.2.2.1, y0.1.2.2.2.1, y0.1.2.2.2.2.1, y0.1.2.2.2.2.2.1, y0.1.2.2.2.2.2.2.1, y0.1.2.2.2.2.2.2.2.1, y0.1.2.2.2.2.2.2.2.2.1, y0.1.2.2.2.2.2.2.2.2.2.1, y0.1.2.2.2.2.2.2.2.2.2.2.1, y0.1.2.2.2.2.2.2.2.2.2.2.2.1, y0.1.2.2.2.2.2.2.2.2.2.2.2.2.1, y0.1.2.2.2.2.2.2.2.2.2.2.2.2.2.1, y0.1.2.2.2.2.2.2.2.2.2.2.2.2.2.2.1, y0.1.2.2.2.2.2.2.2.2.2.2.2.2.2.2.2.1, y0.1.2.2.2.2.2.2.2.2.2.2.2.2.2.2.2.2.1, y0.1.2.2.2.2.2.2.2.2.2.2.2.2.2.2.2.2.2.1, y0.1.2.2.2.2.2.2.2.2.2.2.2.2.2.2.2.2.2.2.1, y0.1.2.2.2.2.2.2.2.2.2.2.2.2.2.2.2.2.2.2.2.1, y0.1.2.2.2.2.2.2.2.2.2.2.2.2.2.2.2.2.2.2.2.2.1, y0.1.2.2.2.2.2.2.2.2.2.2.2.2.2.2.2.2.2.2.2.2.2.1, y0.1.2.2.2.2.2.2.2.2.2.2.2.2.2.2.2.2.2.2.2.2.2.2.1, y0.1.2.2.2.2.2.2.2.2.2.2.2.2.2.2.2.2.2.2.2.2.2.2.2.1, y0.1.2.2.2.2.2.2.2.2.2.2.2.2.2.2.2.2.2.2.2.2.2.2.2.2.1, y0.1.2.2.2.2.2.2.2.2.2.2.2.2.2.2.2.2.2.2.2.2.2.2.2.2.2.1, y0.1.2.2.2.2.2.2.2.2.2.2.2.2.2.2.2.2.2.2.2.2.2.2.2.2.2.2.1, y0.1.2.2.2.2.2.2.2.2.2.2.2.2.2.2.2.2.2.2.2.2.2.2.2.2.2.2.2.1, y0.1.2.2.2.2.2.2.2.2.2.2.2.2.2.2.2.2.2.2.2.2.2.2.2.2.2.2.2.2.1, y0.1.2.2.2.2.2.2.2.2.2.2.2.2.2.2.2.2.2.2.2.2.2.2.2.2.2.2.2.2.2.1, y0.1.2.2.2.2.2.2.2.2.2.2.2.2.2.2.2.2.2.2.2.2.2.2.2.2.2.2.2.2.2.2.1, y0.1.2.2.2.2.2.2.2.2.2.2.2.2.2.2.2.2.2.2.2.2.2.2.2.2.2.2.2.2.2.2.2.1, y0.1.2.2.2.2.2.2.2.2.2.2.2.2.2.2.2.2.2.2.2.2.2.2.2.2.2.2.2.2.2.2.2.2.1, y0.1.2.2.2.2.2.2.2.2.2.2.2.2.2.2.2.2.2.2.2.2.2.2.2.2.2.2.2.2.2.2.2.2.2.1, y0.1.2.2.2.2.2.2.2.2.2.2.2.2.2.2.2.2.2.2.2.2.2.2.2.2.2.2.2.2.2.2.2.2.2.2.1, y0.1.2.2.2.2.2.2.2.2.2.2.2.2.2.2.2.2.2.2.2.2.2.2.2.2.2.2.2.2.2.2.2.2.2.2.2.1, y0.1.2.2.2.2.2.2.2.2.2.2.2.2.2.2.2.2.2.2.2.2.2.2.2.2.2.2.2.2.2.2.2.2.2.2.2.2.1, y0.1.2.2.2.2.2.2.2.2.2.2.2.2.2.2.2.2.2.2.2.2.2.2.2.2.2.2.2.2.2.2.2.2.2.2.2.2.2.1, y0.1.2.2.2.2.2.2.2.2.2.2.2.2.2.2.2.2.2.2.2.2.2.2.2.2.2.2.2.2.2.2.2.2.2.2.2.2.2.2.1, y0.1.2.2.2.2.2.2.2.2.2.2.2.2.2.2.2.2.2.2.2.2.2.2.2.2.2.2.2.2.2.2.2.2.2.2.2.2.2.2.2.1, y0.1.2.2.2.2.2.2.2.2.2.2.2.2.2.2.2.2.2.2.2.2.2.2.2.2.2.2.2.2.2.2.2.2.2.2.2.2.2.2.2.2.1, y0.1.2.2.2.2.2.2.2.2.2.2.2.2.2.2.2.2.2.2.2.2.2.2.2.2.2.2.2.2.2.2.2.2.2.2.2.2.2.2.2.2.2.1, y0.1.2.2.2.2.2.2.2.2.2.2.2.2.2.2.2.2.2.2.2.2.2.2.2.2.2.2.2.2.2.2.2.2.2.2.2.2.2.2.2.2.2.2.1, y0.1.2.2.2.2.2.2.2.2.2.2.2.2.2.2.2.2.2.2.2.2.2.2.2.2.2.2.2.2.2.2.2.2.2.2.2.2.2.2.2.2.2.2.2.1, y0.1.2.2.2.2.2.2.2.2.2.2.2.2.2.2.2.2.2.2.2.2.2.2.2.2.2.2.2.2.2.2.2.2.2.2.2.2.2.2.2.2.2.2.2.2.1, y0.1.2.2.2.2.2.2.2.2.2.2.2.2.2.2.2.2.2.2.2.2.2.2.2.2.2.2.2.2.2.2.2.2.2.2.2.2.2.2.2.2.2.2.2.2.2.1, y0.1.2.2.2.2.2.2.2.2.2.2.2.2.2.2.2.2.2.2.2.2.2.2.2.2.2.2.2.2.2.2.2.2.2.2.2.2.2.2.2.2.2.2.2.2.2.2.1, y0.1.2.2.2.2.2.2.2.2.2.2.2.2.2.2.2.2.2.2.2.2.2.2.2.2.2.2.2.2.2.2.2.2.2.2.2.2.2.2.2.2.2.2.2.2.2.2.2.1, y0.1.2.2.2.2.2.2.2.2.2.2.2.2.2.2.2.2.2.2.2.2.2.2.2.2.2.2.2.2.2.2.2.2.2.2.2.2.2.2.2.2.2.2.2.2.2.2.2.2.1, y0.1.2.2.2.2.2.2.2.2.2.2.2.2.2.2.2.2.2.2.2.2.2.2.2.2.2.2.2.2.2.2.2.2.2.2.2.2.2.2.2.2.2.2.2.2.2.2.2.2.2.1, y0.1.2.2.2.2.2.2.2.2.2.2.2.2.2.2.2.2.2.2.2.2.2.2.2.2.2.2.2.2.2.2.2.2.2.2.2.2.2.2.2.2.2.2.2.2.2.2.2.2.2.2.1, y0.1.2.2.2.2.2.2.2.2.2.2.2.2.2.2.2.2.2.2.2.2.2.2.2.2.2.2.2.2.2.2.2.2.2.2.2.2.2.2.2.2.2.2.2.2.2.2.2.2.2.2.2.1, y0.1.2.2.2.2.2.2.2.2.2.2.2.2.2.2.2.2.2.2.2.2.2.2.2.2.2.2.2.2.2.2.2.2.2.2.2.2.2.2.2.2.2.2.2.2.2.2.2.2.2.2.2.2.1, y0.1.2.2.2.2.2.2.2.2.2.2.2.2.2.2.2.2.2.2.2.2.2.2.2.2.2.2.2.2.2.2.2.2.2.2.2.2.2.2.2.2.2.2.2.2.2.2.2.2.2.2.2.2.2.1, y0.1.2.2.2.2.2.2.2.2.2.2.2.2.2.2.2.2.2.2.2.2.2.2.2.2.2.2.2.2.2.2.2.2.2.2.2.2.2.2.2.2.2.2.2.2.2.2.2.2.2.2.2.2.2.2.1, y0.1.2.2.2.2.2.2.2.2.2.2.2.2.2.2.2.2.2.2.2.2.2.2.2.2.2.2.2.2.2.2.2.2.2.2.2.2.2.2.2.2.2.2.2.2.2.2.2.2.2.2.2.2.2.2.2.1, y0.1.2.2.2.2.2.2.2.2.2.2.2.2.2.2.2.2.2.2.2.2.2.2.2.2.2.2.2.2.2.2.2.2.2.2.2.2.2.2.2.2.2.2.2.2.2.2.2.2.2.2.2.2.2.2.2.2.1, y0.1.2.2.2.2.2.2.2.2.2.2.2.2.2.2.2.2.2.2.2.2.2.2.2.2.2.2.2.2.2.2.2.2.2.2.2.2.2.2.2.2.2.2.2.2.2.2.2.2.2.2.2.2.2.2.2.2.2.1, y0.1.2.2.2.2.2.2.2.2.2.2.2.2.2.2.2.2.2.2.2.2.2.2.2.2.2.2.2.2.2.2.2.2.2.2.2.2.2.2.2.2.2.2.2.2.2.2.2.2.2.2.2.2.2.2.2.2.2.2.1, y0.1.2.2.2.2.2.2.2.2.2.2.2.2.2.2.2.2.2.2.2.2.2.2.2.2.2.2.2.2.2.2.2.2.2.2.2.2.2.2.2.2.2.2.2.2.2.2.2.2.2.2.2.2.2.2.2.2.2.2.2.1, y0.1.2.2.2.2.2.2.2.2.2.2.2.2.2.2.2.2.2.2.2.2.2.2.2.2.2.2.2.2.2.2.2.2.2.2.2.2.2.2.2.2.2.2.2.2.2.2.2.2.2.2.2.2.2.2.2.2.2.2.2.2.1, y0.1.2.2.2.2.2.2.2.2.2.2.2.2.2.2.2.2.2.2.2.2.2.2.2.2.2.2.2.2.2.2.2.2.2.2.2.2.2.2.2.2.2.2.2.2.2.2.2.2.2.2.2.2.2.2.2.2.2.2.2.2.2.1, y0.1.2.2.2.2.2.2.2.2.2.2.2.2.2.2.2.2.2.2.2.2.2.2.2.2.2.2.2.2.2.2.2.2.2.2.2.2.2.2.2.2.2.2.2.2.2.2.2.2.2.2.2.2.2.2.2.2.2.2.2.2.2.2.1, y0.1.2.2.2.2.2.2.2.2.2.2.2.2.2.2.2.2.2.2.2.2.2.2.2.2.2.2.2.2.2.2.2.2.2.2.2.2.2.2.2.2.2.2.2.2.2.2.2.2.2.2.2.2.2.2.2.2.2.2.2.2.2.2.2.1] : List Int) : Int) then
(if 0 ≤ y0.2.2.2.2.2.2.2.2.2.2.2.1 ∧ y0.2.2.2.2.2.2.2.2.2.2.2.1 < (List.length y0.2.1 : Int) then
((i_turnRight k (y0.2.2.2.1, ((2 : Int), ()))).bind fun p7 =>
((i_turnRight k (y0.2.2.2.1, ((13 : Int), ()))).bind fun p8 =>
((i_turnRight k (y0.2.2.2.1, ((22 : Int), ()))).bind fun p9 =>
(rec0 (y0.1, (y0.2.1, (y0.2.2.1, ((bitsI .and .i64 (wi64 ((wi64 ((wi64 ((wi64 ((wi64 (y0.2.2.2.2.2.2.2.2.2.2.1 + (bitsI .xor .i64 (bitsI .xor .i64 p4.1 p5.1) p6.1))) + (bitsI .xor .i64 (bitsI .and .i64 y0.2.2.2.2.2.2.2.1 y0.2.2.2.2.2.2.2.2.1) (bitsI .and .i64 (bitsI .xor .i64 (4294967295 : Int) y0.2.2.2.2.2.2.2.1) y0.2.2.2.2.2.2.2.2.2.1)))) + (Ty.rd (t := .int .i64) ([y0.1.1, y0.1.2.1, y0.1.2.2.1, y0.1.2.2.2.1, y0.1.2.2.2.2.1, y0.1.2.2.2.2.2.1, y0.1.2.2.2.2.2.2.1, y0.1.2.2.2.2.2.2.2.1, y0.1.2.2.2.2.2.2.2.2.1, y0.1.2.2.2.2.2.2.2.2.2.1, y0.1.2.2.2.2.2.2.2.2.2.2.1, y0.1.2.2.2.2.2.2.2.2.2.2.2.1, y0.1.2.2.2.2.2.2.2.2.2.2.2.2.1, y0.1.2.2.2.2.2.2.2.2.2.2.2.2.2.1, y0.1.2.2.2.2.2.2.2.2.2.2.2.2.2.2.1, y0.1.2.2.2.2.2.2.2.2.2.2.2.2.2.2.2.1, y0.1.2.2.2.2.2.2.2.2.2.2.2.2.2.2.2.2.1, y0.1.2.2.2.2.2.2.2.2.2.2.2.2.2.2.2.2.2.1, y0.1.2.2.2.2.2.2.2.2.2.2.2.2.2.2.2.2.2.2.1, y0.1.2.2.2.2.2.2.2.2.2.2.2.2.2.2.2.2.2.2.2.1, y0.1.2.2.2.2.2.2.2.2.2.2.2.2.2.2.2.2.2.2.2.2.1, y0.1.2.2.2.2.2.2.2.2.2.2.2.2.2.2.2.2.2.2.2.2.2.1, y0.1.2.2.2.2.2.2.2.2.2.2.2.2.2.2.2.2.2.2.2.2.2.2.1, y0.1.2.2.2.2.2.2.2.2.2.2.2.2.2.2.2.2.2.2.2.2.2.2.2.1, y0.1.2.2.2.2.2.2.2.2.2.2.2.2.2.2.2.2.2.2.2.2.2.2.2.2.1, y0.1.2.2.2.2.2.2.2.2.2.2.2.2.2.2.2.2.2.2.2.2.2.2.2.2.2.1, y0.1.2.2.2.2.2.2.2.2.2.2.2.2.2.2.2.2.2.2.2.2.2.2.2.2.2.2.1, y0.1.2.2.2.2.2.2.2.2.2.2.2.2.2.2.2.2.2.2.2.2.2.2.2.2.2.2.2.1, y0.1.2.2.2.2.2.2.2.2.2.2.2.2.2.2.2.2.2.2.2.2.2.2.2.2.2.2.2.2.1, y0.1.2.2.2.2.2.2.2.2.2.2.2.2.2.2.2.2.2.2.2.2.2.2.2.2.2.2.2.2.2.1, y0.1.2.2.2.2.2.2.2.2.2.2.2.2.2.2.2.2.2.2.2.2.2.2.2.2.2.2.2.2.2.2.1, y0.1.2.2.2.2.2.2.2.2.2.2.2.2.2.2.2.2.2.2.2.2.2.2.2.2.2.2.2.2.2.2.2.1, y0.1.2.2.2.2.2.2.2.2.2.2.2.2.2.2.2.2.2.2.2.2.2.2.2.2.2.2.2.2.2.2.2.2.1, y0.1.2.2.2.2.2.2.2.2.2.2.2.2.2.2.2.2.2.2.2.2.2.2.2.2.2.2.2.2.2.2.2.2.2.1, y0.1.2.2.2.2.2.2.2.2.2.2.2.2.2.2.2.2.2.2.2.2.2.2.2.2.2.2.2.2.2.2.2.2.2.2.1, y0.1.2.2.2.2.2.2.2.2.2.2.2.2.2.2.2.2.2.2.2.2.2.2.2.2.2.2.2.2.2.2.2.2.2.2.2.1, y0.1.2.2.2.2.2.2.2.2.2.2.2.2.2.2.2.2.2.2.2.2.2.2.2.2.2.2.2.2.2.2.2.2.2.2.2.2.1, y0.1.2.2.2.2.2.2.2.2.2.2.2.2.2.2.2.2.2.2.2.2.2.2.2.2.2.2.2.2.2.2.2.2.2.2.2.2.2.1, y0.1.2.2.2.2.2.2.2.2.2.2.2.2.2.2.2.2.2.2.2.2.2.2.2.2.2.2.2.2.2.2.2.2.2.2.2.2.2.2.1, y0.1.2.2.2.2.2.2.2.2.2.2.2.2.2.2.2.2.2.2.2.2.2.2.2.2.2.2.2.2.2.2.2.2.2.2.2.2.2.2.2.1, y0.1.2.2.2.2.2.2.2.2.2.2.2.2.2.2.2.2.2.2.2.2.2.2.2.2.2.2.2.2.2.2.2.2.2.2.2.2.2.2.2.2.1, y0.1.2.2.2.2.2.2.2.2.2.2.2.2.2.2.2.2.2.2.2.2.2.2.2.2.2.2.2.2.2.2.2.2.2.2.2.2.2.2.2.2.2.1, y0.1.2.2.2.2.2.2.2.2.2.2.2.2.2.2.2.2.2.2.2.2.2.2.2.2.2.2.2.2.2.2.2.2.2.2.2.2.2.2.2.2.2.2.1, y0.1.2.2.2.2.2.2.2.2.2.2.2.2.2.2.2.2.2.2.2.2.2.2.2.2.2.2.2.2.2.2.2.2.2.2.2.2.2.2.2.2.2.2.2.1, y0.1.2.2.2.2.2.2.2.2.2.2.2.2.2.2.2.2.2.2.2.2.2.2.2.2.2.2.2.2.2.2.2.2.2.2.2.2.2.2.2.2.2.2.2.2.1, y0.1.2.2.2.2.2.2.2.2.2.2.2.2.2.2.2.2.2.2.2.2.2.2.2.2.2.2.2.2.2.2.2.2.2.2.2.2.2.2.2.2.2.2.2.2.2.1, y0.1.2.2.2.2.2.2.2.2.2.2.2.2.2.2.2.2.2.2.2.2.2.2.2.2.2.2.2.2.2.2.2.2.2.2.2.2.2.2.2.2.2.2.2.2.2.2.1, y0.1.2.2.2.2.2.2.2.2.2.2.2.2.2.2.2.2.2.2.2.2.2.2.2.2.2.2.2.2.2.2.2.2.2.2.2.2.2.2.2.2.2.2.2.2.2.2.2.1, y0.1.2.2.2.2.2.2.2.2.2.2.2.2.2.2.2.2.2.2.2.2.2.2.2.2.2.2.2.2.2.2.2.2.2.2.2.2.2.2.2.2.2.2.2.2.2.2.2.2.1, y0.1.2.2.2.2.2.2.2.2.2.2.2.2.2.2.2.2.2.2.2.2.2.2.2.2.2.2.2.2.2.2.2.2.2.2.2.2.2.2.2.2.2.2.2.2.2.2.2.2.2.1, y0.1.2.2.2.2.2.2.2.2.2.2.2.2.2.2.2.2.2.2.2.2.2.2.2.2.2.2.2.2.2.2.2.2.2.2.2.2.2.2.2.2.2.2.2.2.2.2.2.2.2.2.1, y0.1.2.2.2.2.2.2.2.2.2.2.2.2.2.2.2.2.2.2.2.2.2.2.2.2.2.2.2.2.2.2.2.2.2.2.2.2.2.2.2.2.2.2.2.2.2.2.2.2.2.2.2.1, y0.1.2.2.2.2.2.2.2.2.2.2.2.2.2.2.2.2.2.2.2.2.2.2.2.2.2.2.2.2.2.2.2.2.2.2.2.2.2.2.2.2.2.2.2.2.2.2.2.2.2.2.2.2.1, y0.1.2.2.2.2.2.2.2.2.2.2.2.2.2.2.2.2.2.2.2.2.2.2.2.2.2.2.2.2.2.2.2.2.2.2.2.2.2.2.2.2.2.2.2.2.2.2.2.2.2.2.2.2.2.1, y0.1.2.2.2.2.2.2.2.2.2.2.2.2.2.2.2.2.2.2.2.2.2.2.2.2.2.2.2.2.2.2.2.2.2.2.2.2.2.2.2.2.2.2.2.2.2.2.2.2.2.2.2.2.2.2.1, y0.1.2.2.2.2.2.2.2.2.2.2.2.2.2.2.2.2.2.2.2.2.2.2.2.2.2.2.2.2.2.2.2.2.2.2.2.2.2.2.2.2.2.2.2.2.2.2.2.2.2.2.2.2.2.2.2.1, y0.1.2.2.2.2.2.2.2.2.2.2.2.2.2.2.2.2.2.2.2.2.2.2.2.2.2.2.2.2.2.2.2.2.2.2.2.2.2.2.2.2.2.2.2.2.2.2.2.2.2.2.2.2.2.2.2.2.1, y0.1.2.2.2.2.2.2.2.2.2.2.2.2.2.2.2.2.2.2.2.2.2.2.2.2.2.2.2.2.2.2.2.2.2.2.2.2.2.2.2.2.2.2.2.2.2.2.2.2.2.2.2.2.2.2.2.2.2.1, y0.1.2.2.2.2.2.2.2.2.2.2.2.2.2.2.2.2.2.2.2.2.2.2.2.2.2.2.2.2.2.2.2.2.2.2.2.2.2.2.2.2.2.2.2.2.2.2.2.2.2.2.2.2.2.2.2.2.2.2.1, y0.1.2.2.2.2.2.2.2.2.2.2.2.2.2.2.2.2.2.2.2.2.2.2.2.2.2.2.2.2.2.2.2.2.2.2.2.2.2.2.2.2.2.2.2.2.2.2.2.2.2.2.2.2.2.2.2.2.2.2.2.1, y0.1.2.2.2.2.2.2.2.2.2.2.2.2.2.2.2.2.2.2.2.2.2.2.2.2.2.2.2.2.2.2.2.2.2.2.2.2.2.2.2.2.2.2.2.2.2.2.2.2.2.2.2.2.2.2.2.2.2.2.2.2.1, y0.1.2.2.2.2.2.2.2.2.2.2.2.2.2.2.2.2.2.2.2.2.2.2.2.2.2.2.2.2.2.2.2.2.2.2.2.2.2.2.2.2.2.2.2.2.2.2.2.2.2.2.2.2.2.2.2.2.2.2.2.2.2.1, y0.1.2.2.2.2.2.2.2.2.2.2.2.2.2.2.2.2.2.2.2.2.2.2.2.2.2.2.2.2.2.2.2.2.2.2.2.2.2.2.2.2.2.2.2.2.2.2.2.2.2.2.2.2.2.2.2.2.2.2.2.2.2.2.1, y0.1.2.2.2.2.2.2.2.2.2.2.2.2.2.2.2.2.2.2.2.2.2.2.2.2.2.2.2.2.2.2.2.2.2.2.2.2.2.2.2.2.2.2.2.2.2.2.2.2.2.2.2.2.2.2.2.2.2.2.2.2.2.2.2.1] : List Int) y0.2.2.2.2.2.2.2.2.2.2.2.1))) + (Ty.rd (t := (.int .i64)) y0.2.1 y0.2.2.2.2.2.2.2.2.2.2.2.1))) + (wi64 ((bitsI .xor .i64 (bitsI .xor .i64 p7.1 p8.1) p9.1) + (bitsI .xor .i64 (bitsI .xor .i64 (bitsI .and .i64 y0.2.2.2.1 y0.2.2.2.2.1) (bitsI .and .i64 y0.2.2.2.1 y0.2.2.2.2.2.1)) (bitsI .and .i64 y0.2.2.2.2.1 y0.2.2.2.2.2.1)))))) (4294967295 : Int)), (y0.2.2.2.1, (y0.2.2.2.2.1, (y0.2.2.2.2.2.1, ((bitsI .and .i64 (wi64 (y0.2.2.2.2.2.2.1 + (wi64 ((wi64 ((wi64 ((wi64 (y0.2.2.2.2.2.2.2.2.2.2.1 + (bitsI .xor .i64 (bitsI .xor .i64 p4.1 p5.1) p6.1))) + (bitsI .xor .i64 (bitsI .and .i64 y0.2.2.2.2.2.2.2.1 y0.2.2.2.2.2.2.2.2.1) (bitsI .and .i64 (bitsI .xor .i64 (4294967295 : Int) y0.2.2.2.2.2.2.2.1) y0.2.2.2.2.2.2.2.2.2.1)))) + (Ty.rd (t := .int .i64) ([y0.1.1, y0.1.2.1, y0.1.2.2.1, y0.1.2.2.2.1, y0.1.2.2.2.2.1, y0.1.2.2.2.2.2.1, y0.1.2.2.2.2.2.2.1, y0.1.2.2.2.2.2.2.2.1, y0.1.2.2.2.2.2.2.2.2.1, y0.1.2.2.2.2.2.2.2.2.2.1, y0.1.2.2.2.2.2.2.2.2.2.2.1, y0.1.2.2.2.2.2.2.2.2.2.2.2.1, y0.1.2.2.2.2.2.2.2.2.2.2.2.2.1, y0.1.2.2.2.2.2.2.2.2.2.2.2.2.2.1, y0.1.2.2.2.2.2.2.2.2.2.2.2.2.2.2.1, y0.1.2.2.2.2.2.2.2.2.2.2.2.2.2.2.2.1, y0.1.2.2.2.2.2.2.2.2.2.2.2.2.2.2.2.2.1, y0.1.2.2.2.2.2.2.2.2.2.2.2.2.2.2.2.2.2.1, y0.1.2.2.2.2.2.2.2.2.2.2.2.2.2.2.2.2.2.2.1, y0.1.2.2.2.2.2.2.2.2.2.2.2.2.2.2.2.2.2.2.2.1, y0.1.2.2.2.2.2.2.2.2.2.2.2.2.2.2.2.2.2.2.2.2.1, y0.1.2.2.2.2.2.2.2.2.2.2.2.2.2.2.2.2.2.2.2.2.2.1, y0.1.2.2.2.2.2.2.2.2.2.2.2.2.2.2.2.2.2.2.2.2.2.2.1, y0.1.2.2.2.2.2.2.2.2.2.2.2.2.2.2.2.2.2.2.2.2.2.2.2.1, y0.1.2.2.2.2.2.2.2.2.2.2.2.2.2.2.2.2.2.2.2.2.2.2.2.2.1, y0.1.2.2.2.2.2.2.2.2.2.2.2.2.2.2.2.2.2.2.2.2.2.2.2.2.2.1, y0.1.2.2.2.2.2.2.2.2.2.2.2.2.2.2.2.2.2.2.2.2.2.2.2.2.2.2.1, y0.1.2.2.2.2.2.2.2.2.2.2.2.2.2.2.2.2.2.2.2.2.2.2.2.2.2.2.2.1, y0.1.2.2.2.2.2.2.2.2.2.2.2.2.2.2.2.2.2.2.2.2.2.2.2.2.2.2.2.2.1, y0.1.2.2.2.2.2.2.2.2.2.2.2.2.2.2.2.2.2.2.2.2.2.2.2.2.2.2.2.2.2.1, y0.1.2.2.2.2.2.2.2.2.2.2.2.2.2.2.2.2.2.2.2.2.2.2.2.2.2.2.2.2.2.2.1, y0.1.2.2.2.2.2.2.2.2.2.2.2.2.2.2.2.2.2.2.2.2.2.2.2.2.2.2.2.2.2.2.2.1, y0.1.2.2.2.2.2.2.2.2.2.2.2.2.2.2.2.2.2.2.2.2.2.2.2.2.2.2.2.2.2.2.2.2.1, y0.1.2.2.2.2.2.2.2.2.2.2.2.2.2.2.2.2.2.2.2.2.2.2.2.2.2.2.2.2.2.2.2.2.2.1, y0.1.2.2.2.2.2.2.2.2.2.2.2.2.2.2.2.2.2.2.2.2.2.2.2.2.2.2.2.2.2.2.2.2.2.2.1, y0.1.2.2.2.2.2.2.2.2.2.2.2.2.2.2.2.2.2.2.2.2.2.2.2.2.2.2.2.2.2.2.2.2.2.2.2.1, y0.1.2.2.2.2.2.2.2.2.2.2.2.2.2.2.2.2.2.2.2.2.2.2.2.2.2.2.2.2.2.2.2.2.2.2.2.2.1, y0.1.2.2.2.2.2.2.2.2.2.2.2.2.2.2.2.2.2.2.2.2.2.2.2.2.2.2.2.2.2.2.2.2.2.2.2.2.2.1, y0.1.2.2.2.2.2.2.2.2.2.2.2.2.2.2.2.2.2.2.2.2.2.2.2.2.2.2.2.2.2.2.2.2.2.2.2.2.2.2.1, y0.1.2.2.2.2.2.2.2.2.2.2.2.2.2.2.2.2.2.2.2.2.2.2.2.2.2.2.2.2.2.2.2.2.2.2.2.2.2.2.2.1, y0.1.2.2.2.2.2.2.2.2.2.2.2.2.2.2.2.2.2.2.2.2.2.2.2.2.2.2.2.2.2.2.2.2.2.2.2.2.2.2.2.2.1, y0.1.2.2.2.2.2.2.2.2.2.2.2.2.2.2.2.2.2.2.2.2.2.2.2.2.2.2.2.2.2.2.2.2.2.2.2.2.2.2.2.2.2.1, y0.1.2.2.2.2.2.2.2.2.2.2.2.2.2.2.2.2.2.2.2.2.2.2.2.2.2.2.2.2.2.2.2.2.2.2.2.2.2.2.2.2.2.2.1, y0.1.2.2.2.2.2.2.2.2.2.2.2.2.2.2.2.2.2.2.2.2.2.2.2.2.2.2.2.2.2.2.2.2.2.2.2.2.2.2.2.2.2.2.2.1, y0.1.2.2.2.2.2.2.2.2.2.2.2.2.2.2.2.2.2.2.2.2.2.2.2.2.2.2.2.2.2.2.2.2.2.2.2.2.2.2.2.2.2.2.2.2.1, y0.1.2.2.2.2.2.2.2.2.2.2.2.2.2.2.2.2.2.2.2.2.2.2.2.2.2.2.2.2.2.2.2.2.2.2.2.2.2.2.2.2.2.2.2.2.2.1, y0.1.2.2.2.2.2.2.2.2.2.2.2.2.2.2.2.2.2.2.2.2.2.2.2.2.2.2.2.2.2.2.2.2.2.2.2.2.2.2.2.2.2.2.2.2.2.2.1, y0.1.2.2.2.2.2.2.2.2.2.2.2.2.2.2.2.2.2.2.2.2.2.2.2.2.2.2.2.2.2.2.2.2.2.2.2.2.2.2.2.2.2.2.2.2.2.2.2.1, y0.1.2.2.2.2.2.2.2.2.2.2.2.2.2.2.2.2.2.2.2.2.2.2.2.2.2.2.2.2.2.2.2.2.2.2.2.2.2.2.2.2.2.2.2.2.2.2.2.2.1, y0.1.2.2.2.2.2.2.2.2.2.2.2.2.2.2.2.2.2.2.2.2.2.2.2.2.2.2.2.2.2.2.2.2.2.2.2.2.2.2.2.2.2.2.2.2.2.2.2.2.2.1, y0.1.2.2.2.2.2.2.2.2.2.2.2.2.2.2.2.2.2.2.2.2.2.2.2.2.2.2.2.2.2.2.2.2.2.2.2.2.2.2.2.2.2.2.2.2.2.2.2.2.2.2.1, y0.1.2.2.2.2.2.2.2.2.2.2.2.2.2.2.2.2.2.2.2.2.2.2.2.2.2.2.2.2.2.2.2.2.2.2.2.2.2.2.2.2.2.2.2.2.2.2.2.2.2.2.2.1, y0.1.2.2.2.2.2.2.2.2.2.2.2.2.2.2.2.2.2.2.2.2.2.2.2.2.2.2.2.2.2.2.2.2.2.2.2.2.2.2.2.2.2.2.2.2.2.2.2.2.2.2.2.2.1, y0.1.2.2.2.2.2.2.2.2.2.2.2.2.2.2.2.2.2.2.2.2.2.2.2.2.2.2.2.2.2.2.2.2.2.2.2.2.2.2.2.2.2.2.2.2.2.2.2.2.2.2.2.2.2.1, y0.1.2.2.2.2.2.2.2.2.2.2.2.2.2.2.2.2.2.2.2.2.2.2.2.2.2.2.2.2.2.2.2.2.2.2.2.2.2.2.2.2.2.2.2.2.2.2.2.2.2.2.2.2.2.2.1, y0.1.2.2.2.2.2.2.2.2.2.2.2.2.2.2.2.2.2.2.2.2.2.2.2.2.2.2.2.2.2.2.2.2.2.2.2.2.2.2.2.2.2.2.2.2.2.2.2.2.2.2.2.2.2.2.2.1, y0.1.2.2.2.2.2.2.2.2.2.2.2.2.2.2.2.2.2.2.2.2.2.2.2.2.2.2.2.2.2.2.2.2.2.2.2.2.2.2.2.2.2.2.2.2.2.2.2.2.2.2.2.2.2.2.2.2.1, y0.1.2.2.2.2.2.2.2.2.2.2.2.2.2.2.2.2.2.2.2.2.2.2.2.2.2.2.2.2.2.2.2.2.2.2.2.2.2.2.2.2.2.2.2.2.2.2.2.2.2.2.2.2.2.2.2.2.2.1, y0.1.2.2.2.2.2.2.2.2.2.2.2.2.2.2.2.2.2.2.2.2.2.2.2.2.2.2.2.2.2.2.2.2.2.2.2.2.2.2.2.2.2.2.2.2.2.2.2.2.2.2.2.2.2.2.2.2.2.2.1, y0.1.2.2.2.2.2.2.2.2.2.2.2.2.2.2.2.2.2.2.2.2.2.2.2.2.2.2.2.2.2.2.2.2.2.2.2.2.2.2.2.2.2.2.2.2.2.2.2.2.2.2.2.2.2.2.2.2.2.2.2.1, y0.1.2.2.2.2.2.2.2.2.2.2.2.2.2.2.2.2.2.2.2.2.2.2.2.2.2.2.2.2.2.2.2.2.2.2.2.2.2.2.2.2.2.2.2.2.2.2.2.2.2.2.2.2.2.2.2.2.2.2.2.2.1, y0.1.2.2.2.2.2.2.2.2.2.2.2.2.2.2.2.2.2.2.2.2.2.2.2.2.2.2.2.2.2.2.2.2.2.2.2.2.2.2.2.2.2.2.2.2.2.2.2.2.2.2.2.2.2.2.2.2.2.2.2.2.2.1, y0.1.2.2.2.2.2.2.2.2.2.2.2.2.2.2.2.2.2.2.2.2.2.2.2.2.2.2.2.2.2.2.2.2.2.2.2.2.2.2.2.2.2.2.2.2.2.2.2.2.2.2.2.2.2.2.2.2.2.2.2.2.2.2.1, y0.1.2.2.2.2.2.2.2.2.2.2.2.2.2.2.2.2.2.2.2.2.2.2.2.2.2.2.2.2.2.2.2.2.2.2.2.2.2.2.2.2.2.2.2.2.2.2.2.2.2.2.2.2.2.2.2.2.2.2.2.2.2.2.2.1] : List Int) y0.2.2.2.2.2.2.2.2.2.2.2.1))) + (Ty.rd (t := (.int .i64)) y0.2.1 y0.2.2.2.2.2.2.2.2.2.2.2.1))))) (4294967295 : Int)), (y0.2.2.2.2.2.2.2.1, (y0.2.2.2.2.2.2.2.2.1, (y0.2.2.2.2.2.2.2.2.2.1, ((wi64 (y0.2.2.2.2.2.2.2.2.2.2.2.1 + (1 : Int))), ()))))))))))))))))
else none)
else none)
else none))))
else
((fun (z1 : List (Int) × Int × Int × Int × Int × Int × Int × Int × Int × Unit) =>
(whileK (fun (rec2 : (List (Int) × List (Int) × Int × Int × Unit) → Option _) (y2 : List (Int) × List (Int) × Int × Int × Unit) =>
(if (decide (y2.2.2.2.1 < y2.2.2.1)) = true then
(if 0 ≤ y2.2.2.2.1 ∧ y2.2.2.2.1 < (List.length y2.2.1 : Int) then
(if 0 ≤ y2.2.2.2.1 ∧ y2.2.2.2.1 < (List.length y2.1 : Int) then
(if 0 ≤ y2.2.2.2.1 ∧ y2.2.2.2.1 < (List.length y2.1 : Int) then
(rec2 ((List.set y2.1 (Int.toNat y2.2.2.2.1) (bitsI .and .i64 (wi64 ((Ty.rd (t := (.int .i64)) y2.1 y2.2.2.2.1) + (Ty.rd (t := (.int .i64)) y2.2.1 y2.2.2.2.1))) (4294967295 : Int))), (y2.2.1, (y2.2.2.1, ((wi64 (y2.2.2.2.1 + (1 : Int))), ())))))
else none)
else none)
else none)
else
((fun (z2 : List (Int) × Unit) =>
((i_wordsText k (z2.1, ())).bind fun p10 =>
some (p10.1, ((), ((), ()))))) (y2.1, ())))) k (z1.1, (([z1.2.1, z1.2.2.1, z1.2.2.2.1, z1.2.2.2.2.1, z1.2.2.2.2.2.1, z1.2.2.2.2.2.2.1, z1.2.2.2.2.2.2.2.1, z1.2.2.2.2.2.2.2.2.1] : List (Int)), ((List.length ([z1.2.1, z1.2.2.1, z1.2.2.2.1, z1.2.2.2.2.1, z1.2.2.2.2.2.1, z1.2.2.2.2.2.2.1, z1.2.2.2.2.2.2.2.1, z1.2.2.2.2.2.2.2.2.1] : List (Int)) : Int), ((0 : Int), ())))))) (y0.2.2.1, (y0.2.2.2.1, (y0.2.2.2.2.1, (y0.2.2.2.2.2.1, (y0.2.2.2.2.2.2.1, (y0.2.2.2.2.2.2.2.1, (y0.2.2.2.2.2.2.2.2.1, (y0.2.2.2.2.2.2.2.2.2.1, (y0.2.2.2.2.2.2.2.2.2.2.1, ())))))))))))) k (p1.1, (p2.1, (p3.1, ((Ty.rd (t := (.int .i64)) p3.1 (0 : Int)), ((Ty.rd (t := (.int .i64)) p3.1 (1 : Int)), ((Ty.rd (t := (.int .i64)) p3.1 (2 : Int)), ((Ty.rd (t := (.int .i64)) p3.1 (3 : Int)), ((Ty.rd (t := (.int .i64)) p3.1 (4 : Int)), ((Ty.rd (t := (.int .i64)) p3.1 (5 : Int)), ((Ty.rd (t := (.int .i64)) p3.1 (6 : Int)), ((Ty.rd (t := (.int .i64)) p3.1 (7 : Int)), ((0 : Int), ())))))))))))))
else none)
else none)
else none)
else none)
else none)
else none)
else none)
else none))))
theorem t_i_round (k : Nat) (x) : evF TTab k [⟨223, 0, (.cons (.il true (.int .i64)) .nil), .str, i_wordsText k⟩, ⟨277, 0, .nil, (.agg (.cons (.int .i64) (.cons (.int .i64) (.cons (.int .i64) (.cons (.int .i64) (.cons (.int .i64) (.cons (.int .i64) (.cons (.int .i64) (.cons (.int .i64) (.cons (.int .i64) (.cons (.int .i64) (.cons (.int .i64) (.cons (.int .i64) (.cons (.int .i64) (.cons (.int .i64) (.cons (.int .i64) (.cons (.int .i64) (.cons (.int .i64) (.cons (.int .i64) (.cons (.int .i64) (.cons (.int .i64) (.cons (.int .i64) (.cons (.int .i64) (.cons (.int .i64) (.cons (.int .i64) (.cons (.int .i64) (.cons (.int .i64) (.cons (.int .i64) (.cons (.int .i64) (.cons (.int .i64) (.cons (.int .i64) (.cons (.int .i64) (.cons (.int .i64) (.cons (.int .i64) (.cons (.int .i64) (.cons (.int .i64) (.cons (.int .i64) (.cons (.int .i64) (.cons (.int .i64) (.cons (.int .i64) (.cons (.int .i64) (.cons (.int .i64) (.cons (.int .i64) (.cons (.int .i64) (.cons (.int .i64) (.cons (.int .i64) (.cons (.int .i64) (.cons (.int .i64) (.cons (.int .i64) (.cons (.int .i64) (.cons (.int .i64) (.cons (.int .i64) (.cons (.int .i64) (.cons (.int .i64) (.cons (.int .i64) (.cons (.int .i64) (.cons (.int .i64) (.cons (.int .i64) (.cons (.int .i64) (.cons (.int .i64) (.cons (.int .i64) (.cons (.int .i64) (.cons (.int .i64) (.cons (.int .i64) (.cons (.int .i64) .nil))))))))))))))))))))))))))))))))))))))))))))))))))))))))))))))))), i_constants k⟩, ⟨278, 0, (.cons .str .nil), (.own false 3 (.int .i64)), i_expanded k⟩, ⟨279, 0, (.cons .str .nil), (.own false 3 (.int .i64)), i_wordsOf k⟩, ⟨280, 0, (.cons (.int .i64) (.cons (.int .i64) .nil)), (.int .i64), i_turnRight k⟩] [(0, ⟨[5, 6, 7, 8, 9, 10, 11, 12, 13, 14, 15, 52], (.cons (.ptr 0 (.cons (.int .i64) (.cons (.int .i64) (.cons (.int .i64) (.cons (.int .i64) (.cons (.int .i64) (.cons (.int .i64) (.cons (.int .i64) (.cons (.int .i64) (.cons (.int .i64) (.cons (.int .i64) (.cons (.int .i64) (.cons (.int .i64) (.cons (.int .i64) (.cons (.int .i64) (.cons (.int .i64) (.cons (.int .i64) (.cons (.int .i64) (.cons (.int .i64) (.cons (.int .i64) (.cons (.int .i64) (.cons (.int .i64) (.cons (.int .i64) (.cons (.int .i64) (.cons (.int .i64) (.cons (.int .i64) (.cons (.int .i64) (.cons (.int .i64) (.cons (.int .i64) (.cons (.int .i64) (.cons (.int .i64) (.cons (.int .i64) (.cons (.int .i64) (.cons (.int .i64) (.cons (.int .i64) (.cons (.int .i64) (.cons (.int .i64) (.cons (.int .i64) (.cons (.int .i64) (.cons (.int .i64) (.cons (.int .i64) (.cons (.int .i64) (.cons (.int .i64) (.cons (.int .i64) (.cons (.int .i64) (.cons (.int .i64) (.cons (.int .i64) (.cons (.int .i64) (.cons (.int .i64) (.cons (.int .i64) (.cons (.int .i64) (.cons (.int .i64) (.cons (.int .i64) (.cons (.int .i64) (.cons (.int .i64) (.cons (.int .i64) (.cons (.int .i64) (.cons (.int .i64) (.cons (.int .i64) (.cons (.int .i64) (.cons (.int .i64) (.cons (.int .i64) (.cons (.int .i64) (.cons (.int .i64) (.cons (.int .i64) .nil))))))))))))))))))))))))))))))))))))))))))))))))))))))))))))))))) (.cons (.own false 3 (.int .i64)) (.cons (.own false 3 (.int .i64)) (.cons (.int .i64) (.cons (.int .i64) (.cons (.int .i64) (.cons (.int .i64) (.cons (.int .i64) (.cons (.int .i64) (.cons (.int .i64) (.cons (.int .i64) (.cons (.int .i64) .nil))))))))))))⟩, ⟨[7, 8, 9, 10, 11, 12, 13, 14, 15], (.cons (.own false 3 (.int .i64)) (.cons (.int .i64) (.cons (.int .i64) (.cons (.int .i64) (.cons (.int .i64) (.cons (.int .i64) (.cons (.int .i64) (.cons (.int .i64) (.cons (.int .i64) .nil)))))))))⟩), (2, ⟨[7, 128, 129, 130], (.cons (.own false 3 (.int .i64)) (.cons (.own false 3 (.int .i64)) (.cons (.int .i64) (.cons (.int .i64) .nil))))⟩, ⟨[7], (.cons (.own false 3 (.int .i64)) .nil)⟩)] Tryz.f222 (.cons .str (.cons .str .nil)) .str x = i_round k x := by kernel_rfl
theorem e_i_round (k : Nat) : EntryOk Tryz.prog ⟨222, 0, (.cons .str (.cons .str .nil)), .str, i_round k⟩ := entry_ok tok (by intro e he; simp only [List.mem_cons, List.not_mem_nil, or_false] at he; rcases he with rfl | rfl | rfl | rfl | rfl <;> first | exact e_i_wordsText k | exact e_i_constants k | exact e_i_expanded k | exact e_i_wordsOf k | exact e_i_turnRight k) (by kernel_rfl) (fn := Tryz.f222) (k := k) (es := [⟨223, 0, (.cons (.il true (.int .i64)) .nil), .str, i_wordsText k⟩, ⟨277, 0, .nil, (.agg (.cons (.int .i64) (.cons (.int .i64) (.cons (.int .i64) (.cons (.int .i64) (.cons (.int .i64) (.cons (.int .i64) (.cons (.int .i64) (.cons (.int .i64) (.cons (.int .i64) (.cons (.int .i64) (.cons (.int .i64) (.cons (.int .i64) (.cons (.int .i64) (.cons (.int .i64) (.cons (.int .i64) (.cons (.int .i64) (.cons (.int .i64) (.cons (.int .i64) (.cons (.int .i64) (.cons (.int .i64) (.cons (.int .i64) (.cons (.int .i64) (.cons (.int .i64) (.cons (.int .i64) (.cons (.int .i64) (.cons (.int .i64) (.cons (.int .i64) (.cons (.int .i64) (.cons (.int .i64) (.cons (.int .i64) (.cons (.int .i64) (.cons (.int .i64) (.cons (.int .i64) (.cons (.int .i64) (.cons (.int .i64) (.cons (.int .i64) (.cons (.int .i64) (.cons (.int .i64) (.cons (.int .i64) (.cons (.int .i64) (.cons (.int .i64) (.cons (.int .i64) (.cons (.int .i64) (.cons (.int .i64) (.cons (.int .i64) (.cons (.int .i64) (.cons (.int .i64) (.cons (.int .i64) (.cons (.int .i64) (.cons (.int .i64) (.cons (.int .i64) (.cons (.int .i64) (.cons (.int .i64) (.cons (.int .i64) (.cons (.int .i64) (.cons (.int .i64) (.cons (.int .i64) (.cons (.int .i64) (.cons (.int .i64) (.cons (.int .i64) (.cons (.int .i64) (.cons (.int .i64) (.cons (.int .i64) (.cons (.int .i64) .nil))))))))))))))))))))))))))))))))))))))))))))))))))))))))))))))))), i_constants k⟩, ⟨278, 0, (.cons .str .nil), (.own false 3 (.int .i64)), i_expanded k⟩, ⟨279, 0, (.cons .str .nil), (.own false 3 (.int .i64)), i_wordsOf k⟩, ⟨280, 0, (.cons (.int .i64) (.cons (.int .i64) .nil)), (.int .i64), i_turnRight k⟩]) (loops := [(0, ⟨[5, 6, 7, 8, 9, 10, 11, 12, 13, 14, 15, 52], (.cons (.ptr 0 (.cons (.int .i64) (.cons (.int .i64) (.cons (.int .i64) (.cons (.int .i64) (.cons (.int .i64) (.cons (.int .i64) (.cons (.int .i64) (.cons (.int .i64) (.cons (.int .i64) (.cons (.int .i64) (.cons (.int .i64) (.cons (.int .i64) (.cons (.int .i64) (.cons (.int .i64) (.cons (.int .i64) (.cons (.int .i64) (.cons (.int .i64) (.cons (.int .i64) (.cons (.int .i64) (.cons (.int .i64) (.cons (.int .i64) (.cons (.int .i64) (.cons (.int .i64) (.cons (.int .i64) (.cons (.int .i64) (.cons (.int .i64) (.cons (.int .i64) (.cons (.int .i64) (.cons (.int .i64) (.cons (.int .i64) (.cons (.int .i64) (.cons (.int .i64) (.cons (.int .i64) (.cons (.int .i64) (.cons (.int .i64) (.cons (.int .i64) (.cons (.int .i64) (.cons (.int .i64) (.cons (.int .i64) (.cons (.int .i64) (.cons (.int .i64) (.cons (.int .i64) (.cons (.int .i64) (.cons (.int .i64) (.cons (.int .i64) (.cons (.int .i64) (.cons (.int .i64) (.cons (.int .i64) (.cons (.int .i64) (.cons (.int .i64) (.cons (.int .i64) (.cons (.int .i64) (.cons (.int .i64) (.cons (.int .i64) (.cons (.int .i64) (.cons (.int .i64) (.cons (.int .i64) (.cons (.int .i64) (.cons (.int .i64) (.cons (.int .i64) (.cons (.int .i64) (.cons (.int .i64) (.cons (.int .i64) (.cons (.int .i64) .nil))))))))))))))))))))))))))))))))))))))))))))))))))))))))))))))))) (.cons (.own false 3 (.int .i64)) (.cons (.own false 3 (.int .i64)) (.cons (.int .i64) (.cons (.int .i64) (.cons (.int .i64) (.cons (.int .i64) (.cons (.int .i64) (.cons (.int .i64) (.cons (.int .i64) (.cons (.int .i64) (.cons (.int .i64) .nil))))))))))))⟩, ⟨[7, 8, 9, 10, 11, 12, 13, 14, 15], (.cons (.own false 3 (.int .i64)) (.cons (.int .i64) (.cons (.int .i64) (.cons (.int .i64) (.cons (.int .i64) (.cons (.int .i64) (.cons (.int .i64) (.cons (.int .i64) (.cons (.int .i64) .nil)))))))))⟩), (2, ⟨[7, 128, 129, 130], (.cons (.own false 3 (.int .i64)) (.cons (.own false 3 (.int .i64)) (.cons (.int .i64) (.cons (.int .i64) .nil))))⟩, ⟨[7], (.cons (.own false 3 (.int .i64)) .nil)⟩)]) (by kernel_rfl) (by kernel_rfl) (fun x r h => (t_i_round k x).trans h)
def i_rounds (k : Nat) (x : ByteArray × ByteArray × Unit) : Option ((ByteArray × ByteArray × Unit) × Unit × Unit × Unit) :=
(whileK (fun (rec0 : (ByteArray × ByteArray × Unit) → Option _) (y0 : ByteArray × ByteArray × Unit) =>
(if (decide ((64 : Int) ≤ (ByteArray.size y0.2.1 : Int))) = true then
(if 0 ≤ (64 : Int) ∧ (64 : Int) ≤ (ByteArray.size y0.2.1 : Int) then
((i_round k (y0.1, ((ByteArray.extract y0.2.1 (Int.toNat (0 : Int)) (Int.toNat (64 : Int))), ()))).bind fun p1 =>
(if 0 ≤ (64 : Int) ∧ (64 : Int) ≤ (ByteArray.size y0.2.1 : Int) then
(rec0 (p1.1, ((ByteArray.extract y0.2.1 (Int.toNat (64 : Int)) (Int.toNat (ByteArray.size y0.2.1 : Int))), ())))
else none))
else none)
else
((fun (z1 : ByteArray × ByteArray × Unit) =>
some ((z1.1, (z1.2.1, ())), ((), ((), ())))) (y0.1, (y0.2.1, ()))))) k (x.1, (x.2.1, ())))
theorem t_i_rounds (k : Nat) (x) : evF TTab k [⟨222, 0, (.cons .str (.cons .str .nil)), .str, i_round k⟩] [(0, ⟨[0, 1], (.cons .str (.cons .str .nil))⟩, ⟨[0, 1], (.cons .str (.cons .str .nil))⟩)] Tryz.f147 (.cons .str (.cons .str .nil)) (.tup (.cons .str (.cons .str .nil))) x = i_rounds k x := by kernel_rfl
theorem e_i_rounds (k : Nat) : EntryOk Tryz.prog ⟨147, 0, (.cons .str (.cons .str .nil)), (.tup (.cons .str (.cons .str .nil))), i_rounds k⟩ := entry_ok tok (by intro e he; simp only [List.mem_cons, List.not_mem_nil, or_false] at he; rcases he with rfl <;> first | exact e_i_round k) (by kernel_rfl) (fn := Tryz.f147) (k := k) (es := [⟨222, 0, (.cons .str (.cons .str .nil)), .str, i_round k⟩]) (loops := [(0, ⟨[0, 1], (.cons .str (.cons .str .nil))⟩, ⟨[0, 1], (.cons .str (.cons .str .nil))⟩)]) (by kernel_rfl) (by kernel_rfl) (fun x r h => (t_i_rounds k x).trans h)
def i_firstState (k : Nat) (x : Unit) : Option (ByteArray × Unit) :=
((i_wordsText k (([(1779033703 : Int), (3144134277 : Int), (1013904242 : Int), (2773480762 : Int), (1359893119 : Int), (2600822924 : Int), (528734635 : Int), (1541459225 : Int)] : List (Int)), ())).bind fun p1 =>
some (p1.1, ()))
theorem t_i_firstState (k : Nat) (x) : evF TTab k [⟨223, 0, (.cons (.il true (.int .i64)) .nil), .str, i_wordsText k⟩] [] Tryz.f148 .nil .str x = i_firstState k x := by kernel_rfl
theorem e_i_firstState (k : Nat) : EntryOk Tryz.prog ⟨148, 0, .nil, .str, i_firstState k⟩ := entry_ok tok (by intro e he; simp only [List.mem_cons, List.not_mem_nil, or_false] at he; rcases he with rfl <;> first | exact e_i_wordsText k) (by kernel_rfl) (fn := Tryz.f148) (k := k) (es := [⟨223, 0, (.cons (.il true (.int .i64)) .nil), .str, i_wordsText k⟩]) (loops := []) (by kernel_rfl) (by kernel_rfl) (fun x r h => (t_i_firstState k x).trans h)
def x_strings_Repeat (k : Nat) (x : ByteArray × Int × Unit) : Option (ByteArray × Unit × Unit × Unit) := repF x
theorem e_x_strings_Repeat (k : Nat) : EntryOk Tryz.prog ⟨224, 0, (.cons .str (.cons (.int .i64) .nil)), .str, x_strings_Repeat k⟩ := entry_repeat Tryz.func224 (by kernel_rfl) Tryz.strings_Repeat
def i_padding (k : Nat) (x : Int × Unit) : Option (ByteArray × Unit × Unit) :=
((x_strings_Repeat k ((⟨#[0]⟩ : ByteArray), ((Int.tmod (wi64 ((119 : Int) - (Int.tmod x.1 (64 : Int)))) (64 : Int)), ()))).bind fun p1 =>
(if ByteArray.size (⟨#[128]⟩ : ByteArray) + ByteArray.size p1.1 ≤ maxStr then
((i_NumberText k ((Int.fdiv (wi64 ((8 : Int) * x.1)) (2 ^ (min (Int.toNat (32 : Int)) (IntKind.bits .i64)))), ())).bind fun p2 =>
(if ByteArray.size ((⟨#[128]⟩ : ByteArray) ++ p1.1) + ByteArray.size p2.1 ≤ maxStr then
((i_NumberText k ((bitsI .and .i64 (wi64 ((8 : Int) * x.1)) (4294967295 : Int)), ())).bind fun p3 =>
(if ByteArray.size (((⟨#[128]⟩ : ByteArray) ++ p1.1) ++ p2.1) + ByteArray.size p3.1 ≤ maxStr then
some (((((⟨#[128]⟩ : ByteArray) ++ p1.1) ++ p2.1) ++ p3.1), ((), ()))
else none))
else none))
else none))
theorem t_i_padding (k : Nat) (x) : evF TTab k [⟨206, 0, (.cons (.int .i64) .nil), .str, i_NumberText k⟩, ⟨224, 0, (.cons .str (.cons (.int .i64) .nil)), .str, x_strings_Repeat k⟩] [] Tryz.f149 (.cons (.int .i64) .nil) .str x = i_padding k x := by kernel_rfl
theorem e_i_padding (k : Nat) : EntryOk Tryz.prog ⟨149, 0, (.cons (.int .i64) .nil), .str, i_padding k⟩ := entry_ok tok (by intro e he; simp only [List.mem_cons, List.not_mem_nil, or_false] at he; rcases he with rfl | rfl <;> first | exact e_i_NumberText k | exact e_x_strings_Repeat k) (by kernel_rfl) (fn := Tryz.f149) (k := k) (es := [⟨206, 0, (.cons (.int .i64) .nil), .str, i_NumberText k⟩, ⟨224, 0, (.cons .str (.cons (.int .i64) .nil)), .str, x_strings_Repeat k⟩]) (loops := []) (by kernel_rfl) (by kernel_rfl) (fun x r h => (t_i_padding k x).trans h)
def i_DigestOf (k : Nat) (x : ByteArray × Unit) : Option (ByteArray × Unit × Unit) :=
((i_firstState k ()).bind fun p1 =>
((i_padding k ((ByteArray.size x.1 : Int), ())).bind fun p2 =>
(if ByteArray.size x.1 + ByteArray.size p2.1 ≤ maxStr then
((i_rounds k (p1.1, ((x.1 ++ p2.1), ()))).bind fun p3 =>
some (p3.1.1, ((), ())))
else none)))
theorem t_i_DigestOf (k : Nat) (x) : evF TTab k [⟨147, 0, (.cons .str (.cons .str .nil)), (.tup (.cons .str (.cons .str .nil))), i_rounds k⟩, ⟨148, 0, .nil, .str, i_firstState k⟩, ⟨149, 0, (.cons (.int .i64) .nil), .str, i_padding k⟩] [] Tryz.f77 (.cons .str .nil) .str x = i_DigestOf k x := by kernel_rfl
theorem e_i_DigestOf (k : Nat) : EntryOk Tryz.prog ⟨77, 0, (.cons .str .nil), .str, i_DigestOf k⟩ := entry_ok tok (by intro e he; simp only [List.mem_cons, List.not_mem_nil, or_false] at he; rcases he with rfl | rfl | rfl <;> first | exact e_i_rounds k | exact e_i_firstState k | exact e_i_padding k) (by kernel_rfl) (fn := Tryz.f77) (k := k) (es := [⟨147, 0, (.cons .str (.cons .str .nil)), (.tup (.cons .str (.cons .str .nil))), i_rounds k⟩, ⟨148, 0, .nil, .str, i_firstState k⟩, ⟨149, 0, (.cons (.int .i64) .nil), .str, i_padding k⟩]) (loops := []) (by kernel_rfl) (by kernel_rfl) (fun x r h => (t_i_DigestOf k x).trans h)
def i_masked (k : Nat) (x : ByteArray × Int × Unit) : Option (ByteArray × Unit × Unit × Unit) :=
(if ByteArray.size x.1 ≤ maxStr then
(whileK (fun (rec0 : (Int × List (Int) × Int × Int × Unit) → Option _) (y0 : Int × List (Int) × Int × Int × Unit) =>
(if (decide (y0.2.2.2.1 < y0.2.2.1)) = true then
(if 0 ≤ y0.2.2.2.1 ∧ y0.2.2.2.1 < (List.length y0.2.1 : Int) then
(if 0 ≤ y0.2.2.2.1 ∧ y0.2.2.2.1 < (List.length y0.2.1 : Int) then
(rec0 (y0.1, ((List.set y0.2.1 (Int.toNat y0.2.2.2.1) (bitsI .xor .u8 (Ty.rd (t := (.int .u8)) y0.2.1 y0.2.2.2.1) y0.1)), (y0.2.2.1, ((wi64 (y0.2.2.2.1 + (1 : Int))), ())))))
else none)
else none)
else
((fun (z1 : List (Int) × Unit) =>
some ((strOf z1.1), ((), ((), ())))) (y0.2.1, ())))) k (x.2.1, ((bytesOf x.1), ((List.length (bytesOf x.1) : Int), ((0 : Int), ())))))
else none)
theorem t_i_masked (k : Nat) (x) : evF TTab k [] [(0, ⟨[1, 5, 10, 11], (.cons (.int .u8) (.cons (.own true 5 (.int .u8)) (.cons (.int .i64) (.cons (.int .i64) .nil))))⟩, ⟨[5], (.cons (.own true 5 (.int .u8)) .nil)⟩)] Tryz.f287 (.cons .str (.cons (.int .u8) .nil)) .str x = i_masked k x := by kernel_rfl
theorem e_i_masked (k : Nat) : EntryOk Tryz.prog ⟨287, 0, (.cons .str (.cons (.int .u8) .nil)), .str, i_masked k⟩ := entry_ok tok (by simp) (by kernel_rfl) (fn := Tryz.f287) (k := k) (es := []) (loops := [(0, ⟨[1, 5, 10, 11], (.cons (.int .u8) (.cons (.own true 5 (.int .u8)) (.cons (.int .i64) (.cons (.int .i64) .nil))))⟩, ⟨[5], (.cons (.own true 5 (.int .u8)) .nil)⟩)]) (by kernel_rfl) (by kernel_rfl) (fun x r h => (t_i_masked k x).trans h)
def i_MacOf (k : Nat) (x : ByteArray × ByteArray × Unit) : Option (ByteArray × Unit × Unit × Unit) :=
(if (decide ((64 : Int) < (ByteArray.size x.1 : Int))) = true then
((i_DigestOf k (x.1, ())).bind fun p1 =>
((x_strings_Repeat k ((⟨#[0]⟩ : ByteArray), ((wi64 ((64 : Int) - (ByteArray.size p1.1 : Int))), ()))).bind fun p7 =>
(if ByteArray.size p1.1 + ByteArray.size p7.1 ≤ maxStr then
((i_masked k ((p1.1 ++ p7.1), ((92 : Int), ()))).bind fun p8 =>
((i_masked k ((p1.1 ++ p7.1), ((54 : Int), ()))).bind fun p9 =>
(if ByteArray.size p9.1 + ByteArray.size x.2.1 ≤ maxStr then
((i_DigestOf k ((p9.1 ++ x.2.1), ())).bind fun p10 =>
(if ByteArray.size p8.1 + ByteArray.size p10.1 ≤ maxStr then
((i_DigestOf k ((p8.1 ++ p10.1), ())).bind fun p11 =>
some (p11.1, ((), ((), ()))))
else none))
else none)))
else none)))
else
((x_strings_Repeat k ((⟨#[0]⟩ : ByteArray), ((wi64 ((64 : Int) - (ByteArray.size x.1 : Int))), ()))).bind fun p12 =>
(if ByteArray.size x.1 + ByteArray.size p12.1 ≤ maxStr then
((i_masked k ((x.1 ++ p12.1), ((92 : Int), ()))).bind fun p13 =>
((i_masked k ((x.1 ++ p12.1), ((54 : Int), ()))).bind fun p14 =>
(if ByteArray.size p14.1 + ByteArray.size x.2.1 ≤ maxStr then
((i_DigestOf k ((p14.1 ++ x.2.1), ())).bind fun p15 =>
(if ByteArray.size p13.1 + ByteArray.size p15.1 ≤ maxStr then
((i_DigestOf k ((p13.1 ++ p15.1), ())).bind fun p16 =>
some (p16.1, ((), ((), ()))))
else none))
else none)))
else none)))
theorem t_i_MacOf (k : Nat) (x) : evF TTab k [⟨77, 0, (.cons .str .nil), .str, i_DigestOf k⟩, ⟨224, 0, (.cons .str (.cons (.int .i64) .nil)), .str, x_strings_Repeat k⟩, ⟨287, 0, (.cons .str (.cons (.int .u8) .nil)), .str, i_masked k⟩] [] Tryz.f227 (.cons .str (.cons .str .nil)) .str x = i_MacOf k x := by kernel_rfl
theorem e_i_MacOf (k : Nat) : EntryOk Tryz.prog ⟨227, 0, (.cons .str (.cons .str .nil)), .str, i_MacOf k⟩ := entry_ok tok (by intro e he; simp only [List.mem_cons, List.not_mem_nil, or_false] at he; rcases he with rfl | rfl | rfl <;> first | exact e_i_DigestOf k | exact e_x_strings_Repeat k | exact e_i_masked k) (by kernel_rfl) (fn := Tryz.f227) (k := k) (es := [⟨77, 0, (.cons .str .nil), .str, i_DigestOf k⟩, ⟨224, 0, (.cons .str (.cons (.int .i64) .nil)), .str, x_strings_Repeat k⟩, ⟨287, 0, (.cons .str (.cons (.int .u8) .nil)), .str, i_masked k⟩]) (loops := []) (by kernel_rfl) (by kernel_rfl) (fun x r h => (t_i_MacOf k x).trans h)
def i_Mask (k : Nat) (x : ByteArray × Int × Int × Unit) : Option ((ByteArray × Bool × Unit) × Unit × Unit × Unit × Unit) :=
((i_VarText k (x.2.1, ())).bind fun p1 =>
(if (!p1.1.2.1) = false then
((i_within k (x.2.2.1, ((0 : Int), ((8000 : Int), ())))).bind fun p2 =>
(if (!p2.1) = true then
some (((⟨#[]⟩ : ByteArray), (false, ())), ((), ((), ((), ()))))
else
(whileK (fun (rec0 : (ByteArray × Int × ByteArray × List (Int) × Int × Unit) → Option _) (y0 : ByteArray × Int × ByteArray × List (Int) × Int × Unit) =>
(if (decide ((List.length y0.2.2.2.1 : Int) < y0.2.1)) = true then
(if ByteArray.size (⟨#[109]⟩ : ByteArray) + ByteArray.size y0.2.2.1 ≤ maxStr then
((i_byteText k (y0.2.2.2.2.1, ())).bind fun p3 =>
(if ByteArray.size ((⟨#[109]⟩ : ByteArray) ++ y0.2.2.1) + ByteArray.size p3.1 ≤ maxStr then
((i_MacOf k (y0.1, ((((⟨#[109]⟩ : ByteArray) ++ y0.2.2.1) ++ p3.1), ()))).bind fun p4 =>
(if List.length y0.2.2.2.1 + List.length (bytesOf p4.1) ≤ capMax then
(rec0 (y0.1, (y0.2.1, (y0.2.2.1, ((y0.2.2.2.1 ++ (bytesOf p4.1)), ((wi64 (y0.2.2.2.2.1 + (1 : Int))), ()))))))
else none))
else none))
else none)
else
((fun (z1 : Int × List (Int) × Unit) =>
(if 0 ≤ z1.1 ∧ z1.1 ≤ (List.length z1.2.1 : Int) then
some (((strOf (List.drop (Int.toNat (0 : Int)) (List.take (Int.toNat z1.1) z1.2.1))), (true, ())), ((), ((), ((), ()))))
else none)) (y0.2.1, (y0.2.2.2.1, ()))))) k (x.1, (x.2.2.1, (p1.1.1, (([] : List (Int)), ((0 : Int), ()))))))))
else
some (((⟨#[]⟩ : ByteArray), (false, ())), ((), ((), ((), ()))))))
theorem t_i_Mask (k : Nat) (x) : evF TTab k [⟨91, 0, (.cons (.int .i64) (.cons (.int .i64) (.cons (.int .i64) .nil))), .bool, i_within k⟩, ⟨207, 0, (.cons (.int .i64) .nil), .str, i_byteText k⟩, ⟨226, 0, (.cons (.int .i64) .nil), (.tup (.cons .str (.cons .bool .nil))), i_VarText k⟩, ⟨227, 0, (.cons .str (.cons .str .nil)), .str, i_MacOf k⟩] [(0, ⟨[0, 2, 8, 10, 11], (.cons .str (.cons (.int .i64) (.cons .str (.cons (.own false 5 (.int .u8)) (.cons (.int .i64) .nil)))))⟩, ⟨[2, 10], (.cons (.int .i64) (.cons (.own false 5 (.int .u8)) .nil))⟩)] Tryz.f225 (.cons .str (.cons (.int .i64) (.cons (.int .i64) .nil))) (.tup (.cons .str (.cons .bool .nil))) x = i_Mask k x := by kernel_rfl
theorem e_i_Mask (k : Nat) : EntryOk Tryz.prog ⟨225, 0, (.cons .str (.cons (.int .i64) (.cons (.int .i64) .nil))), (.tup (.cons .str (.cons .bool .nil))), i_Mask k⟩ := entry_ok tok (by intro e he; simp only [List.mem_cons, List.not_mem_nil, or_false] at he; rcases he with rfl | rfl | rfl | rfl <;> first | exact e_i_within k | exact e_i_byteText k | exact e_i_VarText k | exact e_i_MacOf k) (by kernel_rfl) (fn := Tryz.f225) (k := k) (es := [⟨91, 0, (.cons (.int .i64) (.cons (.int .i64) (.cons (.int .i64) .nil))), .bool, i_within k⟩, ⟨207, 0, (.cons (.int .i64) .nil), .str, i_byteText k⟩, ⟨226, 0, (.cons (.int .i64) .nil), (.tup (.cons .str (.cons .bool .nil))), i_VarText k⟩, ⟨227, 0, (.cons .str (.cons .str .nil)), .str, i_MacOf k⟩]) (loops := [(0, ⟨[0, 2, 8, 10, 11], (.cons .str (.cons (.int .i64) (.cons .str (.cons (.own false 5 (.int .u8)) (.cons (.int .i64) .nil)))))⟩, ⟨[2, 10], (.cons (.int .i64) (.cons (.own false 5 (.int .u8)) .nil))⟩)]) (by kernel_rfl) (by kernel_rfl) (fun x r h => (t_i_Mask k x).trans h)
def i_hidden (k : Nat) (x : ByteArray × Int × ByteArray × Unit) : Option ((ByteArray × Bool × Unit) × Unit × Unit × Unit × Unit) :=
((i_Mask k (x.1, (x.2.1, ((ByteArray.size x.2.2.1 : Int), ())))).bind fun p1 =>
(if (!p1.1.2.1) = true then
some (((⟨#[]⟩ : ByteArray), (false, ())), ((), ((), ((), ()))))
else
(if ByteArray.size x.2.2.1 ≤ maxStr then
(whileK (fun (rec0 : (ByteArray × List (Int) × Int × Int × Unit) → Option _) (y0 : ByteArray × List (Int) × Int × Int × Unit) =>
(if (decide (y0.2.2.2.1 < y0.2.2.1)) = true then
(if 0 ≤ y0.2.2.2.1 ∧ y0.2.2.2.1 < (List.length y0.2.1 : Int) then
(if 0 ≤ y0.2.2.2.1 ∧ y0.2.2.2.1 < (ByteArray.size y0.1 : Int) then
(if 0 ≤ y0.2.2.2.1 ∧ y0.2.2.2.1 < (List.length y0.2.1 : Int) then
(rec0 (y0.1, ((List.set y0.2.1 (Int.toNat y0.2.2.2.1) (bitsI .xor .u8 (Ty.rd (t := (.int .u8)) y0.2.1 y0.2.2.2.1) (bt y0.1 y0.2.2.2.1))), (y0.2.2.1, ((wi64 (y0.2.2.2.1 + (1 : Int))), ())))))
else none)
else none)
else none)
else
((fun (z1 : List (Int) × Unit) =>
some (((strOf z1.1), (true, ())), ((), ((), ((), ()))))) (y0.2.1, ())))) k (p1.1.1, ((bytesOf x.2.2.1), ((List.length (bytesOf x.2.2.1) : Int), ((0 : Int), ())))))
else none)))
theorem t_i_hidden (k : Nat) (x) : evF TTab k [⟨225, 0, (.cons .str (.cons (.int .i64) (.cons (.int .i64) .nil))), (.tup (.cons .str (.cons .bool .nil))), i_Mask k⟩] [(0, ⟨[8, 10, 25, 26], (.cons .str (.cons (.own true 5 (.int .u8)) (.cons (.int .i64) (.cons (.int .i64) .nil))))⟩, ⟨[10], (.cons (.own true 5 (.int .u8)) .nil)⟩)] Tryz.f150 (.cons .str (.cons (.int .i64) (.cons .str .nil))) (.tup (.cons .str (.cons .bool .nil))) x = i_hidden k x := by kernel_rfl
theorem e_i_hidden (k : Nat) : EntryOk Tryz.prog ⟨150, 0, (.cons .str (.cons (.int .i64) (.cons .str .nil))), (.tup (.cons .str (.cons .bool .nil))), i_hidden k⟩ := entry_ok tok (by intro e he; simp only [List.mem_cons, List.not_mem_nil, or_false] at he; rcases he with rfl <;> first | exact e_i_Mask k) (by kernel_rfl) (fn := Tryz.f150) (k := k) (es := [⟨225, 0, (.cons .str (.cons (.int .i64) (.cons (.int .i64) .nil))), (.tup (.cons .str (.cons .bool .nil))), i_Mask k⟩]) (loops := [(0, ⟨[8, 10, 25, 26], (.cons .str (.cons (.own true 5 (.int .u8)) (.cons (.int .i64) (.cons (.int .i64) .nil))))⟩, ⟨[10], (.cons (.own true 5 (.int .u8)) .nil)⟩)]) (by kernel_rfl) (by kernel_rfl) (fun x r h => (t_i_hidden k x).trans h)
def i_macText (k : Nat) (x : ByteArray × Int × ByteArray × Unit) : Option (ByteArray × Unit × Unit × Unit × Unit) :=
((i_VarText k (x.2.1, ())).bind fun p1 =>
(if ByteArray.size (⟨#[116]⟩ : ByteArray) + ByteArray.size p1.1.1 ≤ maxStr then
(if ByteArray.size ((⟨#[116]⟩ : ByteArray) ++ p1.1.1) + ByteArray.size x.2.2.1 ≤ maxStr then
((i_MacOf k (x.1, ((((⟨#[116]⟩ : ByteArray) ++ p1.1.1) ++ x.2.2.1), ()))).bind fun p2 =>
(if 0 ≤ (16 : Int) ∧ (16 : Int) ≤ (ByteArray.size p2.1 : Int) then
some ((ByteArray.extract p2.1 (Int.toNat (0 : Int)) (Int.toNat (16 : Int))), ((), ((), ((), ()))))
else none))
else none)
else none))
theorem t_i_macText (k : Nat) (x) : evF TTab k [⟨226, 0, (.cons (.int .i64) .nil), (.tup (.cons .str (.cons .bool .nil))), i_VarText k⟩, ⟨227, 0, (.cons .str (.cons .str .nil)), .str, i_MacOf k⟩] [] Tryz.f151 (.cons .str (.cons (.int .i64) (.cons .str .nil))) .str x = i_macText k x := by kernel_rfl
theorem e_i_macText (k : Nat) : EntryOk Tryz.prog ⟨151, 0, (.cons .str (.cons (.int .i64) (.cons .str .nil))), .str, i_macText k⟩ := entry_ok tok (by intro e he; simp only [List.mem_cons, List.not_mem_nil, or_false] at he; rcases he with rfl | rfl <;> first | exact e_i_VarText k | exact e_i_MacOf k) (by kernel_rfl) (fn := Tryz.f151) (k := k) (es := [⟨226, 0, (.cons (.int .i64) .nil), (.tup (.cons .str (.cons .bool .nil))), i_VarText k⟩, ⟨227, 0, (.cons .str (.cons .str .nil)), .str, i_MacOf k⟩]) (loops := []) (by kernel_rfl) (by kernel_rfl) (fun x r h => (t_i_macText k x).trans h)
def i_SameMac (k : Nat) (x : ByteArray × ByteArray × Unit) : Option (Bool × Unit × Unit × Unit) :=
some ((decide (x.1 = x.2.1)), ((), ((), ())))
theorem t_i_SameMac (k : Nat) (x) : evF TTab k [] [] Tryz.f216 (.cons .str (.cons .str .nil)) .bool x = i_SameMac k x := by kernel_rfl
theorem e_i_SameMac (k : Nat) : EntryOk Tryz.prog ⟨216, 0, (.cons .str (.cons .str .nil)), .bool, i_SameMac k⟩ := entry_ok tok (by simp) (by kernel_rfl) (fn := Tryz.f216) (k := k) (es := []) (loops := []) (by kernel_rfl) (by kernel_rfl) (fun x r h => (t_i_SameMac k x).trans h)
def i_OpenText (k : Nat) (x : ByteArray × Int × ByteArray × Unit) : Option ((ByteArray × Bool × Unit) × Unit × Unit × Unit × Unit) :=
(if (decide ((wi64 ((ByteArray.size x.2.2.1 : Int) - (16 : Int))) < (0 : Int))) = true then
some (((⟨#[]⟩ : ByteArray), (false, ())), ((), ((), ((), ()))))
else
(if 0 ≤ (wi64 ((ByteArray.size x.2.2.1 : Int) - (16 : Int))) ∧ (wi64 ((ByteArray.size x.2.2.1 : Int) - (16 : Int))) ≤ (ByteArray.size x.2.2.1 : Int) then
((i_hidden k (x.1, (x.2.1, ((ByteArray.extract x.2.2.1 (Int.toNat (0 : Int)) (Int.toNat (wi64 ((ByteArray.size x.2.2.1 : Int) - (16 : Int))))), ())))).bind fun p1 =>
(if (!p1.1.2.1) = false then
(if 0 ≤ (wi64 ((ByteArray.size x.2.2.1 : Int) - (16 : Int))) ∧ (wi64 ((ByteArray.size x.2.2.1 : Int) - (16 : Int))) ≤ (ByteArray.size x.2.2.1 : Int) then
((i_macText k (x.1, (x.2.1, ((ByteArray.extract x.2.2.1 (Int.toNat (0 : Int)) (Int.toNat (wi64 ((ByteArray.size x.2.2.1 : Int) - (16 : Int))))), ())))).bind fun p2 =>
(if 0 ≤ (wi64 ((ByteArray.size x.2.2.1 : Int) - (16 : Int))) ∧ (wi64 ((ByteArray.size x.2.2.1 : Int) - (16 : Int))) ≤ (ByteArray.size x.2.2.1 : Int) then
((i_SameMac k (p2.1, ((ByteArray.extract x.2.2.1 (Int.toNat (wi64 ((ByteArray.size x.2.2.1 : Int) - (16 : Int)))) (Int.toNat (ByteArray.size x.2.2.1 : Int))), ()))).bind fun p3 =>
(if (!p3.1) = true then
some (((⟨#[]⟩ : ByteArray), (false, ())), ((), ((), ((), ()))))
else
some ((p1.1.1, (true, ())), ((), ((), ((), ()))))))
else none))
else none)
else
some (((⟨#[]⟩ : ByteArray), (false, ())), ((), ((), ((), ()))))))
else none))
theorem t_i_OpenText (k : Nat) (x) : evF TTab k [⟨150, 0, (.cons .str (.cons (.int .i64) (.cons .str .nil))), (.tup (.cons .str (.cons .bool .nil))), i_hidden k⟩, ⟨151, 0, (.cons .str (.cons (.int .i64) (.cons .str .nil))), .str, i_macText k⟩, ⟨216, 0, (.cons .str (.cons .str .nil)), .bool, i_SameMac k⟩] [] Tryz.f144 (.cons .str (.cons (.int .i64) (.cons .str .nil))) (.tup (.cons .str (.cons .bool .nil))) x = i_OpenText k x := by kernel_rfl
theorem e_i_OpenText (k : Nat) : EntryOk Tryz.prog ⟨144, 0, (.cons .str (.cons (.int .i64) (.cons .str .nil))), (.tup (.cons .str (.cons .bool .nil))), i_OpenText k⟩ := entry_ok tok (by intro e he; simp only [List.mem_cons, List.not_mem_nil, or_false] at he; rcases he with rfl | rfl | rfl <;> first | exact e_i_hidden k | exact e_i_macText k | exact e_i_SameMac k) (by kernel_rfl) (fn := Tryz.f144) (k := k) (es := [⟨150, 0, (.cons .str (.cons (.int .i64) (.cons .str .nil))), (.tup (.cons .str (.cons .bool .nil))), i_hidden k⟩, ⟨151, 0, (.cons .str (.cons (.int .i64) (.cons .str .nil))), .str, i_macText k⟩, ⟨216, 0, (.cons .str (.cons .str .nil)), .bool, i_SameMac k⟩]) (loops := []) (by kernel_rfl) (by kernel_rfl) (fun x r h => (t_i_OpenText k x).trans h)
def x_slices_Index_int_int (k : Nat) (x : List (Int) × Int × Unit) : Option (Int × Unit × Unit × Unit) :=
(whileK (fun (rec0 : (List (Int) × Int × Int × Int × Unit) → Option _) (y0 : List (Int) × Int × Int × Int × Unit) =>
(if (decide (y0.2.2.2.1 < y0.2.2.1)) = true then
(if 0 ≤ y0.2.2.2.1 ∧ y0.2.2.2.1 < (List.length y0.1 : Int) then
(if (decide (y0.2.1 = (Ty.rd (t := (.int .i64)) y0.1 y0.2.2.2.1))) = true then
some (y0.2.2.2.1, ((), ((), ())))
else
(rec0 (y0.1, (y0.2.1, (y0.2.2.1, ((wi64 (y0.2.2.2.1 + (1 : Int))), ()))))))
else none)
else
((fun (z1 : Unit) =>
some ((-1 : Int), ((), ((), ())))) ()))) k (x.1, (x.2.1, ((List.length x.1 : Int), ((0 : Int), ())))))
theorem t_x_slices_Index_int_int (k : Nat) (x) : evF TTab k [] [(0, ⟨[0, 1, 7, 8], (.cons (.il true (.int .i64)) (.cons (.int .i64) (.cons (.int .i64) (.cons (.int .i64) .nil))))⟩, ⟨[], .nil⟩)] Tryz.f273 (.cons (.il true (.int .i64)) (.cons (.int .i64) .nil)) (.int .i64) x = x_slices_Index_int_int k x := by kernel_rfl
theorem e_x_slices_Index_int_int (k : Nat) : EntryOk Tryz.prog ⟨273, 0, (.cons (.il true (.int .i64)) (.cons (.int .i64) .nil)), (.int .i64), x_slices_Index_int_int k⟩ := entry_ok tok (by simp) (by kernel_rfl) (fn := Tryz.f273) (k := k) (es := []) (loops := [(0, ⟨[0, 1, 7, 8], (.cons (.il true (.int .i64)) (.cons (.int .i64) (.cons (.int .i64) (.cons (.int .i64) .nil))))⟩, ⟨[], .nil⟩)]) (by kernel_rfl) (by kernel_rfl) (fun x r h => (t_x_slices_Index_int_int k x).trans h)
def x_slices_Contains_int_int (k : Nat) (x : List (Int) × Int × Unit) : Option (Bool × Unit × Unit × Unit) :=
((x_slices_Index_int_int k (x.1, (x.2.1, ()))).bind fun p1 =>
some ((decide ((0 : Int) ≤ p1.1)), ((), ((), ()))))
theorem t_x_slices_Contains_int_int (k : Nat) (x) : evF TTab k [⟨273, 0, (.cons (.il true (.int .i64)) (.cons (.int .i64) .nil)), (.int .i64), x_slices_Index_int_int k⟩] [] Tryz.f217 (.cons (.il true (.int .i64)) (.cons (.int .i64) .nil)) .bool x = x_slices_Contains_int_int k x := by kernel_rfl
theorem e_x_slices_Contains_int_int (k : Nat) : EntryOk Tryz.prog ⟨217, 0, (.cons (.il true (.int .i64)) (.cons (.int .i64) .nil)), .bool, x_slices_Contains_int_int k⟩ := entry_ok tok (by intro e he; simp only [List.mem_cons, List.not_mem_nil, or_false] at he; rcases he with rfl <;> first | exact e_x_slices_Index_int_int k) (by kernel_rfl) (fn := Tryz.f217) (k := k) (es := [⟨273, 0, (.cons (.il true (.int .i64)) (.cons (.int .i64) .nil)), (.int .i64), x_slices_Index_int_int k⟩]) (loops := []) (by kernel_rfl) (by kernel_rfl) (fun x r h => (t_x_slices_Contains_int_int k x).trans h)
def i_IsFresh (k : Nat) (x : List (Int) × Int × Unit) : Option (Bool × Unit × Unit × Unit) :=
((i_SeenOk k (x.1, ())).bind fun p1 =>
(if (!p1.1) = false then
((i_within k (x.2.1, ((1 : Int), ((1000000000 : Int), ())))).bind fun p2 =>
(if (!p2.1) = false then
((x_slices_Contains_int_int k (x.1, (x.2.1, ()))).bind fun p3 =>
(if p3.1 = true then
some (false, ((), ((), ())))
else
(if (decide ((List.length x.1 : Int) = (0 : Int))) = false then
(if 0 ≤ (0 : Int) ∧ (0 : Int) < (List.length x.1 : Int) then
some ((decide ((wi64 ((Ty.rd (t := (.int .i64)) x.1 (0 : Int)) - (6 : Int))) < x.2.1)), ((), ((), ())))
else none)
else
some (true, ((), ((), ()))))))
else
some (false, ((), ((), ())))))
else
some (false, ((), ((), ())))))
theorem t_i_IsFresh (k : Nat) (x) : evF TTab k [⟨91, 0, (.cons (.int .i64) (.cons (.int .i64) (.cons (.int .i64) .nil))), .bool, i_within k⟩, ⟨152, 0, (.cons (.il true (.int .i64)) .nil), .bool, i_SeenOk k⟩, ⟨217, 0, (.cons (.il true (.int .i64)) (.cons (.int .i64) .nil)), .bool, x_slices_Contains_int_int k⟩] [] Tryz.f145 (.cons (.il true (.int .i64)) (.cons (.int .i64) .nil)) .bool x = i_IsFresh k x := by kernel_rfl
theorem e_i_IsFresh (k : Nat) : EntryOk Tryz.prog ⟨145, 0, (.cons (.il true (.int .i64)) (.cons (.int .i64) .nil)), .bool, i_IsFresh k⟩ := entry_ok tok (by intro e he; simp only [List.mem_cons, List.not_mem_nil, or_false] at he; rcases he with rfl | rfl | rfl <;> first | exact e_i_within k | exact e_i_SeenOk k | exact e_x_slices_Contains_int_int k) (by kernel_rfl) (fn := Tryz.f145) (k := k) (es := [⟨91, 0, (.cons (.int .i64) (.cons (.int .i64) (.cons (.int .i64) .nil))), .bool, i_within k⟩, ⟨152, 0, (.cons (.il true (.int .i64)) .nil), .bool, i_SeenOk k⟩, ⟨217, 0, (.cons (.il true (.int .i64)) (.cons (.int .i64) .nil)), .bool, x_slices_Contains_int_int k⟩]) (loops := []) (by kernel_rfl) (by kernel_rfl) (fun x r h => (t_i_IsFresh k x).trans h)
def x_cmp_isNaN_int (k : Nat) (x : Int × Unit) : Option (Bool × Unit × Unit) :=
some ((!decide (x.1 = x.1)), ((), ()))
theorem t_x_cmp_isNaN_int (k : Nat) (x) : evF TTab k [] [] Tryz.f291 (.cons (.int .i64) .nil) .bool x = x_cmp_isNaN_int k x := by kernel_rfl
theorem e_x_cmp_isNaN_int (k : Nat) : EntryOk Tryz.prog ⟨291, 0, (.cons (.int .i64) .nil), .bool, x_cmp_isNaN_int k⟩ := entry_ok tok (by simp) (by kernel_rfl) (fn := Tryz.f291) (k := k) (es := []) (loops := []) (by kernel_rfl) (by kernel_rfl) (fun x r h => (t_x_cmp_isNaN_int k x).trans h)
def x_cmp_Less_int (k : Nat) (x : Int × Int × Unit) : Option (Bool × Unit × Unit × Unit) :=
((x_cmp_isNaN_int k (x.1, ())).bind fun p1 =>
(if p1.1 = true then
((x_cmp_isNaN_int k (x.2.1, ())).bind fun p2 =>
(if (!p2.1) = false then
some ((decide (x.1 < x.2.1)), ((), ((), ())))
else
some (true, ((), ((), ())))))
else
some ((decide (x.1 < x.2.1)), ((), ((), ())))))
theorem t_x_cmp_Less_int (k : Nat) (x) : evF TTab k [⟨291, 0, (.cons (.int .i64) .nil), .bool, x_cmp_isNaN_int k⟩] [] Tryz.f307 (.cons (.int .i64) (.cons (.int .i64) .nil)) .bool x = x_cmp_Less_int k x := by kernel_rfl
theorem e_x_cmp_Less_int (k : Nat) : EntryOk Tryz.prog ⟨307, 0, (.cons (.int .i64) (.cons (.int .i64) .nil)), .bool, x_cmp_Less_int k⟩ := entry_ok tok (by intro e he; simp only [List.mem_cons, List.not_mem_nil, or_false] at he; rcases he with rfl <;> first | exact e_x_cmp_isNaN_int k) (by kernel_rfl) (fn := Tryz.f307) (k := k) (es := [⟨291, 0, (.cons (.int .i64) .nil), .bool, x_cmp_isNaN_int k⟩]) (loops := []) (by kernel_rfl) (by kernel_rfl) (fun x r h => (t_x_cmp_Less_int k x).trans h)
def x_slices_insertionSortOrdered_int (k : Nat) (x : List (Int) × Int × Int × Unit) : Option (Unit × List (Int) × Unit × Unit × Unit) :=
(whileK (fun (rec0 : (List (Int) × Int × Int × Int × Unit) → Option _) (y0 : List (Int) × Int × Int × Int × Unit) =>
(if (decide (y0.2.2.2.1 < y0.2.2.1)) = true then
(whileK (fun (rec2 : (List (Int) × Int × Int × Int × Int × Unit) → Option _) (y2 : List (Int) × Int × Int × Int × Int × Unit) =>
(if (decide (y2.2.1 < y2.2.2.2.2.1)) = true then
(if 0 ≤ y2.2.2.2.2.1 ∧ y2.2.2.2.2.1 < (List.length y2.1 : Int) then
(if 0 ≤ (wi64 (y2.2.2.2.2.1 - (1 : Int))) ∧ (wi64 (y2.2.2.2.2.1 - (1 : Int))) < (List.length y2.1 : Int) then
((x_cmp_Less_int k ((Ty.rd (t := (.int .i64)) y2.1 y2.2.2.2.2.1), ((Ty.rd (t := (.int .i64)) y2.1 (wi64 (y2.2.2.2.2.1 - (1 : Int)))), ()))).bind fun p1 =>
(if p1.1 = true then
(if 0 ≤ (wi64 (y2.2.2.2.2.1 - (1 : Int))) ∧ (wi64 (y2.2.2.2.2.1 - (1 : Int))) < (List.length y2.1 : Int) then
(if 0 ≤ y2.2.2.2.2.1 ∧ y2.2.2.2.2.1 < (List.length y2.1 : Int) then
(if 0 ≤ y2.2.2.2.2.1 ∧ y2.2.2.2.2.1 < (List.length y2.1 : Int) then
(if 0 ≤ (wi64 (y2.2.2.2.2.1 - (1 : Int))) ∧ (wi64 (y2.2.2.2.2.1 - (1 : Int))) < (List.length (List.set y2.1 (Int.toNat y2.2.2.2.2.1) (Ty.rd (t := (.int .i64)) y2.1 (wi64 (y2.2.2.2.2.1 - (1 : Int))))) : Int) then
(rec2 ((List.set (List.set y2.1 (Int.toNat y2.2.2.2.2.1) (Ty.rd (t := (.int .i64)) y2.1 (wi64 (y2.2.2.2.2.1 - (1 : Int))))) (Int.toNat (wi64 (y2.2.2.2.2.1 - (1 : Int)))) (Ty.rd (t := (.int .i64)) y2.1 y2.2.2.2.2.1)), (y2.2.1, (y2.2.2.1, (y2.2.2.2.1, ((wi64 (y2.2.2.2.2.1 - (1 : Int))), ()))))))
else none)
else none)
else none)
else none)
else
((fun (z1 : List (Int) × Int × Int × Int × Unit) =>
(rec0 (z1.1, (z1.2.1, (z1.2.2.1, ((wi64 (z1.2.2.2.1 + (1 : Int))), ())))))) (y2.1, (y2.2.1, (y2.2.2.1, (y2.2.2.2.1, ())))))))
else none)
else none)
else
((fun (z1 : List (Int) × Int × Int × Int × Unit) =>
(rec0 (z1.1, (z1.2.1, (z1.2.2.1, ((wi64 (z1.2.2.2.1 + (1 : Int))), ())))))) (y2.1, (y2.2.1, (y2.2.2.1, (y2.2.2.2.1, ()))))))) k (y0.1, (y0.2.1, (y0.2.2.1, (y0.2.2.2.1, (y0.2.2.2.1, ()))))))
else
((fun (z2 : List (Int) × Unit) =>
some ((), (z2.1, ((), ((), ()))))) (y0.1, ())))) k (x.1, (x.2.1, (x.2.2.1, ((wi64 (x.2.1 + (1 : Int))), ())))))
theorem t_x_slices_insertionSortOrdered_int (k : Nat) (x) : evF TTab k [⟨307, 0, (.cons (.int .i64) (.cons (.int .i64) .nil)), .bool, x_cmp_Less_int k⟩] [(0, ⟨[0, 1, 2, 6], (.cons (.own false 3 (.int .i64)) (.cons (.int .i64) (.cons (.int .i64) (.cons (.int .i64) .nil))))⟩, ⟨[0], (.cons (.own false 3 (.int .i64)) .nil)⟩), (2, ⟨[0, 1, 2, 6, 7], (.cons (.own false 3 (.int .i64)) (.cons (.int .i64) (.cons (.int .i64) (.cons (.int .i64) (.cons (.int .i64) .nil)))))⟩, ⟨[0, 1, 2, 6], (.cons (.own false 3 (.int .i64)) (.cons (.int .i64) (.cons (.int .i64) (.cons (.int .i64) .nil))))⟩)] Tryz.f301 (.cons (.mut false 3 (.int .i64)) (.cons (.int .i64) (.cons (.int .i64) .nil))) (.tup .nil) x = x_slices_insertionSortOrdered_int k x := by kernel_rfl
theorem e_x_slices_insertionSortOrdered_int (k : Nat) : EntryOk Tryz.prog ⟨301, 0, (.cons (.mut false 3 (.int .i64)) (.cons (.int .i64) (.cons (.int .i64) .nil))), (.tup .nil), x_slices_insertionSortOrdered_int k⟩ := entry_ok tok (by intro e he; simp only [List.mem_cons, List.not_mem_nil, or_false] at he; rcases he with rfl <;> first | exact e_x_cmp_Less_int k) (by kernel_rfl) (fn := Tryz.f301) (k := k) (es := [⟨307, 0, (.cons (.int .i64) (.cons (.int .i64) .nil)), .bool, x_cmp_Less_int k⟩]) (loops := [(0, ⟨[0, 1, 2, 6], (.cons (.own false 3 (.int .i64)) (.cons (.int .i64) (.cons (.int .i64) (.cons (.int .i64) .nil))))⟩, ⟨[0], (.cons (.own false 3 (.int .i64)) .nil)⟩), (2, ⟨[0, 1, 2, 6, 7], (.cons (.own false 3 (.int .i64)) (.cons (.int .i64) (.cons (.int .i64) (.cons (.int .i64) (.cons (.int .i64) .nil)))))⟩, ⟨[0, 1, 2, 6], (.cons (.own false 3 (.int .i64)) (.cons (.int .i64) (.cons (.int .i64) (.cons (.int .i64) .nil))))⟩)]) (by kernel_rfl) (by kernel_rfl) (fun x r h => (t_x_slices_insertionSortOrdered_int k x).trans h)
def x_bits_Len64 (k : Nat) (x : Int × Unit) : Option (Int × Unit × Unit) :=
(jn (fun (j4v0 : Int) (j4v1 : Int) =>
(jn (fun (j6v0 : Int) (j6v1 : Int) =>
(jn (fun (j7v0 : Int) (j7v1 : Int) =>
(if 0 ≤ (wu8 (j7v0)) ∧ (wu8 (j7v0)) < (ByteArray.size (⟨#[0, 1, 2, 2, 3, 3, 3, 3, 4, 4, 4, 4, 4, 4, 4, 4, 5, 5, 5, 5, 5, 5, 5, 5, 5, 5, 5, 5, 5, 5, 5, 5, 6, 6, 6, 6, 6, 6, 6, 6, 6, 6, 6, 6, 6, 6, 6, 6, 6, 6, 6, 6, 6, 6, 6, 6, 6, 6, 6, 6, 6, 6, 6, 6, 7, 7, 7, 7, 7, 7, 7, 7, 7, 7, 7, 7, 7, 7, 7, 7, 7, 7, 7, 7, 7, 7, 7, 7, 7, 7, 7, 7, 7, 7, 7, 7, 7, 7, 7, 7, 7, 7, 7, 7, 7, 7, 7, 7, 7, 7, 7, 7, 7, 7, 7, 7, 7, 7, 7, 7, 7, 7, 7, 7, 7, 7, 7, 7, 8, 8, 8, 8, 8, 8, 8, 8, 8, 8, 8, 8, 8, 8, 8, 8, 8, 8, 8, 8, 8, 8, 8, 8, 8, 8, 8, 8, 8, 8, 8, 8, 8, 8, 8, 8, 8, 8, 8, 8, 8, 8, 8, 8, 8, 8, 8, 8, 8, 8, 8, 8, 8, 8, 8, 8, 8, 8, 8, 8, 8, 8, 8, 8, 8, 8, 8, 8, 8, 8, 8, 8, 8, 8, 8, 8, 8, 8, 8, 8, 8, 8, 8, 8, 8, 8, 8, 8, 8, 8, 8, 8, 8, 8, 8, 8, 8, 8, 8, 8, 8, 8, 8, 8, 8, 8, 8, 8, 8, 8, 8, 8, 8, 8, 8, 8, 8, 8, 8, 8, 8, 8, 8, 8, 8, 8, 8, 8]⟩ : ByteArray) : Int) then
some ((wi64 (j7v1 + (wi64 ((bt (⟨#[0, 1, 2, 2, 3, 3, 3, 3, 4, 4, 4, 4, 4, 4, 4, 4, 5, 5, 5, 5, 5, 5, 5, 5, 5, 5, 5, 5, 5, 5, 5, 5, 6, 6, 6, 6, 6, 6, 6, 6, 6, 6, 6, 6, 6, 6, 6, 6, 6, 6, 6, 6, 6, 6, 6, 6, 6, 6, 6, 6, 6, 6, 6, 6, 7, 7, 7, 7, 7, 7, 7, 7, 7, 7, 7, 7, 7, 7, 7, 7, 7, 7, 7, 7, 7, 7, 7, 7, 7, 7, 7, 7, 7, 7, 7, 7, 7, 7, 7, 7, 7, 7, 7, 7, 7, 7, 7, 7, 7, 7, 7, 7, 7, 7, 7, 7, 7, 7, 7, 7, 7, 7, 7, 7, 7, 7, 7, 7, 8, 8, 8, 8, 8, 8, 8, 8, 8, 8, 8, 8, 8, 8, 8, 8, 8, 8, 8, 8, 8, 8, 8, 8, 8, 8, 8, 8, 8, 8, 8, 8, 8, 8, 8, 8, 8, 8, 8, 8, 8, 8, 8, 8, 8, 8, 8, 8, 8, 8, 8, 8, 8, 8, 8, 8, 8, 8, 8, 8, 8, 8, 8, 8, 8, 8, 8, 8, 8, 8, 8, 8, 8, 8, 8, 8, 8, 8, 8, 8, 8, 8, 8, 8, 8, 8, 8, 8, 8, 8, 8, 8, 8, 8, 8, 8, 8, 8, 8, 8, 8, 8, 8, 8, 8, 8, 8, 8, 8, 8, 8, 8, 8, 8, 8, 8, 8, 8, 8, 8, 8, 8, 8, 8, 8, 8, 8, 8]⟩ : ByteArray) (wu8 (j7v0))))))), ((), ()))
else none)) (fun (j7 : Int → Int → Option _) =>
(if (decide ((256 : Int) ≤ j6v0)) = true then
(j7 (Int.fdiv j6v0 (2 ^ (min (Int.toNat (8 : Int)) (IntKind.bits .u64)))) (wi64 (j6v1 + (8 : Int))))
else
(j7 j6v0 j6v1))))) (fun (j6 : Int → Int → Option _) =>
(if (decide ((65536 : Int) ≤ j4v0)) = true then
(j6 (Int.fdiv j4v0 (2 ^ (min (Int.toNat (16 : Int)) (IntKind.bits .u64)))) (wi64 (j4v1 + (16 : Int))))
else
(j6 j4v0 j4v1))))) (fun (j4 : Int → Int → Option _) =>
(if (decide ((4294967296 : Int) ≤ x.1)) = true then
(j4 (Int.fdiv x.1 (2 ^ (min (Int.toNat (32 : Int)) (IntKind.bits .u64)))) (32 : Int))
else
(j4 x.1 (0 : Int)))))
theorem t_x_bits_Len64 (k : Nat) (x) : evF TTab k [] [] Tryz.f311 (.cons (.int .u64) .nil) (.int .i64) x = x_bits_Len64 k x := by kernel_rfl
theorem e_x_bits_Len64 (k : Nat) : EntryOk Tryz.prog ⟨311, 0, (.cons (.int .u64) .nil), (.int .i64), x_bits_Len64 k⟩ := entry_ok tok (by simp) (by kernel_rfl) (fn := Tryz.f311) (k := k) (es := []) (loops := []) (by kernel_rfl) (by kernel_rfl) (fun x r h => (t_x_bits_Len64 k x).trans h)
def x_bits_Len (k : Nat) (x : Int × Unit) : Option (Int × Unit × Unit) :=
((x_bits_Len64 k (x.1, ())).bind fun p1 =>
some (p1.1, ((), ())))
theorem t_x_bits_Len (k : Nat) (x) : evF TTab k [⟨311, 0, (.cons (.int .u64) .nil), (.int .i64), x_bits_Len64 k⟩] [] Tryz.f275 (.cons (.int .u64) .nil) (.int .i64) x = x_bits_Len k x := by kernel_rfl
theorem e_x_bits_Len (k : Nat) : EntryOk Tryz.prog ⟨275, 0, (.cons (.int .u64) .nil), (.int .i64), x_bits_Len k⟩ := entry_ok tok (by intro e he; simp only [List.mem_cons, List.not_mem_nil, or_false] at he; rcases he with rfl <;> first | exact e_x_bits_Len64 k) (by kernel_rfl) (fn := Tryz.f275) (k := k) (es := [⟨311, 0, (.cons (.int .u64) .nil), (.int .i64), x_bits_Len64 k⟩]) (loops := []) (by kernel_rfl) (by kernel_rfl) (fun x r h => (t_x_bits_Len k x).trans h)
def x_slices_pdqsortOrdered_int (k : Nat) (x : List (Int) × Int × Int × Int × Unit) : Option (Unit × List (Int) × Unit × Unit × Unit × Unit) :=
(whileK (fun (rec0 : (List (Int) × Int × Int × Int × Bool × Bool × Unit) → Option _) (y0 : List (Int) × Int × Int × Int × Bool × Bool × Unit) =>
(if (decide ((wi64 (y0.2.2.1 - y0.2.1)) ≤ (12 : Int))) = true then
((x_slices_insertionSortOrdered_int k (y0.1, (y0.2.1, (y0.2.2.1, ())))).bind fun p1 =>
some ((), (p1.2.1, ((), ((), ((), ()))))))
else
(if (decide (y0.2.2.2.1 = (0 : Int))) = true then
none
else
(if (!y0.2.2.2.2.1) = true then
none
else
none)))) k (x.1, (x.2.1, (x.2.2.1, (x.2.2.2.1, (true, (true, ())))))))
theorem t_x_slices_pdqsortOrdered_int (k : Nat) (x) : evF TTab k [⟨301, 0, (.cons (.mut false 3 (.int .i64)) (.cons (.int .i64) (.cons (.int .i64) .nil))), (.tup .nil), x_slices_insertionSortOrdered_int k⟩] [(0, ⟨[0, 1, 2, 3, 8, 9], (.cons (.own false 3 (.int .i64)) (.cons (.int .i64) (.cons (.int .i64) (.cons (.int .i64) (.cons .bool (.cons .bool .nil))))))⟩, ⟨[], .nil⟩)] Tryz.f274 (.cons (.mut false 3 (.int .i64)) (.cons (.int .i64) (.cons (.int .i64) (.cons (.int .i64) .nil)))) (.tup .nil) x = x_slices_pdqsortOrdered_int k x := by kernel_rfl
theorem e_x_slices_pdqsortOrdered_int (k : Nat) : EntryOk Tryz.prog ⟨274, 0, (.cons (.mut false 3 (.int .i64)) (.cons (.int .i64) (.cons (.int .i64) (.cons (.int .i64) .nil)))), (.tup .nil), x_slices_pdqsortOrdered_int k⟩ := entry_ok tok (by intro e he; simp only [List.mem_cons, List.not_mem_nil, or_false] at he; rcases he with rfl <;> first | exact e_x_slices_insertionSortOrdered_int k) (by kernel_rfl) (fn := Tryz.f274) (k := k) (es := [⟨301, 0, (.cons (.mut false 3 (.int .i64)) (.cons (.int .i64) (.cons (.int .i64) .nil))), (.tup .nil), x_slices_insertionSortOrdered_int k⟩]) (loops := [(0, ⟨[0, 1, 2, 3, 8, 9], (.cons (.own false 3 (.int .i64)) (.cons (.int .i64) (.cons (.int .i64) (.cons (.int .i64) (.cons .bool (.cons .bool .nil))))))⟩, ⟨[], .nil⟩)]) (by kernel_rfl) (by kernel_rfl) (fun x r h => (t_x_slices_pdqsortOrdered_int k x).trans h)
def x_slices_Sort_int_int (k : Nat) (x : List (Int) × Unit) : Option (Unit × List (Int) × Unit) :=
((x_bits_Len k ((wu64 ((List.length x.1 : Int))), ())).bind fun p1 =>
((x_slices_pdqsortOrdered_int k (x.1, ((0 : Int), ((List.length x.1 : Int), (p1.1, ()))))).bind fun p2 =>
some ((), (p2.2.1, ()))))
theorem t_x_slices_Sort_int_int (k : Nat) (x) : evF TTab k [⟨274, 0, (.cons (.mut false 3 (.int .i64)) (.cons (.int .i64) (.cons (.int .i64) (.cons (.int .i64) .nil)))), (.tup .nil), x_slices_pdqsortOrdered_int k⟩, ⟨275, 0, (.cons (.int .u64) .nil), (.int .i64), x_bits_Len k⟩] [] Tryz.f218 (.cons (.mut false 3 (.int .i64)) .nil) (.tup .nil) x = x_slices_Sort_int_int k x := by kernel_rfl
theorem e_x_slices_Sort_int_int (k : Nat) : EntryOk Tryz.prog ⟨218, 0, (.cons (.mut false 3 (.int .i64)) .nil), (.tup .nil), x_slices_Sort_int_int k⟩ := entry_ok tok (by intro e he; simp only [List.mem_cons, List.not_mem_nil, or_false] at he; rcases he with rfl | rfl <;> first | exact e_x_slices_pdqsortOrdered_int k | exact e_x_bits_Len k) (by kernel_rfl) (fn := Tryz.f218) (k := k) (es := [⟨274, 0, (.cons (.mut false 3 (.int .i64)) (.cons (.int .i64) (.cons (.int .i64) (.cons (.int .i64) .nil)))), (.tup .nil), x_slices_pdqsortOrdered_int k⟩, ⟨275, 0, (.cons (.int .u64) .nil), (.int .i64), x_bits_Len k⟩]) (loops := []) (by kernel_rfl) (by kernel_rfl) (fun x r h => (t_x_slices_Sort_int_int k x).trans h)
def x_slices_Reverse_int_int (k : Nat) (x : List (Int) × Unit) : Option (Unit × List (Int) × Unit) :=
(whileK (fun (rec0 : (List (Int) × Int × Int × Unit) → Option _) (y0 : List (Int) × Int × Int × Unit) =>
(if (decide (y0.2.1 < y0.2.2.1)) = true then
(if 0 ≤ y0.2.2.1 ∧ y0.2.2.1 < (List.length y0.1 : Int) then
(if 0 ≤ y0.2.1 ∧ y0.2.1 < (List.length y0.1 : Int) then
(if 0 ≤ y0.2.1 ∧ y0.2.1 < (List.length y0.1 : Int) then
(if 0 ≤ y0.2.2.1 ∧ y0.2.2.1 < (List.length (List.set y0.1 (Int.toNat y0.2.1) (Ty.rd (t := (.int .i64)) y0.1 y0.2.2.1)) : Int) then
(rec0 ((List.set (List.set y0.1 (Int.toNat y0.2.1) (Ty.rd (t := (.int .i64)) y0.1 y0.2.2.1)) (Int.toNat y0.2.2.1) (Ty.rd (t := (.int .i64)) y0.1 y0.2.1)), ((wi64 (y0.2.1 + (1 : Int))), ((wi64 (y0.2.2.1 - (1 : Int))), ()))))
else none)
else none)
else none)
else none)
else
((fun (z1 : List (Int) × Unit) =>
some ((), (z1.1, ()))) (y0.1, ())))) k (x.1, ((0 : Int), ((wi64 ((List.length x.1 : Int) - (1 : Int))), ()))))
theorem t_x_slices_Reverse_int_int (k : Nat) (x) : evF TTab k [] [(0, ⟨[0, 2, 3], (.cons (.own false 3 (.int .i64)) (.cons (.int .i64) (.cons (.int .i64) .nil)))⟩, ⟨[0], (.cons (.own false 3 (.int .i64)) .nil)⟩)] Tryz.f219 (.cons (.mut false 3 (.int .i64)) .nil) (.tup .nil) x = x_slices_Reverse_int_int k x := by kernel_rfl
theorem e_x_slices_Reverse_int_int (k : Nat) : EntryOk Tryz.prog ⟨219, 0, (.cons (.mut false 3 (.int .i64)) .nil), (.tup .nil), x_slices_Reverse_int_int k⟩ := entry_ok tok (by simp) (by kernel_rfl) (fn := Tryz.f219) (k := k) (es := []) (loops := [(0, ⟨[0, 2, 3], (.cons (.own false 3 (.int .i64)) (.cons (.int .i64) (.cons (.int .i64) .nil)))⟩, ⟨[0], (.cons (.own false 3 (.int .i64)) .nil)⟩)]) (by kernel_rfl) (by kernel_rfl) (fun x r h => (t_x_slices_Reverse_int_int k x).trans h)
def i_NoteSeen_1 (k : Nat) (x : Int × (Int × Unit) × Unit) : Option (Bool × Unit × (Int × Unit) × Unit) :=
some ((decide (x.1 ≤ (wi64 (x.2.1.1 - (6 : Int))))), ((), ((x.2.1.1, ()), ())))
theorem t_i_NoteSeen_1 (k : Nat) (x) : evF TTab k [] [] Tryz.f221 (.cons (.int .i64) (.cons (.ptr 0 (.cons (.int .i64) .nil)) .nil)) .bool x = i_NoteSeen_1 k x := by kernel_rfl
theorem e_i_NoteSeen_1 (k : Nat) : EntryOk Tryz.prog ⟨221, 0, (.cons (.int .i64) (.cons (.ptr 0 (.cons (.int .i64) .nil)) .nil)), .bool, i_NoteSeen_1 k⟩ := entry_ok tok (by simp) (by kernel_rfl) (fn := Tryz.f221) (k := k) (es := []) (loops := []) (by kernel_rfl) (by kernel_rfl) (fun x r h => (t_i_NoteSeen_1 k x).trans h)
def x_slices_IndexFunc_int_int_of_i_NoteSeen_1 (k : Nat) (x : List (Int) × ((Int × Unit) × Unit) × Unit) : Option (Int × Unit × ((Int × Unit) × Unit) × Unit) :=
(whileK (fun (rec0 : (List (Int) × ((Int × Unit) × Unit) × Int × Int × Unit) → Option _) (y0 : List (Int) × ((Int × Unit) × Unit) × Int × Int × Unit) =>
(if (decide (y0.2.2.2.1 < y0.2.2.1)) = true then
(if 0 ≤ y0.2.2.2.1 ∧ y0.2.2.2.1 < (List.length y0.1 : Int) then
((i_NoteSeen_1 k ((Ty.rd (t := (.int .i64)) y0.1 y0.2.2.2.1), ((y0.2.1.1.1, ()), ()))).bind fun p1 =>
(if p1.1 = true then
some (y0.2.2.2.1, ((), (((p1.2.2.1.1, ()), ()), ())))
else
(rec0 (y0.1, (((p1.2.2.1.1, ()), ()), (y0.2.2.1, ((wi64 (y0.2.2.2.1 + (1 : Int))), ())))))))
else none)
else
((fun (z1 : ((Int × Unit) × Unit) × Unit) =>
some ((-1 : Int), ((), (((z1.1.1.1, ()), ()), ())))) (((y0.2.1.1.1, ()), ()), ())))) k (x.1, (((x.2.1.1.1, ()), ()), ((List.length x.1 : Int), ((0 : Int), ())))))
theorem t_x_slices_IndexFunc_int_int_of_i_NoteSeen_1 (k : Nat) (x) : evF TTab k [⟨221, 0, (.cons (.int .i64) (.cons (.ptr 0 (.cons (.int .i64) .nil)) .nil)), .bool, i_NoteSeen_1 k⟩] [(0, ⟨[0, 1, 7, 8], (.cons (.il true (.int .i64)) (.cons (.fn 221 (.cons (.ptr 0 (.cons (.int .i64) .nil)) .nil)) (.cons (.int .i64) (.cons (.int .i64) .nil))))⟩, ⟨[1], (.cons (.fn 221 (.cons (.ptr 0 (.cons (.int .i64) .nil)) .nil)) .nil)⟩)] Tryz.f276 (.cons (.il true (.int .i64)) (.cons (.fn 221 (.cons (.ptr 0 (.cons (.int .i64) .nil)) .nil)) .nil)) (.int .i64) x = x_slices_IndexFunc_int_int_of_i_NoteSeen_1 k x := by kernel_rfl
theorem e_x_slices_IndexFunc_int_int_of_i_NoteSeen_1 (k : Nat) : EntryOk Tryz.prog ⟨276, 222, (.cons (.il true (.int .i64)) (.cons (.fn 221 (.cons (.ptr 0 (.cons (.int .i64) .nil)) .nil)) .nil)), (.int .i64), x_slices_IndexFunc_int_int_of_i_NoteSeen_1 k⟩ := entry_ok tok (by intro e he; simp only [List.mem_cons, List.not_mem_nil, or_false] at he; rcases he with rfl <;> first | exact e_i_NoteSeen_1 k) (by kernel_rfl) (fn := Tryz.f276) (k := k) (es := [⟨221, 0, (.cons (.int .i64) (.cons (.ptr 0 (.cons (.int .i64) .nil)) .nil)), .bool, i_NoteSeen_1 k⟩]) (loops := [(0, ⟨[0, 1, 7, 8], (.cons (.il true (.int .i64)) (.cons (.fn 221 (.cons (.ptr 0 (.cons (.int .i64) .nil)) .nil)) (.cons (.int .i64) (.cons (.int .i64) .nil))))⟩, ⟨[1], (.cons (.fn 221 (.cons (.ptr 0 (.cons (.int .i64) .nil)) .nil)) .nil)⟩)]) (by kernel_rfl) (by kernel_rfl) (fun x r h => (t_x_slices_IndexFunc_int_int_of_i_NoteSeen_1 k x).trans h)
def x_slices_DeleteFunc_int_int_of_i_NoteSeen_1 (k : Nat) (x : List (Int) × ((Int × Unit) × Unit) × Unit) : Option (List (Int) × Unit × ((Int × Unit) × Unit) × Unit) :=
((x_slices_IndexFunc_int_int_of_i_NoteSeen_1 k (x.1, (((x.2.1.1.1, ()), ()), ()))).bind fun p1 =>
(if (decide (p1.1 = (-1 : Int))) = true then
some (x.1, ((), (((p1.2.2.1.1.1, ()), ()), ())))
else
(whileK (fun (rec0 : (List (Int) × ((Int × Unit) × Unit) × Int × Int × Unit) → Option _) (y0 : List (Int) × ((Int × Unit) × Unit) × Int × Int × Unit) =>
(if (decide (y0.2.2.2.1 < (List.length y0.1 : Int))) = true then
(if 0 ≤ y0.2.2.2.1 ∧ y0.2.2.2.1 < (List.length y0.1 : Int) then
((i_NoteSeen_1 k ((Ty.rd (t := (.int .i64)) y0.1 y0.2.2.2.1), ((y0.2.1.1.1, ()), ()))).bind fun p2 =>
(if (!p2.1) = true then
(if 0 ≤ y0.2.2.1 ∧ y0.2.2.1 < (List.length y0.1 : Int) then
(rec0 ((List.set y0.1 (Int.toNat y0.2.2.1) (Ty.rd (t := (.int .i64)) y0.1 y0.2.2.2.1)), (((p2.2.2.1.1, ()), ()), ((wi64 (y0.2.2.1 + (1 : Int))), ((wi64 (y0.2.2.2.1 + (1 : Int))), ())))))
else none)
else
(rec0 (y0.1, (((p2.2.2.1.1, ()), ()), (y0.2.2.1, ((wi64 (y0.2.2.2.1 + (1 : Int))), ())))))))
else none)
else
((fun (z1 : List (Int) × ((Int × Unit) × Unit) × Int × Unit) =>
(if 0 ≤ z1.2.2.1 ∧ z1.2.2.1 ≤ (List.length z1.1 : Int) then
(if 0 ≤ z1.2.2.1 ∧ z1.2.2.1 ≤ (List.length (List.take (Int.toNat z1.2.2.1) z1.1 ++ (List.replicate (Int.toNat ((List.length z1.1 : Int) - z1.2.2.1)) (0 : Int) ++ List.drop (Int.toNat (List.length z1.1 : Int)) z1.1)) : Int) then
some ((List.drop (Int.toNat (0 : Int)) (List.take (Int.toNat z1.2.2.1) (List.take (Int.toNat z1.2.2.1) z1.1 ++ (List.replicate (Int.toNat ((List.length z1.1 : Int) - z1.2.2.1)) (0 : Int) ++ List.drop (Int.toNat (List.length z1.1 : Int)) z1.1)))), ((), (((z1.2.1.1.1, ()), ()), ())))
else none)
else none)) (y0.1, (((y0.2.1.1.1, ()), ()), (y0.2.2.1, ())))))) k (x.1, (((p1.2.2.1.1.1, ()), ()), (p1.1, ((wi64 (p1.1 + (1 : Int))), ())))))))
theorem t_x_slices_DeleteFunc_int_int_of_i_NoteSeen_1 (k : Nat) (x) : evF TTab k [⟨221, 0, (.cons (.int .i64) (.cons (.ptr 0 (.cons (.int .i64) .nil)) .nil)), .bool, i_NoteSeen_1 k⟩, ⟨276, 222, (.cons (.il true (.int .i64)) (.cons (.fn 221 (.cons (.ptr 0 (.cons (.int .i64) .nil)) .nil)) .nil)), (.int .i64), x_slices_IndexFunc_int_int_of_i_NoteSeen_1 k⟩] [(0, ⟨[0, 1, 5, 6], (.cons (.own false 3 (.int .i64)) (.cons (.fn 221 (.cons (.ptr 0 (.cons (.int .i64) .nil)) .nil)) (.cons (.int .i64) (.cons (.int .i64) .nil))))⟩, ⟨[0, 1, 5], (.cons (.own false 3 (.int .i64)) (.cons (.fn 221 (.cons (.ptr 0 (.cons (.int .i64) .nil)) .nil)) (.cons (.int .i64) .nil)))⟩)] Tryz.f220 (.cons (.own false 3 (.int .i64)) (.cons (.fn 221 (.cons (.ptr 0 (.cons (.int .i64) .nil)) .nil)) .nil)) (.own false 3 (.int .i64)) x = x_slices_DeleteFunc_int_int_of_i_NoteSeen_1 k x := by kernel_rfl
theorem e_x_slices_DeleteFunc_int_int_of_i_NoteSeen_1 (k : Nat) : EntryOk Tryz.prog ⟨220, 222, (.cons (.own false 3 (.int .i64)) (.cons (.fn 221 (.cons (.ptr 0 (.cons (.int .i64) .nil)) .nil)) .nil)), (.own false 3 (.int .i64)), x_slices_DeleteFunc_int_int_of_i_NoteSeen_1 k⟩ := entry_ok tok (by intro e he; simp only [List.mem_cons, List.not_mem_nil, or_false] at he; rcases he with rfl | rfl <;> first | exact e_i_NoteSeen_1 k | exact e_x_slices_IndexFunc_int_int_of_i_NoteSeen_1 k) (by kernel_rfl) (fn := Tryz.f220) (k := k) (es := [⟨221, 0, (.cons (.int .i64) (.cons (.ptr 0 (.cons (.int .i64) .nil)) .nil)), .bool, i_NoteSeen_1 k⟩, ⟨276, 222, (.cons (.il true (.int .i64)) (.cons (.fn 221 (.cons (.ptr 0 (.cons (.int .i64) .nil)) .nil)) .nil)), (.int .i64), x_slices_IndexFunc_int_int_of_i_NoteSeen_1 k⟩]) (loops := [(0, ⟨[0, 1, 5, 6], (.cons (.own false 3 (.int .i64)) (.cons (.fn 221 (.cons (.ptr 0 (.cons (.int .i64) .nil)) .nil)) (.cons (.int .i64) (.cons (.int .i64) .nil))))⟩, ⟨[0, 1, 5], (.cons (.own false 3 (.int .i64)) (.cons (.fn 221 (.cons (.ptr 0 (.cons (.int .i64) .nil)) .nil)) (.cons (.int .i64) .nil)))⟩)]) (by kernel_rfl) (by kernel_rfl) (fun x r h => (t_x_slices_DeleteFunc_int_int_of_i_NoteSeen_1 k x).trans h)
def i_NoteSeen (k : Nat) (x : List (Int) × Int × Unit) : Option (List (Int) × Unit × Unit × Unit) :=
((i_IsFresh k (x.1, (x.2.1, ()))).bind fun p1 =>
(if (!p1.1) = true then
((i_copyInts k (x.1, ())).bind fun p2 =>
some (p2.1, ((), ((), ()))))
else
((i_copyInts k (x.1, ())).bind fun p3 =>
(if List.length p3.1 + List.length ([x.2.1] : List (Int)) ≤ capMax then
((x_slices_Sort_int_int k ((p3.1 ++ ([x.2.1] : List (Int))), ())).bind fun p4 =>
((x_slices_Reverse_int_int k (p4.2.1, ())).bind fun p5 =>
(if 0 ≤ (0 : Int) ∧ (0 : Int) < (List.length p5.2.1 : Int) then
((x_slices_DeleteFunc_int_int_of_i_NoteSeen_1 k (p5.2.1, ((((Ty.rd (t := (.int .i64)) p5.2.1 (0 : Int)), ()), ()), ()))).bind fun p6 =>
some (p6.1, ((), ((), ()))))
else none)))
else none))))
theorem t_i_NoteSeen (k : Nat) (x) : evF TTab k [⟨143, 0, (.cons (.il true (.int .i64)) .nil), (.own false 3 (.int .i64)), i_copyInts k⟩, ⟨145, 0, (.cons (.il true (.int .i64)) (.cons (.int .i64) .nil)), .bool, i_IsFresh k⟩, ⟨218, 0, (.cons (.mut false 3 (.int .i64)) .nil), (.tup .nil), x_slices_Sort_int_int k⟩, ⟨219, 0, (.cons (.mut false 3 (.int .i64)) .nil), (.tup .nil), x_slices_Reverse_int_int k⟩, ⟨220, 222, (.cons (.own false 3 (.int .i64)) (.cons (.fn 221 (.cons (.ptr 0 (.cons (.int .i64) .nil)) .nil)) .nil)), (.own false 3 (.int .i64)), x_slices_DeleteFunc_int_int_of_i_NoteSeen_1 k⟩] [] Tryz.f146 (.cons (.il true (.int .i64)) (.cons (.int .i64) .nil)) (.own false 3 (.int .i64)) x = i_NoteSeen k x := by kernel_rfl
theorem e_i_NoteSeen (k : Nat) : EntryOk Tryz.prog ⟨146, 0, (.cons (.il true (.int .i64)) (.cons (.int .i64) .nil)), (.own false 3 (.int .i64)), i_NoteSeen k⟩ := entry_ok tok (by intro e he; simp only [List.mem_cons, List.not_mem_nil, or_false] at he; rcases he with rfl | rfl | rfl | rfl | rfl <;> first | exact e_i_copyInts k | exact e_i_IsFresh k | exact e_x_slices_Sort_int_int k | exact e_x_slices_Reverse_int_int k | exact e_x_slices_DeleteFunc_int_int_of_i_NoteSeen_1 k) (by kernel_rfl) (fn := Tryz.f146) (k := k) (es := [⟨143, 0, (.cons (.il true (.int .i64)) .nil), (.own false 3 (.int .i64)), i_copyInts k⟩, ⟨145, 0, (.cons (.il true (.int .i64)) (.cons (.int .i64) .nil)), .bool, i_IsFresh k⟩, ⟨218, 0, (.cons (.mut false 3 (.int .i64)) .nil), (.tup .nil), x_slices_Sort_int_int k⟩, ⟨219, 0, (.cons (.mut false 3 (.int .i64)) .nil), (.tup .nil), x_slices_Reverse_int_int k⟩, ⟨220, 222, (.cons (.own false 3 (.int .i64)) (.cons (.fn 221 (.cons (.ptr 0 (.cons (.int .i64) .nil)) .nil)) .nil)), (.own false 3 (.int .i64)), x_slices_DeleteFunc_int_int_of_i_NoteSeen_1 k⟩]) (loops := []) (by kernel_rfl) (by kernel_rfl) (fun x r h => (t_i_NoteSeen k x).trans h)
def i_openIn_at_6 (k : Nat) (x : (Int × ByteArray × ByteArray × Int × List (Int) × Int × Int × ByteArray × ByteArray × Int × List (Int) × Int × Unit) × (Int × Int × Int × Int × Int × List (Int) × ByteArray × Unit) × Unit) : Option ((ByteArray × Bool × Unit) × (Int × ByteArray × ByteArray × Int × List (Int) × Int × Int × ByteArray × ByteArray × Int × List (Int) × Int × Unit) × Unit × Unit) :=
((i_OpenText k (x.1.2.2.2.2.2.2.2.2.1, (x.2.1.2.2.2.2.1, (x.2.1.2.2.2.2.2.2.1, ())))).bind fun p1 =>
(if (!p1.1.2.1) = false then
((i_IsFresh k (x.1.2.2.2.2.2.2.2.2.2.2.1, (x.2.1.2.2.2.2.1, ()))).bind fun p2 =>
(if (!p2.1) = true then
some (((⟨#[]⟩ : ByteArray), (false, ())), ((x.1.1, (x.1.2.1, (x.1.2.2.1, (x.1.2.2.2.1, (x.1.2.2.2.2.1, (x.1.2.2.2.2.2.1, (x.1.2.2.2.2.2.2.1, (x.1.2.2.2.2.2.2.2.1, (x.1.2.2.2.2.2.2.2.2.1, (x.1.2.2.2.2.2.2.2.2.2.1, (x.1.2.2.2.2.2.2.2.2.2.2.1, (x.1.2.2.2.2.2.2.2.2.2.2.2.1, ())))))))))))), ((), ())))
else
((i_NoteSeen k (x.1.2.2.2.2.2.2.2.2.2.2.1, (x.2.1.2.2.2.2.1, ()))).bind fun p3 =>
some ((p1.1.1, (true, ())), ((x.1.1, (x.1.2.1, (x.1.2.2.1, (x.1.2.2.2.1, (x.1.2.2.2.2.1, (x.1.2.2.2.2.2.1, (x.1.2.2.2.2.2.2.1, (x.1.2.2.2.2.2.2.2.1, (x.1.2.2.2.2.2.2.2.2.1, (x.1.2.2.2.2.2.2.2.2.2.1, (p3.1, (x.1.2.2.2.2.2.2.2.2.2.2.2.1, ())))))))))))), ((), ()))))))
else
some (((⟨#[]⟩ : ByteArray), (false, ())), ((x.1.1, (x.1.2.1, (x.1.2.2.1, (x.1.2.2.2.1, (x.1.2.2.2.2.1, (x.1.2.2.2.2.2.1, (x.1.2.2.2.2.2.2.1, (x.1.2.2.2.2.2.2.2.1, (x.1.2.2.2.2.2.2.2.2.1, (x.1.2.2.2.2.2.2.2.2.2.1, (x.1.2.2.2.2.2.2.2.2.2.2.1, (x.1.2.2.2.2.2.2.2.2.2.2.2.1, ())))))))))))), ((), ())))))
theorem t_i_openIn_at_6 (k : Nat) (x) : evF TTab k [⟨144, 0, (.cons .str (.cons (.int .i64) (.cons .str .nil))), (.tup (.cons .str (.cons .bool .nil))), i_OpenText k⟩, ⟨145, 0, (.cons (.il true (.int .i64)) (.cons (.int .i64) .nil)), .bool, i_IsFresh k⟩, ⟨146, 0, (.cons (.il true (.int .i64)) (.cons (.int .i64) .nil)), (.own false 3 (.int .i64)), i_NoteSeen k⟩] [] Tryz.f68 (.cons (.ptr 6 (.cons (.int .i64) (.cons .str (.cons .str (.cons (.int .i64) (.cons (.own false 3 (.int .i64)) (.cons (.int .i64) (.cons (.int .i64) (.cons .str (.cons .str (.cons (.int .i64) (.cons (.own false 3 (.int .i64)) (.cons (.int .i64) .nil))))))))))))) (.cons (.agg (.cons (.int .i64) (.cons (.int .i64) (.cons (.int .i64) (.cons (.int .i64) (.cons (.int .i64) (.cons (.il true (.int .i64)) (.cons .str .nil)))))))) .nil)) (.tup (.cons .str (.cons .bool .nil))) x = i_openIn_at_6 k x := by kernel_rfl
theorem e_i_openIn_at_6 (k : Nat) : EntryOk Tryz.prog ⟨68, 1000006, (.cons (.ptr 6 (.cons (.int .i64) (.cons .str (.cons .str (.cons (.int .i64) (.cons (.own false 3 (.int .i64)) (.cons (.int .i64) (.cons (.int .i64) (.cons .str (.cons .str (.cons (.int .i64) (.cons (.own false 3 (.int .i64)) (.cons (.int .i64) .nil))))))))))))) (.cons (.agg (.cons (.int .i64) (.cons (.int .i64) (.cons (.int .i64) (.cons (.int .i64) (.cons (.int .i64) (.cons (.il true (.int .i64)) (.cons .str .nil)))))))) .nil)), (.tup (.cons .str (.cons .bool .nil))), i_openIn_at_6 k⟩ := entry_ok tok (by intro e he; simp only [List.mem_cons, List.not_mem_nil, or_false] at he; rcases he with rfl | rfl | rfl <;> first | exact e_i_OpenText k | exact e_i_IsFresh k | exact e_i_NoteSeen k) (by kernel_rfl) (fn := Tryz.f68) (k := k) (es := [⟨144, 0, (.cons .str (.cons (.int .i64) (.cons .str .nil))), (.tup (.cons .str (.cons .bool .nil))), i_OpenText k⟩, ⟨145, 0, (.cons (.il true (.int .i64)) (.cons (.int .i64) .nil)), .bool, i_IsFresh k⟩, ⟨146, 0, (.cons (.il true (.int .i64)) (.cons (.int .i64) .nil)), (.own false 3 (.int .i64)), i_NoteSeen k⟩]) (loops := []) (by kernel_rfl) (by kernel_rfl) (fun x r h => (t_i_openIn_at_6 k x).trans h)
def i_openIn_v1 (k : Nat) (x : (Int × ByteArray × ByteArray × Int × List (Int) × Int × Int × ByteArray × ByteArray × Int × List (Int) × Int × Unit) × (Int × Int × Int × Int × Int × List (Int) × ByteArray × Unit) × Unit) : Option ((ByteArray × Bool × Unit) × (Int × ByteArray × ByteArray × Int × List (Int) × Int × Int × ByteArray × ByteArray × Int × List (Int) × Int × Unit) × Unit × Unit) :=
((i_OpenText k (x.1.2.2.1, (x.2.1.2.2.2.2.1, (x.2.1.2.2.2.2.2.2.1, ())))).bind fun p1 =>
(if (!p1.1.2.1) = false then
((i_IsFresh k (x.1.2.2.2.2.1, (x.2.1.2.2.2.2.1, ()))).bind fun p2 =>
(if (!p2.1) = true then
some (((⟨#[]⟩ : ByteArray), (false, ())), ((x.1.1, (x.1.2.1, (x.1.2.2.1, (x.1.2.2.2.1, (x.1.2.2.2.2.1, (x.1.2.2.2.2.2.1, (x.1.2.2.2.2.2.2.1, (x.1.2.2.2.2.2.2.2.1, (x.1.2.2.2.2.2.2.2.2.1, (x.1.2.2.2.2.2.2.2.2.2.1, (x.1.2.2.2.2.2.2.2.2.2.2.1, (x.1.2.2.2.2.2.2.2.2.2.2.2.1, ())))))))))))), ((), ())))
else
((i_NoteSeen k (x.1.2.2.2.2.1, (x.2.1.2.2.2.2.1, ()))).bind fun p3 =>
some ((p1.1.1, (true, ())), ((x.1.1, (x.1.2.1, (x.1.2.2.1, (x.1.2.2.2.1, (p3.1, (x.1.2.2.2.2.2.1, (x.1.2.2.2.2.2.2.1, (x.1.2.2.2.2.2.2.2.1, (x.1.2.2.2.2.2.2.2.2.1, (x.1.2.2.2.2.2.2.2.2.2.1, (x.1.2.2.2.2.2.2.2.2.2.2.1, (x.1.2.2.2.2.2.2.2.2.2.2.2.1, ())))))))))))), ((), ()))))))
else
some (((⟨#[]⟩ : ByteArray), (false, ())), ((x.1.1, (x.1.2.1, (x.1.2.2.1, (x.1.2.2.2.1, (x.1.2.2.2.2.1, (x.1.2.2.2.2.2.1, (x.1.2.2.2.2.2.2.1, (x.1.2.2.2.2.2.2.2.1, (x.1.2.2.2.2.2.2.2.2.1, (x.1.2.2.2.2.2.2.2.2.2.1, (x.1.2.2.2.2.2.2.2.2.2.2.1, (x.1.2.2.2.2.2.2.2.2.2.2.2.1, ())))))))))))), ((), ())))))
theorem t_i_openIn_v1 (k : Nat) (x) : evF TTab k [⟨144, 0, (.cons .str (.cons (.int .i64) (.cons .str .nil))), (.tup (.cons .str (.cons .bool .nil))), i_OpenText k⟩, ⟨145, 0, (.cons (.il true (.int .i64)) (.cons (.int .i64) .nil)), .bool, i_IsFresh k⟩, ⟨146, 0, (.cons (.il true (.int .i64)) (.cons (.int .i64) .nil)), (.own false 3 (.int .i64)), i_NoteSeen k⟩] [] Tryz.f68 (.cons (.ptr 0 (.cons (.int .i64) (.cons .str (.cons .str (.cons (.int .i64) (.cons (.own false 3 (.int .i64)) (.cons (.int .i64) (.cons (.int .i64) (.cons .str (.cons .str (.cons (.int .i64) (.cons (.own false 3 (.int .i64)) (.cons (.int .i64) .nil))))))))))))) (.cons (.agg (.cons (.int .i64) (.cons (.int .i64) (.cons (.int .i64) (.cons (.int .i64) (.cons (.int .i64) (.cons (.il true (.int .i64)) (.cons .str .nil)))))))) .nil)) (.tup (.cons .str (.cons .bool .nil))) x = i_openIn_v1 k x := by kernel_rfl
theorem e_i_openIn_v1 (k : Nat) : EntryOk Tryz.prog ⟨68, 0, (.cons (.ptr 0 (.cons (.int .i64) (.cons .str (.cons .str (.cons (.int .i64) (.cons (.own false 3 (.int .i64)) (.cons (.int .i64) (.cons (.int .i64) (.cons .str (.cons .str (.cons (.int .i64) (.cons (.own false 3 (.int .i64)) (.cons (.int .i64) .nil))))))))))))) (.cons (.agg (.cons (.int .i64) (.cons (.int .i64) (.cons (.int .i64) (.cons (.int .i64) (.cons (.int .i64) (.cons (.il true (.int .i64)) (.cons .str .nil)))))))) .nil)), (.tup (.cons .str (.cons .bool .nil))), i_openIn_v1 k⟩ := entry_ok tok (by intro e he; simp only [List.mem_cons, List.not_mem_nil, or_false] at he; rcases he with rfl | rfl | rfl <;> first | exact e_i_OpenText k | exact e_i_IsFresh k | exact e_i_NoteSeen k) (by kernel_rfl) (fn := Tryz.f68) (k := k) (es := [⟨144, 0, (.cons .str (.cons (.int .i64) (.cons .str .nil))), (.tup (.cons .str (.cons .bool .nil))), i_OpenText k⟩, ⟨145, 0, (.cons (.il true (.int .i64)) (.cons (.int .i64) .nil)), .bool, i_IsFresh k⟩, ⟨146, 0, (.cons (.il true (.int .i64)) (.cons (.int .i64) .nil)), (.own false 3 (.int .i64)), i_NoteSeen k⟩]) (loops := []) (by kernel_rfl) (by kernel_rfl) (fun x r h => (t_i_openIn_v1 k x).trans h)
def i_OpenData (k : Nat) (x : (Int × ByteArray × ByteArray × Int × List (Int) × Int × Int × ByteArray × ByteArray × Int × List (Int) × Int × Unit) × (Int × Int × Int × Int × Int × List (Int) × ByteArray × Unit) × Int × Unit) : Option (((Int × ByteArray × ByteArray × Int × List (Int) × Int × Int × ByteArray × ByteArray × Int × List (Int) × Int × Unit) × ByteArray × Bool × Unit) × Unit × Unit × Unit × Unit) :=
((i_copySlots k ((x.1.1, (x.1.2.1, (x.1.2.2.1, (x.1.2.2.2.1, (x.1.2.2.2.2.1, (x.1.2.2.2.2.2.1, (x.1.2.2.2.2.2.2.1, (x.1.2.2.2.2.2.2.2.1, (x.1.2.2.2.2.2.2.2.2.1, (x.1.2.2.2.2.2.2.2.2.2.1, (x.1.2.2.2.2.2.2.2.2.2.2.1, (x.1.2.2.2.2.2.2.2.2.2.2.2.1, ())))))))))))), ())).bind fun p1 =>
((i_SlotsOk k ((x.1.1, (x.1.2.1, (x.1.2.2.1, (x.1.2.2.2.1, (x.1.2.2.2.2.1, (x.1.2.2.2.2.2.1, (x.1.2.2.2.2.2.2.1, (x.1.2.2.2.2.2.2.2.1, (x.1.2.2.2.2.2.2.2.2.1, (x.1.2.2.2.2.2.2.2.2.2.1, (x.1.2.2.2.2.2.2.2.2.2.2.1, (x.1.2.2.2.2.2.2.2.2.2.2.2.1, ())))))))))))), ())).bind fun p2 =>
(if (!p2.1) = false then
((i_PacketOk k ((x.2.1.1, (x.2.1.2.1, (x.2.1.2.2.1, (x.2.1.2.2.2.1, (x.2.1.2.2.2.2.1, (x.2.1.2.2.2.2.2.1, (x.2.1.2.2.2.2.2.2.1, ()))))))), ())).bind fun p3 =>
(if (!p3.1) = false then
(if (!decide (x.2.1.1 = (3 : Int))) = true then
some (((p1.1.1, (p1.1.2.1, (p1.1.2.2.1, (p1.1.2.2.2.1, (p1.1.2.2.2.2.1, (p1.1.2.2.2.2.2.1, (p1.1.2.2.2.2.2.2.1, (p1.1.2.2.2.2.2.2.2.1, (p1.1.2.2.2.2.2.2.2.2.1, (p1.1.2.2.2.2.2.2.2.2.2.1, (p1.1.2.2.2.2.2.2.2.2.2.2.1, (p1.1.2.2.2.2.2.2.2.2.2.2.2.1, ())))))))))))), ((⟨#[]⟩ : ByteArray), (false, ()))), ((), ((), ((), ()))))
else
(jn (
((i_openIn_at_6 k ((p1.1.1, (p1.1.2.1, (p1.1.2.2.1, (p1.1.2.2.2.1, (p1.1.2.2.2.2.1, (p1.1.2.2.2.2.2.1, (p1.1.2.2.2.2.2.2.1, (p1.1.2.2.2.2.2.2.2.1, (p1.1.2.2.2.2.2.2.2.2.1, (p1.1.2.2.2.2.2.2.2.2.2.1, (p1.1.2.2.2.2.2.2.2.2.2.2.1, (p1.1.2.2.2.2.2.2.2.2.2.2.2.1, ())))))))))))), ((x.2.1.1, (x.2.1.2.1, (x.2.1.2.2.1, (x.2.1.2.2.2.1, (x.2.1.2.2.2.2.1, (x.2.1.2.2.2.2.2.1, (x.2.1.2.2.2.2.2.2.1, ()))))))), ()))).bind fun p5 =>
some (((p5.2.1.1, (p5.2.1.2.1, (p5.2.1.2.2.1, (p5.2.1.2.2.2.1, (p5.2.1.2.2.2.2.1, (p5.2.1.2.2.2.2.2.1, (p5.2.1.2.2.2.2.2.2.1, (p5.2.1.2.2.2.2.2.2.2.1, (p5.2.1.2.2.2.2.2.2.2.2.1, (p5.2.1.2.2.2.2.2.2.2.2.2.1, (p5.2.1.2.2.2.2.2.2.2.2.2.2.1, (p5.2.1.2.2.2.2.2.2.2.2.2.2.2.1, ())))))))))))), (p5.1.1, (p5.1.2.1, ()))), ((), ((), ((), ())))))) (fun (j1 : Option _) =>
(if (decide (x.1.1 = (0 : Int))) = false then
(if (!decide ((Int.tmod x.1.1 (8 : Int)) = x.2.1.2.1)) = true then
(if (decide (x.1.2.2.2.2.2.2.1 = (0 : Int))) = false then
(if (!decide ((Int.tmod x.1.2.2.2.2.2.2.1 (8 : Int)) = x.2.1.2.1)) = false then
(if (decide (x.1.2.2.2.2.2.2.2.2.2.2.2.1 ≤ x.2.2.1)) = true then
some (((p1.1.1, (p1.1.2.1, (p1.1.2.2.1, (p1.1.2.2.2.1, (p1.1.2.2.2.2.1, (p1.1.2.2.2.2.2.1, (p1.1.2.2.2.2.2.2.1, (p1.1.2.2.2.2.2.2.2.1, (p1.1.2.2.2.2.2.2.2.2.1, (p1.1.2.2.2.2.2.2.2.2.2.1, (p1.1.2.2.2.2.2.2.2.2.2.2.1, (p1.1.2.2.2.2.2.2.2.2.2.2.2.1, ())))))))))))), ((⟨#[]⟩ : ByteArray), (false, ()))), ((), ((), ((), ()))))
else
j1)
else
some (((p1.1.1, (p1.1.2.1, (p1.1.2.2.1, (p1.1.2.2.2.1, (p1.1.2.2.2.2.1, (p1.1.2.2.2.2.2.1, (p1.1.2.2.2.2.2.2.1, (p1.1.2.2.2.2.2.2.2.1, (p1.1.2.2.2.2.2.2.2.2.1, (p1.1.2.2.2.2.2.2.2.2.2.1, (p1.1.2.2.2.2.2.2.2.2.2.2.1, (p1.1.2.2.2.2.2.2.2.2.2.2.2.1, ())))))))))))), ((⟨#[]⟩ : ByteArray), (false, ()))), ((), ((), ((), ())))))
else
some (((p1.1.1, (p1.1.2.1, (p1.1.2.2.1, (p1.1.2.2.2.1, (p1.1.2.2.2.2.1, (p1.1.2.2.2.2.2.1, (p1.1.2.2.2.2.2.2.1, (p1.1.2.2.2.2.2.2.2.1, (p1.1.2.2.2.2.2.2.2.2.1, (p1.1.2.2.2.2.2.2.2.2.2.1, (p1.1.2.2.2.2.2.2.2.2.2.2.1, (p1.1.2.2.2.2.2.2.2.2.2.2.2.1, ())))))))))))), ((⟨#[]⟩ : ByteArray), (false, ()))), ((), ((), ((), ())))))
else
((i_openIn_v1 k ((p1.1.1, (p1.1.2.1, (p1.1.2.2.1, (p1.1.2.2.2.1, (p1.1.2.2.2.2.1, (p1.1.2.2.2.2.2.1, (p1.1.2.2.2.2.2.2.1, (p1.1.2.2.2.2.2.2.2.1, (p1.1.2.2.2.2.2.2.2.2.1, (p1.1.2.2.2.2.2.2.2.2.2.1, (p1.1.2.2.2.2.2.2.2.2.2.2.1, (p1.1.2.2.2.2.2.2.2.2.2.2.2.1, ())))))))))))), ((x.2.1.1, (x.2.1.2.1, (x.2.1.2.2.1, (x.2.1.2.2.2.1, (x.2.1.2.2.2.2.1, (x.2.1.2.2.2.2.2.1, (x.2.1.2.2.2.2.2.2.1, ()))))))), ()))).bind fun p6 =>
some (((p6.2.1.1, (p6.2.1.2.1, (p6.2.1.2.2.1, (p6.2.1.2.2.2.1, (p6.2.1.2.2.2.2.1, (p6.2.1.2.2.2.2.2.1, (p6.2.1.2.2.2.2.2.2.1, (p6.2.1.2.2.2.2.2.2.2.1, (p6.2.1.2.2.2.2.2.2.2.2.1, (p6.2.1.2.2.2.2.2.2.2.2.2.1, (p6.2.1.2.2.2.2.2.2.2.2.2.2.1, (p6.2.1.2.2.2.2.2.2.2.2.2.2.2.1, ())))))))))))), (p6.1.1, (p6.1.2.1, ()))), ((), ((), ((), ()))))))
else
(if (decide (x.1.2.2.2.2.2.2.1 = (0 : Int))) = false then
(if (!decide ((Int.tmod x.1.2.2.2.2.2.2.1 (8 : Int)) = x.2.1.2.1)) = false then
(if (decide (x.1.2.2.2.2.2.2.2.2.2.2.2.1 ≤ x.2.2.1)) = true then
some (((p1.1.1, (p1.1.2.1, (p1.1.2.2.1, (p1.1.2.2.2.1, (p1.1.2.2.2.2.1, (p1.1.2.2.2.2.2.1, (p1.1.2.2.2.2.2.2.1, (p1.1.2.2.2.2.2.2.2.1, (p1.1.2.2.2.2.2.2.2.2.1, (p1.1.2.2.2.2.2.2.2.2.2.1, (p1.1.2.2.2.2.2.2.2.2.2.2.1, (p1.1.2.2.2.2.2.2.2.2.2.2.2.1, ())))))))))))), ((⟨#[]⟩ : ByteArray), (false, ()))), ((), ((), ((), ()))))
else
j1)
else
some (((p1.1.1, (p1.1.2.1, (p1.1.2.2.1, (p1.1.2.2.2.1, (p1.1.2.2.2.2.1, (p1.1.2.2.2.2.2.1, (p1.1.2.2.2.2.2.2.1, (p1.1.2.2.2.2.2.2.2.1, (p1.1.2.2.2.2.2.2.2.2.1, (p1.1.2.2.2.2.2.2.2.2.2.1, (p1.1.2.2.2.2.2.2.2.2.2.2.1, (p1.1.2.2.2.2.2.2.2.2.2.2.2.1, ())))))))))))), ((⟨#[]⟩ : ByteArray), (false, ()))), ((), ((), ((), ())))))
else
some (((p1.1.1, (p1.1.2.1, (p1.1.2.2.1, (p1.1.2.2.2.1, (p1.1.2.2.2.2.1, (p1.1.2.2.2.2.2.1, (p1.1.2.2.2.2.2.2.1, (p1.1.2.2.2.2.2.2.2.1, (p1.1.2.2.2.2.2.2.2.2.1, (p1.1.2.2.2.2.2.2.2.2.2.1, (p1.1.2.2.2.2.2.2.2.2.2.2.1, (p1.1.2.2.2.2.2.2.2.2.2.2.2.1, ())))))))))))), ((⟨#[]⟩ : ByteArray), (false, ()))), ((), ((), ((), ())))))))))
else
some (((p1.1.1, (p1.1.2.1, (p1.1.2.2.1, (p1.1.2.2.2.1, (p1.1.2.2.2.2.1, (p1.1.2.2.2.2.2.1, (p1.1.2.2.2.2.2.2.1, (p1.1.2.2.2.2.2.2.2.1, (p1.1.2.2.2.2.2.2.2.2.1, (p1.1.2.2.2.2.2.2.2.2.2.1, (p1.1.2.2.2.2.2.2.2.2.2.2.1, (p1.1.2.2.2.2.2.2.2.2.2.2.2.1, ())))))))))))), ((⟨#[]⟩ : ByteArray), (false, ()))), ((), ((), ((), ()))))))
else
some (((p1.1.1, (p1.1.2.1, (p1.1.2.2.1, (p1.1.2.2.2.1, (p1.1.2.2.2.2.1, (p1.1.2.2.2.2.2.1, (p1.1.2.2.2.2.2.2.1, (p1.1.2.2.2.2.2.2.2.1, (p1.1.2.2.2.2.2.2.2.2.1, (p1.1.2.2.2.2.2.2.2.2.2.1, (p1.1.2.2.2.2.2.2.2.2.2.2.1, (p1.1.2.2.2.2.2.2.2.2.2.2.2.1, ())))))))))))), ((⟨#[]⟩ : ByteArray), (false, ()))), ((), ((), ((), ())))))))
theorem t_i_OpenData (k : Nat) (x) : evF TTab k [⟨26, 0, (.cons (.agg (.cons (.int .i64) (.cons .str (.cons .str (.cons (.int .i64) (.cons (.il true (.int .i64)) (.cons (.int .i64) (.cons (.int .i64) (.cons .str (.cons .str (.cons (.int .i64) (.cons (.il true (.int .i64)) (.cons (.int .i64) .nil))))))))))))) .nil), .bool, i_SlotsOk k⟩, ⟨66, 0, (.cons (.agg (.cons (.int .i64) (.cons .str (.cons .str (.cons (.int .i64) (.cons (.il true (.int .i64)) (.cons (.int .i64) (.cons (.int .i64) (.cons .str (.cons .str (.cons (.int .i64) (.cons (.il true (.int .i64)) (.cons (.int .i64) .nil))))))))))))) .nil), (.agg (.cons (.int .i64) (.cons .str (.cons .str (.cons (.int .i64) (.cons (.own false 3 (.int .i64)) (.cons (.int .i64) (.cons (.int .i64) (.cons .str (.cons .str (.cons (.int .i64) (.cons (.own false 3 (.int .i64)) (.cons (.int .i64) .nil))))))))))))), i_copySlots k⟩, ⟨67, 0, (.cons (.agg (.cons (.int .i64) (.cons (.int .i64) (.cons (.int .i64) (.cons (.int .i64) (.cons (.int .i64) (.cons (.il true (.int .i64)) (.cons .str .nil)))))))) .nil), .bool, i_PacketOk k⟩, ⟨68, 0, (.cons (.ptr 0 (.cons (.int .i64) (.cons .str (.cons .str (.cons (.int .i64) (.cons (.own false 3 (.int .i64)) (.cons (.int .i64) (.cons (.int .i64) (.cons .str (.cons .str (.cons (.int .i64) (.cons (.own false 3 (.int .i64)) (.cons (.int .i64) .nil))))))))))))) (.cons (.agg (.cons (.int .i64) (.cons (.int .i64) (.cons (.int .i64) (.cons (.int .i64) (.cons (.int .i64) (.cons (.il true (.int .i64)) (.cons .str .nil)))))))) .nil)), (.tup (.cons .str (.cons .bool .nil))), i_openIn_v1 k⟩, ⟨68, 1000006, (.cons (.ptr 6 (.cons (.int .i64) (.cons .str (.cons .str (.cons (.int .i64) (.cons (.own false 3 (.int .i64)) (.cons (.int .i64) (.cons (.int .i64) (.cons .str (.cons .str (.cons (.int .i64) (.cons (.own false 3 (.int .i64)) (.cons (.int .i64) .nil))))))))))))) (.cons (.agg (.cons (.int .i64) (.cons (.int .i64) (.cons (.int .i64) (.cons (.int .i64) (.cons (.int .i64) (.cons (.il true (.int .i64)) (.cons .str .nil)))))))) .nil)), (.tup (.cons .str (.cons .bool .nil))), i_openIn_at_6 k⟩] [] Tryz.f14 (.cons (.agg (.cons (.int .i64) (.cons .str (.cons .str (.cons (.int .i64) (.cons (.il true (.int .i64)) (.cons (.int .i64) (.cons (.int .i64) (.cons .str (.cons .str (.cons (.int .i64) (.cons (.il true (.int .i64)) (.cons (.int .i64) .nil))))))))))))) (.cons (.agg (.cons (.int .i64) (.cons (.int .i64) (.cons (.int .i64) (.cons (.int .i64) (.cons (.int .i64) (.cons (.il true (.int .i64)) (.cons .str .nil)))))))) (.cons (.int .i64) .nil))) (.tup (.cons (.agg (.cons (.int .i64) (.cons .str (.cons .str (.cons (.int .i64) (.cons (.own false 3 (.int .i64)) (.cons (.int .i64) (.cons (.int .i64) (.cons .str (.cons .str (.cons (.int .i64) (.cons (.own false 3 (.int .i64)) (.cons (.int .i64) .nil))))))))))))) (.cons .str (.cons .bool .nil)))) x = i_OpenData k x := by kernel_rfl
theorem e_i_OpenData (k : Nat) : EntryOk Tryz.prog ⟨14, 0, (.cons (.agg (.cons (.int .i64) (.cons .str (.cons .str (.cons (.int .i64) (.cons (.il true (.int .i64)) (.cons (.int .i64) (.cons (.int .i64) (.cons .str (.cons .str (.cons (.int .i64) (.cons (.il true (.int .i64)) (.cons (.int .i64) .nil))))))))))))) (.cons (.agg (.cons (.int .i64) (.cons (.int .i64) (.cons (.int .i64) (.cons (.int .i64) (.cons (.int .i64) (.cons (.il true (.int .i64)) (.cons .str .nil)))))))) (.cons (.int .i64) .nil))), (.tup (.cons (.agg (.cons (.int .i64) (.cons .str (.cons .str (.cons (.int .i64) (.cons (.own false 3 (.int .i64)) (.cons (.int .i64) (.cons (.int .i64) (.cons .str (.cons .str (.cons (.int .i64) (.cons (.own false 3 (.int .i64)) (.cons (.int .i64) .nil))))))))))))) (.cons .str (.cons .bool .nil)))), i_OpenData k⟩ := entry_ok tok (by intro e he; simp only [List.mem_cons, List.not_mem_nil, or_false] at he; rcases he with rfl | rfl | rfl | rfl | rfl <;> first | exact e_i_SlotsOk k | exact e_i_copySlots k | exact e_i_PacketOk k | exact e_i_openIn_v1 k | exact e_i_openIn_at_6 k) (by kernel_rfl) (fn := Tryz.f14) (k := k) (es := [⟨26, 0, (.cons (.agg (.cons (.int .i64) (.cons .str (.cons .str (.cons (.int .i64) (.cons (.il true (.int .i64)) (.cons (.int .i64) (.cons (.int .i64) (.cons .str (.cons .str (.cons (.int .i64) (.cons (.il true (.int .i64)) (.cons (.int .i64) .nil))))))))))))) .nil), .bool, i_SlotsOk k⟩, ⟨66, 0, (.cons (.agg (.cons (.int .i64) (.cons .str (.cons .str (.cons (.int .i64) (.cons (.il true (.int .i64)) (.cons (.int .i64) (.cons (.int .i64) (.cons .str (.cons .str (.cons (.int .i64) (.cons (.il true (.int .i64)) (.cons (.int .i64) .nil))))))))))))) .nil), (.agg (.cons (.int .i64) (.cons .str (.cons .str (.cons (.int .i64) (.cons (.own false 3 (.int .i64)) (.cons (.int .i64) (.cons (.int .i64) (.cons .str (.cons .str (.cons (.int .i64) (.cons (.own false 3 (.int .i64)) (.cons (.int .i64) .nil))))))))))))), i_copySlots k⟩, ⟨67, 0, (.cons (.agg (.cons (.int .i64) (.cons (.int .i64) (.cons (.int .i64) (.cons (.int .i64) (.cons (.int .i64) (.cons (.il true (.int .i64)) (.cons .str .nil)))))))) .nil), .bool, i_PacketOk k⟩, ⟨68, 0, (.cons (.ptr 0 (.cons (.int .i64) (.cons .str (.cons .str (.cons (.int .i64) (.cons (.own false 3 (.int .i64)) (.cons (.int .i64) (.cons (.int .i64) (.cons .str (.cons .str (.cons (.int .i64) (.cons (.own false 3 (.int .i64)) (.cons (.int .i64) .nil))))))))))))) (.cons (.agg (.cons (.int .i64) (.cons (.int .i64) (.cons (.int .i64) (.cons (.int .i64) (.cons (.int .i64) (.cons (.il true (.int .i64)) (.cons .str .nil)))))))) .nil)), (.tup (.cons .str (.cons .bool .nil))), i_openIn_v1 k⟩, ⟨68, 1000006, (.cons (.ptr 6 (.cons (.int .i64) (.cons .str (.cons .str (.cons (.int .i64) (.cons (.own false 3 (.int .i64)) (.cons (.int .i64) (.cons (.int .i64) (.cons .str (.cons .str (.cons (.int .i64) (.cons (.own false 3 (.int .i64)) (.cons (.int .i64) .nil))))))))))))) (.cons (.agg (.cons (.int .i64) (.cons (.int .i64) (.cons (.int .i64) (.cons (.int .i64) (.cons (.int .i64) (.cons (.il true (.int .i64)) (.cons .str .nil)))))))) .nil)), (.tup (.cons .str (.cons .bool .nil))), i_openIn_at_6 k⟩]) (loops := []) (by kernel_rfl) (by kernel_rfl) (fun x r h => (t_i_OpenData k x).trans h)
def w_eqIntS (k : Nat) (x : List (Int) × List (Int) × Unit) : Option (Bool × Unit × Unit × Unit) :=
(if (!decide ((List.length x.1 : Int) = (List.length x.2.1 : Int))) = true then
some (false, ((), ((), ())))
else
(whileK (fun (rec0 : (List (Int) × List (Int) × Int × Unit) → Option _) (y0 : List (Int) × List (Int) × Int × Unit) =>
(if (decide (y0.2.2.1 < (List.length y0.1 : Int))) = true then
(if 0 ≤ y0.2.2.1 ∧ y0.2.2.1 < (List.length y0.1 : Int) then
(if 0 ≤ y0.2.2.1 ∧ y0.2.2.1 < (List.length y0.2.1 : Int) then
(if (!decide ((Ty.rd (t := (.int .i64)) y0.1 y0.2.2.1) = (Ty.rd (t := (.int .i64)) y0.2.1 y0.2.2.1))) = true then
some (false, ((), ((), ())))
else
(rec0 (y0.1, (y0.2.1, ((wi64 (y0.2.2.1 + (1 : Int))), ())))))
else none)
else none)
else
((fun (z1 : Unit) =>
some (true, ((), ((), ())))) ()))) k (x.1, (x.2.1, ((0 : Int), ())))))
theorem t_w_eqIntS (k : Nat) (x) : evF TTab k [] [(0, ⟨[0, 1, 5], (.cons (.il true (.int .i64)) (.cons (.il true (.int .i64)) (.cons (.int .i64) .nil)))⟩, ⟨[], .nil⟩)] Tryz.f70 (.cons (.il true (.int .i64)) (.cons (.il true (.int .i64)) .nil)) .bool x = w_eqIntS k x := by kernel_rfl
theorem e_w_eqIntS (k : Nat) : EntryOk Tryz.prog ⟨70, 0, (.cons (.il true (.int .i64)) (.cons (.il true (.int .i64)) .nil)), .bool, w_eqIntS k⟩ := entry_ok tok (by simp) (by kernel_rfl) (fn := Tryz.f70) (k := k) (es := []) (loops := [(0, ⟨[0, 1, 5], (.cons (.il true (.int .i64)) (.cons (.il true (.int .i64)) (.cons (.int .i64) .nil)))⟩, ⟨[], .nil⟩)]) (by kernel_rfl) (by kernel_rfl) (fun x r h => (t_w_eqIntS k x).trans h)
def w_eqSlot (k : Nat) (x : (Int × ByteArray × ByteArray × Int × List (Int) × Int × Unit) × (Int × ByteArray × ByteArray × Int × List (Int) × Int × Unit) × Unit) : Option (Bool × Unit × Unit × Unit) :=
(if (!decide (x.1.1 = x.2.1.1)) = true then
some (false, ((), ((), ())))
else
(if (!decide (x.1.2.1 = x.2.1.2.1)) = true then
some (false, ((), ((), ())))
else
(if (!decide (x.1.2.2.1 = x.2.1.2.2.1)) = true then
some (false, ((), ((), ())))
else
(if (!decide (x.1.2.2.2.1 = x.2.1.2.2.2.1)) = true then
some (false, ((), ((), ())))
else
((w_eqIntS k (x.1.2.2.2.2.1, (x.2.1.2.2.2.2.1, ()))).bind fun p1 =>
(if (!p1.1) = true then
some (false, ((), ((), ())))
else
(if (!decide (x.1.2.2.2.2.2.1 = x.2.1.2.2.2.2.2.1)) = true then
some (false, ((), ((), ())))
else
some (true, ((), ((), ()))))))))))
theorem t_w_eqSlot (k : Nat) (x) : evF TTab k [⟨70, 0, (.cons (.il true (.int .i64)) (.cons (.il true (.int .i64)) .nil)), .bool, w_eqIntS k⟩] [] Tryz.f69 (.cons (.agg (.cons (.int .i64) (.cons .str (.cons .str (.cons (.int .i64) (.cons (.il true (.int .i64)) (.cons (.int .i64) .nil))))))) (.cons (.agg (.cons (.int .i64) (.cons .str (.cons .str (.cons (.int .i64) (.cons (.il true (.int .i64)) (.cons (.int .i64) .nil))))))) .nil)) .bool x = w_eqSlot k x := by kernel_rfl
theorem e_w_eqSlot (k : Nat) : EntryOk Tryz.prog ⟨69, 0, (.cons (.agg (.cons (.int .i64) (.cons .str (.cons .str (.cons (.int .i64) (.cons (.il true (.int .i64)) (.cons (.int .i64) .nil))))))) (.cons (.agg (.cons (.int .i64) (.cons .str (.cons .str (.cons (.int .i64) (.cons (.il true (.int .i64)) (.cons (.int .i64) .nil))))))) .nil)), .bool, w_eqSlot k⟩ := entry_ok tok (by intro e he; simp only [List.mem_cons, List.not_mem_nil, or_false] at he; rcases he with rfl <;> first | exact e_w_eqIntS k) (by kernel_rfl) (fn := Tryz.f69) (k := k) (es := [⟨70, 0, (.cons (.il true (.int .i64)) (.cons (.il true (.int .i64)) .nil)), .bool, w_eqIntS k⟩]) (loops := []) (by kernel_rfl) (by kernel_rfl) (fun x r h => (t_w_eqSlot k x).trans h)
def w_eqSlots (k : Nat) (x : (Int × ByteArray × ByteArray × Int × List (Int) × Int × Int × ByteArray × ByteArray × Int × List (Int) × Int × Unit) × (Int × ByteArray × ByteArray × Int × List (Int) × Int × Int × ByteArray × ByteArray × Int × List (Int) × Int × Unit) × Unit) : Option (Bool × Unit × Unit × Unit) :=
((w_eqSlot k ((x.1.1, (x.1.2.1, (x.1.2.2.1, (x.1.2.2.2.1, (x.1.2.2.2.2.1, (x.1.2.2.2.2.2.1, ())))))), ((x.2.1.1, (x.2.1.2.1, (x.2.1.2.2.1, (x.2.1.2.2.2.1, (x.2.1.2.2.2.2.1, (x.2.1.2.2.2.2.2.1, ())))))), ()))).bind fun p1 =>
(if (!p1.1) = true then
some (false, ((), ((), ())))
else
((w_eqSlot k ((x.1.2.2.2.2.2.2.1, (x.1.2.2.2.2.2.2.2.1, (x.1.2.2.2.2.2.2.2.2.1, (x.1.2.2.2.2.2.2.2.2.2.1, (x.1.2.2.2.2.2.2.2.2.2.2.1, (x.1.2.2.2.2.2.2.2.2.2.2.2.1, ())))))), ((x.2.1.2.2.2.2.2.2.1, (x.2.1.2.2.2.2.2.2.2.1, (x.2.1.2.2.2.2.2.2.2.2.1, (x.2.1.2.2.2.2.2.2.2.2.2.1, (x.2.1.2.2.2.2.2.2.2.2.2.2.1, (x.2.1.2.2.2.2.2.2.2.2.2.2.2.1, ())))))), ()))).bind fun p2 =>
(if (!p2.1) = true then
some (false, ((), ((), ())))
else
some (true, ((), ((), ())))))))
theorem t_w_eqSlots (k : Nat) (x) : evF TTab k [⟨69, 0, (.cons (.agg (.cons (.int .i64) (.cons .str (.cons .str (.cons (.int .i64) (.cons (.il true (.int .i64)) (.cons (.int .i64) .nil))))))) (.cons (.agg (.cons (.int .i64) (.cons .str (.cons .str (.cons (.int .i64) (.cons (.il true (.int .i64)) (.cons (.int .i64) .nil))))))) .nil)), .bool, w_eqSlot k⟩] [] Tryz.f15 (.cons (.agg (.cons (.int .i64) (.cons .str (.cons .str (.cons (.int .i64) (.cons (.il true (.int .i64)) (.cons (.int .i64) (.cons (.int .i64) (.cons .str (.cons .str (.cons (.int .i64) (.cons (.il true (.int .i64)) (.cons (.int .i64) .nil))))))))))))) (.cons (.agg (.cons (.int .i64) (.cons .str (.cons .str (.cons (.int .i64) (.cons (.il true (.int .i64)) (.cons (.int .i64) (.cons (.int .i64) (.cons .str (.cons .str (.cons (.int .i64) (.cons (.il true (.int .i64)) (.cons (.int .i64) .nil))))))))))))) .nil)) .bool x = w_eqSlots k x := by kernel_rfl
theorem e_w_eqSlots (k : Nat) : EntryOk Tryz.prog ⟨15, 0, (.cons (.agg (.cons (.int .i64) (.cons .str (.cons .str (.cons (.int .i64) (.cons (.il true (.int .i64)) (.cons (.int .i64) (.cons (.int .i64) (.cons .str (.cons .str (.cons (.int .i64) (.cons (.il true (.int .i64)) (.cons (.int .i64) .nil))))))))))))) (.cons (.agg (.cons (.int .i64) (.cons .str (.cons .str (.cons (.int .i64) (.cons (.il true (.int .i64)) (.cons (.int .i64) (.cons (.int .i64) (.cons .str (.cons .str (.cons (.int .i64) (.cons (.il true (.int .i64)) (.cons (.int .i64) .nil))))))))))))) .nil)), .bool, w_eqSlots k⟩ := entry_ok tok (by intro e he; simp only [List.mem_cons, List.not_mem_nil, or_false] at he; rcases he with rfl <;> first | exact e_w_eqSlot k) (by kernel_rfl) (fn := Tryz.f15) (k := k) (es := [⟨69, 0, (.cons (.agg (.cons (.int .i64) (.cons .str (.cons .str (.cons (.int .i64) (.cons (.il true (.int .i64)) (.cons (.int .i64) .nil))))))) (.cons (.agg (.cons (.int .i64) (.cons .str (.cons .str (.cons (.int .i64) (.cons (.il true (.int .i64)) (.cons (.int .i64) .nil))))))) .nil)), .bool, w_eqSlot k⟩]) (loops := []) (by kernel_rfl) (by kernel_rfl) (fun x r h => (t_w_eqSlots k x).trans h)
def w_eqPacket (k : Nat) (x : (Int × Int × Int × Int × Int × List (Int) × ByteArray × Unit) × (Int × Int × Int × Int × Int × List (Int) × ByteArray × Unit) × Unit) : Option (Bool × Unit × Unit × Unit) :=
(if (!decide (x.1.1 = x.2.1.1)) = true then
some (false, ((), ((), ())))
else
(if (!decide (x.1.2.1 = x.2.1.2.1)) = true then
some (false, ((), ((), ())))
else
(if (!decide (x.1.2.2.1 = x.2.1.2.2.1)) = true then
some (false, ((), ((), ())))
else
(if (!decide (x.1.2.2.2.1 = x.2.1.2.2.2.1)) = true then
some (false, ((), ((), ())))
else
(if (!decide (x.1.2.2.2.2.1 = x.2.1.2.2.2.2.1)) = true then
some (false, ((), ((), ())))
else
((w_eqIntS k (x.1.2.2.2.2.2.1, (x.2.1.2.2.2.2.2.1, ()))).bind fun p1 =>
(if (!p1.1) = true then
some (false, ((), ((), ())))
else
(if (!decide (x.1.2.2.2.2.2.2.1 = x.2.1.2.2.2.2.2.2.1)) = true then
some (false, ((), ((), ())))
else
some (true, ((), ((), ())))))))))))
theorem t_w_eqPacket (k : Nat) (x) : evF TTab k [⟨70, 0, (.cons (.il true (.int .i64)) (.cons (.il true (.int .i64)) .nil)), .bool, w_eqIntS k⟩] [] Tryz.f16 (.cons (.agg (.cons (.int .i64) (.cons (.int .i64) (.cons (.int .i64) (.cons (.int .i64) (.cons (.int .i64) (.cons (.il true (.int .i64)) (.cons .str .nil)))))))) (.cons (.agg (.cons (.int .i64) (.cons (.int .i64) (.cons (.int .i64) (.cons (.int .i64) (.cons (.int .i64) (.cons (.il true (.int .i64)) (.cons .str .nil)))))))) .nil)) .bool x = w_eqPacket k x := by kernel_rfl
theorem e_w_eqPacket (k : Nat) : EntryOk Tryz.prog ⟨16, 0, (.cons (.agg (.cons (.int .i64) (.cons (.int .i64) (.cons (.int .i64) (.cons (.int .i64) (.cons (.int .i64) (.cons (.il true (.int .i64)) (.cons .str .nil)))))))) (.cons (.agg (.cons (.int .i64) (.cons (.int .i64) (.cons (.int .i64) (.cons (.int .i64) (.cons (.int .i64) (.cons (.il true (.int .i64)) (.cons .str .nil)))))))) .nil)), .bool, w_eqPacket k⟩ := entry_ok tok (by intro e he; simp only [List.mem_cons, List.not_mem_nil, or_false] at he; rcases he with rfl <;> first | exact e_w_eqIntS k) (by kernel_rfl) (fn := Tryz.f16) (k := k) (es := [⟨70, 0, (.cons (.il true (.int .i64)) (.cons (.il true (.int .i64)) .nil)), .bool, w_eqIntS k⟩]) (loops := []) (by kernel_rfl) (by kernel_rfl) (fun x r h => (t_w_eqPacket k x).trans h)
def w_markIntS (k : Nat) (x : List (Int) × Int × Unit) : Option (Int × List (Int) × Unit × Unit) :=
(whileK (fun (rec0 : (List (Int) × Int × Int × Unit) → Option _) (y0 : List (Int) × Int × Int × Unit) =>
(if (decide (y0.2.2.1 < (List.length y0.1 : Int))) = true then
(if 0 ≤ y0.2.2.1 ∧ y0.2.2.1 < (List.length y0.1 : Int) then
(rec0 ((List.set y0.1 (Int.toNat y0.2.2.1) y0.2.1), ((wi64 (y0.2.1 + (1 : Int))), ((wi64 (y0.2.2.1 + (1 : Int))), ()))))
else none)
else
((fun (z1 : List (Int) × Int × Unit) =>
some (z1.2.1, (z1.1, ((), ())))) (y0.1, (y0.2.1, ()))))) k (x.1, (x.2.1, ((0 : Int), ()))))
theorem t_w_markIntS (k : Nat) (x) : evF TTab k [] [(0, ⟨[0, 1, 5], (.cons (.own false 3 (.int .i64)) (.cons (.int .i64) (.cons (.int .i64) .nil)))⟩, ⟨[0, 1], (.cons (.own false 3 (.int .i64)) (.cons (.int .i64) .nil))⟩)] Tryz.f72 (.cons (.mut false 3 (.int .i64)) (.cons (.int .i64) .nil)) (.int .i64) x = w_markIntS k x := by kernel_rfl
theorem e_w_markIntS (k : Nat) : EntryOk Tryz.prog ⟨72, 0, (.cons (.mut false 3 (.int .i64)) (.cons (.int .i64) .nil)), (.int .i64), w_markIntS k⟩ := entry_ok tok (by simp) (by kernel_rfl) (fn := Tryz.f72) (k := k) (es := []) (loops := [(0, ⟨[0, 1, 5], (.cons (.own false 3 (.int .i64)) (.cons (.int .i64) (.cons (.int .i64) .nil)))⟩, ⟨[0, 1], (.cons (.own false 3 (.int .i64)) (.cons (.int .i64) .nil))⟩)]) (by kernel_rfl) (by kernel_rfl) (fun x r h => (t_w_markIntS k x).trans h)
def w_markSlot (k : Nat) (x : (Int × ByteArray × ByteArray × Int × List (Int) × Int × Unit) × Int × Unit) : Option (Int × (Unit × Unit × Unit × Unit × List (Int) × Unit × Unit) × Unit × Unit) :=
((w_markIntS k (x.1.2.2.2.2.1, (x.2.1, ()))).bind fun p1 =>
some (p1.1, (((), ((), ((), ((), (p1.2.1, ((), ())))))), ((), ()))))
theorem t_w_markSlot (k : Nat) (x) : evF TTab k [⟨72, 0, (.cons (.mut false 3 (.int .i64)) (.cons (.int .i64) .nil)), (.int .i64), w_markIntS k⟩] [] Tryz.f71 (.cons (.mag (.cons (.int .i64) (.cons .str (.cons .str (.cons (.int .i64) (.cons (.mut false 3 (.int .i64)) (.cons (.int .i64) .nil))))))) (.cons (.int .i64) .nil)) (.int .i64) x = w_markSlot k x := by kernel_rfl
theorem e_w_markSlot (k : Nat) : EntryOk Tryz.prog ⟨71, 0, (.cons (.mag (.cons (.int .i64) (.cons .str (.cons .str (.cons (.int .i64) (.cons (.mut false 3 (.int .i64)) (.cons (.int .i64) .nil))))))) (.cons (.int .i64) .nil)), (.int .i64), w_markSlot k⟩ := entry_ok tok (by intro e he; simp only [List.mem_cons, List.not_mem_nil, or_false] at he; rcases he with rfl <;> first | exact e_w_markIntS k) (by kernel_rfl) (fn := Tryz.f71) (k := k) (es := [⟨72, 0, (.cons (.mut false 3 (.int .i64)) (.cons (.int .i64) .nil)), (.int .i64), w_markIntS k⟩]) (loops := []) (by kernel_rfl) (by kernel_rfl) (fun x r h => (t_w_markSlot k x).trans h)
def w_markSlots (k : Nat) (x : (Int × ByteArray × ByteArray × Int × List (Int) × Int × Int × ByteArray × ByteArray × Int × List (Int) × Int × Unit) × Int × Unit) : Option (Int × (Unit × Unit × Unit × Unit × List (Int) × Unit × Unit × Unit × Unit × Unit × List (Int) × Unit × Unit) × Unit × Unit) :=
((w_markSlot k ((x.1.1, (x.1.2.1, (x.1.2.2.1, (x.1.2.2.2.1, (x.1.2.2.2.2.1, (x.1.2.2.2.2.2.1, ())))))), (x.2.1, ()))).bind fun p1 =>
((w_markSlot k ((x.1.2.2.2.2.2.2.1, (x.1.2.2.2.2.2.2.2.1, (x.1.2.2.2.2.2.2.2.2.1, (x.1.2.2.2.2.2.2.2.2.2.1, (x.1.2.2.2.2.2.2.2.2.2.2.1, (x.1.2.2.2.2.2.2.2.2.2.2.2.1, ())))))), (p1.1, ()))).bind fun p2 =>
some (p2.1, (((), ((), ((), ((), (p1.2.1.2.2.2.2.1, ((), ((), ((), ((), ((), (p2.2.1.2.2.2.2.1, ((), ())))))))))))), ((), ())))))
theorem t_w_markSlots (k : Nat) (x) : evF TTab k [⟨71, 0, (.cons (.mag (.cons (.int .i64) (.cons .str (.cons .str (.cons (.int .i64) (.cons (.mut false 3 (.int .i64)) (.cons (.int .i64) .nil))))))) (.cons (.int .i64) .nil)), (.int .i64), w_markSlot k⟩] [] Tryz.f17 (.cons (.mag (.cons (.int .i64) (.cons .str (.cons .str (.cons (.int .i64) (.cons (.mut false 3 (.int .i64)) (.cons (.int .i64) (.cons (.int .i64) (.cons .str (.cons .str (.cons (.int .i64) (.cons (.mut false 3 (.int .i64)) (.cons (.int .i64) .nil))))))))))))) (.cons (.int .i64) .nil)) (.int .i64) x = w_markSlots k x := by kernel_rfl
theorem e_w_markSlots (k : Nat) : EntryOk Tryz.prog ⟨17, 0, (.cons (.mag (.cons (.int .i64) (.cons .str (.cons .str (.cons (.int .i64) (.cons (.mut false 3 (.int .i64)) (.cons (.int .i64) (.cons (.int .i64) (.cons .str (.cons .str (.cons (.int .i64) (.cons (.mut false 3 (.int .i64)) (.cons (.int .i64) .nil))))))))))))) (.cons (.int .i64) .nil)), (.int .i64), w_markSlots k⟩ := entry_ok tok (by intro e he; simp only [List.mem_cons, List.not_mem_nil, or_false] at he; rcases he with rfl <;> first | exact e_w_markSlot k) (by kernel_rfl) (fn := Tryz.f17) (k := k) (es := [⟨71, 0, (.cons (.mag (.cons (.int .i64) (.cons .str (.cons .str (.cons (.int .i64) (.cons (.mut false 3 (.int .i64)) (.cons (.int .i64) .nil))))))) (.cons (.int .i64) .nil)), (.int .i64), w_markSlot k⟩]) (loops := []) (by kernel_rfl) (by kernel_rfl) (fun x r h => (t_w_markSlots k x).trans h)
def w_markPacket (k : Nat) (x : (Int × Int × Int × Int × Int × List (Int) × ByteArray × Unit) × Int × Unit) : Option (Int × (Unit × Unit × Unit × Unit × Unit × List (Int) × Unit × Unit) × Unit × Unit) :=
((w_markIntS k (x.1.2.2.2.2.2.1, (x.2.1, ()))).bind fun p1 =>
some (p1.1, (((), ((), ((), ((), ((), (p1.2.1, ((), ()))))))), ((), ()))))
theorem t_w_markPacket (k : Nat) (x) : evF TTab k [⟨72, 0, (.cons (.mut false 3 (.int .i64)) (.cons (.int .i64) .nil)), (.int .i64), w_markIntS k⟩] [] Tryz.f18 (.cons (.mag (.cons (.int .i64) (.cons (.int .i64) (.cons (.int .i64) (.cons (.int .i64) (.cons (.int .i64) (.cons (.mut false 3 (.int .i64)) (.cons .str .nil)))))))) (.cons (.int .i64) .nil)) (.int .i64) x = w_markPacket k x := by kernel_rfl
theorem e_w_markPacket (k : Nat) : EntryOk Tryz.prog ⟨18, 0, (.cons (.mag (.cons (.int .i64) (.cons (.int .i64) (.cons (.int .i64) (.cons (.int .i64) (.cons (.int .i64) (.cons (.mut false 3 (.int .i64)) (.cons .str .nil)))))))) (.cons (.int .i64) .nil)), (.int .i64), w_markPacket k⟩ := entry_ok tok (by intro e he; simp only [List.mem_cons, List.not_mem_nil, or_false] at he; rcases he with rfl <;> first | exact e_w_markIntS k) (by kernel_rfl) (fn := Tryz.f18) (k := k) (es := [⟨72, 0, (.cons (.mut false 3 (.int .i64)) (.cons (.int .i64) .nil)), (.int .i64), w_markIntS k⟩]) (loops := []) (by kernel_rfl) (by kernel_rfl) (fun x r h => (t_w_markPacket k x).trans h)
def w_heldIntS (k : Nat) (x : List (Int) × Int × Unit) : Option (Int × Unit × Unit × Unit) :=
(whileK (fun (rec0 : (List (Int) × Int × Int × Unit) → Option _) (y0 : List (Int) × Int × Int × Unit) =>
(if (decide (y0.2.2.1 < (List.length y0.1 : Int))) = true then
(if 0 ≤ y0.2.2.1 ∧ y0.2.2.1 < (List.length y0.1 : Int) then
(if (!decide ((Ty.rd (t := (.int .i64)) y0.1 y0.2.2.1) = y0.2.1)) = true then
some ((-1 : Int), ((), ((), ())))
else
(rec0 (y0.1, ((wi64 (y0.2.1 + (1 : Int))), ((wi64 (y0.2.2.1 + (1 : Int))), ())))))
else none)
else
((fun (z1 : Int × Unit) =>
some (z1.1, ((), ((), ())))) (y0.2.1, ())))) k (x.1, (x.2.1, ((0 : Int), ()))))
theorem t_w_heldIntS (k : Nat) (x) : evF TTab k [] [(0, ⟨[0, 1, 5], (.cons (.il true (.int .i64)) (.cons (.int .i64) (.cons (.int .i64) .nil)))⟩, ⟨[1], (.cons (.int .i64) .nil)⟩)] Tryz.f137 (.cons (.il true (.int .i64)) (.cons (.int .i64) .nil)) (.int .i64) x = w_heldIntS k x := by kernel_rfl
theorem e_w_heldIntS (k : Nat) : EntryOk Tryz.prog ⟨137, 0, (.cons (.il true (.int .i64)) (.cons (.int .i64) .nil)), (.int .i64), w_heldIntS k⟩ := entry_ok tok (by simp) (by kernel_rfl) (fn := Tryz.f137) (k := k) (es := []) (loops := [(0, ⟨[0, 1, 5], (.cons (.il true (.int .i64)) (.cons (.int .i64) (.cons (.int .i64) .nil)))⟩, ⟨[1], (.cons (.int .i64) .nil)⟩)]) (by kernel_rfl) (by kernel_rfl) (fun x r h => (t_w_heldIntS k x).trans h)
def w_heldSlot (k : Nat) (x : (Int × ByteArray × ByteArray × Int × List (Int) × Int × Unit) × Int × Unit) : Option (Int × Unit × Unit × Unit) :=
((w_heldIntS k (x.1.2.2.2.2.1, (x.2.1, ()))).bind fun p1 =>
(if (decide (p1.1 < (0 : Int))) = true then
some ((-1 : Int), ((), ((), ())))
else
some (p1.1, ((), ((), ())))))
theorem t_w_heldSlot (k : Nat) (x) : evF TTab k [⟨137, 0, (.cons (.il true (.int .i64)) (.cons (.int .i64) .nil)), (.int .i64), w_heldIntS k⟩] [] Tryz.f73 (.cons (.agg (.cons (.int .i64) (.cons .str (.cons .str (.cons (.int .i64) (.cons (.il true (.int .i64)) (.cons (.int .i64) .nil))))))) (.cons (.int .i64) .nil)) (.int .i64) x = w_heldSlot k x := by kernel_rfl
theorem e_w_heldSlot (k : Nat) : EntryOk Tryz.prog ⟨73, 0, (.cons (.agg (.cons (.int .i64) (.cons .str (.cons .str (.cons (.int .i64) (.cons (.il true (.int .i64)) (.cons (.int .i64) .nil))))))) (.cons (.int .i64) .nil)), (.int .i64), w_heldSlot k⟩ := entry_ok tok (by intro e he; simp only [List.mem_cons, List.not_mem_nil, or_false] at he; rcases he with rfl <;> first | exact e_w_heldIntS k) (by kernel_rfl) (fn := Tryz.f73) (k := k) (es := [⟨137, 0, (.cons (.il true (.int .i64)) (.cons (.int .i64) .nil)), (.int .i64), w_heldIntS k⟩]) (loops := []) (by kernel_rfl) (by kernel_rfl) (fun x r h => (t_w_heldSlot k x).trans h)
def w_heldSlots (k : Nat) (x : (Int × ByteArray × ByteArray × Int × List (Int) × Int × Int × ByteArray × ByteArray × Int × List (Int) × Int × Unit) × Int × Unit) : Option (Int × Unit × Unit × Unit) :=
((w_heldSlot k ((x.1.1, (x.1.2.1, (x.1.2.2.1, (x.1.2.2.2.1, (x.1.2.2.2.2.1, (x.1.2.2.2.2.2.1, ())))))), (x.2.1, ()))).bind fun p1 =>
(if (decide (p1.1 < (0 : Int))) = true then
some ((-1 : Int), ((), ((), ())))
else
((w_heldSlot k ((x.1.2.2.2.2.2.2.1, (x.1.2.2.2.2.2.2.2.1, (x.1.2.2.2.2.2.2.2.2.1, (x.1.2.2.2.2.2.2.2.2.2.1, (x.1.2.2.2.2.2.2.2.2.2.2.1, (x.1.2.2.2.2.2.2.2.2.2.2.2.1, ())))))), (p1.1, ()))).bind fun p2 =>
(if (decide (p2.1 < (0 : Int))) = true then
some ((-1 : Int), ((), ((), ())))
else
some (p2.1, ((), ((), ())))))))
theorem t_w_heldSlots (k : Nat) (x) : evF TTab k [⟨73, 0, (.cons (.agg (.cons (.int .i64) (.cons .str (.cons .str (.cons (.int .i64) (.cons (.il true (.int .i64)) (.cons (.int .i64) .nil))))))) (.cons (.int .i64) .nil)), (.int .i64), w_heldSlot k⟩] [] Tryz.f19 (.cons (.agg (.cons (.int .i64) (.cons .str (.cons .str (.cons (.int .i64) (.cons (.il true (.int .i64)) (.cons (.int .i64) (.cons (.int .i64) (.cons .str (.cons .str (.cons (.int .i64) (.cons (.il true (.int .i64)) (.cons (.int .i64) .nil))))))))))))) (.cons (.int .i64) .nil)) (.int .i64) x = w_heldSlots k x := by kernel_rfl
theorem e_w_heldSlots (k : Nat) : EntryOk Tryz.prog ⟨19, 0, (.cons (.agg (.cons (.int .i64) (.cons .str (.cons .str (.cons (.int .i64) (.cons (.il true (.int .i64)) (.cons (.int .i64) (.cons (.int .i64) (.cons .str (.cons .str (.cons (.int .i64) (.cons (.il true (.int .i64)) (.cons (.int .i64) .nil))))))))))))) (.cons (.int .i64) .nil)), (.int .i64), w_heldSlots k⟩ := entry_ok tok (by intro e he; simp only [List.mem_cons, List.not_mem_nil, or_false] at he; rcases he with rfl <;> first | exact e_w_heldSlot k) (by kernel_rfl) (fn := Tryz.f19) (k := k) (es := [⟨73, 0, (.cons (.agg (.cons (.int .i64) (.cons .str (.cons .str (.cons (.int .i64) (.cons (.il true (.int .i64)) (.cons (.int .i64) .nil))))))) (.cons (.int .i64) .nil)), (.int .i64), w_heldSlot k⟩]) (loops := []) (by kernel_rfl) (by kernel_rfl) (fun x r h => (t_w_heldSlots k x).trans h)
def w_FnExactOpenData (k : Nat) (x : (Int × ByteArray × ByteArray × Int × List (Int) × Int × Int × ByteArray × ByteArray × Int × List (Int) × Int × Unit) × (Int × Int × Int × Int × Int × List (Int) × ByteArray × Unit) × Int × Unit) : Option (Bool × Unit × Unit × Unit × Unit) :=
((w_szSlots k ((x.1.1, (x.1.2.1, (x.1.2.2.1, (x.1.2.2.2.1, (x.1.2.2.2.2.1, (x.1.2.2.2.2.2.1, (x.1.2.2.2.2.2.2.1, (x.1.2.2.2.2.2.2.2.1, (x.1.2.2.2.2.2.2.2.2.1, (x.1.2.2.2.2.2.2.2.2.2.1, (x.1.2.2.2.2.2.2.2.2.2.2.1, (x.1.2.2.2.2.2.2.2.2.2.2.2.1, ())))))))))))), ((1048576 : Int), ()))).bind fun p1 =>
(if (decide (p1.1 < (0 : Int))) = true then
some (true, ((), ((), ((), ()))))
else
((w_szPacket k ((x.2.1.1, (x.2.1.2.1, (x.2.1.2.2.1, (x.2.1.2.2.2.1, (x.2.1.2.2.2.2.1, (x.2.1.2.2.2.2.2.1, (x.2.1.2.2.2.2.2.2.1, ()))))))), (p1.1, ()))).bind fun p2 =>
(if (decide (p2.1 < (0 : Int))) = true then
some (true, ((), ((), ((), ()))))
else
((w_toSlots k ((x.1.1, (x.1.2.1, (x.1.2.2.1, (x.1.2.2.2.1, (x.1.2.2.2.2.1, (x.1.2.2.2.2.2.1, (x.1.2.2.2.2.2.2.1, (x.1.2.2.2.2.2.2.2.1, (x.1.2.2.2.2.2.2.2.2.1, (x.1.2.2.2.2.2.2.2.2.2.1, (x.1.2.2.2.2.2.2.2.2.2.2.1, (x.1.2.2.2.2.2.2.2.2.2.2.2.1, ())))))))))))), ())).bind fun p3 =>
((w_toPacket k ((x.2.1.1, (x.2.1.2.1, (x.2.1.2.2.1, (x.2.1.2.2.2.1, (x.2.1.2.2.2.2.1, (x.2.1.2.2.2.2.2.1, (x.2.1.2.2.2.2.2.2.1, ()))))))), ())).bind fun p4 =>
((s_OpenData k ((p3.1.1, (p3.1.2.1, (p3.1.2.2.1, (p3.1.2.2.2.1, (p3.1.2.2.2.2.1, (p3.1.2.2.2.2.2.1, (p3.1.2.2.2.2.2.2.1, (p3.1.2.2.2.2.2.2.2.1, (p3.1.2.2.2.2.2.2.2.2.1, (p3.1.2.2.2.2.2.2.2.2.2.1, (p3.1.2.2.2.2.2.2.2.2.2.2.1, (p3.1.2.2.2.2.2.2.2.2.2.2.2.1, ())))))))))))), ((p4.1.1, (p4.1.2.1, (p4.1.2.2.1, (p4.1.2.2.2.1, (p4.1.2.2.2.2.1, (p4.1.2.2.2.2.2.1, (p4.1.2.2.2.2.2.2.1, ()))))))), (x.2.2.1, ())))).bind fun p5 =>
((w_toSlots k ((x.1.1, (x.1.2.1, (x.1.2.2.1, (x.1.2.2.2.1, (x.1.2.2.2.2.1, (x.1.2.2.2.2.2.1, (x.1.2.2.2.2.2.2.1, (x.1.2.2.2.2.2.2.2.1, (x.1.2.2.2.2.2.2.2.2.1, (x.1.2.2.2.2.2.2.2.2.2.1, (x.1.2.2.2.2.2.2.2.2.2.2.1, (x.1.2.2.2.2.2.2.2.2.2.2.2.1, ())))))))))))), ())).bind fun p6 =>
((w_toPacket k ((x.2.1.1, (x.2.1.2.1, (x.2.1.2.2.1, (x.2.1.2.2.2.1, (x.2.1.2.2.2.2.1, (x.2.1.2.2.2.2.2.1, (x.2.1.2.2.2.2.2.2.1, ()))))))), ())).bind fun p7 =>
((i_OpenData k ((p6.1.1, (p6.1.2.1, (p6.1.2.2.1, (p6.1.2.2.2.1, (p6.1.2.2.2.2.1, (p6.1.2.2.2.2.2.1, (p6.1.2.2.2.2.2.2.1, (p6.1.2.2.2.2.2.2.2.1, (p6.1.2.2.2.2.2.2.2.2.1, (p6.1.2.2.2.2.2.2.2.2.2.1, (p6.1.2.2.2.2.2.2.2.2.2.2.1, (p6.1.2.2.2.2.2.2.2.2.2.2.2.1, ())))))))))))), ((p7.1.1, (p7.1.2.1, (p7.1.2.2.1, (p7.1.2.2.2.1, (p7.1.2.2.2.2.1, (p7.1.2.2.2.2.2.1, (p7.1.2.2.2.2.2.2.1, ()))))))), (x.2.2.1, ())))).bind fun p8 =>
((w_eqSlots k ((p8.1.1.1, (p8.1.1.2.1, (p8.1.1.2.2.1, (p8.1.1.2.2.2.1, (p8.1.1.2.2.2.2.1, (p8.1.1.2.2.2.2.2.1, (p8.1.1.2.2.2.2.2.2.1, (p8.1.1.2.2.2.2.2.2.2.1, (p8.1.1.2.2.2.2.2.2.2.2.1, (p8.1.1.2.2.2.2.2.2.2.2.2.1, (p8.1.1.2.2.2.2.2.2.2.2.2.2.1, (p8.1.1.2.2.2.2.2.2.2.2.2.2.2.1, ())))))))))))), ((p5.1.1.1, (p5.1.1.2.1, (p5.1.1.2.2.1, (p5.1.1.2.2.2.1, (p5.1.1.2.2.2.2.1, (p5.1.1.2.2.2.2.2.1, (p5.1.1.2.2.2.2.2.2.1, (p5.1.1.2.2.2.2.2.2.2.1, (p5.1.1.2.2.2.2.2.2.2.2.1, (p5.1.1.2.2.2.2.2.2.2.2.2.1, (p5.1.1.2.2.2.2.2.2.2.2.2.2.1, (p5.1.1.2.2.2.2.2.2.2.2.2.2.2.1, ())))))))))))), ()))).bind fun p9 =>
(if (!p9.1) = false then
(if (!decide (p8.1.2.1 = p5.1.2.1)) = false then
(if (!decide (p8.1.2.2.1 = p5.1.2.2.1)) = true then
some (false, ((), ((), ((), ()))))
else
((w_toSlots k ((x.1.1, (x.1.2.1, (x.1.2.2.1, (x.1.2.2.2.1, (x.1.2.2.2.2.1, (x.1.2.2.2.2.2.1, (x.1.2.2.2.2.2.2.1, (x.1.2.2.2.2.2.2.2.1, (x.1.2.2.2.2.2.2.2.2.1, (x.1.2.2.2.2.2.2.2.2.2.1, (x.1.2.2.2.2.2.2.2.2.2.2.1, (x.1.2.2.2.2.2.2.2.2.2.2.2.1, ())))))))))))), ())).bind fun p10 =>
((w_eqSlots k ((p6.1.1, (p6.1.2.1, (p6.1.2.2.1, (p6.1.2.2.2.1, (p6.1.2.2.2.2.1, (p6.1.2.2.2.2.2.1, (p6.1.2.2.2.2.2.2.1, (p6.1.2.2.2.2.2.2.2.1, (p6.1.2.2.2.2.2.2.2.2.1, (p6.1.2.2.2.2.2.2.2.2.2.1, (p6.1.2.2.2.2.2.2.2.2.2.2.1, (p6.1.2.2.2.2.2.2.2.2.2.2.2.1, ())))))))))))), ((p10.1.1, (p10.1.2.1, (p10.1.2.2.1, (p10.1.2.2.2.1, (p10.1.2.2.2.2.1, (p10.1.2.2.2.2.2.1, (p10.1.2.2.2.2.2.2.1, (p10.1.2.2.2.2.2.2.2.1, (p10.1.2.2.2.2.2.2.2.2.1, (p10.1.2.2.2.2.2.2.2.2.2.1, (p10.1.2.2.2.2.2.2.2.2.2.2.1, (p10.1.2.2.2.2.2.2.2.2.2.2.2.1, ())))))))))))), ()))).bind fun p11 =>
(if (!p11.1) = true then
some (false, ((), ((), ((), ()))))
else
((w_toPacket k ((x.2.1.1, (x.2.1.2.1, (x.2.1.2.2.1, (x.2.1.2.2.2.1, (x.2.1.2.2.2.2.1, (x.2.1.2.2.2.2.2.1, (x.2.1.2.2.2.2.2.2.1, ()))))))), ())).bind fun p12 =>
((w_eqPacket k ((p7.1.1, (p7.1.2.1, (p7.1.2.2.1, (p7.1.2.2.2.1, (p7.1.2.2.2.2.1, (p7.1.2.2.2.2.2.1, (p7.1.2.2.2.2.2.2.1, ()))))))), ((p12.1.1, (p12.1.2.1, (p12.1.2.2.1, (p12.1.2.2.2.1, (p12.1.2.2.2.2.1, (p12.1.2.2.2.2.2.1, (p12.1.2.2.2.2.2.2.1, ()))))))), ()))).bind fun p13 =>
(if (!p13.1) = true then
some (false, ((), ((), ((), ()))))
else
((w_markSlots k ((p6.1.1, (p6.1.2.1, (p6.1.2.2.1, (p6.1.2.2.2.1, (p6.1.2.2.2.2.1, (p6.1.2.2.2.2.2.1, (p6.1.2.2.2.2.2.2.1, (p6.1.2.2.2.2.2.2.2.1, (p6.1.2.2.2.2.2.2.2.2.1, (p6.1.2.2.2.2.2.2.2.2.2.1, (p6.1.2.2.2.2.2.2.2.2.2.2.1, (p6.1.2.2.2.2.2.2.2.2.2.2.2.1, ())))))))))))), ((1 : Int), ()))).bind fun p14 =>
((w_markPacket k ((p7.1.1, (p7.1.2.1, (p7.1.2.2.1, (p7.1.2.2.2.1, (p7.1.2.2.2.2.1, (p7.1.2.2.2.2.2.1, (p7.1.2.2.2.2.2.2.1, ()))))))), (p14.1, ()))).bind fun p15 =>
(if (decide (p15.1 < (0 : Int))) = false then
((w_eqSlots k ((p8.1.1.1, (p8.1.1.2.1, (p8.1.1.2.2.1, (p8.1.1.2.2.2.1, (p8.1.1.2.2.2.2.1, (p8.1.1.2.2.2.2.2.1, (p8.1.1.2.2.2.2.2.2.1, (p8.1.1.2.2.2.2.2.2.2.1, (p8.1.1.2.2.2.2.2.2.2.2.1, (p8.1.1.2.2.2.2.2.2.2.2.2.1, (p8.1.1.2.2.2.2.2.2.2.2.2.2.1, (p8.1.1.2.2.2.2.2.2.2.2.2.2.2.1, ())))))))))))), ((p5.1.1.1, (p5.1.1.2.1, (p5.1.1.2.2.1, (p5.1.1.2.2.2.1, (p5.1.1.2.2.2.2.1, (p5.1.1.2.2.2.2.2.1, (p5.1.1.2.2.2.2.2.2.1, (p5.1.1.2.2.2.2.2.2.2.1, (p5.1.1.2.2.2.2.2.2.2.2.1, (p5.1.1.2.2.2.2.2.2.2.2.2.1, (p5.1.1.2.2.2.2.2.2.2.2.2.2.1, (p5.1.1.2.2.2.2.2.2.2.2.2.2.2.1, ())))))))))))), ()))).bind fun p16 =>
(if (!p16.1) = false then
(if (!decide (p8.1.2.1 = p5.1.2.1)) = false then
(if (!decide (p8.1.2.2.1 = p5.1.2.2.1)) = true then
some (false, ((), ((), ((), ()))))
else
((w_markSlots k ((p8.1.1.1, (p8.1.1.2.1, (p8.1.1.2.2.1, (p8.1.1.2.2.2.1, (p8.1.1.2.2.2.2.1, (p8.1.1.2.2.2.2.2.1, (p8.1.1.2.2.2.2.2.2.1, (p8.1.1.2.2.2.2.2.2.2.1, (p8.1.1.2.2.2.2.2.2.2.2.1, (p8.1.1.2.2.2.2.2.2.2.2.2.1, (p8.1.1.2.2.2.2.2.2.2.2.2.2.1, (p8.1.1.2.2.2.2.2.2.2.2.2.2.2.1, ())))))))))))), ((1 : Int), ()))).bind fun p17 =>
((w_heldSlots k ((p8.1.1.1, (p8.1.1.2.1, (p8.1.1.2.2.1, (p8.1.1.2.2.2.1, (p17.2.1.2.2.2.2.1, (p8.1.1.2.2.2.2.2.1, (p8.1.1.2.2.2.2.2.2.1, (p8.1.1.2.2.2.2.2.2.2.1, (p8.1.1.2.2.2.2.2.2.2.2.1, (p8.1.1.2.2.2.2.2.2.2.2.2.1, (p17.2.1.2.2.2.2.2.2.2.2.2.2.1, (p8.1.1.2.2.2.2.2.2.2.2.2.2.2.1, ())))))))))))), ((1 : Int), ()))).bind fun p18 =>
(if (decide (p18.1 < (0 : Int))) = true then
some (false, ((), ((), ((), ()))))
else
(if (!decide (p18.1 = p17.1)) = true then
some (false, ((), ((), ((), ()))))
else
((w_toSlots k ((x.1.1, (x.1.2.1, (x.1.2.2.1, (x.1.2.2.2.1, (x.1.2.2.2.2.1, (x.1.2.2.2.2.2.1, (x.1.2.2.2.2.2.2.1, (x.1.2.2.2.2.2.2.2.1, (x.1.2.2.2.2.2.2.2.2.1, (x.1.2.2.2.2.2.2.2.2.2.1, (x.1.2.2.2.2.2.2.2.2.2.2.1, (x.1.2.2.2.2.2.2.2.2.2.2.2.1, ())))))))))))), ())).bind fun p19 =>
((w_toPacket k ((x.2.1.1, (x.2.1.2.1, (x.2.1.2.2.1, (x.2.1.2.2.2.1, (x.2.1.2.2.2.2.1, (x.2.1.2.2.2.2.2.1, (x.2.1.2.2.2.2.2.2.1, ()))))))), ())).bind fun p20 =>
((i_OpenData k ((p19.1.1, (p19.1.2.1, (p19.1.2.2.1, (p19.1.2.2.2.1, (p19.1.2.2.2.2.1, (p19.1.2.2.2.2.2.1, (p19.1.2.2.2.2.2.2.1, (p19.1.2.2.2.2.2.2.2.1, (p19.1.2.2.2.2.2.2.2.2.1, (p19.1.2.2.2.2.2.2.2.2.2.1, (p19.1.2.2.2.2.2.2.2.2.2.2.1, (p19.1.2.2.2.2.2.2.2.2.2.2.2.1, ())))))))))))), ((p20.1.1, (p20.1.2.1, (p20.1.2.2.1, (p20.1.2.2.2.1, (p20.1.2.2.2.2.1, (p20.1.2.2.2.2.2.1, (p20.1.2.2.2.2.2.2.1, ()))))))), (x.2.2.1, ())))).bind fun p21 =>
((w_eqSlots k ((p21.1.1.1, (p21.1.1.2.1, (p21.1.1.2.2.1, (p21.1.1.2.2.2.1, (p21.1.1.2.2.2.2.1, (p21.1.1.2.2.2.2.2.1, (p21.1.1.2.2.2.2.2.2.1, (p21.1.1.2.2.2.2.2.2.2.1, (p21.1.1.2.2.2.2.2.2.2.2.1, (p21.1.1.2.2.2.2.2.2.2.2.2.1, (p21.1.1.2.2.2.2.2.2.2.2.2.2.1, (p21.1.1.2.2.2.2.2.2.2.2.2.2.2.1, ())))))))))))), ((p5.1.1.1, (p5.1.1.2.1, (p5.1.1.2.2.1, (p5.1.1.2.2.2.1, (p5.1.1.2.2.2.2.1, (p5.1.1.2.2.2.2.2.1, (p5.1.1.2.2.2.2.2.2.1, (p5.1.1.2.2.2.2.2.2.2.1, (p5.1.1.2.2.2.2.2.2.2.2.1, (p5.1.1.2.2.2.2.2.2.2.2.2.1, (p5.1.1.2.2.2.2.2.2.2.2.2.2.1, (p5.1.1.2.2.2.2.2.2.2.2.2.2.2.1, ())))))))))))), ()))).bind fun p22 =>
(if (!p22.1) = false then
(if (!decide (p21.1.2.1 = p5.1.2.1)) = false then
(if (!decide (p21.1.2.2.1 = p5.1.2.2.1)) = true then
some (false, ((), ((), ((), ()))))
else
((w_heldSlots k ((p8.1.1.1, (p8.1.1.2.1, (p8.1.1.2.2.1, (p8.1.1.2.2.2.1, (p17.2.1.2.2.2.2.1, (p8.1.1.2.2.2.2.2.1, (p8.1.1.2.2.2.2.2.2.1, (p8.1.1.2.2.2.2.2.2.2.1, (p8.1.1.2.2.2.2.2.2.2.2.1, (p8.1.1.2.2.2.2.2.2.2.2.2.1, (p17.2.1.2.2.2.2.2.2.2.2.2.2.1, (p8.1.1.2.2.2.2.2.2.2.2.2.2.2.1, ())))))))))))), ((1 : Int), ()))).bind fun p23 =>
(if (decide (p23.1 < (0 : Int))) = true then
some (false, ((), ((), ((), ()))))
else
(if (!decide (p23.1 = p17.1)) = true then
some (false, ((), ((), ((), ()))))
else
some (true, ((), ((), ((), ()))))))))
else
some (false, ((), ((), ((), ())))))
else
some (false, ((), ((), ((), ()))))))))))))))
else
some (false, ((), ((), ((), ())))))
else
some (false, ((), ((), ((), ()))))))
else
some (false, ((), ((), ((), ()))))))))))))))
else
some (false, ((), ((), ((), ())))))
else
some (false, ((), ((), ((), ()))))))))))))))))
theorem t_w_FnExactOpenData (k : Nat) (x) : evF TTab k [⟨9, 0, (.cons (.agg (.cons (.int .i64) (.cons .str (.cons .str (.cons (.int .i64) (.cons (.il true (.int .i64)) (.cons (.int .i64) (.cons (.int .i64) (.cons .str (.cons .str (.cons (.int .i64) (.cons (.il true (.int .i64)) (.cons (.int .i64) .nil))))))))))))) (.cons (.int .i64) .nil)), (.int .i64), w_szSlots k⟩, ⟨10, 0, (.cons (.agg (.cons (.int .i64) (.cons (.int .i64) (.cons (.int .i64) (.cons (.int .i64) (.cons (.int .i64) (.cons (.il true (.int .i64)) (.cons .str .nil)))))))) (.cons (.int .i64) .nil)), (.int .i64), w_szPacket k⟩, ⟨11, 0, (.cons (.agg (.cons (.int .i64) (.cons .str (.cons .str (.cons (.int .i64) (.cons (.il true (.int .i64)) (.cons (.int .i64) (.cons (.int .i64) (.cons .str (.cons .str (.cons (.int .i64) (.cons (.il true (.int .i64)) (.cons (.int .i64) .nil))))))))))))) (.cons (.agg (.cons (.int .i64) (.cons (.int .i64) (.cons (.int .i64) (.cons (.int .i64) (.cons (.int .i64) (.cons (.il true (.int .i64)) (.cons .str .nil)))))))) (.cons (.int .i64) .nil))), (.tup (.cons (.agg (.cons (.int .i64) (.cons .str (.cons .str (.cons (.int .i64) (.cons (.il false (.int .i64)) (.cons (.int .i64) (.cons (.int .i64) (.cons .str (.cons .str (.cons (.int .i64) (.cons (.il false (.int .i64)) (.cons (.int .i64) .nil))))))))))))) (.cons .str (.cons .bool .nil)))), s_OpenData k⟩, ⟨12, 0, (.cons (.agg (.cons (.int .i64) (.cons .str (.cons .str (.cons (.int .i64) (.cons (.il true (.int .i64)) (.cons (.int .i64) (.cons (.int .i64) (.cons .str (.cons .str (.cons (.int .i64) (.cons (.il true (.int .i64)) (.cons (.int .i64) .nil))))))))))))) .nil), (.agg (.cons (.int .i64) (.cons .str (.cons .str (.cons (.int .i64) (.cons (.own false 3 (.int .i64)) (.cons (.int .i64) (.cons (.int .i64) (.cons .str (.cons .str (.cons (.int .i64) (.cons (.own false 3 (.int .i64)) (.cons (.int .i64) .nil))))))))))))), w_toSlots k⟩, ⟨13, 0, (.cons (.agg (.cons (.int .i64) (.cons (.int .i64) (.cons (.int .i64) (.cons (.int .i64) (.cons (.int .i64) (.cons (.il true (.int .i64)) (.cons .str .nil)))))))) .nil), (.agg (.cons (.int .i64) (.cons (.int .i64) (.cons (.int .i64) (.cons (.int .i64) (.cons (.int .i64) (.cons (.own false 3 (.int .i64)) (.cons .str .nil)))))))), w_toPacket k⟩, ⟨14, 0, (.cons (.agg (.cons (.int .i64) (.cons .str (.cons .str (.cons (.int .i64) (.cons (.il true (.int .i64)) (.cons (.int .i64) (.cons (.int .i64) (.cons .str (.cons .str (.cons (.int .i64) (.cons (.il true (.int .i64)) (.cons (.int .i64) .nil))))))))))))) (.cons (.agg (.cons (.int .i64) (.cons (.int .i64) (.cons (.int .i64) (.cons (.int .i64) (.cons (.int .i64) (.cons (.il true (.int .i64)) (.cons .str .nil)))))))) (.cons (.int .i64) .nil))), (.tup (.cons (.agg (.cons (.int .i64) (.cons .str (.cons .str (.cons (.int .i64) (.cons (.own false 3 (.int .i64)) (.cons (.int .i64) (.cons (.int .i64) (.cons .str (.cons .str (.cons (.int .i64) (.cons (.own false 3 (.int .i64)) (.cons (.int .i64) .nil))))))))))))) (.cons .str (.cons .bool .nil)))), i_OpenData k⟩, ⟨15, 0, (.cons (.agg (.cons (.int .i64) (.cons .str (.cons .str (.cons (.int .i64) (.cons (.il true (.int .i64)) (.cons (.int .i64) (.cons (.int .i64) (.cons .str (.cons .str (.cons (.int .i64) (.cons (.il true (.int .i64)) (.cons (.int .i64) .nil))))))))))))) (.cons (.agg (.cons (.int .i64) (.cons .str (.cons .str (.cons (.int .i64) (.cons (.il true (.int .i64)) (.cons (.int .i64) (.cons (.int .i64) (.cons .str (.cons .str (.cons (.int .i64) (.cons (.il true (.int .i64)) (.cons (.int .i64) .nil))))))))))))) .nil)), .bool, w_eqSlots k⟩, ⟨16, 0, (.cons (.agg (.cons (.int .i64) (.cons (.int .i64) (.cons (.int .i64) (.cons (.int .i64) (.cons (.int .i64) (.cons (.il true (.int .i64)) (.cons .str .nil)))))))) (.cons (.agg (.cons (.int .i64) (.cons (.int .i64) (.cons (.int .i64) (.cons (.int .i64) (.cons (.int .i64) (.cons (.il true (.int .i64)) (.cons .str .nil)))))))) .nil)), .bool, w_eqPacket k⟩, ⟨17, 0, (.cons (.mag (.cons (.int .i64) (.cons .str (.cons .str (.cons (.int .i64) (.cons (.mut false 3 (.int .i64)) (.cons (.int .i64) (.cons (.int .i64) (.cons .str (.cons .str (.cons (.int .i64) (.cons (.mut false 3 (.int .i64)) (.cons (.int .i64) .nil))))))))))))) (.cons (.int .i64) .nil)), (.int .i64), w_markSlots k⟩, ⟨18, 0, (.cons (.mag (.cons (.int .i64) (.cons (.int .i64) (.cons (.int .i64) (.cons (.int .i64) (.cons (.int .i64) (.cons (.mut false 3 (.int .i64)) (.cons .str .nil)))))))) (.cons (.int .i64) .nil)), (.int .i64), w_markPacket k⟩, ⟨19, 0, (.cons (.agg (.cons (.int .i64) (.cons .str (.cons .str (.cons (.int .i64) (.cons (.il true (.int .i64)) (.cons (.int .i64) (.cons (.int .i64) (.cons .str (.cons .str (.cons (.int .i64) (.cons (.il true (.int .i64)) (.cons (.int .i64) .nil))))))))))))) (.cons (.int .i64) .nil)), (.int .i64), w_heldSlots k⟩] [] Tryz.f3 (.cons (.agg (.cons (.int .i64) (.cons .str (.cons .str (.cons (.int .i64) (.cons (.il true (.int .i64)) (.cons (.int .i64) (.cons (.int .i64) (.cons .str (.cons .str (.cons (.int .i64) (.cons (.il true (.int .i64)) (.cons (.int .i64) .nil))))))))))))) (.cons (.agg (.cons (.int .i64) (.cons (.int .i64) (.cons (.int .i64) (.cons (.int .i64) (.cons (.int .i64) (.cons (.il true (.int .i64)) (.cons .str .nil)))))))) (.cons (.int .i64) .nil))) .bool x = w_FnExactOpenData k x := by kernel_rfl
theorem e_w_FnExactOpenData (k : Nat) : EntryOk Tryz.prog ⟨3, 0, (.cons (.agg (.cons (.int .i64) (.cons .str (.cons .str (.cons (.int .i64) (.cons (.il true (.int .i64)) (.cons (.int .i64) (.cons (.int .i64) (.cons .str (.cons .str (.cons (.int .i64) (.cons (.il true (.int .i64)) (.cons (.int .i64) .nil))))))))))))) (.cons (.agg (.cons (.int .i64) (.cons (.int .i64) (.cons (.int .i64) (.cons (.int .i64) (.cons (.int .i64) (.cons (.il true (.int .i64)) (.cons .str .nil)))))))) (.cons (.int .i64) .nil))), .bool, w_FnExactOpenData k⟩ := entry_ok tok (by intro e he; simp only [List.mem_cons, List.not_mem_nil, or_false] at he; rcases he with rfl | rfl | rfl | rfl | rfl | rfl | rfl | rfl | rfl | rfl | rfl <;> first | exact e_w_szSlots k | exact e_w_szPacket k | exact e_s_OpenData k | exact e_w_toSlots k | exact e_w_toPacket k | exact e_i_OpenData k | exact e_w_eqSlots k | exact e_w_eqPacket k | exact e_w_markSlots k | exact e_w_markPacket k | exact e_w_heldSlots k) (by kernel_rfl) (fn := Tryz.f3) (k := k) (es := [⟨9, 0, (.cons (.agg (.cons (.int .i64) (.cons .str (.cons .str (.cons (.int .i64) (.cons (.il true (.int .i64)) (.cons (.int .i64) (.cons (.int .i64) (.cons .str (.cons .str (.cons (.int .i64) (.cons (.il true (.int .i64)) (.cons (.int .i64) .nil))))))))))))) (.cons (.int .i64) .nil)), (.int .i64), w_szSlots k⟩, ⟨10, 0, (.cons (.agg (.cons (.int .i64) (.cons (.int .i64) (.cons (.int .i64) (.cons (.int .i64) (.cons (.int .i64) (.cons (.il true (.int .i64)) (.cons .str .nil)))))))) (.cons (.int .i64) .nil)), (.int .i64), w_szPacket k⟩, ⟨11, 0, (.cons (.agg (.cons (.int .i64) (.cons .str (.cons .str (.cons (.int .i64) (.cons (.il true (.int .i64)) (.cons (.int .i64) (.cons (.int .i64) (.cons .str (.cons .str (.cons (.int .i64) (.cons (.il true (.int .i64)) (.cons (.int .i64) .nil))))))))))))) (.cons (.agg (.cons (.int .i64) (.cons (.int .i64) (.cons (.int .i64) (.cons (.int .i64) (.cons (.int .i64) (.cons (.il true (.int .i64)) (.cons .str .nil)))))))) (.cons (.int .i64) .nil))), (.tup (.cons (.agg (.cons (.int .i64) (.cons .str (.cons .str (.cons (.int .i64) (.cons (.il false (.int .i64)) (.cons (.int .i64) (.cons (.int .i64) (.cons .str (.cons .str (.cons (.int .i64) (.cons (.il false (.int .i64)) (.cons (.int .i64) .nil))))))))))))) (.cons .str (.cons .bool .nil)))), s_OpenData k⟩, ⟨12, 0, (.cons (.agg (.cons (.int .i64) (.cons .str (.cons .str (.cons (.int .i64) (.cons (.il true (.int .i64)) (.cons (.int .i64) (.cons (.int .i64) (.cons .str (.cons .str (.cons (.int .i64) (.cons (.il true (.int .i64)) (.cons (.int .i64) .nil))))))))))))) .nil), (.agg (.cons (.int .i64) (.cons .str (.cons .str (.cons (.int .i64) (.cons (.own false 3 (.int .i64)) (.cons (.int .i64) (.cons (.int .i64) (.cons .str (.cons .str (.cons (.int .i64) (.cons (.own false 3 (.int .i64)) (.cons (.int .i64) .nil))))))))))))), w_toSlots k⟩, ⟨13, 0, (.cons (.agg (.cons (.int .i64) (.cons (.int .i64) (.cons (.int .i64) (.cons (.int .i64) (.cons (.int .i64) (.cons (.il true (.int .i64)) (.cons .str .nil)))))))) .nil), (.agg (.cons (.int .i64) (.cons (.int .i64) (.cons (.int .i64) (.cons (.int .i64) (.cons (.int .i64) (.cons (.own false 3 (.int .i64)) (.cons .str .nil)))))))), w_toPacket k⟩, ⟨14, 0, (.cons (.agg (.cons (.int .i64) (.cons .str (.cons .str (.cons (.int .i64) (.cons (.il true (.int .i64)) (.cons (.int .i64) (.cons (.int .i64) (.cons .str (.cons .str (.cons (.int .i64) (.cons (.il true (.int .i64)) (.cons (.int .i64) .nil))))))))))))) (.cons (.agg (.cons (.int .i64) (.cons (.int .i64) (.cons (.int .i64) (.cons (.int .i64) (.cons (.int .i64) (.cons (.il true (.int .i64)) (.cons .str .nil)))))))) (.cons (.int .i64) .nil))), (.tup (.cons (.agg (.cons (.int .i64) (.cons .str (.cons .str (.cons (.int .i64) (.cons (.own false 3 (.int .i64)) (.cons (.int .i64) (.cons (.int .i64) (.cons .str (.cons .str (.cons (.int .i64) (.cons (.own false 3 (.int .i64)) (.cons (.int .i64) .nil))))))))))))) (.cons .str (.cons .bool .nil)))), i_OpenData k⟩, ⟨15, 0, (.cons (.agg (.cons (.int .i64) (.cons .str (.cons .str (.cons (.int .i64) (.cons (.il true (.int .i64)) (.cons (.int .i64) (.cons (.int .i64) (.cons .str (.cons .str (.cons (.int .i64) (.cons (.il true (.int .i64)) (.cons (.int .i64) .nil))))))))))))) (.cons (.agg (.cons (.int .i64) (.cons .str (.cons .str (.cons (.int .i64) (.cons (.il true (.int .i64)) (.cons (.int .i64) (.cons (.int .i64) (.cons .str (.cons .str (.cons (.int .i64) (.cons (.il true (.int .i64)) (.cons (.int .i64) .nil))))))))))))) .nil)), .bool, w_eqSlots k⟩, ⟨16, 0, (.cons (.agg (.cons (.int .i64) (.cons (.int .i64) (.cons (.int .i64) (.cons (.int .i64) (.cons (.int .i64) (.cons (.il true (.int .i64)) (.cons .str .nil)))))))) (.cons (.agg (.cons (.int .i64) (.cons (.int .i64) (.cons (.int .i64) (.cons (.int .i64) (.cons (.int .i64) (.cons (.il true (.int .i64)) (.cons .str .nil)))))))) .nil)), .bool, w_eqPacket k⟩, ⟨17, 0, (.cons (.mag (.cons (.int .i64) (.cons .str (.cons .str (.cons (.int .i64) (.cons (.mut false 3 (.int .i64)) (.cons (.int .i64) (.cons (.int .i64) (.cons .str (.cons .str (.cons (.int .i64) (.cons (.mut false 3 (.int .i64)) (.cons (.int .i64) .nil))))))))))))) (.cons (.int .i64) .nil)), (.int .i64), w_markSlots k⟩, ⟨18, 0, (.cons (.mag (.cons (.int .i64) (.cons (.int .i64) (.cons (.int .i64) (.cons (.int .i64) (.cons (.int .i64) (.cons (.mut false 3 (.int .i64)) (.cons .str .nil)))))))) (.cons (.int .i64) .nil)), (.int .i64), w_markPacket k⟩, ⟨19, 0, (.cons (.agg (.cons (.int .i64) (.cons .str (.cons .str (.cons (.int .i64) (.cons (.il true (.int .i64)) (.cons (.int .i64) (.cons (.int .i64) (.cons .str (.cons .str (.cons (.int .i64) (.cons (.il true (.int .i64)) (.cons (.int .i64) .nil))))))))))))) (.cons (.int .i64) .nil)), (.int .i64), w_heldSlots k⟩]) (loops := []) (by kernel_rfl) (by kernel_rfl) (fun x r h => (t_w_FnExactOpenData k x).trans h)
end Go.Proofs.YtfgdejabocealaaGreat
