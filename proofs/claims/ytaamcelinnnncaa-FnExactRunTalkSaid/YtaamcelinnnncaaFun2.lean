import Derived.Test.YtaamcelinnnncaaFun1
/- What functions of the program compute, as plain functions, and that their calls do so (part 2). Conditions: the plain function answers. -/
set_option linter.unusedVariables false
namespace Go.Proofs.Ytaamcelinnnncaa
open Go Go.Eng Go.Proofs
def s_Send (k : Nat) (x : (Int × Int × Int × List (ByteArray) × (List (Int × ByteArray × Int × Int)) × Int × (List (Int × ByteArray)) × List (Int) × List (ByteArray) × Unit) × Int × Unit) : Option (((Int × Int × Int × List (ByteArray) × (List (Int × ByteArray × Int × Int)) × Int × (List (Int × ByteArray)) × List (Int) × List (ByteArray) × Unit) × (List (Int × Int × Int × Int × Int × List (Int) × ByteArray)) × Unit) × Unit × Unit × Unit) :=
((s_l13Copy k ((x.1.1, (x.1.2.1, (x.1.2.2.1, (x.1.2.2.2.1, (x.1.2.2.2.2.1, (x.1.2.2.2.2.2.1, (x.1.2.2.2.2.2.2.1, (x.1.2.2.2.2.2.2.2.1, (x.1.2.2.2.2.2.2.2.2.1, ()))))))))), ())).bind fun p1 =>
((s_ChanOk k ((x.1.1, (x.1.2.1, (x.1.2.2.1, (x.1.2.2.2.1, (x.1.2.2.2.2.1, (x.1.2.2.2.2.2.1, (x.1.2.2.2.2.2.2.1, (x.1.2.2.2.2.2.2.2.1, (x.1.2.2.2.2.2.2.2.2.1, ()))))))))), ())).bind fun p2 =>
(if (!p2.1) = false then
((s_l01In k (x.2.1, ((0 : Int), ((999999000 : Int), ())))).bind fun p3 =>
(if (!p3.1) = true then
some (((p1.1.1, (p1.1.2.1, (p1.1.2.2.1, (p1.1.2.2.2.1, (p1.1.2.2.2.2.1, (p1.1.2.2.2.2.2.1, (p1.1.2.2.2.2.2.2.1, (p1.1.2.2.2.2.2.2.2.1, (p1.1.2.2.2.2.2.2.2.2.1, ()))))))))), (([] : List (Int × Int × Int × Int × Int × List (Int) × ByteArray)), ())), ((), ((), ())))
else
(jn (fun (z1 : Int × (Int × Int × Int × List (ByteArray) × (List (Int × ByteArray × Int × Int)) × Int × (List (Int × ByteArray)) × List (Int) × List (ByteArray) × Unit) × (Int × Int × Int × List (ByteArray) × (List (Int × ByteArray × Int × Int)) × Int × (List (Int × ByteArray)) × List (Int) × List (ByteArray) × Unit) × (Int × Int × Int × List (ByteArray) × (List (Int × ByteArray × Int × Int)) × Int × (List (Int × ByteArray)) × List (Int) × List (ByteArray) × Unit) × (List (Int × Int × Int × Int × Int × List (Int) × ByteArray)) × Unit) =>
(whileK (fun (rec2 : (Int × (Int × Int × Int × List (ByteArray) × (List (Int × ByteArray × Int × Int)) × Int × (List (Int × ByteArray)) × List (Int) × List (ByteArray) × Unit) × (Int × Int × Int × List (ByteArray) × (List (Int × ByteArray × Int × Int)) × Int × (List (Int × ByteArray)) × List (Int) × List (ByteArray) × Unit) × (Int × Int × Int × List (ByteArray) × (List (Int × ByteArray × Int × Int)) × Int × (List (Int × ByteArray)) × List (Int) × List (ByteArray) × Unit) × (List (Int × Int × Int × Int × Int × List (Int) × ByteArray)) × Int × Unit) → Option _) (y2 : Int × (Int × Int × Int × List (ByteArray) × (List (Int × ByteArray × Int × Int)) × Int × (List (Int × ByteArray)) × List (Int) × List (ByteArray) × Unit) × (Int × Int × Int × List (ByteArray) × (List (Int × ByteArray × Int × Int)) × Int × (List (Int × ByteArray)) × List (Int) × List (ByteArray) × Unit) × (Int × Int × Int × List (ByteArray) × (List (Int × ByteArray × Int × Int)) × Int × (List (Int × ByteArray)) × List (Int) × List (ByteArray) × Unit) × (List (Int × Int × Int × Int × Int × List (Int) × ByteArray)) × Int × Unit) =>
(if (decide (y2.2.2.2.2.2.1 < (List.length y2.2.2.2.1.2.2.2.2.1 : Int))) = true then
(jn (fun (j2v0 : List (Int × Int × Int × Int × Int × List (Int) × ByteArray)) (j2v1 : List (Int × ByteArray × Int × Int)) =>
(rec2 (y2.1, ((y2.2.1.1, (y2.2.1.2.1, (y2.2.1.2.2.1, (y2.2.1.2.2.2.1, (y2.2.1.2.2.2.2.1, (y2.2.1.2.2.2.2.2.1, (y2.2.1.2.2.2.2.2.2.1, (y2.2.1.2.2.2.2.2.2.2.1, (y2.2.1.2.2.2.2.2.2.2.2.1, ()))))))))), ((y2.2.2.1.1, (y2.2.2.1.2.1, (y2.2.2.1.2.2.1, (y2.2.2.1.2.2.2.1, (y2.2.2.1.2.2.2.2.1, (y2.2.2.1.2.2.2.2.2.1, (y2.2.2.1.2.2.2.2.2.2.1, (y2.2.2.1.2.2.2.2.2.2.2.1, (y2.2.2.1.2.2.2.2.2.2.2.2.1, ()))))))))), ((y2.2.2.2.1.1, (y2.2.2.2.1.2.1, (y2.2.2.2.1.2.2.1, (y2.2.2.2.1.2.2.2.1, (j2v1, (y2.2.2.2.1.2.2.2.2.2.1, (y2.2.2.2.1.2.2.2.2.2.2.1, (y2.2.2.2.1.2.2.2.2.2.2.2.1, (y2.2.2.2.1.2.2.2.2.2.2.2.2.1, ()))))))))), (j2v0, ((wi64 (y2.2.2.2.2.2.1 + (1 : Int))), ())))))))) (fun (j2 : (List (Int × Int × Int × Int × Int × List (Int) × ByteArray)) → (List (Int × ByteArray × Int × Int)) → Option _) =>
(if 0 ≤ y2.2.2.2.2.2.1 ∧ y2.2.2.2.2.2.1 < (List.length y2.2.2.2.1.2.2.2.2.1 : Int) then
(if (decide (y2.1 < (Ty.rd (t := yT4) y2.2.2.2.1.2.2.2.2.1 y2.2.2.2.2.2.1).2.2.1)) = false then
(if (decide ((8 : Int) ≤ (Ty.rd (t := yT4) y2.2.2.2.1.2.2.2.2.1 y2.2.2.2.2.2.1).2.2.2)) = true then
(rec2 (y2.1, ((y2.2.1.1, (y2.2.1.2.1, (y2.2.1.2.2.1, (y2.2.1.2.2.2.1, (y2.2.1.2.2.2.2.1, (y2.2.1.2.2.2.2.2.1, (y2.2.1.2.2.2.2.2.2.1, (y2.2.1.2.2.2.2.2.2.2.1, (y2.2.1.2.2.2.2.2.2.2.2.1, ()))))))))), ((y2.2.2.1.1, (y2.2.2.1.2.1, (y2.2.2.1.2.2.1, (y2.2.2.1.2.2.2.1, (y2.2.2.1.2.2.2.2.1, (y2.2.2.1.2.2.2.2.2.1, (y2.2.2.1.2.2.2.2.2.2.1, (y2.2.2.1.2.2.2.2.2.2.2.1, (y2.2.2.1.2.2.2.2.2.2.2.2.1, ()))))))))), ((y2.2.2.2.1.1, (y2.2.2.2.1.2.1, (y2.2.2.2.1.2.2.1, (y2.2.2.2.1.2.2.2.1, (y2.2.2.2.1.2.2.2.2.1, (y2.2.2.2.1.2.2.2.2.2.1, (y2.2.2.2.1.2.2.2.2.2.2.1, (y2.2.2.2.1.2.2.2.2.2.2.2.1, (y2.2.2.2.1.2.2.2.2.2.2.2.2.1, ()))))))))), (y2.2.2.2.2.1, ((wi64 (y2.2.2.2.2.2.1 + (1 : Int))), ())))))))
else
(if (decide ((List.length y2.2.2.2.2.1 : Int) = (0 : Int))) = true then
(if List.length ([] : List (Int)) + List.length y2.2.2.2.1.2.2.2.2.2.2.2.1 ≤ capMax then
(if List.length y2.2.2.2.2.1 + List.length ([((1 : Int), ((0 : Int), (y2.2.1.1, (y2.2.1.2.1, ((Ty.rd (t := yT4) y2.2.2.2.1.2.2.2.2.1 y2.2.2.2.2.2.1).1, ((([] : List (Int)) ++ y2.2.2.2.1.2.2.2.2.2.2.2.1), (Ty.rd (t := yT4) y2.2.2.2.1.2.2.2.2.1 y2.2.2.2.2.2.1).2.1))))))] : List (Int × Int × Int × Int × Int × List (Int) × ByteArray)) ≤ capMax then
(if 0 ≤ y2.2.2.2.2.2.1 ∧ y2.2.2.2.2.2.1 < (List.length y2.2.2.2.1.2.2.2.2.1 : Int) then
(jn (List.set y2.2.2.2.1.2.2.2.2.1 (Int.toNat y2.2.2.2.2.2.1) ((Ty.rd (t := yT4) y2.2.2.2.1.2.2.2.2.1 y2.2.2.2.2.2.1).1, ((Ty.rd (t := yT4) y2.2.2.2.1.2.2.2.2.1 y2.2.2.2.2.2.1).2.1, ((Ty.rd (t := yT4) y2.2.2.2.1.2.2.2.2.1 y2.2.2.2.2.2.1).2.2.1, (wi64 ((Ty.rd (t := yT4) y2.2.2.2.1.2.2.2.2.1 y2.2.2.2.2.2.1).2.2.2 + (1 : Int))))))) (fun (q31 : List (Int × ByteArray × Int × Int)) =>
((s_l13Power k ((wi64 ((Ty.rd (t := yT4) y2.2.2.2.1.2.2.2.2.1 y2.2.2.2.2.2.1).2.2.2 + (1 : Int))), ())).bind fun p4 =>
(if 0 ≤ y2.2.2.2.2.2.1 ∧ y2.2.2.2.2.2.1 < (List.length q31 : Int) then
(j2 (y2.2.2.2.2.1 ++ ([((1 : Int), ((0 : Int), (y2.2.1.1, (y2.2.1.2.1, ((Ty.rd (t := yT4) y2.2.2.2.1.2.2.2.2.1 y2.2.2.2.2.2.1).1, ((([] : List (Int)) ++ y2.2.2.2.1.2.2.2.2.2.2.2.1), (Ty.rd (t := yT4) y2.2.2.2.1.2.2.2.2.1 y2.2.2.2.2.2.1).2.1))))))] : List (Int × Int × Int × Int × Int × List (Int) × ByteArray))) (List.set q31 (Int.toNat y2.2.2.2.2.2.1) ((Ty.rd (t := yT4) q31 y2.2.2.2.2.2.1).1, ((Ty.rd (t := yT4) q31 y2.2.2.2.2.2.1).2.1, ((wi64 (y2.1 + p4.1)), (Ty.rd (t := yT4) q31 y2.2.2.2.2.2.1).2.2.2)))))
else none))))
else none)
else none)
else none)
else
(if List.length y2.2.2.2.2.1 + List.length ([((1 : Int), ((0 : Int), (y2.2.1.1, (y2.2.1.2.1, ((Ty.rd (t := yT4) y2.2.2.2.1.2.2.2.2.1 y2.2.2.2.2.2.1).1, ([], (Ty.rd (t := yT4) y2.2.2.2.1.2.2.2.2.1 y2.2.2.2.2.2.1).2.1))))))] : List (Int × Int × Int × Int × Int × List (Int) × ByteArray)) ≤ capMax then
(if 0 ≤ y2.2.2.2.2.2.1 ∧ y2.2.2.2.2.2.1 < (List.length y2.2.2.2.1.2.2.2.2.1 : Int) then
(jn (List.set y2.2.2.2.1.2.2.2.2.1 (Int.toNat y2.2.2.2.2.2.1) ((Ty.rd (t := yT4) y2.2.2.2.1.2.2.2.2.1 y2.2.2.2.2.2.1).1, ((Ty.rd (t := yT4) y2.2.2.2.1.2.2.2.2.1 y2.2.2.2.2.2.1).2.1, ((Ty.rd (t := yT4) y2.2.2.2.1.2.2.2.2.1 y2.2.2.2.2.2.1).2.2.1, (wi64 ((Ty.rd (t := yT4) y2.2.2.2.1.2.2.2.2.1 y2.2.2.2.2.2.1).2.2.2 + (1 : Int))))))) (fun (q32 : List (Int × ByteArray × Int × Int)) =>
((s_l13Power k ((wi64 ((Ty.rd (t := yT4) y2.2.2.2.1.2.2.2.2.1 y2.2.2.2.2.2.1).2.2.2 + (1 : Int))), ())).bind fun p5 =>
(if 0 ≤ y2.2.2.2.2.2.1 ∧ y2.2.2.2.2.2.1 < (List.length q32 : Int) then
(j2 (y2.2.2.2.2.1 ++ ([((1 : Int), ((0 : Int), (y2.2.1.1, (y2.2.1.2.1, ((Ty.rd (t := yT4) y2.2.2.2.1.2.2.2.2.1 y2.2.2.2.2.2.1).1, ([], (Ty.rd (t := yT4) y2.2.2.2.1.2.2.2.2.1 y2.2.2.2.2.2.1).2.1))))))] : List (Int × Int × Int × Int × Int × List (Int) × ByteArray))) (List.set q32 (Int.toNat y2.2.2.2.2.2.1) ((Ty.rd (t := yT4) q32 y2.2.2.2.2.2.1).1, ((Ty.rd (t := yT4) q32 y2.2.2.2.2.2.1).2.1, ((wi64 (y2.1 + p5.1)), (Ty.rd (t := yT4) q32 y2.2.2.2.2.2.1).2.2.2)))))
else none))))
else none)
else none)))
else
(rec2 (y2.1, ((y2.2.1.1, (y2.2.1.2.1, (y2.2.1.2.2.1, (y2.2.1.2.2.2.1, (y2.2.1.2.2.2.2.1, (y2.2.1.2.2.2.2.2.1, (y2.2.1.2.2.2.2.2.2.1, (y2.2.1.2.2.2.2.2.2.2.1, (y2.2.1.2.2.2.2.2.2.2.2.1, ()))))))))), ((y2.2.2.1.1, (y2.2.2.1.2.1, (y2.2.2.1.2.2.1, (y2.2.2.1.2.2.2.1, (y2.2.2.1.2.2.2.2.1, (y2.2.2.1.2.2.2.2.2.1, (y2.2.2.1.2.2.2.2.2.2.1, (y2.2.2.1.2.2.2.2.2.2.2.1, (y2.2.2.1.2.2.2.2.2.2.2.2.1, ()))))))))), ((y2.2.2.2.1.1, (y2.2.2.2.1.2.1, (y2.2.2.2.1.2.2.1, (y2.2.2.2.1.2.2.2.1, (y2.2.2.2.1.2.2.2.2.1, (y2.2.2.2.1.2.2.2.2.2.1, (y2.2.2.2.1.2.2.2.2.2.2.1, (y2.2.2.2.1.2.2.2.2.2.2.2.1, (y2.2.2.2.1.2.2.2.2.2.2.2.2.1, ()))))))))), (y2.2.2.2.2.1, ((wi64 (y2.2.2.2.2.2.1 + (1 : Int))), ()))))))))
else none)))
else
((fun (z2 : (Int × Int × Int × List (ByteArray) × (List (Int × ByteArray × Int × Int)) × Int × (List (Int × ByteArray)) × List (Int) × List (ByteArray) × Unit) × (Int × Int × Int × List (ByteArray) × (List (Int × ByteArray × Int × Int)) × Int × (List (Int × ByteArray)) × List (Int) × List (ByteArray) × Unit) × (Int × Int × Int × List (ByteArray) × (List (Int × ByteArray × Int × Int)) × Int × (List (Int × ByteArray)) × List (Int) × List (ByteArray) × Unit) × (List (Int × Int × Int × Int × Int × List (Int) × ByteArray)) × Unit) =>
(if (decide ((List.length z2.2.2.2.1 : Int) = (0 : Int))) = true then
(if (decide ((0 : Int) < (List.length z2.2.2.1.2.2.2.2.2.2.2.1 : Int))) = true then
(if List.length ([] : List (Int)) + List.length z2.2.2.1.2.2.2.2.2.2.2.1 ≤ capMax then
(if List.length z2.2.2.2.1 + List.length ([((2 : Int), ((0 : Int), (z2.1.1, (z2.1.2.1, ((0 : Int), ((([] : List (Int)) ++ z2.2.2.1.2.2.2.2.2.2.2.1), (⟨#[]⟩ : ByteArray)))))))] : List (Int × Int × Int × Int × Int × List (Int) × ByteArray)) ≤ capMax then
(if (decide ((0 : Int) < (List.length (z2.2.2.2.1 ++ ([((2 : Int), ((0 : Int), (z2.1.1, (z2.1.2.1, ((0 : Int), ((([] : List (Int)) ++ z2.2.2.1.2.2.2.2.2.2.2.1), (⟨#[]⟩ : ByteArray)))))))] : List (Int × Int × Int × Int × Int × List (Int) × ByteArray))) : Int))) = true then
some (((z2.2.2.1.1, (z2.2.2.1.2.1, (z2.2.2.1.2.2.1, (z2.2.2.1.2.2.2.1, (z2.2.2.1.2.2.2.2.1, (z2.2.2.1.2.2.2.2.2.1, (z2.2.2.1.2.2.2.2.2.2.1, (([] : List (Int)), (z2.2.2.1.2.2.2.2.2.2.2.2.1, ()))))))))), ((z2.2.2.2.1 ++ ([((2 : Int), ((0 : Int), (z2.1.1, (z2.1.2.1, ((0 : Int), ((([] : List (Int)) ++ z2.2.2.1.2.2.2.2.2.2.2.1), (⟨#[]⟩ : ByteArray)))))))] : List (Int × Int × Int × Int × Int × List (Int) × ByteArray))), ())), ((), ((), ())))
else
some (((z2.2.2.1.1, (z2.2.2.1.2.1, (z2.2.2.1.2.2.1, (z2.2.2.1.2.2.2.1, (z2.2.2.1.2.2.2.2.1, (z2.2.2.1.2.2.2.2.2.1, (z2.2.2.1.2.2.2.2.2.2.1, (z2.2.2.1.2.2.2.2.2.2.2.1, (z2.2.2.1.2.2.2.2.2.2.2.2.1, ()))))))))), ((z2.2.2.2.1 ++ ([((2 : Int), ((0 : Int), (z2.1.1, (z2.1.2.1, ((0 : Int), ((([] : List (Int)) ++ z2.2.2.1.2.2.2.2.2.2.2.1), (⟨#[]⟩ : ByteArray)))))))] : List (Int × Int × Int × Int × Int × List (Int) × ByteArray))), ())), ((), ((), ()))))
else none)
else none)
else
(if (decide ((0 : Int) < (List.length z2.2.2.2.1 : Int))) = true then
some (((z2.2.2.1.1, (z2.2.2.1.2.1, (z2.2.2.1.2.2.1, (z2.2.2.1.2.2.2.1, (z2.2.2.1.2.2.2.2.1, (z2.2.2.1.2.2.2.2.2.1, (z2.2.2.1.2.2.2.2.2.2.1, (([] : List (Int)), (z2.2.2.1.2.2.2.2.2.2.2.2.1, ()))))))))), (z2.2.2.2.1, ())), ((), ((), ())))
else
some (((z2.2.2.1.1, (z2.2.2.1.2.1, (z2.2.2.1.2.2.1, (z2.2.2.1.2.2.2.1, (z2.2.2.1.2.2.2.2.1, (z2.2.2.1.2.2.2.2.2.1, (z2.2.2.1.2.2.2.2.2.2.1, (z2.2.2.1.2.2.2.2.2.2.2.1, (z2.2.2.1.2.2.2.2.2.2.2.2.1, ()))))))))), (z2.2.2.2.1, ())), ((), ((), ())))))
else
(if (decide ((0 : Int) < (List.length z2.2.2.2.1 : Int))) = true then
some (((z2.2.2.1.1, (z2.2.2.1.2.1, (z2.2.2.1.2.2.1, (z2.2.2.1.2.2.2.1, (z2.2.2.1.2.2.2.2.1, (z2.2.2.1.2.2.2.2.2.1, (z2.2.2.1.2.2.2.2.2.2.1, (([] : List (Int)), (z2.2.2.1.2.2.2.2.2.2.2.2.1, ()))))))))), (z2.2.2.2.1, ())), ((), ((), ())))
else
some (((z2.2.2.1.1, (z2.2.2.1.2.1, (z2.2.2.1.2.2.1, (z2.2.2.1.2.2.2.1, (z2.2.2.1.2.2.2.2.1, (z2.2.2.1.2.2.2.2.2.1, (z2.2.2.1.2.2.2.2.2.2.1, (z2.2.2.1.2.2.2.2.2.2.2.1, (z2.2.2.1.2.2.2.2.2.2.2.2.1, ()))))))))), (z2.2.2.2.1, ())), ((), ((), ())))))) ((y2.2.1.1, (y2.2.1.2.1, (y2.2.1.2.2.1, (y2.2.1.2.2.2.1, (y2.2.1.2.2.2.2.1, (y2.2.1.2.2.2.2.2.1, (y2.2.1.2.2.2.2.2.2.1, (y2.2.1.2.2.2.2.2.2.2.1, (y2.2.1.2.2.2.2.2.2.2.2.1, ()))))))))), ((y2.2.2.1.1, (y2.2.2.1.2.1, (y2.2.2.1.2.2.1, (y2.2.2.1.2.2.2.1, (y2.2.2.1.2.2.2.2.1, (y2.2.2.1.2.2.2.2.2.1, (y2.2.2.1.2.2.2.2.2.2.1, (y2.2.2.1.2.2.2.2.2.2.2.1, (y2.2.2.1.2.2.2.2.2.2.2.2.1, ()))))))))), ((y2.2.2.2.1.1, (y2.2.2.2.1.2.1, (y2.2.2.2.1.2.2.1, (y2.2.2.2.1.2.2.2.1, (y2.2.2.2.1.2.2.2.2.1, (y2.2.2.2.1.2.2.2.2.2.1, (y2.2.2.2.1.2.2.2.2.2.2.1, (y2.2.2.2.1.2.2.2.2.2.2.2.1, (y2.2.2.2.1.2.2.2.2.2.2.2.2.1, ()))))))))), (y2.2.2.2.2.1, ()))))))) k (z1.1, ((z1.2.1.1, (z1.2.1.2.1, (z1.2.1.2.2.1, (z1.2.1.2.2.2.1, (z1.2.1.2.2.2.2.1, (z1.2.1.2.2.2.2.2.1, (z1.2.1.2.2.2.2.2.2.1, (z1.2.1.2.2.2.2.2.2.2.1, (z1.2.1.2.2.2.2.2.2.2.2.1, ()))))))))), ((z1.2.2.1.1, (z1.2.2.1.2.1, (z1.2.2.1.2.2.1, (z1.2.2.1.2.2.2.1, (z1.2.2.1.2.2.2.2.1, (z1.2.2.1.2.2.2.2.2.1, (z1.2.2.1.2.2.2.2.2.2.1, (z1.2.2.1.2.2.2.2.2.2.2.1, (z1.2.2.1.2.2.2.2.2.2.2.2.1, ()))))))))), ((z1.2.2.2.1.1, (z1.2.2.2.1.2.1, (z1.2.2.2.1.2.2.1, (z1.2.2.2.1.2.2.2.1, (z1.2.2.2.1.2.2.2.2.1, (z1.2.2.2.1.2.2.2.2.2.1, (z1.2.2.2.1.2.2.2.2.2.2.1, (z1.2.2.2.1.2.2.2.2.2.2.2.1, (z1.2.2.2.1.2.2.2.2.2.2.2.2.1, ()))))))))), (z1.2.2.2.2.1, ((0 : Int), ())))))))) (fun (E1 : (Int × (Int × Int × Int × List (ByteArray) × (List (Int × ByteArray × Int × Int)) × Int × (List (Int × ByteArray)) × List (Int) × List (ByteArray) × Unit) × (Int × Int × Int × List (ByteArray) × (List (Int × ByteArray × Int × Int)) × Int × (List (Int × ByteArray)) × List (Int) × List (ByteArray) × Unit) × (Int × Int × Int × List (ByteArray) × (List (Int × ByteArray × Int × Int)) × Int × (List (Int × ByteArray)) × List (Int) × List (ByteArray) × Unit) × (List (Int × Int × Int × Int × Int × List (Int) × ByteArray)) × Unit) → Option _) =>
(whileK (fun (rec0 : (Int × (Int × Int × Int × List (ByteArray) × (List (Int × ByteArray × Int × Int)) × Int × (List (Int × ByteArray)) × List (Int) × List (ByteArray) × Unit) × (Int × Int × Int × List (ByteArray) × (List (Int × ByteArray × Int × Int)) × Int × (List (Int × ByteArray)) × List (Int) × List (ByteArray) × Unit) × (Int × Int × Int × List (ByteArray) × (List (Int × ByteArray × Int × Int)) × Int × (List (Int × ByteArray)) × List (Int) × List (ByteArray) × Unit) × (List (Int × Int × Int × Int × Int × List (Int) × ByteArray)) × Unit) → Option _) (y0 : Int × (Int × Int × Int × List (ByteArray) × (List (Int × ByteArray × Int × Int)) × Int × (List (Int × ByteArray)) × List (Int) × List (ByteArray) × Unit) × (Int × Int × Int × List (ByteArray) × (List (Int × ByteArray × Int × Int)) × Int × (List (Int × ByteArray)) × List (Int) × List (ByteArray) × Unit) × (Int × Int × Int × List (ByteArray) × (List (Int × ByteArray × Int × Int)) × Int × (List (Int × ByteArray)) × List (Int) × List (ByteArray) × Unit) × (List (Int × Int × Int × Int × Int × List (Int) × ByteArray)) × Unit) =>
(jn (
(if 0 ≤ (0 : Int) ∧ (0 : Int) < (List.length y0.2.2.2.1.2.2.2.1 : Int) then
(if List.length y0.2.2.2.1.2.2.2.2.1 + List.length ([((wi64 (y0.2.2.2.1.2.2.1 + (1 : Int))), ((Ty.rd (t := .str) y0.2.2.2.1.2.2.2.1 (0 : Int)), (y0.1, (0 : Int))))] : List (Int × ByteArray × Int × Int)) ≤ capMax then
(if 0 ≤ (1 : Int) ∧ (1 : Int) ≤ (List.length y0.2.2.2.1.2.2.2.1 : Int) then
(if List.length ([] : List (ByteArray)) + List.length (List.drop (Int.toNat (1 : Int)) (List.take (Int.toNat (List.length y0.2.2.2.1.2.2.2.1 : Int)) y0.2.2.2.1.2.2.2.1)) ≤ capMax then
(rec0 (y0.1, ((y0.2.1.1, (y0.2.1.2.1, (y0.2.1.2.2.1, (y0.2.1.2.2.2.1, (y0.2.1.2.2.2.2.1, (y0.2.1.2.2.2.2.2.1, (y0.2.1.2.2.2.2.2.2.1, (y0.2.1.2.2.2.2.2.2.2.1, (y0.2.1.2.2.2.2.2.2.2.2.1, ()))))))))), ((y0.2.2.1.1, (y0.2.2.1.2.1, (y0.2.2.1.2.2.1, (y0.2.2.1.2.2.2.1, (y0.2.2.1.2.2.2.2.1, (y0.2.2.1.2.2.2.2.2.1, (y0.2.2.1.2.2.2.2.2.2.1, (y0.2.2.1.2.2.2.2.2.2.2.1, (y0.2.2.1.2.2.2.2.2.2.2.2.1, ()))))))))), ((y0.2.2.2.1.1, (y0.2.2.2.1.2.1, ((wi64 (y0.2.2.2.1.2.2.1 + (1 : Int))), ((([] : List (ByteArray)) ++ (List.drop (Int.toNat (1 : Int)) (List.take (Int.toNat (List.length y0.2.2.2.1.2.2.2.1 : Int)) y0.2.2.2.1.2.2.2.1))), ((y0.2.2.2.1.2.2.2.2.1 ++ ([((wi64 (y0.2.2.2.1.2.2.1 + (1 : Int))), ((Ty.rd (t := .str) y0.2.2.2.1.2.2.2.1 (0 : Int)), (y0.1, (0 : Int))))] : List (Int × ByteArray × Int × Int))), (y0.2.2.2.1.2.2.2.2.2.1, (y0.2.2.2.1.2.2.2.2.2.2.1, (y0.2.2.2.1.2.2.2.2.2.2.2.1, (y0.2.2.2.1.2.2.2.2.2.2.2.2.1, ()))))))))), (y0.2.2.2.2.1, ()))))))
else none)
else none)
else none)
else none)) (fun (j1 : Option _) =>
(if (decide ((0 : Int) < (List.length y0.2.2.2.1.2.2.2.1 : Int))) = true then
(if (decide ((List.length y0.2.2.2.1.2.2.2.2.1 : Int) < (4 : Int))) = true then
(if (decide ((List.length y0.2.2.2.1.2.2.2.2.1 : Int) = (0 : Int))) = false then
(if 0 ≤ (0 : Int) ∧ (0 : Int) < (List.length y0.2.2.2.1.2.2.2.2.1 : Int) then
(if (decide ((wi64 ((wi64 (y0.2.2.2.1.2.2.1 + (1 : Int))) - (4 : Int))) < (Ty.rd (t := yT4) y0.2.2.2.1.2.2.2.2.1 (0 : Int)).1)) = true then
j1
else
(E1 (y0.1, ((y0.2.1.1, (y0.2.1.2.1, (y0.2.1.2.2.1, (y0.2.1.2.2.2.1, (y0.2.1.2.2.2.2.1, (y0.2.1.2.2.2.2.2.1, (y0.2.1.2.2.2.2.2.2.1, (y0.2.1.2.2.2.2.2.2.2.1, (y0.2.1.2.2.2.2.2.2.2.2.1, ()))))))))), ((y0.2.2.1.1, (y0.2.2.1.2.1, (y0.2.2.1.2.2.1, (y0.2.2.1.2.2.2.1, (y0.2.2.1.2.2.2.2.1, (y0.2.2.1.2.2.2.2.2.1, (y0.2.2.1.2.2.2.2.2.2.1, (y0.2.2.1.2.2.2.2.2.2.2.1, (y0.2.2.1.2.2.2.2.2.2.2.2.1, ()))))))))), ((y0.2.2.2.1.1, (y0.2.2.2.1.2.1, (y0.2.2.2.1.2.2.1, (y0.2.2.2.1.2.2.2.1, (y0.2.2.2.1.2.2.2.2.1, (y0.2.2.2.1.2.2.2.2.2.1, (y0.2.2.2.1.2.2.2.2.2.2.1, (y0.2.2.2.1.2.2.2.2.2.2.2.1, (y0.2.2.2.1.2.2.2.2.2.2.2.2.1, ()))))))))), (y0.2.2.2.2.1, ())))))))
else none)
else
j1)
else
(E1 (y0.1, ((y0.2.1.1, (y0.2.1.2.1, (y0.2.1.2.2.1, (y0.2.1.2.2.2.1, (y0.2.1.2.2.2.2.1, (y0.2.1.2.2.2.2.2.1, (y0.2.1.2.2.2.2.2.2.1, (y0.2.1.2.2.2.2.2.2.2.1, (y0.2.1.2.2.2.2.2.2.2.2.1, ()))))))))), ((y0.2.2.1.1, (y0.2.2.1.2.1, (y0.2.2.1.2.2.1, (y0.2.2.1.2.2.2.1, (y0.2.2.1.2.2.2.2.1, (y0.2.2.1.2.2.2.2.2.1, (y0.2.2.1.2.2.2.2.2.2.1, (y0.2.2.1.2.2.2.2.2.2.2.1, (y0.2.2.1.2.2.2.2.2.2.2.2.1, ()))))))))), ((y0.2.2.2.1.1, (y0.2.2.2.1.2.1, (y0.2.2.2.1.2.2.1, (y0.2.2.2.1.2.2.2.1, (y0.2.2.2.1.2.2.2.2.1, (y0.2.2.2.1.2.2.2.2.2.1, (y0.2.2.2.1.2.2.2.2.2.2.1, (y0.2.2.2.1.2.2.2.2.2.2.2.1, (y0.2.2.2.1.2.2.2.2.2.2.2.2.1, ()))))))))), (y0.2.2.2.2.1, ())))))))
else
(E1 (y0.1, ((y0.2.1.1, (y0.2.1.2.1, (y0.2.1.2.2.1, (y0.2.1.2.2.2.1, (y0.2.1.2.2.2.2.1, (y0.2.1.2.2.2.2.2.1, (y0.2.1.2.2.2.2.2.2.1, (y0.2.1.2.2.2.2.2.2.2.1, (y0.2.1.2.2.2.2.2.2.2.2.1, ()))))))))), ((y0.2.2.1.1, (y0.2.2.1.2.1, (y0.2.2.1.2.2.1, (y0.2.2.1.2.2.2.1, (y0.2.2.1.2.2.2.2.1, (y0.2.2.1.2.2.2.2.2.1, (y0.2.2.1.2.2.2.2.2.2.1, (y0.2.2.1.2.2.2.2.2.2.2.1, (y0.2.2.1.2.2.2.2.2.2.2.2.1, ()))))))))), ((y0.2.2.2.1.1, (y0.2.2.2.1.2.1, (y0.2.2.2.1.2.2.1, (y0.2.2.2.1.2.2.2.1, (y0.2.2.2.1.2.2.2.2.1, (y0.2.2.2.1.2.2.2.2.2.1, (y0.2.2.2.1.2.2.2.2.2.2.1, (y0.2.2.2.1.2.2.2.2.2.2.2.1, (y0.2.2.2.1.2.2.2.2.2.2.2.2.1, ()))))))))), (y0.2.2.2.2.1, ())))))))))) k (x.2.1, ((x.1.1, (x.1.2.1, (x.1.2.2.1, (x.1.2.2.2.1, (x.1.2.2.2.2.1, (x.1.2.2.2.2.2.1, (x.1.2.2.2.2.2.2.1, (x.1.2.2.2.2.2.2.2.1, (x.1.2.2.2.2.2.2.2.2.1, ()))))))))), (((0 : Int), ((0 : Int), ((0 : Int), ([], ([], ((0 : Int), ([], ([], ([], ()))))))))), ((p1.1.1, (p1.1.2.1, (p1.1.2.2.1, (p1.1.2.2.2.1, (p1.1.2.2.2.2.1, (p1.1.2.2.2.2.2.1, (p1.1.2.2.2.2.2.2.1, (p1.1.2.2.2.2.2.2.2.1, (p1.1.2.2.2.2.2.2.2.2.1, ()))))))))), (([] : List (Int × Int × Int × Int × Int × List (Int) × ByteArray)), ()))))))))))
else
some (((p1.1.1, (p1.1.2.1, (p1.1.2.2.1, (p1.1.2.2.2.1, (p1.1.2.2.2.2.1, (p1.1.2.2.2.2.2.1, (p1.1.2.2.2.2.2.2.1, (p1.1.2.2.2.2.2.2.2.1, (p1.1.2.2.2.2.2.2.2.2.1, ()))))))))), (([] : List (Int × Int × Int × Int × Int × List (Int) × ByteArray)), ())), ((), ((), ()))))))
abbrev E_s_Send (k : Nat) : Entry := ⟨146, 0, (.cons (.agg yP6) yP9), (.tup (.cons (.agg yP2) (.cons (.own false 122 yT3) .nil))), s_Send k⟩
theorem t_s_Send (k : Nat) (x) : evF TTab k [E_s_l01In k, E_s_l13Copy k, E_s_ChanOk k, E_s_l13Power k] [(0, ⟨[1, 2, 4, 6, 7], (.cons (.int .i64) (.cons (.ptr 0 yP6) (.cons (.ptr 0 yP2) (.cons (.ptr 0 yP2) (.cons (.own false 122 yT3) .nil)))))⟩, ⟨[1, 2, 4, 6, 7], (.cons (.int .i64) (.cons (.ptr 0 yP6) (.cons (.ptr 0 yP2) (.cons (.ptr 0 yP2) (.cons (.own false 122 yT3) .nil)))))⟩), (2, ⟨[1, 2, 4, 6, 7, 8], (.cons (.int .i64) (.cons (.ptr 0 yP6) (.cons (.ptr 0 yP2) (.cons (.ptr 0 yP2) (.cons (.own false 122 yT3) yP9)))))⟩, ⟨[2, 4, 6, 7], (.cons (.ptr 0 yP6) (.cons (.ptr 0 yP2) (.cons (.ptr 0 yP2) (.cons (.own false 122 yT3) .nil))))⟩)] Try.f146 (.cons (.agg yP6) yP9) (.tup (.cons (.agg yP2) (.cons (.own false 122 yT3) .nil))) x = s_Send k x := by kernel_rfl
theorem e_s_Send [Names] (k : Nat) : EntryOk Try.prog (E_s_Send k) := entry_ok tok (es_cons (e_s_l01In k) (es_cons (e_s_l13Copy k) (es_cons (e_s_ChanOk k) (es_cons (e_s_l13Power k) es_nil)))) (by kernel_rfl) (by kernel_rfl) (by kernel_rfl) fun x r h => (t_s_Send k x).trans h
def s_l14Send (k : Nat) (x : ((List (Int × Int × Int × List (ByteArray) × List (Int × ByteArray × Int × Int) × Int × List (Int × ByteArray) × List (Int) × List (ByteArray))) × Int × (List (Int × Int × Int × Int × Int × List (Int) × ByteArray)) × Unit) × Int × Unit) : Option (Unit × ((List (Int × Int × Int × List (ByteArray) × List (Int × ByteArray × Int × Int) × Int × List (Int × ByteArray) × List (Int) × List (ByteArray))) × Int × (List (Int × Int × Int × Int × Int × List (Int) × ByteArray)) × Unit) × Unit × Unit) :=
(if List.length ([] : List (Int × Int × Int × List (ByteArray) × List (Int × ByteArray × Int × Int) × Int × List (Int × ByteArray) × List (Int) × List (ByteArray))) + List.length x.1.1 ≤ capMax then
(if 0 ≤ x.2.1 ∧ x.2.1 < (List.length (([] : List (Int × Int × Int × List (ByteArray) × List (Int × ByteArray × Int × Int) × Int × List (Int × ByteArray) × List (Int) × List (ByteArray))) ++ x.1.1) : Int) then
((s_Send k (((Ty.rd (t := yT1) (([] : List (Int × Int × Int × List (ByteArray) × List (Int × ByteArray × Int × Int) × Int × List (Int × ByteArray) × List (Int) × List (ByteArray))) ++ x.1.1) x.2.1).1, ((Ty.rd (t := yT1) (([] : List (Int × Int × Int × List (ByteArray) × List (Int × ByteArray × Int × Int) × Int × List (Int × ByteArray) × List (Int) × List (ByteArray))) ++ x.1.1) x.2.1).2.1, ((Ty.rd (t := yT1) (([] : List (Int × Int × Int × List (ByteArray) × List (Int × ByteArray × Int × Int) × Int × List (Int × ByteArray) × List (Int) × List (ByteArray))) ++ x.1.1) x.2.1).2.2.1, ((Ty.rd (t := yT1) (([] : List (Int × Int × Int × List (ByteArray) × List (Int × ByteArray × Int × Int) × Int × List (Int × ByteArray) × List (Int) × List (ByteArray))) ++ x.1.1) x.2.1).2.2.2.1, ((Ty.rd (t := yT1) (([] : List (Int × Int × Int × List (ByteArray) × List (Int × ByteArray × Int × Int) × Int × List (Int × ByteArray) × List (Int) × List (ByteArray))) ++ x.1.1) x.2.1).2.2.2.2.1, ((Ty.rd (t := yT1) (([] : List (Int × Int × Int × List (ByteArray) × List (Int × ByteArray × Int × Int) × Int × List (Int × ByteArray) × List (Int) × List (ByteArray))) ++ x.1.1) x.2.1).2.2.2.2.2.1, ((Ty.rd (t := yT1) (([] : List (Int × Int × Int × List (ByteArray) × List (Int × ByteArray × Int × Int) × Int × List (Int × ByteArray) × List (Int) × List (ByteArray))) ++ x.1.1) x.2.1).2.2.2.2.2.2.1, ((Ty.rd (t := yT1) (([] : List (Int × Int × Int × List (ByteArray) × List (Int × ByteArray × Int × Int) × Int × List (Int × ByteArray) × List (Int) × List (ByteArray))) ++ x.1.1) x.2.1).2.2.2.2.2.2.2.1, ((Ty.rd (t := yT1) (([] : List (Int × Int × Int × List (ByteArray) × List (Int × ByteArray × Int × Int) × Int × List (Int × ByteArray) × List (Int) × List (ByteArray))) ++ x.1.1) x.2.1).2.2.2.2.2.2.2.2, ()))))))))), (x.1.2.1, ()))).bind fun p1 =>
(if 0 ≤ x.2.1 ∧ x.2.1 < (List.length (([] : List (Int × Int × Int × List (ByteArray) × List (Int × ByteArray × Int × Int) × Int × List (Int × ByteArray) × List (Int) × List (ByteArray))) ++ x.1.1) : Int) then
(if List.length ([] : List (Int × Int × Int × Int × Int × List (Int) × ByteArray)) + List.length x.1.2.2.1 ≤ capMax then
(if List.length (([] : List (Int × Int × Int × Int × Int × List (Int) × ByteArray)) ++ x.1.2.2.1) + List.length p1.1.2.1 ≤ capMax then
some ((), (((List.set (([] : List (Int × Int × Int × List (ByteArray) × List (Int × ByteArray × Int × Int) × Int × List (Int × ByteArray) × List (Int) × List (ByteArray))) ++ x.1.1) (Int.toNat x.2.1) (p1.1.1.1, (p1.1.1.2.1, (p1.1.1.2.2.1, (p1.1.1.2.2.2.1, (p1.1.1.2.2.2.2.1, (p1.1.1.2.2.2.2.2.1, (p1.1.1.2.2.2.2.2.2.1, (p1.1.1.2.2.2.2.2.2.2.1, p1.1.1.2.2.2.2.2.2.2.2.1))))))))), (x.1.2.1, (((([] : List (Int × Int × Int × Int × Int × List (Int) × ByteArray)) ++ x.1.2.2.1) ++ p1.1.2.1), ()))), ((), ())))
else none)
else none)
else none))
else none)
else none)
abbrev E_s_l14Send (k : Nat) : Entry := ⟨107, 0, (.cons (.ptr 0 yP12) yP9), (.tup .nil), s_l14Send k⟩
theorem t_s_l14Send (k : Nat) (x) : evF TTab k [E_s_Send k] [] Try.f107 (.cons (.ptr 0 yP12) yP9) (.tup .nil) x = s_l14Send k x := by kernel_rfl
theorem e_s_l14Send [Names] (k : Nat) : EntryOk Try.prog (E_s_l14Send k) := entry_ok tok (es_cons (e_s_Send k) es_nil) (by kernel_rfl) (by kernel_rfl) (by kernel_rfl) fun x r h => (t_s_l14Send k x).trans h
def s_PacketOk (k : Nat) (x : (Int × Int × Int × Int × Int × List (Int) × ByteArray × Unit) × Unit) : Option (Bool × Unit × Unit) :=
((s_l01In k (x.1.1, ((1 : Int), ((3 : Int), ())))).bind fun p1 =>
(if (!p1.1) = false then
((s_l01In k (x.1.2.1, ((0 : Int), ((7 : Int), ())))).bind fun p2 =>
(if (!p2.1) = false then
((s_l01In k (x.1.2.2.1, ((1 : Int), ((99 : Int), ())))).bind fun p3 =>
(if (!p3.1) = false then
((s_l01In k (x.1.2.2.2.1, ((1 : Int), ((99 : Int), ())))).bind fun p4 =>
(if (!p4.1) = false then
((s_l01In k (x.1.2.2.2.2.1, ((0 : Int), ((1000000000 : Int), ())))).bind fun p5 =>
(if (!p5.1) = false then
(if (decide ((4 : Int) < (List.length x.1.2.2.2.2.2.1 : Int))) = false then
(if (decide ((120 : Int) < (ByteArray.size x.1.2.2.2.2.2.2.1 : Int))) = true then
some (false, ((), ()))
else
(whileK (fun (rec0 : ((Int × Int × Int × Int × Int × List (Int) × ByteArray × Unit) × Int × Unit) → Option _) (y0 : (Int × Int × Int × Int × Int × List (Int) × ByteArray × Unit) × Int × Unit) =>
(if (decide (y0.2.1 < (List.length y0.1.2.2.2.2.2.1 : Int))) = true then
(if 0 ≤ y0.2.1 ∧ y0.2.1 < (List.length y0.1.2.2.2.2.2.1 : Int) then
((s_l01In k ((Ty.rd (t := (.int .i64)) y0.1.2.2.2.2.2.1 y0.2.1), ((1 : Int), ((1000000000 : Int), ())))).bind fun p6 =>
(if (!p6.1) = false then
(if (decide (y0.1.1 = (3 : Int))) = true then
some (false, ((), ()))
else
(rec0 ((y0.1.1, (y0.1.2.1, (y0.1.2.2.1, (y0.1.2.2.2.1, (y0.1.2.2.2.2.1, (y0.1.2.2.2.2.2.1, (y0.1.2.2.2.2.2.2.1, ()))))))), ((wi64 (y0.2.1 + (1 : Int))), ()))))
else
some (false, ((), ()))))
else none)
else
((fun (z1 : (Int × Int × Int × Int × Int × List (Int) × ByteArray × Unit) × Unit) =>
(if (!decide (z1.1.1 = (2 : Int))) = false then
(if (decide (z1.1.2.2.2.2.2.2.1 = (⟨#[]⟩ : ByteArray))) = true then
some ((decide (z1.1.2.2.2.2.1 = (0 : Int))), ((), ()))
else
some (false, ((), ())))
else
some (true, ((), ())))) ((y0.1.1, (y0.1.2.1, (y0.1.2.2.1, (y0.1.2.2.2.1, (y0.1.2.2.2.2.1, (y0.1.2.2.2.2.2.1, (y0.1.2.2.2.2.2.2.1, ()))))))), ())))) k ((x.1.1, (x.1.2.1, (x.1.2.2.1, (x.1.2.2.2.1, (x.1.2.2.2.2.1, (x.1.2.2.2.2.2.1, (x.1.2.2.2.2.2.2.1, ()))))))), ((0 : Int), ()))))
else
some (false, ((), ())))
else
some (false, ((), ()))))
else
some (false, ((), ()))))
else
some (false, ((), ()))))
else
some (false, ((), ()))))
else
some (false, ((), ()))))
abbrev E_s_PacketOk (k : Nat) : Entry := ⟨171, 0, (.cons (.agg yP8) .nil), .bool, s_PacketOk k⟩
theorem t_s_PacketOk (k : Nat) (x) : evF TTab k [E_s_l01In k] [(0, ⟨[1, 3], (.cons (.ptr 0 yP8) yP9)⟩, ⟨[1], (.cons (.ptr 0 yP8) .nil)⟩)] Try.f171 (.cons (.agg yP8) .nil) .bool x = s_PacketOk k x := by kernel_rfl
theorem e_s_PacketOk [Names] (k : Nat) : EntryOk Try.prog (E_s_PacketOk k) := entry_ok tok (es_cons (e_s_l01In k) es_nil) (by kernel_rfl) (by kernel_rfl) (by kernel_rfl) fun x r h => (t_s_PacketOk k x).trans h
def s_l13In (k : Nat) (x : List (Int) × Int × Unit) : Option (Bool × Unit × Unit × Unit) :=
(whileK (fun (rec0 : (List (Int) × Int × Int × Unit) → Option _) (y0 : List (Int) × Int × Int × Unit) =>
(if (decide (y0.2.2.1 < (List.length y0.1 : Int))) = true then
(if 0 ≤ y0.2.2.1 ∧ y0.2.2.1 < (List.length y0.1 : Int) then
(if (decide ((Ty.rd (t := (.int .i64)) y0.1 y0.2.2.1) = y0.2.1)) = true then
some (true, ((), ((), ())))
else
(rec0 (y0.1, (y0.2.1, ((wi64 (y0.2.2.1 + (1 : Int))), ())))))
else none)
else
((fun (z1 : Unit) =>
some (false, ((), ((), ())))) ()))) k (x.1, (x.2.1, ((0 : Int), ()))))
abbrev E_s_l13In (k : Nat) : Entry := ⟨172, 0, (.cons (.il true (.int .i64)) yP9), .bool, s_l13In k⟩
theorem t_s_l13In (k : Nat) (x) : evF TTab k [] [(0, ⟨[0, 1, 5], (.cons (.il true (.int .i64)) (.cons (.int .i64) yP9))⟩, ⟨[], .nil⟩)] Try.f172 (.cons (.il true (.int .i64)) yP9) .bool x = s_l13In k x := by kernel_rfl
theorem e_s_l13In [Names] (k : Nat) : EntryOk Try.prog (E_s_l13In k) := entry_ok tok es_nil (by kernel_rfl) (by kernel_rfl) (by kernel_rfl) fun x r h => (t_s_l13In k x).trans h
def s_l13Put (k : Nat) (x : (Int × Int × Int × List (ByteArray) × (List (Int × ByteArray × Int × Int)) × Int × (List (Int × ByteArray)) × List (Int) × List (ByteArray) × Unit) × Int × ByteArray × Unit) : Option (Unit × (Int × Int × Int × List (ByteArray) × (List (Int × ByteArray × Int × Int)) × Int × (List (Int × ByteArray)) × List (Int) × List (ByteArray) × Unit) × Unit × Unit × Unit) :=
(whileK (fun (rec0 : ((Int × Int × Int × List (ByteArray) × (List (Int × ByteArray × Int × Int)) × Int × (List (Int × ByteArray)) × List (Int) × List (ByteArray) × Unit) × Int × ByteArray × (List (Int × ByteArray)) × Int × Unit) → Option _) (y0 : (Int × Int × Int × List (ByteArray) × (List (Int × ByteArray × Int × Int)) × Int × (List (Int × ByteArray)) × List (Int) × List (ByteArray) × Unit) × Int × ByteArray × (List (Int × ByteArray)) × Int × Unit) =>
(if (decide (y0.2.2.2.2.1 < (List.length y0.1.2.2.2.2.2.2.1 : Int))) = true then
(if 0 ≤ y0.2.2.2.2.1 ∧ y0.2.2.2.2.1 < (List.length y0.1.2.2.2.2.2.2.1 : Int) then
(if (decide ((Ty.rd (t := yT14) y0.1.2.2.2.2.2.2.1 y0.2.2.2.2.1).1 = y0.2.1)) = true then
some ((), ((y0.1.1, (y0.1.2.1, (y0.1.2.2.1, (y0.1.2.2.2.1, (y0.1.2.2.2.2.1, (y0.1.2.2.2.2.2.1, (y0.1.2.2.2.2.2.2.1, (y0.1.2.2.2.2.2.2.2.1, (y0.1.2.2.2.2.2.2.2.2.1, ()))))))))), ((), ((), ()))))
else
(if 0 ≤ y0.2.2.2.2.1 ∧ y0.2.2.2.2.1 < (List.length y0.1.2.2.2.2.2.2.1 : Int) then
(if (decide ((Ty.rd (t := yT14) y0.1.2.2.2.2.2.2.1 y0.2.2.2.2.1).1 < y0.2.1)) = true then
(if 0 ≤ y0.2.2.2.2.1 ∧ y0.2.2.2.2.1 < (List.length y0.1.2.2.2.2.2.2.1 : Int) then
(if List.length y0.2.2.2.1 + List.length ([((Ty.rd (t := yT14) y0.1.2.2.2.2.2.2.1 y0.2.2.2.2.1).1, (Ty.rd (t := yT14) y0.1.2.2.2.2.2.2.1 y0.2.2.2.2.1).2)] : List (Int × ByteArray)) ≤ capMax then
(rec0 ((y0.1.1, (y0.1.2.1, (y0.1.2.2.1, (y0.1.2.2.2.1, (y0.1.2.2.2.2.1, (y0.1.2.2.2.2.2.1, (y0.1.2.2.2.2.2.2.1, (y0.1.2.2.2.2.2.2.2.1, (y0.1.2.2.2.2.2.2.2.2.1, ()))))))))), (y0.2.1, (y0.2.2.1, ((y0.2.2.2.1 ++ ([((Ty.rd (t := yT14) y0.1.2.2.2.2.2.2.1 y0.2.2.2.2.1).1, (Ty.rd (t := yT14) y0.1.2.2.2.2.2.2.1 y0.2.2.2.2.1).2)] : List (Int × ByteArray))), ((wi64 (y0.2.2.2.2.1 + (1 : Int))), ()))))))
else none)
else none)
else
(rec0 ((y0.1.1, (y0.1.2.1, (y0.1.2.2.1, (y0.1.2.2.2.1, (y0.1.2.2.2.2.1, (y0.1.2.2.2.2.2.1, (y0.1.2.2.2.2.2.2.1, (y0.1.2.2.2.2.2.2.2.1, (y0.1.2.2.2.2.2.2.2.2.1, ()))))))))), (y0.2.1, (y0.2.2.1, (y0.2.2.2.1, ((wi64 (y0.2.2.2.2.1 + (1 : Int))), ())))))))
else none))
else none)
else
((fun (z1 : (Int × Int × Int × List (ByteArray) × (List (Int × ByteArray × Int × Int)) × Int × (List (Int × ByteArray)) × List (Int) × List (ByteArray) × Unit) × Int × ByteArray × (List (Int × ByteArray)) × Unit) =>
(if List.length z1.2.2.2.1 + List.length ([(z1.2.1, z1.2.2.1)] : List (Int × ByteArray)) ≤ capMax then
(whileK (fun (rec2 : ((Int × Int × Int × List (ByteArray) × (List (Int × ByteArray × Int × Int)) × Int × (List (Int × ByteArray)) × List (Int) × List (ByteArray) × Unit) × Int × (List (Int × ByteArray)) × Int × Unit) → Option _) (y2 : (Int × Int × Int × List (ByteArray) × (List (Int × ByteArray × Int × Int)) × Int × (List (Int × ByteArray)) × List (Int) × List (ByteArray) × Unit) × Int × (List (Int × ByteArray)) × Int × Unit) =>
(if (decide (y2.2.2.2.1 < (List.length y2.1.2.2.2.2.2.2.1 : Int))) = true then
(if 0 ≤ y2.2.2.2.1 ∧ y2.2.2.2.1 < (List.length y2.1.2.2.2.2.2.2.1 : Int) then
(if (decide (y2.2.1 < (Ty.rd (t := yT14) y2.1.2.2.2.2.2.2.1 y2.2.2.2.1).1)) = true then
(if 0 ≤ y2.2.2.2.1 ∧ y2.2.2.2.1 < (List.length y2.1.2.2.2.2.2.2.1 : Int) then
(if List.length y2.2.2.1 + List.length ([((Ty.rd (t := yT14) y2.1.2.2.2.2.2.2.1 y2.2.2.2.1).1, (Ty.rd (t := yT14) y2.1.2.2.2.2.2.2.1 y2.2.2.2.1).2)] : List (Int × ByteArray)) ≤ capMax then
(rec2 ((y2.1.1, (y2.1.2.1, (y2.1.2.2.1, (y2.1.2.2.2.1, (y2.1.2.2.2.2.1, (y2.1.2.2.2.2.2.1, (y2.1.2.2.2.2.2.2.1, (y2.1.2.2.2.2.2.2.2.1, (y2.1.2.2.2.2.2.2.2.2.1, ()))))))))), (y2.2.1, ((y2.2.2.1 ++ ([((Ty.rd (t := yT14) y2.1.2.2.2.2.2.2.1 y2.2.2.2.1).1, (Ty.rd (t := yT14) y2.1.2.2.2.2.2.2.1 y2.2.2.2.1).2)] : List (Int × ByteArray))), ((wi64 (y2.2.2.2.1 + (1 : Int))), ())))))
else none)
else none)
else
(rec2 ((y2.1.1, (y2.1.2.1, (y2.1.2.2.1, (y2.1.2.2.2.1, (y2.1.2.2.2.2.1, (y2.1.2.2.2.2.2.1, (y2.1.2.2.2.2.2.2.1, (y2.1.2.2.2.2.2.2.2.1, (y2.1.2.2.2.2.2.2.2.2.1, ()))))))))), (y2.2.1, (y2.2.2.1, ((wi64 (y2.2.2.2.1 + (1 : Int))), ()))))))
else none)
else
((fun (z2 : (Int × Int × Int × List (ByteArray) × (List (Int × ByteArray × Int × Int)) × Int × (List (Int × ByteArray)) × List (Int) × List (ByteArray) × Unit) × (List (Int × ByteArray)) × Unit) =>
(jn (fun (z3 : (Int × Int × Int × List (ByteArray) × (List (Int × ByteArray × Int × Int)) × Int × (List (Int × ByteArray)) × List (Int) × List (ByteArray) × Unit) × (List (Int × ByteArray)) × Unit) =>
(if List.length ([] : List (Int × ByteArray)) + List.length z3.2.1 ≤ capMax then
some ((), ((z3.1.1, (z3.1.2.1, (z3.1.2.2.1, (z3.1.2.2.2.1, (z3.1.2.2.2.2.1, (z3.1.2.2.2.2.2.1, ((([] : List (Int × ByteArray)) ++ z3.2.1), (z3.1.2.2.2.2.2.2.2.1, (z3.1.2.2.2.2.2.2.2.2.1, ()))))))))), ((), ((), ()))))
else none)) (fun (E3 : ((Int × Int × Int × List (ByteArray) × (List (Int × ByteArray × Int × Int)) × Int × (List (Int × ByteArray)) × List (Int) × List (ByteArray) × Unit) × (List (Int × ByteArray)) × Unit) → Option _) =>
(whileK (fun (rec4 : ((Int × Int × Int × List (ByteArray) × (List (Int × ByteArray × Int × Int)) × Int × (List (Int × ByteArray)) × List (Int) × List (ByteArray) × Unit) × (List (Int × ByteArray)) × Unit) → Option _) (y4 : (Int × Int × Int × List (ByteArray) × (List (Int × ByteArray × Int × Int)) × Int × (List (Int × ByteArray)) × List (Int) × List (ByteArray) × Unit) × (List (Int × ByteArray)) × Unit) =>
(if (decide ((0 : Int) < (List.length y4.2.1 : Int))) = true then
(if 0 ≤ (0 : Int) ∧ (0 : Int) < (List.length y4.2.1 : Int) then
(if (decide ((Ty.rd (t := yT14) y4.2.1 (0 : Int)).1 = (wi64 (y4.1.2.2.2.2.2.1 + (1 : Int))))) = true then
(if 0 ≤ (0 : Int) ∧ (0 : Int) < (List.length y4.2.1 : Int) then
(if List.length y4.1.2.2.2.2.2.2.2.2.1 + List.length ([(Ty.rd (t := yT14) y4.2.1 (0 : Int)).2] : List (ByteArray)) ≤ capMax then
(if 0 ≤ (1 : Int) ∧ (1 : Int) ≤ (List.length y4.2.1 : Int) then
(rec4 ((y4.1.1, (y4.1.2.1, (y4.1.2.2.1, (y4.1.2.2.2.1, (y4.1.2.2.2.2.1, ((wi64 (y4.1.2.2.2.2.2.1 + (1 : Int))), (y4.1.2.2.2.2.2.2.1, (y4.1.2.2.2.2.2.2.2.1, ((y4.1.2.2.2.2.2.2.2.2.1 ++ ([(Ty.rd (t := yT14) y4.2.1 (0 : Int)).2] : List (ByteArray))), ()))))))))), ((List.drop (Int.toNat (1 : Int)) (List.take (Int.toNat (List.length y4.2.1 : Int)) y4.2.1)), ())))
else none)
else none)
else none)
else
(E3 ((y4.1.1, (y4.1.2.1, (y4.1.2.2.1, (y4.1.2.2.2.1, (y4.1.2.2.2.2.1, (y4.1.2.2.2.2.2.1, (y4.1.2.2.2.2.2.2.1, (y4.1.2.2.2.2.2.2.2.1, (y4.1.2.2.2.2.2.2.2.2.1, ()))))))))), (y4.2.1, ()))))
else none)
else
(E3 ((y4.1.1, (y4.1.2.1, (y4.1.2.2.1, (y4.1.2.2.2.1, (y4.1.2.2.2.2.1, (y4.1.2.2.2.2.2.1, (y4.1.2.2.2.2.2.2.1, (y4.1.2.2.2.2.2.2.2.1, (y4.1.2.2.2.2.2.2.2.2.1, ()))))))))), (y4.2.1, ()))))) k ((z2.1.1, (z2.1.2.1, (z2.1.2.2.1, (z2.1.2.2.2.1, (z2.1.2.2.2.2.1, (z2.1.2.2.2.2.2.1, (z2.1.2.2.2.2.2.2.1, (z2.1.2.2.2.2.2.2.2.1, (z2.1.2.2.2.2.2.2.2.2.1, ()))))))))), (z2.2.1, ())))))) ((y2.1.1, (y2.1.2.1, (y2.1.2.2.1, (y2.1.2.2.2.1, (y2.1.2.2.2.2.1, (y2.1.2.2.2.2.2.1, (y2.1.2.2.2.2.2.2.1, (y2.1.2.2.2.2.2.2.2.1, (y2.1.2.2.2.2.2.2.2.2.1, ()))))))))), (y2.2.2.1, ()))))) k ((z1.1.1, (z1.1.2.1, (z1.1.2.2.1, (z1.1.2.2.2.1, (z1.1.2.2.2.2.1, (z1.1.2.2.2.2.2.1, (z1.1.2.2.2.2.2.2.1, (z1.1.2.2.2.2.2.2.2.1, (z1.1.2.2.2.2.2.2.2.2.1, ()))))))))), (z1.2.1, ((z1.2.2.2.1 ++ ([(z1.2.1, z1.2.2.1)] : List (Int × ByteArray))), ((0 : Int), ())))))
else none)) ((y0.1.1, (y0.1.2.1, (y0.1.2.2.1, (y0.1.2.2.2.1, (y0.1.2.2.2.2.1, (y0.1.2.2.2.2.2.1, (y0.1.2.2.2.2.2.2.1, (y0.1.2.2.2.2.2.2.2.1, (y0.1.2.2.2.2.2.2.2.2.1, ()))))))))), (y0.2.1, (y0.2.2.1, (y0.2.2.2.1, ()))))))) k ((x.1.1, (x.1.2.1, (x.1.2.2.1, (x.1.2.2.2.1, (x.1.2.2.2.2.1, (x.1.2.2.2.2.2.1, (x.1.2.2.2.2.2.2.1, (x.1.2.2.2.2.2.2.2.1, (x.1.2.2.2.2.2.2.2.2.1, ()))))))))), (x.2.1, (x.2.2.1, (([] : List (Int × ByteArray)), ((0 : Int), ()))))))
abbrev E_s_l13Put (k : Nat) : Entry := ⟨173, 0, (.cons (.ptr 0 yP2) (.cons (.int .i64) (.cons .str .nil))), (.tup .nil), s_l13Put k⟩
theorem t_s_l13Put (k : Nat) (x) : evF TTab k [] [(0, ⟨[0, 1, 2, 6, 7], (.cons (.ptr 0 yP2) (.cons (.int .i64) (.cons .str (.cons (.own false 131 yT14) yP9))))⟩, ⟨[0, 1, 2, 6], (.cons (.ptr 0 yP2) (.cons (.int .i64) (.cons .str (.cons (.own false 131 yT14) .nil))))⟩), (2, ⟨[0, 1, 6, 8], (.cons (.ptr 0 yP2) (.cons (.int .i64) (.cons (.own false 131 yT14) yP9)))⟩, ⟨[0, 6], (.cons (.ptr 0 yP2) (.cons (.own false 131 yT14) .nil))⟩), (4, ⟨[0, 6], (.cons (.ptr 0 yP2) (.cons (.own false 131 yT14) .nil))⟩, ⟨[0, 6], (.cons (.ptr 0 yP2) (.cons (.own false 131 yT14) .nil))⟩)] Try.f173 (.cons (.ptr 0 yP2) (.cons (.int .i64) (.cons .str .nil))) (.tup .nil) x = s_l13Put k x := by kernel_rfl
theorem e_s_l13Put [Names] (k : Nat) : EntryOk Try.prog (E_s_l13Put k) := entry_ok tok es_nil (by kernel_rfl) (by kernel_rfl) (by kernel_rfl) fun x r h => (t_s_l13Put k x).trans h
def s_Take (k : Nat) (x : (Int × Int × Int × List (ByteArray) × (List (Int × ByteArray × Int × Int)) × Int × (List (Int × ByteArray)) × List (Int) × List (ByteArray) × Unit) × (Int × Int × Int × Int × Int × List (Int) × ByteArray × Unit) × Unit) : Option (((Int × Int × Int × List (ByteArray) × (List (Int × ByteArray × Int × Int)) × Int × (List (Int × ByteArray)) × List (Int) × List (ByteArray) × Unit) × Bool × Unit) × Unit × Unit × Unit) :=
((s_l13Copy k ((x.1.1, (x.1.2.1, (x.1.2.2.1, (x.1.2.2.2.1, (x.1.2.2.2.2.1, (x.1.2.2.2.2.2.1, (x.1.2.2.2.2.2.2.1, (x.1.2.2.2.2.2.2.2.1, (x.1.2.2.2.2.2.2.2.2.1, ()))))))))), ())).bind fun p1 =>
((s_ChanOk k ((x.1.1, (x.1.2.1, (x.1.2.2.1, (x.1.2.2.2.1, (x.1.2.2.2.2.1, (x.1.2.2.2.2.2.1, (x.1.2.2.2.2.2.2.1, (x.1.2.2.2.2.2.2.2.1, (x.1.2.2.2.2.2.2.2.2.1, ()))))))))), ())).bind fun p2 =>
(if (!p2.1) = false then
((s_PacketOk k ((x.2.1.1, (x.2.1.2.1, (x.2.1.2.2.1, (x.2.1.2.2.2.1, (x.2.1.2.2.2.2.1, (x.2.1.2.2.2.2.2.1, (x.2.1.2.2.2.2.2.2.1, ()))))))), ())).bind fun p3 =>
(if (!p3.1) = false then
(if (decide (x.2.1.1 = (3 : Int))) = false then
(if (!decide (x.2.1.2.2.1 = x.1.2.1)) = false then
(if (!decide (x.2.1.2.2.2.1 = x.1.1)) = true then
some (((p1.1.1, (p1.1.2.1, (p1.1.2.2.1, (p1.1.2.2.2.1, (p1.1.2.2.2.2.1, (p1.1.2.2.2.2.2.1, (p1.1.2.2.2.2.2.2.1, (p1.1.2.2.2.2.2.2.2.1, (p1.1.2.2.2.2.2.2.2.2.1, ()))))))))), (false, ())), ((), ((), ())))
else
(jn (
(whileK (fun (rec0 : ((Int × Int × Int × List (ByteArray) × (List (Int × ByteArray × Int × Int)) × Int × (List (Int × ByteArray)) × List (Int) × List (ByteArray) × Unit) × (Int × Int × Int × Int × Int × List (Int) × ByteArray × Unit) × (Int × Int × Int × List (ByteArray) × (List (Int × ByteArray × Int × Int)) × Int × (List (Int × ByteArray)) × List (Int) × List (ByteArray) × Unit) × (Int × Int × Int × List (ByteArray) × (List (Int × ByteArray × Int × Int)) × Int × (List (Int × ByteArray)) × List (Int) × List (ByteArray) × Unit) × (List (Int × ByteArray × Int × Int)) × Int × Unit) → Option _) (y0 : (Int × Int × Int × List (ByteArray) × (List (Int × ByteArray × Int × Int)) × Int × (List (Int × ByteArray)) × List (Int) × List (ByteArray) × Unit) × (Int × Int × Int × Int × Int × List (Int) × ByteArray × Unit) × (Int × Int × Int × List (ByteArray) × (List (Int × ByteArray × Int × Int)) × Int × (List (Int × ByteArray)) × List (Int) × List (ByteArray) × Unit) × (Int × Int × Int × List (ByteArray) × (List (Int × ByteArray × Int × Int)) × Int × (List (Int × ByteArray)) × List (Int) × List (ByteArray) × Unit) × (List (Int × ByteArray × Int × Int)) × Int × Unit) =>
(if (decide (y0.2.2.2.2.2.1 < (List.length y0.2.2.2.1.2.2.2.2.1 : Int))) = true then
(if 0 ≤ y0.2.2.2.2.2.1 ∧ y0.2.2.2.2.2.1 < (List.length y0.2.2.2.1.2.2.2.2.1 : Int) then
((s_l13In k (y0.2.1.2.2.2.2.2.1, ((Ty.rd (t := yT4) y0.2.2.2.1.2.2.2.2.1 y0.2.2.2.2.2.1).1, ()))).bind fun p10 =>
(if (!p10.1) = true then
(if 0 ≤ y0.2.2.2.2.2.1 ∧ y0.2.2.2.2.2.1 < (List.length y0.2.2.2.1.2.2.2.2.1 : Int) then
(if List.length y0.2.2.2.2.1 + List.length ([((Ty.rd (t := yT4) y0.2.2.2.1.2.2.2.2.1 y0.2.2.2.2.2.1).1, ((Ty.rd (t := yT4) y0.2.2.2.1.2.2.2.2.1 y0.2.2.2.2.2.1).2.1, ((Ty.rd (t := yT4) y0.2.2.2.1.2.2.2.2.1 y0.2.2.2.2.2.1).2.2.1, (Ty.rd (t := yT4) y0.2.2.2.1.2.2.2.2.1 y0.2.2.2.2.2.1).2.2.2)))] : List (Int × ByteArray × Int × Int)) ≤ capMax then
(rec0 ((y0.1.1, (y0.1.2.1, (y0.1.2.2.1, (y0.1.2.2.2.1, (y0.1.2.2.2.2.1, (y0.1.2.2.2.2.2.1, (y0.1.2.2.2.2.2.2.1, (y0.1.2.2.2.2.2.2.2.1, (y0.1.2.2.2.2.2.2.2.2.1, ()))))))))), ((y0.2.1.1, (y0.2.1.2.1, (y0.2.1.2.2.1, (y0.2.1.2.2.2.1, (y0.2.1.2.2.2.2.1, (y0.2.1.2.2.2.2.2.1, (y0.2.1.2.2.2.2.2.2.1, ()))))))), ((y0.2.2.1.1, (y0.2.2.1.2.1, (y0.2.2.1.2.2.1, (y0.2.2.1.2.2.2.1, (y0.2.2.1.2.2.2.2.1, (y0.2.2.1.2.2.2.2.2.1, (y0.2.2.1.2.2.2.2.2.2.1, (y0.2.2.1.2.2.2.2.2.2.2.1, (y0.2.2.1.2.2.2.2.2.2.2.2.1, ()))))))))), ((y0.2.2.2.1.1, (y0.2.2.2.1.2.1, (y0.2.2.2.1.2.2.1, (y0.2.2.2.1.2.2.2.1, (y0.2.2.2.1.2.2.2.2.1, (y0.2.2.2.1.2.2.2.2.2.1, (y0.2.2.2.1.2.2.2.2.2.2.1, (y0.2.2.2.1.2.2.2.2.2.2.2.1, (y0.2.2.2.1.2.2.2.2.2.2.2.2.1, ()))))))))), ((y0.2.2.2.2.1 ++ ([((Ty.rd (t := yT4) y0.2.2.2.1.2.2.2.2.1 y0.2.2.2.2.2.1).1, ((Ty.rd (t := yT4) y0.2.2.2.1.2.2.2.2.1 y0.2.2.2.2.2.1).2.1, ((Ty.rd (t := yT4) y0.2.2.2.1.2.2.2.2.1 y0.2.2.2.2.2.1).2.2.1, (Ty.rd (t := yT4) y0.2.2.2.1.2.2.2.2.1 y0.2.2.2.2.2.1).2.2.2)))] : List (Int × ByteArray × Int × Int))), ((wi64 (y0.2.2.2.2.2.1 + (1 : Int))), ())))))))
else none)
else none)
else
(rec0 ((y0.1.1, (y0.1.2.1, (y0.1.2.2.1, (y0.1.2.2.2.1, (y0.1.2.2.2.2.1, (y0.1.2.2.2.2.2.1, (y0.1.2.2.2.2.2.2.1, (y0.1.2.2.2.2.2.2.2.1, (y0.1.2.2.2.2.2.2.2.2.1, ()))))))))), ((y0.2.1.1, (y0.2.1.2.1, (y0.2.1.2.2.1, (y0.2.1.2.2.2.1, (y0.2.1.2.2.2.2.1, (y0.2.1.2.2.2.2.2.1, (y0.2.1.2.2.2.2.2.2.1, ()))))))), ((y0.2.2.1.1, (y0.2.2.1.2.1, (y0.2.2.1.2.2.1, (y0.2.2.1.2.2.2.1, (y0.2.2.1.2.2.2.2.1, (y0.2.2.1.2.2.2.2.2.1, (y0.2.2.1.2.2.2.2.2.2.1, (y0.2.2.1.2.2.2.2.2.2.2.1, (y0.2.2.1.2.2.2.2.2.2.2.2.1, ()))))))))), ((y0.2.2.2.1.1, (y0.2.2.2.1.2.1, (y0.2.2.2.1.2.2.1, (y0.2.2.2.1.2.2.2.1, (y0.2.2.2.1.2.2.2.2.1, (y0.2.2.2.1.2.2.2.2.2.1, (y0.2.2.2.1.2.2.2.2.2.2.1, (y0.2.2.2.1.2.2.2.2.2.2.2.1, (y0.2.2.2.1.2.2.2.2.2.2.2.2.1, ()))))))))), (y0.2.2.2.2.1, ((wi64 (y0.2.2.2.2.2.1 + (1 : Int))), ())))))))))
else none)
else
((fun (z2 : (Int × Int × Int × List (ByteArray) × (List (Int × ByteArray × Int × Int)) × Int × (List (Int × ByteArray)) × List (Int) × List (ByteArray) × Unit) × (Int × Int × Int × Int × Int × List (Int) × ByteArray × Unit) × (Int × Int × Int × List (ByteArray) × (List (Int × ByteArray × Int × Int)) × Int × (List (Int × ByteArray)) × List (Int) × List (ByteArray) × Unit) × (Int × Int × Int × List (ByteArray) × (List (Int × ByteArray × Int × Int)) × Int × (List (Int × ByteArray)) × List (Int) × List (ByteArray) × Unit) × (List (Int × ByteArray × Int × Int)) × Unit) =>
(if (decide (z2.2.1.1 = (2 : Int))) = true then
some (((z2.2.2.2.1.1, (z2.2.2.2.1.2.1, (z2.2.2.2.1.2.2.1, (z2.2.2.2.1.2.2.2.1, (z2.2.2.2.2.1, (z2.2.2.2.1.2.2.2.2.2.1, (z2.2.2.2.1.2.2.2.2.2.2.1, (z2.2.2.2.1.2.2.2.2.2.2.2.1, (z2.2.2.2.1.2.2.2.2.2.2.2.2.1, ()))))))))), (true, ())), ((), ((), ())))
else
(jn (
(if (decide (z2.1.2.2.2.2.2.1 < z2.2.1.2.2.2.2.1)) = true then
((s_l13Put k ((z2.2.2.2.1.1, (z2.2.2.2.1.2.1, (z2.2.2.2.1.2.2.1, (z2.2.2.2.1.2.2.2.1, (z2.2.2.2.2.1, (z2.2.2.2.1.2.2.2.2.2.1, (z2.2.2.2.1.2.2.2.2.2.2.1, (z2.2.2.2.1.2.2.2.2.2.2.2.1, (z2.2.2.2.1.2.2.2.2.2.2.2.2.1, ()))))))))), (z2.2.1.2.2.2.2.1, (z2.2.1.2.2.2.2.2.2.1, ())))).bind fun p14 =>
some (((p14.2.1.1, (p14.2.1.2.1, (p14.2.1.2.2.1, (p14.2.1.2.2.2.1, (p14.2.1.2.2.2.2.1, (p14.2.1.2.2.2.2.2.1, (p14.2.1.2.2.2.2.2.2.1, (p14.2.1.2.2.2.2.2.2.2.1, (p14.2.1.2.2.2.2.2.2.2.2.1, ()))))))))), (true, ())), ((), ((), ()))))
else
some (((z2.2.2.2.1.1, (z2.2.2.2.1.2.1, (z2.2.2.2.1.2.2.1, (z2.2.2.2.1.2.2.2.1, (z2.2.2.2.2.1, (z2.2.2.2.1.2.2.2.2.2.1, (z2.2.2.2.1.2.2.2.2.2.2.1, (z2.2.2.2.1.2.2.2.2.2.2.2.1, (z2.2.2.2.1.2.2.2.2.2.2.2.2.1, ()))))))))), (true, ())), ((), ((), ()))))) (fun (j3 : Option _) =>
(if (decide ((List.length z2.2.2.2.1.2.2.2.2.2.2.2.1 : Int) < (4 : Int))) = true then
((s_l13In k (z2.2.2.2.1.2.2.2.2.2.2.2.1, (z2.2.1.2.2.2.2.1, ()))).bind fun p11 =>
(if (!p11.1) = true then
(if List.length z2.2.2.2.1.2.2.2.2.2.2.2.1 + List.length ([z2.2.1.2.2.2.2.1] : List (Int)) ≤ capMax then
(if (decide (z2.1.2.2.2.2.2.1 < z2.2.1.2.2.2.2.1)) = true then
((s_l13Put k ((z2.2.2.2.1.1, (z2.2.2.2.1.2.1, (z2.2.2.2.1.2.2.1, (z2.2.2.2.1.2.2.2.1, (z2.2.2.2.2.1, (z2.2.2.2.1.2.2.2.2.2.1, (z2.2.2.2.1.2.2.2.2.2.2.1, ((z2.2.2.2.1.2.2.2.2.2.2.2.1 ++ ([z2.2.1.2.2.2.2.1] : List (Int))), (z2.2.2.2.1.2.2.2.2.2.2.2.2.1, ()))))))))), (z2.2.1.2.2.2.2.1, (z2.2.1.2.2.2.2.2.2.1, ())))).bind fun p12 =>
some (((p12.2.1.1, (p12.2.1.2.1, (p12.2.1.2.2.1, (p12.2.1.2.2.2.1, (p12.2.1.2.2.2.2.1, (p12.2.1.2.2.2.2.2.1, (p12.2.1.2.2.2.2.2.2.1, (p12.2.1.2.2.2.2.2.2.2.1, (p12.2.1.2.2.2.2.2.2.2.2.1, ()))))))))), (true, ())), ((), ((), ()))))
else
some (((z2.2.2.2.1.1, (z2.2.2.2.1.2.1, (z2.2.2.2.1.2.2.1, (z2.2.2.2.1.2.2.2.1, (z2.2.2.2.2.1, (z2.2.2.2.1.2.2.2.2.2.1, (z2.2.2.2.1.2.2.2.2.2.2.1, ((z2.2.2.2.1.2.2.2.2.2.2.2.1 ++ ([z2.2.1.2.2.2.2.1] : List (Int))), (z2.2.2.2.1.2.2.2.2.2.2.2.2.1, ()))))))))), (true, ())), ((), ((), ()))))
else none)
else
j3))
else
j3))))) ((y0.1.1, (y0.1.2.1, (y0.1.2.2.1, (y0.1.2.2.2.1, (y0.1.2.2.2.2.1, (y0.1.2.2.2.2.2.1, (y0.1.2.2.2.2.2.2.1, (y0.1.2.2.2.2.2.2.2.1, (y0.1.2.2.2.2.2.2.2.2.1, ()))))))))), ((y0.2.1.1, (y0.2.1.2.1, (y0.2.1.2.2.1, (y0.2.1.2.2.2.1, (y0.2.1.2.2.2.2.1, (y0.2.1.2.2.2.2.2.1, (y0.2.1.2.2.2.2.2.2.1, ()))))))), ((y0.2.2.1.1, (y0.2.2.1.2.1, (y0.2.2.1.2.2.1, (y0.2.2.1.2.2.2.1, (y0.2.2.1.2.2.2.2.1, (y0.2.2.1.2.2.2.2.2.1, (y0.2.2.1.2.2.2.2.2.2.1, (y0.2.2.1.2.2.2.2.2.2.2.1, (y0.2.2.1.2.2.2.2.2.2.2.2.1, ()))))))))), ((y0.2.2.2.1.1, (y0.2.2.2.1.2.1, (y0.2.2.2.1.2.2.1, (y0.2.2.2.1.2.2.2.1, (y0.2.2.2.1.2.2.2.2.1, (y0.2.2.2.1.2.2.2.2.2.1, (y0.2.2.2.1.2.2.2.2.2.2.1, (y0.2.2.2.1.2.2.2.2.2.2.2.1, (y0.2.2.2.1.2.2.2.2.2.2.2.2.1, ()))))))))), (y0.2.2.2.2.1, ())))))))) k ((x.1.1, (x.1.2.1, (x.1.2.2.1, (x.1.2.2.2.1, (x.1.2.2.2.2.1, (x.1.2.2.2.2.2.1, (x.1.2.2.2.2.2.2.1, (x.1.2.2.2.2.2.2.2.1, (x.1.2.2.2.2.2.2.2.2.1, ()))))))))), ((x.2.1.1, (x.2.1.2.1, (x.2.1.2.2.1, (x.2.1.2.2.2.1, (x.2.1.2.2.2.2.1, (x.2.1.2.2.2.2.2.1, (x.2.1.2.2.2.2.2.2.1, ()))))))), (((0 : Int), ((0 : Int), ((0 : Int), ([], ([], ((0 : Int), ([], ([], ([], ()))))))))), ((p1.1.1, (p1.1.2.1, (p1.1.2.2.1, (p1.1.2.2.2.1, (p1.1.2.2.2.2.1, (p1.1.2.2.2.2.2.1, (p1.1.2.2.2.2.2.2.1, (p1.1.2.2.2.2.2.2.2.1, (p1.1.2.2.2.2.2.2.2.2.1, ()))))))))), (([] : List (Int × ByteArray × Int × Int)), ((0 : Int), ())))))))) (fun (j2 : Option _) =>
(if (decide (x.2.1.1 = (1 : Int))) = true then
((s_l01In k (x.2.1.2.2.2.2.1, ((1 : Int), ((wi64 (x.1.2.2.2.2.2.1 + (4 : Int))), ())))).bind fun p4 =>
(if (!p4.1) = false then
(if (decide ((990 : Int) < x.1.2.2.2.2.2.1)) = true then
some (((p1.1.1, (p1.1.2.1, (p1.1.2.2.1, (p1.1.2.2.2.1, (p1.1.2.2.2.2.1, (p1.1.2.2.2.2.2.1, (p1.1.2.2.2.2.2.2.1, (p1.1.2.2.2.2.2.2.2.1, (p1.1.2.2.2.2.2.2.2.2.1, ()))))))))), (false, ())), ((), ((), ())))
else
j2)
else
some (((p1.1.1, (p1.1.2.1, (p1.1.2.2.1, (p1.1.2.2.2.1, (p1.1.2.2.2.2.1, (p1.1.2.2.2.2.2.1, (p1.1.2.2.2.2.2.2.1, (p1.1.2.2.2.2.2.2.2.1, (p1.1.2.2.2.2.2.2.2.2.1, ()))))))))), (false, ())), ((), ((), ())))))
else
(if (decide ((990 : Int) < x.1.2.2.2.2.2.1)) = true then
some (((p1.1.1, (p1.1.2.1, (p1.1.2.2.1, (p1.1.2.2.2.1, (p1.1.2.2.2.2.1, (p1.1.2.2.2.2.2.1, (p1.1.2.2.2.2.2.2.1, (p1.1.2.2.2.2.2.2.2.1, (p1.1.2.2.2.2.2.2.2.2.1, ()))))))))), (false, ())), ((), ((), ())))
else
j2)))))
else
some (((p1.1.1, (p1.1.2.1, (p1.1.2.2.1, (p1.1.2.2.2.1, (p1.1.2.2.2.2.1, (p1.1.2.2.2.2.2.1, (p1.1.2.2.2.2.2.2.1, (p1.1.2.2.2.2.2.2.2.1, (p1.1.2.2.2.2.2.2.2.2.1, ()))))))))), (false, ())), ((), ((), ()))))
else
some (((p1.1.1, (p1.1.2.1, (p1.1.2.2.1, (p1.1.2.2.2.1, (p1.1.2.2.2.2.1, (p1.1.2.2.2.2.2.1, (p1.1.2.2.2.2.2.2.1, (p1.1.2.2.2.2.2.2.2.1, (p1.1.2.2.2.2.2.2.2.2.1, ()))))))))), (false, ())), ((), ((), ()))))
else
some (((p1.1.1, (p1.1.2.1, (p1.1.2.2.1, (p1.1.2.2.2.1, (p1.1.2.2.2.2.1, (p1.1.2.2.2.2.2.1, (p1.1.2.2.2.2.2.2.1, (p1.1.2.2.2.2.2.2.2.1, (p1.1.2.2.2.2.2.2.2.2.1, ()))))))))), (false, ())), ((), ((), ())))))
else
some (((p1.1.1, (p1.1.2.1, (p1.1.2.2.1, (p1.1.2.2.2.1, (p1.1.2.2.2.2.1, (p1.1.2.2.2.2.2.1, (p1.1.2.2.2.2.2.2.1, (p1.1.2.2.2.2.2.2.2.1, (p1.1.2.2.2.2.2.2.2.2.1, ()))))))))), (false, ())), ((), ((), ()))))))
abbrev E_s_Take (k : Nat) : Entry := ⟨147, 0, (.cons (.agg yP6) (.cons (.agg yP8) .nil)), yP19, s_Take k⟩
theorem t_s_Take (k : Nat) (x) : evF TTab k [E_s_l01In k, E_s_l13Copy k, E_s_ChanOk k, E_s_PacketOk k, E_s_l13In k, E_s_l13Put k] [(0, ⟨[2, 3, 4, 6, 7, 8], (.cons (.ptr 0 yP6) (.cons (.ptr 0 yP8) (.cons (.ptr 0 yP2) (.cons (.ptr 0 yP2) (.cons (.own false 129 yT4) yP9)))))⟩, ⟨[2, 3, 4, 6, 7], (.cons (.ptr 0 yP6) (.cons (.ptr 0 yP8) (.cons (.ptr 0 yP2) (.cons (.ptr 0 yP2) (.cons (.own false 129 yT4) .nil)))))⟩)] Try.f147 (.cons (.agg yP6) (.cons (.agg yP8) .nil)) yP19 x = s_Take k x := by kernel_rfl
theorem e_s_Take [Names] (k : Nat) : EntryOk Try.prog (E_s_Take k) := entry_ok tok (es_cons (e_s_l01In k) (es_cons (e_s_l13Copy k) (es_cons (e_s_ChanOk k) (es_cons (e_s_PacketOk k) (es_cons (e_s_l13In k) (es_cons (e_s_l13Put k) es_nil)))))) (by kernel_rfl) (by kernel_rfl) (by kernel_rfl) fun x r h => (t_s_Take k x).trans h
def s_l14Deliver (k : Nat) (x : ((List (Int × Int × Int × List (ByteArray) × List (Int × ByteArray × Int × Int) × Int × List (Int × ByteArray) × List (Int) × List (ByteArray))) × Int × (List (Int × Int × Int × Int × Int × List (Int) × ByteArray)) × Unit) × (Int × Int × Int × Int × Int × List (Int) × ByteArray × Unit) × Unit) : Option (Unit × ((List (Int × Int × Int × List (ByteArray) × List (Int × ByteArray × Int × Int) × Int × List (Int × ByteArray) × List (Int) × List (ByteArray))) × Int × (List (Int × Int × Int × Int × Int × List (Int) × ByteArray)) × Unit) × Unit × Unit) :=
(if List.length ([] : List (Int × Int × Int × List (ByteArray) × List (Int × ByteArray × Int × Int) × Int × List (Int × ByteArray) × List (Int) × List (ByteArray))) + List.length x.1.1 ≤ capMax then
(whileK (fun (rec0 : (((List (Int × Int × Int × List (ByteArray) × List (Int × ByteArray × Int × Int) × Int × List (Int × ByteArray) × List (Int) × List (ByteArray))) × Int × (List (Int × Int × Int × Int × Int × List (Int) × ByteArray)) × Unit) × (Int × Int × Int × Int × Int × List (Int) × ByteArray × Unit) × (List (Int × Int × Int × List (ByteArray) × List (Int × ByteArray × Int × Int) × Int × List (Int × ByteArray) × List (Int) × List (ByteArray))) × Int × Unit) → Option _) (y0 : ((List (Int × Int × Int × List (ByteArray) × List (Int × ByteArray × Int × Int) × Int × List (Int × ByteArray) × List (Int) × List (ByteArray))) × Int × (List (Int × Int × Int × Int × Int × List (Int) × ByteArray)) × Unit) × (Int × Int × Int × Int × Int × List (Int) × ByteArray × Unit) × (List (Int × Int × Int × List (ByteArray) × List (Int × ByteArray × Int × Int) × Int × List (Int × ByteArray) × List (Int) × List (ByteArray))) × Int × Unit) =>
(if (decide (y0.2.2.2.1 < (List.length y0.2.2.1 : Int))) = true then
(if 0 ≤ y0.2.2.2.1 ∧ y0.2.2.2.1 < (List.length y0.2.2.1 : Int) then
(if (decide ((Ty.rd (t := yT1) y0.2.2.1 y0.2.2.2.1).1 = y0.2.1.2.2.2.1)) = true then
(if 0 ≤ y0.2.2.2.1 ∧ y0.2.2.2.1 < (List.length y0.2.2.1 : Int) then
((s_Take k (((Ty.rd (t := yT1) y0.2.2.1 y0.2.2.2.1).1, ((Ty.rd (t := yT1) y0.2.2.1 y0.2.2.2.1).2.1, ((Ty.rd (t := yT1) y0.2.2.1 y0.2.2.2.1).2.2.1, ((Ty.rd (t := yT1) y0.2.2.1 y0.2.2.2.1).2.2.2.1, ((Ty.rd (t := yT1) y0.2.2.1 y0.2.2.2.1).2.2.2.2.1, ((Ty.rd (t := yT1) y0.2.2.1 y0.2.2.2.1).2.2.2.2.2.1, ((Ty.rd (t := yT1) y0.2.2.1 y0.2.2.2.1).2.2.2.2.2.2.1, ((Ty.rd (t := yT1) y0.2.2.1 y0.2.2.2.1).2.2.2.2.2.2.2.1, ((Ty.rd (t := yT1) y0.2.2.1 y0.2.2.2.1).2.2.2.2.2.2.2.2, ()))))))))), ((y0.2.1.1, (y0.2.1.2.1, (y0.2.1.2.2.1, (y0.2.1.2.2.2.1, (y0.2.1.2.2.2.2.1, (y0.2.1.2.2.2.2.2.1, (y0.2.1.2.2.2.2.2.2.1, ()))))))), ()))).bind fun p1 =>
(if 0 ≤ y0.2.2.2.1 ∧ y0.2.2.2.1 < (List.length y0.2.2.1 : Int) then
(rec0 ((y0.1.1, (y0.1.2.1, (y0.1.2.2.1, ()))), ((y0.2.1.1, (y0.2.1.2.1, (y0.2.1.2.2.1, (y0.2.1.2.2.2.1, (y0.2.1.2.2.2.2.1, (y0.2.1.2.2.2.2.2.1, (y0.2.1.2.2.2.2.2.2.1, ()))))))), ((List.set y0.2.2.1 (Int.toNat y0.2.2.2.1) (p1.1.1.1, (p1.1.1.2.1, (p1.1.1.2.2.1, (p1.1.1.2.2.2.1, (p1.1.1.2.2.2.2.1, (p1.1.1.2.2.2.2.2.1, (p1.1.1.2.2.2.2.2.2.1, (p1.1.1.2.2.2.2.2.2.2.1, p1.1.1.2.2.2.2.2.2.2.2.1))))))))), ((wi64 (y0.2.2.2.1 + (1 : Int))), ())))))
else none))
else none)
else
(rec0 ((y0.1.1, (y0.1.2.1, (y0.1.2.2.1, ()))), ((y0.2.1.1, (y0.2.1.2.1, (y0.2.1.2.2.1, (y0.2.1.2.2.2.1, (y0.2.1.2.2.2.2.1, (y0.2.1.2.2.2.2.2.1, (y0.2.1.2.2.2.2.2.2.1, ()))))))), (y0.2.2.1, ((wi64 (y0.2.2.2.1 + (1 : Int))), ()))))))
else none)
else
((fun (z1 : ((List (Int × Int × Int × List (ByteArray) × List (Int × ByteArray × Int × Int) × Int × List (Int × ByteArray) × List (Int) × List (ByteArray))) × Int × (List (Int × Int × Int × Int × Int × List (Int) × ByteArray)) × Unit) × (List (Int × Int × Int × List (ByteArray) × List (Int × ByteArray × Int × Int) × Int × List (Int × ByteArray) × List (Int) × List (ByteArray))) × Unit) =>
some ((), ((z1.2.1, (z1.1.2.1, (z1.1.2.2.1, ()))), ((), ())))) ((y0.1.1, (y0.1.2.1, (y0.1.2.2.1, ()))), (y0.2.2.1, ()))))) k ((x.1.1, (x.1.2.1, (x.1.2.2.1, ()))), ((x.2.1.1, (x.2.1.2.1, (x.2.1.2.2.1, (x.2.1.2.2.2.1, (x.2.1.2.2.2.2.1, (x.2.1.2.2.2.2.2.1, (x.2.1.2.2.2.2.2.2.1, ()))))))), ((([] : List (Int × Int × Int × List (ByteArray) × List (Int × ByteArray × Int × Int) × Int × List (Int × ByteArray) × List (Int) × List (ByteArray))) ++ x.1.1), ((0 : Int), ())))))
else none)
abbrev E_s_l14Deliver (k : Nat) : Entry := ⟨108, 0, (.cons (.ptr 0 yP12) (.cons (.agg yP8) .nil)), (.tup .nil), s_l14Deliver k⟩
theorem t_s_l14Deliver (k : Nat) (x) : evF TTab k [E_s_Take k] [(0, ⟨[0, 3, 4, 5], (.cons (.ptr 0 yP12) (.cons (.ptr 0 yP8) (.cons (.own false 68 yT1) yP9)))⟩, ⟨[0, 4], (.cons (.ptr 0 yP12) (.cons (.own false 68 yT1) .nil))⟩)] Try.f108 (.cons (.ptr 0 yP12) (.cons (.agg yP8) .nil)) (.tup .nil) x = s_l14Deliver k x := by kernel_rfl
theorem e_s_l14Deliver [Names] (k : Nat) : EntryOk Try.prog (E_s_l14Deliver k) := entry_ok tok (es_cons (e_s_Take k) es_nil) (by kernel_rfl) (by kernel_rfl) (by kernel_rfl) fun x r h => (t_s_l14Deliver k x).trans h
def s_l14Do (k : Nat) (x : ((List (Int × Int × Int × List (ByteArray) × List (Int × ByteArray × Int × Int) × Int × List (Int × ByteArray) × List (Int) × List (ByteArray))) × Int × (List (Int × Int × Int × Int × Int × List (Int) × ByteArray)) × Unit) × (Int × Int × Int × Unit) × Unit) : Option (Unit × ((List (Int × Int × Int × List (ByteArray) × List (Int × ByteArray × Int × Int) × Int × List (Int × ByteArray) × List (Int) × List (ByteArray))) × Int × (List (Int × Int × Int × Int × Int × List (Int) × ByteArray)) × Unit) × Unit × Unit) :=
(if (decide (x.2.1.1 = (1 : Int))) = true then
((s_l14Send k ((x.1.1, (x.1.2.1, (x.1.2.2.1, ()))), (x.2.1.2.1, ()))).bind fun p1 =>
some ((), ((p1.2.1.1, (p1.2.1.2.1, (p1.2.1.2.2.1, ()))), ((), ()))))
else
(if (decide ((List.length x.1.2.2.1 : Int) = (0 : Int))) = true then
some ((), ((x.1.1, (x.1.2.1, (x.1.2.2.1, ()))), ((), ())))
else
(if (List.length x.1.2.2.1 : Int) = 0 then
none
else
(if 0 ≤ (Int.tmod x.2.1.2.2.1 (List.length x.1.2.2.1 : Int)) ∧ (Int.tmod x.2.1.2.2.1 (List.length x.1.2.2.1 : Int)) < (List.length x.1.2.2.1 : Int) then
(if (decide (x.2.1.1 = (4 : Int))) = true then
(if List.length ([] : List (Int × Int × Int × Int × Int × List (Int) × ByteArray)) + List.length x.1.2.2.1 ≤ capMax then
(if List.length (([] : List (Int × Int × Int × Int × Int × List (Int) × ByteArray)) ++ x.1.2.2.1) + List.length ([((Ty.rd (t := yT3) x.1.2.2.1 (Int.tmod x.2.1.2.2.1 (List.length x.1.2.2.1 : Int))).1, ((Ty.rd (t := yT3) x.1.2.2.1 (Int.tmod x.2.1.2.2.1 (List.length x.1.2.2.1 : Int))).2.1, ((Ty.rd (t := yT3) x.1.2.2.1 (Int.tmod x.2.1.2.2.1 (List.length x.1.2.2.1 : Int))).2.2.1, ((Ty.rd (t := yT3) x.1.2.2.1 (Int.tmod x.2.1.2.2.1 (List.length x.1.2.2.1 : Int))).2.2.2.1, ((Ty.rd (t := yT3) x.1.2.2.1 (Int.tmod x.2.1.2.2.1 (List.length x.1.2.2.1 : Int))).2.2.2.2.1, ((Ty.rd (t := yT3) x.1.2.2.1 (Int.tmod x.2.1.2.2.1 (List.length x.1.2.2.1 : Int))).2.2.2.2.2.1, (Ty.rd (t := yT3) x.1.2.2.1 (Int.tmod x.2.1.2.2.1 (List.length x.1.2.2.1 : Int))).2.2.2.2.2.2))))))] : List (Int × Int × Int × Int × Int × List (Int) × ByteArray)) ≤ capMax then
some ((), ((x.1.1, (x.1.2.1, (((([] : List (Int × Int × Int × Int × Int × List (Int) × ByteArray)) ++ x.1.2.2.1) ++ ([((Ty.rd (t := yT3) x.1.2.2.1 (Int.tmod x.2.1.2.2.1 (List.length x.1.2.2.1 : Int))).1, ((Ty.rd (t := yT3) x.1.2.2.1 (Int.tmod x.2.1.2.2.1 (List.length x.1.2.2.1 : Int))).2.1, ((Ty.rd (t := yT3) x.1.2.2.1 (Int.tmod x.2.1.2.2.1 (List.length x.1.2.2.1 : Int))).2.2.1, ((Ty.rd (t := yT3) x.1.2.2.1 (Int.tmod x.2.1.2.2.1 (List.length x.1.2.2.1 : Int))).2.2.2.1, ((Ty.rd (t := yT3) x.1.2.2.1 (Int.tmod x.2.1.2.2.1 (List.length x.1.2.2.1 : Int))).2.2.2.2.1, ((Ty.rd (t := yT3) x.1.2.2.1 (Int.tmod x.2.1.2.2.1 (List.length x.1.2.2.1 : Int))).2.2.2.2.2.1, (Ty.rd (t := yT3) x.1.2.2.1 (Int.tmod x.2.1.2.2.1 (List.length x.1.2.2.1 : Int))).2.2.2.2.2.2))))))] : List (Int × Int × Int × Int × Int × List (Int) × ByteArray))), ()))), ((), ())))
else none)
else none)
else
(if 0 ≤ (Int.tmod x.2.1.2.2.1 (List.length x.1.2.2.1 : Int)) ∧ (Int.tmod x.2.1.2.2.1 (List.length x.1.2.2.1 : Int)) ≤ (List.length x.1.2.2.1 : Int) then
(if List.length ([] : List (Int × Int × Int × Int × Int × List (Int) × ByteArray)) + List.length (List.drop (Int.toNat (0 : Int)) (List.take (Int.toNat (Int.tmod x.2.1.2.2.1 (List.length x.1.2.2.1 : Int))) x.1.2.2.1)) ≤ capMax then
(if 0 ≤ (wi64 ((Int.tmod x.2.1.2.2.1 (List.length x.1.2.2.1 : Int)) + (1 : Int))) ∧ (wi64 ((Int.tmod x.2.1.2.2.1 (List.length x.1.2.2.1 : Int)) + (1 : Int))) ≤ (List.length x.1.2.2.1 : Int) then
(if List.length (([] : List (Int × Int × Int × Int × Int × List (Int) × ByteArray)) ++ (List.drop (Int.toNat (0 : Int)) (List.take (Int.toNat (Int.tmod x.2.1.2.2.1 (List.length x.1.2.2.1 : Int))) x.1.2.2.1))) + List.length (List.drop (Int.toNat (wi64 ((Int.tmod x.2.1.2.2.1 (List.length x.1.2.2.1 : Int)) + (1 : Int)))) (List.take (Int.toNat (List.length x.1.2.2.1 : Int)) x.1.2.2.1)) ≤ capMax then
(if (decide (x.2.1.1 = (2 : Int))) = true then
((s_l14Deliver k ((x.1.1, (x.1.2.1, (((([] : List (Int × Int × Int × Int × Int × List (Int) × ByteArray)) ++ (List.drop (Int.toNat (0 : Int)) (List.take (Int.toNat (Int.tmod x.2.1.2.2.1 (List.length x.1.2.2.1 : Int))) x.1.2.2.1))) ++ (List.drop (Int.toNat (wi64 ((Int.tmod x.2.1.2.2.1 (List.length x.1.2.2.1 : Int)) + (1 : Int)))) (List.take (Int.toNat (List.length x.1.2.2.1 : Int)) x.1.2.2.1))), ()))), (((Ty.rd (t := yT3) x.1.2.2.1 (Int.tmod x.2.1.2.2.1 (List.length x.1.2.2.1 : Int))).1, ((Ty.rd (t := yT3) x.1.2.2.1 (Int.tmod x.2.1.2.2.1 (List.length x.1.2.2.1 : Int))).2.1, ((Ty.rd (t := yT3) x.1.2.2.1 (Int.tmod x.2.1.2.2.1 (List.length x.1.2.2.1 : Int))).2.2.1, ((Ty.rd (t := yT3) x.1.2.2.1 (Int.tmod x.2.1.2.2.1 (List.length x.1.2.2.1 : Int))).2.2.2.1, ((Ty.rd (t := yT3) x.1.2.2.1 (Int.tmod x.2.1.2.2.1 (List.length x.1.2.2.1 : Int))).2.2.2.2.1, ((Ty.rd (t := yT3) x.1.2.2.1 (Int.tmod x.2.1.2.2.1 (List.length x.1.2.2.1 : Int))).2.2.2.2.2.1, ((Ty.rd (t := yT3) x.1.2.2.1 (Int.tmod x.2.1.2.2.1 (List.length x.1.2.2.1 : Int))).2.2.2.2.2.2, ()))))))), ()))).bind fun p2 =>
some ((), ((p2.2.1.1, (p2.2.1.2.1, (p2.2.1.2.2.1, ()))), ((), ()))))
else
some ((), ((x.1.1, (x.1.2.1, (((([] : List (Int × Int × Int × Int × Int × List (Int) × ByteArray)) ++ (List.drop (Int.toNat (0 : Int)) (List.take (Int.toNat (Int.tmod x.2.1.2.2.1 (List.length x.1.2.2.1 : Int))) x.1.2.2.1))) ++ (List.drop (Int.toNat (wi64 ((Int.tmod x.2.1.2.2.1 (List.length x.1.2.2.1 : Int)) + (1 : Int)))) (List.take (Int.toNat (List.length x.1.2.2.1 : Int)) x.1.2.2.1))), ()))), ((), ()))))
else none)
else none)
else none)
else none))
else none))))
abbrev E_s_l14Do (k : Nat) : Entry := ⟨91, 0, (.cons (.ptr 0 yP12) (.cons (.agg yP16) .nil)), (.tup .nil), s_l14Do k⟩
theorem t_s_l14Do (k : Nat) (x) : evF TTab k [E_s_l14Send k, E_s_l14Deliver k] [] Try.f91 (.cons (.ptr 0 yP12) (.cons (.agg yP16) .nil)) (.tup .nil) x = s_l14Do k x := by kernel_rfl
theorem e_s_l14Do [Names] (k : Nat) : EntryOk Try.prog (E_s_l14Do k) := entry_ok tok (es_cons (e_s_l14Send k) (es_cons (e_s_l14Deliver k) es_nil)) (by kernel_rfl) (by kernel_rfl) (by kernel_rfl) fun x r h => (t_s_l14Do k x).trans h
def s_l12CopyPackets (k : Nat) (x : (List (Int × Int × Int × Int × Int × List (Int) × ByteArray)) × Unit) : Option ((List (Int × Int × Int × Int × Int × List (Int) × ByteArray)) × Unit × Unit) :=
(whileK (fun (rec0 : ((List (Int × Int × Int × Int × Int × List (Int) × ByteArray)) × (List (Int × Int × Int × Int × Int × List (Int) × ByteArray)) × Int × Unit) → Option _) (y0 : (List (Int × Int × Int × Int × Int × List (Int) × ByteArray)) × (List (Int × Int × Int × Int × Int × List (Int) × ByteArray)) × Int × Unit) =>
(if (decide (y0.2.2.1 < (List.length y0.1 : Int))) = true then
(if 0 ≤ y0.2.2.1 ∧ y0.2.2.1 < (List.length y0.1 : Int) then
(if List.length ([] : List (Int)) + List.length (Ty.rd (t := yT3) y0.1 y0.2.2.1).2.2.2.2.2.1 ≤ capMax then
(if List.length y0.2.1 + List.length ([((Ty.rd (t := yT3) y0.1 y0.2.2.1).1, ((Ty.rd (t := yT3) y0.1 y0.2.2.1).2.1, ((Ty.rd (t := yT3) y0.1 y0.2.2.1).2.2.1, ((Ty.rd (t := yT3) y0.1 y0.2.2.1).2.2.2.1, ((Ty.rd (t := yT3) y0.1 y0.2.2.1).2.2.2.2.1, ((([] : List (Int)) ++ (Ty.rd (t := yT3) y0.1 y0.2.2.1).2.2.2.2.2.1), (Ty.rd (t := yT3) y0.1 y0.2.2.1).2.2.2.2.2.2))))))] : List (Int × Int × Int × Int × Int × List (Int) × ByteArray)) ≤ capMax then
(rec0 (y0.1, ((y0.2.1 ++ ([((Ty.rd (t := yT3) y0.1 y0.2.2.1).1, ((Ty.rd (t := yT3) y0.1 y0.2.2.1).2.1, ((Ty.rd (t := yT3) y0.1 y0.2.2.1).2.2.1, ((Ty.rd (t := yT3) y0.1 y0.2.2.1).2.2.2.1, ((Ty.rd (t := yT3) y0.1 y0.2.2.1).2.2.2.2.1, ((([] : List (Int)) ++ (Ty.rd (t := yT3) y0.1 y0.2.2.1).2.2.2.2.2.1), (Ty.rd (t := yT3) y0.1 y0.2.2.1).2.2.2.2.2.2))))))] : List (Int × Int × Int × Int × Int × List (Int) × ByteArray))), ((wi64 (y0.2.2.1 + (1 : Int))), ()))))
else none)
else none)
else none)
else
((fun (z1 : (List (Int × Int × Int × Int × Int × List (Int) × ByteArray)) × Unit) =>
some (z1.1, ((), ()))) (y0.2.1, ())))) k (x.1, (([] : List (Int × Int × Int × Int × Int × List (Int) × ByteArray)), ((0 : Int), ()))))
abbrev E_s_l12CopyPackets (k : Nat) : Entry := ⟨134, 0, (.cons (.il true yT3) .nil), (.own false 122 yT3), s_l12CopyPackets k⟩
theorem t_s_l12CopyPackets (k : Nat) (x) : evF TTab k [] [(0, ⟨[0, 3, 4], (.cons (.il true yT3) (.cons (.own false 122 yT3) yP9))⟩, ⟨[3], (.cons (.own false 122 yT3) .nil)⟩)] Try.f134 (.cons (.il true yT3) .nil) (.own false 122 yT3) x = s_l12CopyPackets k x := by kernel_rfl
theorem e_s_l12CopyPackets [Names] (k : Nat) : EntryOk Try.prog (E_s_l12CopyPackets k) := entry_ok tok es_nil (by kernel_rfl) (by kernel_rfl) (by kernel_rfl) fun x r h => (t_s_l12CopyPackets k x).trans h
def s_l14Copy (k : Nat) (x : ((List (Int × Int × Int × List (ByteArray) × List (Int × ByteArray × Int × Int) × Int × List (Int × ByteArray) × List (Int) × List (ByteArray))) × Int × (List (Int × Int × Int × Int × Int × List (Int) × ByteArray)) × Unit) × Unit) : Option (((List (Int × Int × Int × List (ByteArray) × List (Int × ByteArray × Int × Int) × Int × List (Int × ByteArray) × List (Int) × List (ByteArray))) × Int × (List (Int × Int × Int × Int × Int × List (Int) × ByteArray)) × Unit) × Unit × Unit) :=
((s_l12CopyPackets k (x.1.2.2.1, ())).bind fun p1 =>
(whileK (fun (rec0 : (((List (Int × Int × Int × List (ByteArray) × List (Int × ByteArray × Int × Int) × Int × List (Int × ByteArray) × List (Int) × List (ByteArray))) × Int × (List (Int × Int × Int × Int × Int × List (Int) × ByteArray)) × Unit) × ((List (Int × Int × Int × List (ByteArray) × List (Int × ByteArray × Int × Int) × Int × List (Int × ByteArray) × List (Int) × List (ByteArray))) × Int × (List (Int × Int × Int × Int × Int × List (Int) × ByteArray)) × Unit) × ((List (Int × Int × Int × List (ByteArray) × List (Int × ByteArray × Int × Int) × Int × List (Int × ByteArray) × List (Int) × List (ByteArray))) × Int × (List (Int × Int × Int × Int × Int × List (Int) × ByteArray)) × Unit) × Int × Unit) → Option _) (y0 : ((List (Int × Int × Int × List (ByteArray) × List (Int × ByteArray × Int × Int) × Int × List (Int × ByteArray) × List (Int) × List (ByteArray))) × Int × (List (Int × Int × Int × Int × Int × List (Int) × ByteArray)) × Unit) × ((List (Int × Int × Int × List (ByteArray) × List (Int × ByteArray × Int × Int) × Int × List (Int × ByteArray) × List (Int) × List (ByteArray))) × Int × (List (Int × Int × Int × Int × Int × List (Int) × ByteArray)) × Unit) × ((List (Int × Int × Int × List (ByteArray) × List (Int × ByteArray × Int × Int) × Int × List (Int × ByteArray) × List (Int) × List (ByteArray))) × Int × (List (Int × Int × Int × Int × Int × List (Int) × ByteArray)) × Unit) × Int × Unit) =>
(if (decide (y0.2.2.2.1 < (List.length y0.1.1 : Int))) = true then
(if 0 ≤ y0.2.2.2.1 ∧ y0.2.2.2.1 < (List.length y0.1.1 : Int) then
((s_l13Copy k (((Ty.rd (t := yT1) y0.1.1 y0.2.2.2.1).1, ((Ty.rd (t := yT1) y0.1.1 y0.2.2.2.1).2.1, ((Ty.rd (t := yT1) y0.1.1 y0.2.2.2.1).2.2.1, ((Ty.rd (t := yT1) y0.1.1 y0.2.2.2.1).2.2.2.1, ((Ty.rd (t := yT1) y0.1.1 y0.2.2.2.1).2.2.2.2.1, ((Ty.rd (t := yT1) y0.1.1 y0.2.2.2.1).2.2.2.2.2.1, ((Ty.rd (t := yT1) y0.1.1 y0.2.2.2.1).2.2.2.2.2.2.1, ((Ty.rd (t := yT1) y0.1.1 y0.2.2.2.1).2.2.2.2.2.2.2.1, ((Ty.rd (t := yT1) y0.1.1 y0.2.2.2.1).2.2.2.2.2.2.2.2, ()))))))))), ())).bind fun p2 =>
(if List.length y0.2.2.1.1 + List.length ([(p2.1.1, (p2.1.2.1, (p2.1.2.2.1, (p2.1.2.2.2.1, (p2.1.2.2.2.2.1, (p2.1.2.2.2.2.2.1, (p2.1.2.2.2.2.2.2.1, (p2.1.2.2.2.2.2.2.2.1, p2.1.2.2.2.2.2.2.2.2.1))))))))] : List (Int × Int × Int × List (ByteArray) × List (Int × ByteArray × Int × Int) × Int × List (Int × ByteArray) × List (Int) × List (ByteArray))) ≤ capMax then
(rec0 ((y0.1.1, (y0.1.2.1, (y0.1.2.2.1, ()))), ((y0.2.1.1, (y0.2.1.2.1, (y0.2.1.2.2.1, ()))), (((y0.2.2.1.1 ++ ([(p2.1.1, (p2.1.2.1, (p2.1.2.2.1, (p2.1.2.2.2.1, (p2.1.2.2.2.2.1, (p2.1.2.2.2.2.2.1, (p2.1.2.2.2.2.2.2.1, (p2.1.2.2.2.2.2.2.2.1, p2.1.2.2.2.2.2.2.2.2.1))))))))] : List (Int × Int × Int × List (ByteArray) × List (Int × ByteArray × Int × Int) × Int × List (Int × ByteArray) × List (Int) × List (ByteArray)))), (y0.2.2.1.2.1, (y0.2.2.1.2.2.1, ()))), ((wi64 (y0.2.2.2.1 + (1 : Int))), ())))))
else none))
else none)
else
((fun (z1 : ((List (Int × Int × Int × List (ByteArray) × List (Int × ByteArray × Int × Int) × Int × List (Int × ByteArray) × List (Int) × List (ByteArray))) × Int × (List (Int × Int × Int × Int × Int × List (Int) × ByteArray)) × Unit) × ((List (Int × Int × Int × List (ByteArray) × List (Int × ByteArray × Int × Int) × Int × List (Int × ByteArray) × List (Int) × List (ByteArray))) × Int × (List (Int × Int × Int × Int × Int × List (Int) × ByteArray)) × Unit) × Unit) =>
some ((z1.2.1.1, (z1.2.1.2.1, (z1.2.1.2.2.1, ()))), ((), ()))) ((y0.2.1.1, (y0.2.1.2.1, (y0.2.1.2.2.1, ()))), ((y0.2.2.1.1, (y0.2.2.1.2.1, (y0.2.2.1.2.2.1, ()))), ()))))) k ((x.1.1, (x.1.2.1, (x.1.2.2.1, ()))), (([], ((0 : Int), ([], ()))), (([], (x.1.2.1, (p1.1, ()))), ((0 : Int), ()))))))
abbrev E_s_l14Copy (k : Nat) : Entry := ⟨92, 0, (.cons (.agg yP18) .nil), (.agg yP12), s_l14Copy k⟩
theorem t_s_l14Copy (k : Nat) (x) : evF TTab k [E_s_l13Copy k, E_s_l12CopyPackets k] [(0, ⟨[1, 2, 3, 4], (.cons (.ptr 0 yP18) (.cons (.ptr 0 yP12) (.cons (.ptr 0 yP12) yP9)))⟩, ⟨[2, 3], (.cons (.ptr 0 yP12) (.cons (.ptr 0 yP12) .nil))⟩)] Try.f92 (.cons (.agg yP18) .nil) (.agg yP12) x = s_l14Copy k x := by kernel_rfl
theorem e_s_l14Copy [Names] (k : Nat) : EntryOk Try.prog (E_s_l14Copy k) := entry_ok tok (es_cons (e_s_l13Copy k) (es_cons (e_s_l12CopyPackets k) es_nil)) (by kernel_rfl) (by kernel_rfl) (by kernel_rfl) fun x r h => (t_s_l14Copy k x).trans h
def s_RunTalk (k : Nat) (x : List (ByteArray) × List (ByteArray) × (List (Int × Int × Int)) × Unit) : Option ((((List (Int × Int × Int × List (ByteArray) × List (Int × ByteArray × Int × Int) × Int × List (Int × ByteArray) × List (Int) × List (ByteArray))) × Int × (List (Int × Int × Int × Int × Int × List (Int) × ByteArray)) × Unit) × Bool × Unit) × Unit × Unit × Unit × Unit) :=
(if (decide ((List.length x.1 : Int) ≤ (20 : Int))) = true then
(if (decide ((List.length x.2.1 : Int) ≤ (20 : Int))) = true then
(jn (fun (z1 : List (ByteArray) × List (ByteArray) × (List (Int × Int × Int)) × ((List (Int × Int × Int × List (ByteArray) × List (Int × ByteArray × Int × Int) × Int × List (Int × ByteArray) × List (Int) × List (ByteArray))) × Int × (List (Int × Int × Int × Int × Int × List (Int) × ByteArray)) × Unit) × Bool × Unit) =>
(if (!z1.2.2.2.2.1) = true then
some ((([], ((0 : Int), ([], ()))), (false, ())), ((), ((), ((), ()))))
else
((s_ChanNew k ((1 : Int), ((2 : Int), ()))).bind fun p2 =>
((s_ChanNew k ((2 : Int), ((1 : Int), ()))).bind fun p3 =>
(whileK (fun (rec2 : (List (ByteArray) × List (ByteArray) × (List (Int × Int × Int)) × ((List (Int × Int × Int × List (ByteArray) × List (Int × ByteArray × Int × Int) × Int × List (Int × ByteArray) × List (Int) × List (ByteArray))) × Int × (List (Int × Int × Int × Int × Int × List (Int) × ByteArray)) × Unit) × (Int × Int × Int × List (ByteArray) × (List (Int × ByteArray × Int × Int)) × Int × (List (Int × ByteArray)) × List (Int) × List (ByteArray) × Unit) × (Int × Int × Int × List (ByteArray) × (List (Int × ByteArray × Int × Int)) × Int × (List (Int × ByteArray)) × List (Int) × List (ByteArray) × Unit) × Int × Unit) → Option _) (y2 : List (ByteArray) × List (ByteArray) × (List (Int × Int × Int)) × ((List (Int × Int × Int × List (ByteArray) × List (Int × ByteArray × Int × Int) × Int × List (Int × ByteArray) × List (Int) × List (ByteArray))) × Int × (List (Int × Int × Int × Int × Int × List (Int) × ByteArray)) × Unit) × (Int × Int × Int × List (ByteArray) × (List (Int × ByteArray × Int × Int)) × Int × (List (Int × ByteArray)) × List (Int) × List (ByteArray) × Unit) × (Int × Int × Int × List (ByteArray) × (List (Int × ByteArray × Int × Int)) × Int × (List (Int × ByteArray)) × List (Int) × List (ByteArray) × Unit) × Int × Unit) =>
(if (decide (y2.2.2.2.2.2.2.1 < (List.length y2.1 : Int))) = true then
(if 0 ≤ y2.2.2.2.2.2.2.1 ∧ y2.2.2.2.2.2.2.1 < (List.length y2.1 : Int) then
((s_Push k ((y2.2.2.2.2.1.1, (y2.2.2.2.2.1.2.1, (y2.2.2.2.2.1.2.2.1, (y2.2.2.2.2.1.2.2.2.1, (y2.2.2.2.2.1.2.2.2.2.1, (y2.2.2.2.2.1.2.2.2.2.2.1, (y2.2.2.2.2.1.2.2.2.2.2.2.1, (y2.2.2.2.2.1.2.2.2.2.2.2.2.1, (y2.2.2.2.2.1.2.2.2.2.2.2.2.2.1, ()))))))))), ((Ty.rd (t := .str) y2.1 y2.2.2.2.2.2.2.1), ()))).bind fun p4 =>
(rec2 (y2.1, (y2.2.1, (y2.2.2.1, ((y2.2.2.2.1.1, (y2.2.2.2.1.2.1, (y2.2.2.2.1.2.2.1, ()))), ((p4.1.1.1, (p4.1.1.2.1, (p4.1.1.2.2.1, (p4.1.1.2.2.2.1, (p4.1.1.2.2.2.2.1, (p4.1.1.2.2.2.2.2.1, (p4.1.1.2.2.2.2.2.2.1, (p4.1.1.2.2.2.2.2.2.2.1, (p4.1.1.2.2.2.2.2.2.2.2.1, ()))))))))), ((y2.2.2.2.2.2.1.1, (y2.2.2.2.2.2.1.2.1, (y2.2.2.2.2.2.1.2.2.1, (y2.2.2.2.2.2.1.2.2.2.1, (y2.2.2.2.2.2.1.2.2.2.2.1, (y2.2.2.2.2.2.1.2.2.2.2.2.1, (y2.2.2.2.2.2.1.2.2.2.2.2.2.1, (y2.2.2.2.2.2.1.2.2.2.2.2.2.2.1, (y2.2.2.2.2.2.1.2.2.2.2.2.2.2.2.1, ()))))))))), ((wi64 (y2.2.2.2.2.2.2.1 + (1 : Int))), ())))))))))
else none)
else
((fun (z2 : List (ByteArray) × (List (Int × Int × Int)) × ((List (Int × Int × Int × List (ByteArray) × List (Int × ByteArray × Int × Int) × Int × List (Int × ByteArray) × List (Int) × List (ByteArray))) × Int × (List (Int × Int × Int × Int × Int × List (Int) × ByteArray)) × Unit) × (Int × Int × Int × List (ByteArray) × (List (Int × ByteArray × Int × Int)) × Int × (List (Int × ByteArray)) × List (Int) × List (ByteArray) × Unit) × (Int × Int × Int × List (ByteArray) × (List (Int × ByteArray × Int × Int)) × Int × (List (Int × ByteArray)) × List (Int) × List (ByteArray) × Unit) × Unit) =>
(whileK (fun (rec4 : (List (ByteArray) × (List (Int × Int × Int)) × ((List (Int × Int × Int × List (ByteArray) × List (Int × ByteArray × Int × Int) × Int × List (Int × ByteArray) × List (Int) × List (ByteArray))) × Int × (List (Int × Int × Int × Int × Int × List (Int) × ByteArray)) × Unit) × (Int × Int × Int × List (ByteArray) × (List (Int × ByteArray × Int × Int)) × Int × (List (Int × ByteArray)) × List (Int) × List (ByteArray) × Unit) × (Int × Int × Int × List (ByteArray) × (List (Int × ByteArray × Int × Int)) × Int × (List (Int × ByteArray)) × List (Int) × List (ByteArray) × Unit) × Int × Unit) → Option _) (y4 : List (ByteArray) × (List (Int × Int × Int)) × ((List (Int × Int × Int × List (ByteArray) × List (Int × ByteArray × Int × Int) × Int × List (Int × ByteArray) × List (Int) × List (ByteArray))) × Int × (List (Int × Int × Int × Int × Int × List (Int) × ByteArray)) × Unit) × (Int × Int × Int × List (ByteArray) × (List (Int × ByteArray × Int × Int)) × Int × (List (Int × ByteArray)) × List (Int) × List (ByteArray) × Unit) × (Int × Int × Int × List (ByteArray) × (List (Int × ByteArray × Int × Int)) × Int × (List (Int × ByteArray)) × List (Int) × List (ByteArray) × Unit) × Int × Unit) =>
(if (decide (y4.2.2.2.2.2.1 < (List.length y4.1 : Int))) = true then
(if 0 ≤ y4.2.2.2.2.2.1 ∧ y4.2.2.2.2.2.1 < (List.length y4.1 : Int) then
((s_Push k ((y4.2.2.2.2.1.1, (y4.2.2.2.2.1.2.1, (y4.2.2.2.2.1.2.2.1, (y4.2.2.2.2.1.2.2.2.1, (y4.2.2.2.2.1.2.2.2.2.1, (y4.2.2.2.2.1.2.2.2.2.2.1, (y4.2.2.2.2.1.2.2.2.2.2.2.1, (y4.2.2.2.2.1.2.2.2.2.2.2.2.1, (y4.2.2.2.2.1.2.2.2.2.2.2.2.2.1, ()))))))))), ((Ty.rd (t := .str) y4.1 y4.2.2.2.2.2.1), ()))).bind fun p5 =>
(rec4 (y4.1, (y4.2.1, ((y4.2.2.1.1, (y4.2.2.1.2.1, (y4.2.2.1.2.2.1, ()))), ((y4.2.2.2.1.1, (y4.2.2.2.1.2.1, (y4.2.2.2.1.2.2.1, (y4.2.2.2.1.2.2.2.1, (y4.2.2.2.1.2.2.2.2.1, (y4.2.2.2.1.2.2.2.2.2.1, (y4.2.2.2.1.2.2.2.2.2.2.1, (y4.2.2.2.1.2.2.2.2.2.2.2.1, (y4.2.2.2.1.2.2.2.2.2.2.2.2.1, ()))))))))), ((p5.1.1.1, (p5.1.1.2.1, (p5.1.1.2.2.1, (p5.1.1.2.2.2.1, (p5.1.1.2.2.2.2.1, (p5.1.1.2.2.2.2.2.1, (p5.1.1.2.2.2.2.2.2.1, (p5.1.1.2.2.2.2.2.2.2.1, (p5.1.1.2.2.2.2.2.2.2.2.1, ()))))))))), ((wi64 (y4.2.2.2.2.2.1 + (1 : Int))), ()))))))))
else none)
else
((fun (z3 : (List (Int × Int × Int)) × ((List (Int × Int × Int × List (ByteArray) × List (Int × ByteArray × Int × Int) × Int × List (Int × ByteArray) × List (Int) × List (ByteArray))) × Int × (List (Int × Int × Int × Int × Int × List (Int) × ByteArray)) × Unit) × (Int × Int × Int × List (ByteArray) × (List (Int × ByteArray × Int × Int)) × Int × (List (Int × ByteArray)) × List (Int) × List (ByteArray) × Unit) × (Int × Int × Int × List (ByteArray) × (List (Int × ByteArray × Int × Int)) × Int × (List (Int × ByteArray)) × List (Int) × List (ByteArray) × Unit) × Unit) =>
(whileK (fun (rec6 : ((List (Int × Int × Int)) × ((List (Int × Int × Int × List (ByteArray) × List (Int × ByteArray × Int × Int) × Int × List (Int × ByteArray) × List (Int) × List (ByteArray))) × Int × (List (Int × Int × Int × Int × Int × List (Int) × ByteArray)) × Unit) × ((List (Int × Int × Int × List (ByteArray) × List (Int × ByteArray × Int × Int) × Int × List (Int × ByteArray) × List (Int) × List (ByteArray))) × Int × (List (Int × Int × Int × Int × Int × List (Int) × ByteArray)) × Unit) × Int × Unit) → Option _) (y6 : (List (Int × Int × Int)) × ((List (Int × Int × Int × List (ByteArray) × List (Int × ByteArray × Int × Int) × Int × List (Int × ByteArray) × List (Int) × List (ByteArray))) × Int × (List (Int × Int × Int × Int × Int × List (Int) × ByteArray)) × Unit) × ((List (Int × Int × Int × List (ByteArray) × List (Int × ByteArray × Int × Int) × Int × List (Int × ByteArray) × List (Int) × List (ByteArray))) × Int × (List (Int × Int × Int × Int × Int × List (Int) × ByteArray)) × Unit) × Int × Unit) =>
(if (decide (y6.2.2.2.1 < (List.length y6.1 : Int))) = true then
(if 0 ≤ y6.2.2.2.1 ∧ y6.2.2.2.1 < (List.length y6.1 : Int) then
((s_l14Do k ((y6.2.2.1.1, (y6.2.2.1.2.1, (y6.2.2.1.2.2.1, ()))), (((Ty.rd (t := yT7) y6.1 y6.2.2.2.1).1, ((Ty.rd (t := yT7) y6.1 y6.2.2.2.1).2.1, ((Ty.rd (t := yT7) y6.1 y6.2.2.2.1).2.2, ()))), ()))).bind fun p6 =>
(rec6 (y6.1, ((y6.2.1.1, (y6.2.1.2.1, (y6.2.1.2.2.1, ()))), ((p6.2.1.1, ((wi64 (p6.2.1.2.1 + (3 : Int))), (p6.2.1.2.2.1, ()))), ((wi64 (y6.2.2.2.1 + (1 : Int))), ()))))))
else none)
else
((fun (z4 : ((List (Int × Int × Int × List (ByteArray) × List (Int × ByteArray × Int × Int) × Int × List (Int × ByteArray) × List (Int) × List (ByteArray))) × Int × (List (Int × Int × Int × Int × Int × List (Int) × ByteArray)) × Unit) × ((List (Int × Int × Int × List (ByteArray) × List (Int × ByteArray × Int × Int) × Int × List (Int × ByteArray) × List (Int) × List (ByteArray))) × Int × (List (Int × Int × Int × Int × Int × List (Int) × ByteArray)) × Unit) × Unit) =>
((s_l14Copy k ((z4.2.1.1, (z4.2.1.2.1, (z4.2.1.2.2.1, ()))), ())).bind fun p7 =>
some (((p7.1.1, (p7.1.2.1, (p7.1.2.2.1, ()))), (true, ())), ((), ((), ((), ())))))) ((y6.2.1.1, (y6.2.1.2.1, (y6.2.1.2.2.1, ()))), ((y6.2.2.1.1, (y6.2.2.1.2.1, (y6.2.2.1.2.2.1, ()))), ()))))) k (z3.1, ((z3.2.1.1, (z3.2.1.2.1, (z3.2.1.2.2.1, ()))), ((([(z3.2.2.1.1, (z3.2.2.1.2.1, (z3.2.2.1.2.2.1, (z3.2.2.1.2.2.2.1, (z3.2.2.1.2.2.2.2.1, (z3.2.2.1.2.2.2.2.2.1, (z3.2.2.1.2.2.2.2.2.2.1, (z3.2.2.1.2.2.2.2.2.2.2.1, z3.2.2.1.2.2.2.2.2.2.2.2.1)))))))), (z3.2.2.2.1.1, (z3.2.2.2.1.2.1, (z3.2.2.2.1.2.2.1, (z3.2.2.2.1.2.2.2.1, (z3.2.2.2.1.2.2.2.2.1, (z3.2.2.2.1.2.2.2.2.2.1, (z3.2.2.2.1.2.2.2.2.2.2.1, (z3.2.2.2.1.2.2.2.2.2.2.2.1, z3.2.2.2.1.2.2.2.2.2.2.2.2.1))))))))] : List (Int × Int × Int × List (ByteArray) × List (Int × ByteArray × Int × Int) × Int × List (Int × ByteArray) × List (Int) × List (ByteArray))), ((0 : Int), ([], ()))), ((0 : Int), ())))))) (y4.2.1, ((y4.2.2.1.1, (y4.2.2.1.2.1, (y4.2.2.1.2.2.1, ()))), ((y4.2.2.2.1.1, (y4.2.2.2.1.2.1, (y4.2.2.2.1.2.2.1, (y4.2.2.2.1.2.2.2.1, (y4.2.2.2.1.2.2.2.2.1, (y4.2.2.2.1.2.2.2.2.2.1, (y4.2.2.2.1.2.2.2.2.2.2.1, (y4.2.2.2.1.2.2.2.2.2.2.2.1, (y4.2.2.2.1.2.2.2.2.2.2.2.2.1, ()))))))))), ((y4.2.2.2.2.1.1, (y4.2.2.2.2.1.2.1, (y4.2.2.2.2.1.2.2.1, (y4.2.2.2.2.1.2.2.2.1, (y4.2.2.2.2.1.2.2.2.2.1, (y4.2.2.2.2.1.2.2.2.2.2.1, (y4.2.2.2.2.1.2.2.2.2.2.2.1, (y4.2.2.2.2.1.2.2.2.2.2.2.2.1, (y4.2.2.2.2.1.2.2.2.2.2.2.2.2.1, ()))))))))), ()))))))) k (z2.1, (z2.2.1, ((z2.2.2.1.1, (z2.2.2.1.2.1, (z2.2.2.1.2.2.1, ()))), ((z2.2.2.2.1.1, (z2.2.2.2.1.2.1, (z2.2.2.2.1.2.2.1, (z2.2.2.2.1.2.2.2.1, (z2.2.2.2.1.2.2.2.2.1, (z2.2.2.2.1.2.2.2.2.2.1, (z2.2.2.2.1.2.2.2.2.2.2.1, (z2.2.2.2.1.2.2.2.2.2.2.2.1, (z2.2.2.2.1.2.2.2.2.2.2.2.2.1, ()))))))))), ((z2.2.2.2.2.1.1, (z2.2.2.2.2.1.2.1, (z2.2.2.2.2.1.2.2.1, (z2.2.2.2.2.1.2.2.2.1, (z2.2.2.2.2.1.2.2.2.2.1, (z2.2.2.2.2.1.2.2.2.2.2.1, (z2.2.2.2.2.1.2.2.2.2.2.2.1, (z2.2.2.2.2.1.2.2.2.2.2.2.2.1, (z2.2.2.2.2.1.2.2.2.2.2.2.2.2.1, ()))))))))), ((0 : Int), ())))))))) (y2.2.1, (y2.2.2.1, ((y2.2.2.2.1.1, (y2.2.2.2.1.2.1, (y2.2.2.2.1.2.2.1, ()))), ((y2.2.2.2.2.1.1, (y2.2.2.2.2.1.2.1, (y2.2.2.2.2.1.2.2.1, (y2.2.2.2.2.1.2.2.2.1, (y2.2.2.2.2.1.2.2.2.2.1, (y2.2.2.2.2.1.2.2.2.2.2.1, (y2.2.2.2.2.1.2.2.2.2.2.2.1, (y2.2.2.2.2.1.2.2.2.2.2.2.2.1, (y2.2.2.2.2.1.2.2.2.2.2.2.2.2.1, ()))))))))), ((y2.2.2.2.2.2.1.1, (y2.2.2.2.2.2.1.2.1, (y2.2.2.2.2.2.1.2.2.1, (y2.2.2.2.2.2.1.2.2.2.1, (y2.2.2.2.2.2.1.2.2.2.2.1, (y2.2.2.2.2.2.1.2.2.2.2.2.1, (y2.2.2.2.2.2.1.2.2.2.2.2.2.1, (y2.2.2.2.2.2.1.2.2.2.2.2.2.2.1, (y2.2.2.2.2.2.1.2.2.2.2.2.2.2.2.1, ()))))))))), ())))))))) k (z1.1, (z1.2.1, (z1.2.2.1, ((z1.2.2.2.1.1, (z1.2.2.2.1.2.1, (z1.2.2.2.1.2.2.1, ()))), ((p2.1.1.1, (p2.1.1.2.1, (p2.1.1.2.2.1, (p2.1.1.2.2.2.1, (p2.1.1.2.2.2.2.1, (p2.1.1.2.2.2.2.2.1, (p2.1.1.2.2.2.2.2.2.1, (p2.1.1.2.2.2.2.2.2.2.1, (p2.1.1.2.2.2.2.2.2.2.2.1, ()))))))))), ((p3.1.1.1, (p3.1.1.2.1, (p3.1.1.2.2.1, (p3.1.1.2.2.2.1, (p3.1.1.2.2.2.2.1, (p3.1.1.2.2.2.2.2.1, (p3.1.1.2.2.2.2.2.2.1, (p3.1.1.2.2.2.2.2.2.2.1, (p3.1.1.2.2.2.2.2.2.2.2.1, ()))))))))), ((0 : Int), ())))))))))))) (fun (E1 : (List (ByteArray) × List (ByteArray) × (List (Int × Int × Int)) × ((List (Int × Int × Int × List (ByteArray) × List (Int × ByteArray × Int × Int) × Int × List (Int × ByteArray) × List (Int) × List (ByteArray))) × Int × (List (Int × Int × Int × Int × Int × List (Int) × ByteArray)) × Unit) × Bool × Unit) → Option _) =>
(whileK (fun (rec0 : (List (ByteArray) × List (ByteArray) × (List (Int × Int × Int)) × ((List (Int × Int × Int × List (ByteArray) × List (Int × ByteArray × Int × Int) × Int × List (Int × ByteArray) × List (Int) × List (ByteArray))) × Int × (List (Int × Int × Int × Int × Int × List (Int) × ByteArray)) × Unit) × Bool × Int × Unit) → Option _) (y0 : List (ByteArray) × List (ByteArray) × (List (Int × Int × Int)) × ((List (Int × Int × Int × List (ByteArray) × List (Int × ByteArray × Int × Int) × Int × List (Int × ByteArray) × List (Int) × List (ByteArray))) × Int × (List (Int × Int × Int × Int × Int × List (Int) × ByteArray)) × Unit) × Bool × Int × Unit) =>
(if (decide (y0.2.2.2.2.2.1 < (List.length y0.2.2.1 : Int))) = true then
(if y0.2.2.2.2.1 = true then
(if 0 ≤ y0.2.2.2.2.2.1 ∧ y0.2.2.2.2.2.1 < (List.length y0.2.2.1 : Int) then
((s_TurnOk k (((Ty.rd (t := yT7) y0.2.2.1 y0.2.2.2.2.2.1).1, ((Ty.rd (t := yT7) y0.2.2.1 y0.2.2.2.2.2.1).2.1, ((Ty.rd (t := yT7) y0.2.2.1 y0.2.2.2.2.2.1).2.2, ()))), ())).bind fun p1 =>
(rec0 (y0.1, (y0.2.1, (y0.2.2.1, ((y0.2.2.2.1.1, (y0.2.2.2.1.2.1, (y0.2.2.2.1.2.2.1, ()))), (p1.1, ((wi64 (y0.2.2.2.2.2.1 + (1 : Int))), ()))))))))
else none)
else
(E1 (y0.1, (y0.2.1, (y0.2.2.1, ((y0.2.2.2.1.1, (y0.2.2.2.1.2.1, (y0.2.2.2.1.2.2.1, ()))), (y0.2.2.2.2.1, ())))))))
else
(E1 (y0.1, (y0.2.1, (y0.2.2.1, ((y0.2.2.2.1.1, (y0.2.2.2.1.2.1, (y0.2.2.2.1.2.2.1, ()))), (y0.2.2.2.2.1, ())))))))) k (x.1, (x.2.1, (x.2.2.1, (([], ((0 : Int), ([], ()))), ((decide ((List.length x.2.2.1 : Int) ≤ (100 : Int))), ((0 : Int), ())))))))))
else
(jn (fun (z5 : List (ByteArray) × List (ByteArray) × (List (Int × Int × Int)) × ((List (Int × Int × Int × List (ByteArray) × List (Int × ByteArray × Int × Int) × Int × List (Int × ByteArray) × List (Int) × List (ByteArray))) × Int × (List (Int × Int × Int × Int × Int × List (Int) × ByteArray)) × Unit) × Bool × Unit) =>
(if (!z5.2.2.2.2.1) = true then
some ((([], ((0 : Int), ([], ()))), (false, ())), ((), ((), ((), ()))))
else
((s_ChanNew k ((1 : Int), ((2 : Int), ()))).bind fun p9 =>
((s_ChanNew k ((2 : Int), ((1 : Int), ()))).bind fun p10 =>
(whileK (fun (rec2 : (List (ByteArray) × List (ByteArray) × (List (Int × Int × Int)) × ((List (Int × Int × Int × List (ByteArray) × List (Int × ByteArray × Int × Int) × Int × List (Int × ByteArray) × List (Int) × List (ByteArray))) × Int × (List (Int × Int × Int × Int × Int × List (Int) × ByteArray)) × Unit) × (Int × Int × Int × List (ByteArray) × (List (Int × ByteArray × Int × Int)) × Int × (List (Int × ByteArray)) × List (Int) × List (ByteArray) × Unit) × (Int × Int × Int × List (ByteArray) × (List (Int × ByteArray × Int × Int)) × Int × (List (Int × ByteArray)) × List (Int) × List (ByteArray) × Unit) × Int × Unit) → Option _) (y2 : List (ByteArray) × List (ByteArray) × (List (Int × Int × Int)) × ((List (Int × Int × Int × List (ByteArray) × List (Int × ByteArray × Int × Int) × Int × List (Int × ByteArray) × List (Int) × List (ByteArray))) × Int × (List (Int × Int × Int × Int × Int × List (Int) × ByteArray)) × Unit) × (Int × Int × Int × List (ByteArray) × (List (Int × ByteArray × Int × Int)) × Int × (List (Int × ByteArray)) × List (Int) × List (ByteArray) × Unit) × (Int × Int × Int × List (ByteArray) × (List (Int × ByteArray × Int × Int)) × Int × (List (Int × ByteArray)) × List (Int) × List (ByteArray) × Unit) × Int × Unit) =>
(if (decide (y2.2.2.2.2.2.2.1 < (List.length y2.1 : Int))) = true then
(if 0 ≤ y2.2.2.2.2.2.2.1 ∧ y2.2.2.2.2.2.2.1 < (List.length y2.1 : Int) then
((s_Push k ((y2.2.2.2.2.1.1, (y2.2.2.2.2.1.2.1, (y2.2.2.2.2.1.2.2.1, (y2.2.2.2.2.1.2.2.2.1, (y2.2.2.2.2.1.2.2.2.2.1, (y2.2.2.2.2.1.2.2.2.2.2.1, (y2.2.2.2.2.1.2.2.2.2.2.2.1, (y2.2.2.2.2.1.2.2.2.2.2.2.2.1, (y2.2.2.2.2.1.2.2.2.2.2.2.2.2.1, ()))))))))), ((Ty.rd (t := .str) y2.1 y2.2.2.2.2.2.2.1), ()))).bind fun p11 =>
(rec2 (y2.1, (y2.2.1, (y2.2.2.1, ((y2.2.2.2.1.1, (y2.2.2.2.1.2.1, (y2.2.2.2.1.2.2.1, ()))), ((p11.1.1.1, (p11.1.1.2.1, (p11.1.1.2.2.1, (p11.1.1.2.2.2.1, (p11.1.1.2.2.2.2.1, (p11.1.1.2.2.2.2.2.1, (p11.1.1.2.2.2.2.2.2.1, (p11.1.1.2.2.2.2.2.2.2.1, (p11.1.1.2.2.2.2.2.2.2.2.1, ()))))))))), ((y2.2.2.2.2.2.1.1, (y2.2.2.2.2.2.1.2.1, (y2.2.2.2.2.2.1.2.2.1, (y2.2.2.2.2.2.1.2.2.2.1, (y2.2.2.2.2.2.1.2.2.2.2.1, (y2.2.2.2.2.2.1.2.2.2.2.2.1, (y2.2.2.2.2.2.1.2.2.2.2.2.2.1, (y2.2.2.2.2.2.1.2.2.2.2.2.2.2.1, (y2.2.2.2.2.2.1.2.2.2.2.2.2.2.2.1, ()))))))))), ((wi64 (y2.2.2.2.2.2.2.1 + (1 : Int))), ())))))))))
else none)
else
((fun (z6 : List (ByteArray) × (List (Int × Int × Int)) × ((List (Int × Int × Int × List (ByteArray) × List (Int × ByteArray × Int × Int) × Int × List (Int × ByteArray) × List (Int) × List (ByteArray))) × Int × (List (Int × Int × Int × Int × Int × List (Int) × ByteArray)) × Unit) × (Int × Int × Int × List (ByteArray) × (List (Int × ByteArray × Int × Int)) × Int × (List (Int × ByteArray)) × List (Int) × List (ByteArray) × Unit) × (Int × Int × Int × List (ByteArray) × (List (Int × ByteArray × Int × Int)) × Int × (List (Int × ByteArray)) × List (Int) × List (ByteArray) × Unit) × Unit) =>
(whileK (fun (rec4 : (List (ByteArray) × (List (Int × Int × Int)) × ((List (Int × Int × Int × List (ByteArray) × List (Int × ByteArray × Int × Int) × Int × List (Int × ByteArray) × List (Int) × List (ByteArray))) × Int × (List (Int × Int × Int × Int × Int × List (Int) × ByteArray)) × Unit) × (Int × Int × Int × List (ByteArray) × (List (Int × ByteArray × Int × Int)) × Int × (List (Int × ByteArray)) × List (Int) × List (ByteArray) × Unit) × (Int × Int × Int × List (ByteArray) × (List (Int × ByteArray × Int × Int)) × Int × (List (Int × ByteArray)) × List (Int) × List (ByteArray) × Unit) × Int × Unit) → Option _) (y4 : List (ByteArray) × (List (Int × Int × Int)) × ((List (Int × Int × Int × List (ByteArray) × List (Int × ByteArray × Int × Int) × Int × List (Int × ByteArray) × List (Int) × List (ByteArray))) × Int × (List (Int × Int × Int × Int × Int × List (Int) × ByteArray)) × Unit) × (Int × Int × Int × List (ByteArray) × (List (Int × ByteArray × Int × Int)) × Int × (List (Int × ByteArray)) × List (Int) × List (ByteArray) × Unit) × (Int × Int × Int × List (ByteArray) × (List (Int × ByteArray × Int × Int)) × Int × (List (Int × ByteArray)) × List (Int) × List (ByteArray) × Unit) × Int × Unit) =>
(if (decide (y4.2.2.2.2.2.1 < (List.length y4.1 : Int))) = true then
(if 0 ≤ y4.2.2.2.2.2.1 ∧ y4.2.2.2.2.2.1 < (List.length y4.1 : Int) then
((s_Push k ((y4.2.2.2.2.1.1, (y4.2.2.2.2.1.2.1, (y4.2.2.2.2.1.2.2.1, (y4.2.2.2.2.1.2.2.2.1, (y4.2.2.2.2.1.2.2.2.2.1, (y4.2.2.2.2.1.2.2.2.2.2.1, (y4.2.2.2.2.1.2.2.2.2.2.2.1, (y4.2.2.2.2.1.2.2.2.2.2.2.2.1, (y4.2.2.2.2.1.2.2.2.2.2.2.2.2.1, ()))))))))), ((Ty.rd (t := .str) y4.1 y4.2.2.2.2.2.1), ()))).bind fun p12 =>
(rec4 (y4.1, (y4.2.1, ((y4.2.2.1.1, (y4.2.2.1.2.1, (y4.2.2.1.2.2.1, ()))), ((y4.2.2.2.1.1, (y4.2.2.2.1.2.1, (y4.2.2.2.1.2.2.1, (y4.2.2.2.1.2.2.2.1, (y4.2.2.2.1.2.2.2.2.1, (y4.2.2.2.1.2.2.2.2.2.1, (y4.2.2.2.1.2.2.2.2.2.2.1, (y4.2.2.2.1.2.2.2.2.2.2.2.1, (y4.2.2.2.1.2.2.2.2.2.2.2.2.1, ()))))))))), ((p12.1.1.1, (p12.1.1.2.1, (p12.1.1.2.2.1, (p12.1.1.2.2.2.1, (p12.1.1.2.2.2.2.1, (p12.1.1.2.2.2.2.2.1, (p12.1.1.2.2.2.2.2.2.1, (p12.1.1.2.2.2.2.2.2.2.1, (p12.1.1.2.2.2.2.2.2.2.2.1, ()))))))))), ((wi64 (y4.2.2.2.2.2.1 + (1 : Int))), ()))))))))
else none)
else
((fun (z7 : (List (Int × Int × Int)) × ((List (Int × Int × Int × List (ByteArray) × List (Int × ByteArray × Int × Int) × Int × List (Int × ByteArray) × List (Int) × List (ByteArray))) × Int × (List (Int × Int × Int × Int × Int × List (Int) × ByteArray)) × Unit) × (Int × Int × Int × List (ByteArray) × (List (Int × ByteArray × Int × Int)) × Int × (List (Int × ByteArray)) × List (Int) × List (ByteArray) × Unit) × (Int × Int × Int × List (ByteArray) × (List (Int × ByteArray × Int × Int)) × Int × (List (Int × ByteArray)) × List (Int) × List (ByteArray) × Unit) × Unit) =>
(whileK (fun (rec6 : ((List (Int × Int × Int)) × ((List (Int × Int × Int × List (ByteArray) × List (Int × ByteArray × Int × Int) × Int × List (Int × ByteArray) × List (Int) × List (ByteArray))) × Int × (List (Int × Int × Int × Int × Int × List (Int) × ByteArray)) × Unit) × ((List (Int × Int × Int × List (ByteArray) × List (Int × ByteArray × Int × Int) × Int × List (Int × ByteArray) × List (Int) × List (ByteArray))) × Int × (List (Int × Int × Int × Int × Int × List (Int) × ByteArray)) × Unit) × Int × Unit) → Option _) (y6 : (List (Int × Int × Int)) × ((List (Int × Int × Int × List (ByteArray) × List (Int × ByteArray × Int × Int) × Int × List (Int × ByteArray) × List (Int) × List (ByteArray))) × Int × (List (Int × Int × Int × Int × Int × List (Int) × ByteArray)) × Unit) × ((List (Int × Int × Int × List (ByteArray) × List (Int × ByteArray × Int × Int) × Int × List (Int × ByteArray) × List (Int) × List (ByteArray))) × Int × (List (Int × Int × Int × Int × Int × List (Int) × ByteArray)) × Unit) × Int × Unit) =>
(if (decide (y6.2.2.2.1 < (List.length y6.1 : Int))) = true then
(if 0 ≤ y6.2.2.2.1 ∧ y6.2.2.2.1 < (List.length y6.1 : Int) then
((s_l14Do k ((y6.2.2.1.1, (y6.2.2.1.2.1, (y6.2.2.1.2.2.1, ()))), (((Ty.rd (t := yT7) y6.1 y6.2.2.2.1).1, ((Ty.rd (t := yT7) y6.1 y6.2.2.2.1).2.1, ((Ty.rd (t := yT7) y6.1 y6.2.2.2.1).2.2, ()))), ()))).bind fun p13 =>
(rec6 (y6.1, ((y6.2.1.1, (y6.2.1.2.1, (y6.2.1.2.2.1, ()))), ((p13.2.1.1, ((wi64 (p13.2.1.2.1 + (3 : Int))), (p13.2.1.2.2.1, ()))), ((wi64 (y6.2.2.2.1 + (1 : Int))), ()))))))
else none)
else
((fun (z8 : ((List (Int × Int × Int × List (ByteArray) × List (Int × ByteArray × Int × Int) × Int × List (Int × ByteArray) × List (Int) × List (ByteArray))) × Int × (List (Int × Int × Int × Int × Int × List (Int) × ByteArray)) × Unit) × ((List (Int × Int × Int × List (ByteArray) × List (Int × ByteArray × Int × Int) × Int × List (Int × ByteArray) × List (Int) × List (ByteArray))) × Int × (List (Int × Int × Int × Int × Int × List (Int) × ByteArray)) × Unit) × Unit) =>
((s_l14Copy k ((z8.2.1.1, (z8.2.1.2.1, (z8.2.1.2.2.1, ()))), ())).bind fun p14 =>
some (((p14.1.1, (p14.1.2.1, (p14.1.2.2.1, ()))), (true, ())), ((), ((), ((), ())))))) ((y6.2.1.1, (y6.2.1.2.1, (y6.2.1.2.2.1, ()))), ((y6.2.2.1.1, (y6.2.2.1.2.1, (y6.2.2.1.2.2.1, ()))), ()))))) k (z7.1, ((z7.2.1.1, (z7.2.1.2.1, (z7.2.1.2.2.1, ()))), ((([(z7.2.2.1.1, (z7.2.2.1.2.1, (z7.2.2.1.2.2.1, (z7.2.2.1.2.2.2.1, (z7.2.2.1.2.2.2.2.1, (z7.2.2.1.2.2.2.2.2.1, (z7.2.2.1.2.2.2.2.2.2.1, (z7.2.2.1.2.2.2.2.2.2.2.1, z7.2.2.1.2.2.2.2.2.2.2.2.1)))))))), (z7.2.2.2.1.1, (z7.2.2.2.1.2.1, (z7.2.2.2.1.2.2.1, (z7.2.2.2.1.2.2.2.1, (z7.2.2.2.1.2.2.2.2.1, (z7.2.2.2.1.2.2.2.2.2.1, (z7.2.2.2.1.2.2.2.2.2.2.1, (z7.2.2.2.1.2.2.2.2.2.2.2.1, z7.2.2.2.1.2.2.2.2.2.2.2.2.1))))))))] : List (Int × Int × Int × List (ByteArray) × List (Int × ByteArray × Int × Int) × Int × List (Int × ByteArray) × List (Int) × List (ByteArray))), ((0 : Int), ([], ()))), ((0 : Int), ())))))) (y4.2.1, ((y4.2.2.1.1, (y4.2.2.1.2.1, (y4.2.2.1.2.2.1, ()))), ((y4.2.2.2.1.1, (y4.2.2.2.1.2.1, (y4.2.2.2.1.2.2.1, (y4.2.2.2.1.2.2.2.1, (y4.2.2.2.1.2.2.2.2.1, (y4.2.2.2.1.2.2.2.2.2.1, (y4.2.2.2.1.2.2.2.2.2.2.1, (y4.2.2.2.1.2.2.2.2.2.2.2.1, (y4.2.2.2.1.2.2.2.2.2.2.2.2.1, ()))))))))), ((y4.2.2.2.2.1.1, (y4.2.2.2.2.1.2.1, (y4.2.2.2.2.1.2.2.1, (y4.2.2.2.2.1.2.2.2.1, (y4.2.2.2.2.1.2.2.2.2.1, (y4.2.2.2.2.1.2.2.2.2.2.1, (y4.2.2.2.2.1.2.2.2.2.2.2.1, (y4.2.2.2.2.1.2.2.2.2.2.2.2.1, (y4.2.2.2.2.1.2.2.2.2.2.2.2.2.1, ()))))))))), ()))))))) k (z6.1, (z6.2.1, ((z6.2.2.1.1, (z6.2.2.1.2.1, (z6.2.2.1.2.2.1, ()))), ((z6.2.2.2.1.1, (z6.2.2.2.1.2.1, (z6.2.2.2.1.2.2.1, (z6.2.2.2.1.2.2.2.1, (z6.2.2.2.1.2.2.2.2.1, (z6.2.2.2.1.2.2.2.2.2.1, (z6.2.2.2.1.2.2.2.2.2.2.1, (z6.2.2.2.1.2.2.2.2.2.2.2.1, (z6.2.2.2.1.2.2.2.2.2.2.2.2.1, ()))))))))), ((z6.2.2.2.2.1.1, (z6.2.2.2.2.1.2.1, (z6.2.2.2.2.1.2.2.1, (z6.2.2.2.2.1.2.2.2.1, (z6.2.2.2.2.1.2.2.2.2.1, (z6.2.2.2.2.1.2.2.2.2.2.1, (z6.2.2.2.2.1.2.2.2.2.2.2.1, (z6.2.2.2.2.1.2.2.2.2.2.2.2.1, (z6.2.2.2.2.1.2.2.2.2.2.2.2.2.1, ()))))))))), ((0 : Int), ())))))))) (y2.2.1, (y2.2.2.1, ((y2.2.2.2.1.1, (y2.2.2.2.1.2.1, (y2.2.2.2.1.2.2.1, ()))), ((y2.2.2.2.2.1.1, (y2.2.2.2.2.1.2.1, (y2.2.2.2.2.1.2.2.1, (y2.2.2.2.2.1.2.2.2.1, (y2.2.2.2.2.1.2.2.2.2.1, (y2.2.2.2.2.1.2.2.2.2.2.1, (y2.2.2.2.2.1.2.2.2.2.2.2.1, (y2.2.2.2.2.1.2.2.2.2.2.2.2.1, (y2.2.2.2.2.1.2.2.2.2.2.2.2.2.1, ()))))))))), ((y2.2.2.2.2.2.1.1, (y2.2.2.2.2.2.1.2.1, (y2.2.2.2.2.2.1.2.2.1, (y2.2.2.2.2.2.1.2.2.2.1, (y2.2.2.2.2.2.1.2.2.2.2.1, (y2.2.2.2.2.2.1.2.2.2.2.2.1, (y2.2.2.2.2.2.1.2.2.2.2.2.2.1, (y2.2.2.2.2.2.1.2.2.2.2.2.2.2.1, (y2.2.2.2.2.2.1.2.2.2.2.2.2.2.2.1, ()))))))))), ())))))))) k (z5.1, (z5.2.1, (z5.2.2.1, ((z5.2.2.2.1.1, (z5.2.2.2.1.2.1, (z5.2.2.2.1.2.2.1, ()))), ((p9.1.1.1, (p9.1.1.2.1, (p9.1.1.2.2.1, (p9.1.1.2.2.2.1, (p9.1.1.2.2.2.2.1, (p9.1.1.2.2.2.2.2.1, (p9.1.1.2.2.2.2.2.2.1, (p9.1.1.2.2.2.2.2.2.2.1, (p9.1.1.2.2.2.2.2.2.2.2.1, ()))))))))), ((p10.1.1.1, (p10.1.1.2.1, (p10.1.1.2.2.1, (p10.1.1.2.2.2.1, (p10.1.1.2.2.2.2.1, (p10.1.1.2.2.2.2.2.1, (p10.1.1.2.2.2.2.2.2.1, (p10.1.1.2.2.2.2.2.2.2.1, (p10.1.1.2.2.2.2.2.2.2.2.1, ()))))))))), ((0 : Int), ())))))))))))) (fun (E5 : (List (ByteArray) × List (ByteArray) × (List (Int × Int × Int)) × ((List (Int × Int × Int × List (ByteArray) × List (Int × ByteArray × Int × Int) × Int × List (Int × ByteArray) × List (Int) × List (ByteArray))) × Int × (List (Int × Int × Int × Int × Int × List (Int) × ByteArray)) × Unit) × Bool × Unit) → Option _) =>
(whileK (fun (rec0 : (List (ByteArray) × List (ByteArray) × (List (Int × Int × Int)) × ((List (Int × Int × Int × List (ByteArray) × List (Int × ByteArray × Int × Int) × Int × List (Int × ByteArray) × List (Int) × List (ByteArray))) × Int × (List (Int × Int × Int × Int × Int × List (Int) × ByteArray)) × Unit) × Bool × Int × Unit) → Option _) (y0 : List (ByteArray) × List (ByteArray) × (List (Int × Int × Int)) × ((List (Int × Int × Int × List (ByteArray) × List (Int × ByteArray × Int × Int) × Int × List (Int × ByteArray) × List (Int) × List (ByteArray))) × Int × (List (Int × Int × Int × Int × Int × List (Int) × ByteArray)) × Unit) × Bool × Int × Unit) =>
(if (decide (y0.2.2.2.2.2.1 < (List.length y0.2.2.1 : Int))) = true then
(if y0.2.2.2.2.1 = true then
(if 0 ≤ y0.2.2.2.2.2.1 ∧ y0.2.2.2.2.2.1 < (List.length y0.2.2.1 : Int) then
((s_TurnOk k (((Ty.rd (t := yT7) y0.2.2.1 y0.2.2.2.2.2.1).1, ((Ty.rd (t := yT7) y0.2.2.1 y0.2.2.2.2.2.1).2.1, ((Ty.rd (t := yT7) y0.2.2.1 y0.2.2.2.2.2.1).2.2, ()))), ())).bind fun p8 =>
(rec0 (y0.1, (y0.2.1, (y0.2.2.1, ((y0.2.2.2.1.1, (y0.2.2.2.1.2.1, (y0.2.2.2.1.2.2.1, ()))), (p8.1, ((wi64 (y0.2.2.2.2.2.1 + (1 : Int))), ()))))))))
else none)
else
(E5 (y0.1, (y0.2.1, (y0.2.2.1, ((y0.2.2.2.1.1, (y0.2.2.2.1.2.1, (y0.2.2.2.1.2.2.1, ()))), (y0.2.2.2.2.1, ())))))))
else
(E5 (y0.1, (y0.2.1, (y0.2.2.1, ((y0.2.2.2.1.1, (y0.2.2.2.1.2.1, (y0.2.2.2.1.2.2.1, ()))), (y0.2.2.2.2.1, ())))))))) k (x.1, (x.2.1, (x.2.2.1, (([], ((0 : Int), ([], ()))), (false, ((0 : Int), ()))))))))))
else
(jn (fun (z9 : List (ByteArray) × List (ByteArray) × (List (Int × Int × Int)) × ((List (Int × Int × Int × List (ByteArray) × List (Int × ByteArray × Int × Int) × Int × List (Int × ByteArray) × List (Int) × List (ByteArray))) × Int × (List (Int × Int × Int × Int × Int × List (Int) × ByteArray)) × Unit) × Bool × Unit) =>
(if (!z9.2.2.2.2.1) = true then
some ((([], ((0 : Int), ([], ()))), (false, ())), ((), ((), ((), ()))))
else
((s_ChanNew k ((1 : Int), ((2 : Int), ()))).bind fun p16 =>
((s_ChanNew k ((2 : Int), ((1 : Int), ()))).bind fun p17 =>
(whileK (fun (rec2 : (List (ByteArray) × List (ByteArray) × (List (Int × Int × Int)) × ((List (Int × Int × Int × List (ByteArray) × List (Int × ByteArray × Int × Int) × Int × List (Int × ByteArray) × List (Int) × List (ByteArray))) × Int × (List (Int × Int × Int × Int × Int × List (Int) × ByteArray)) × Unit) × (Int × Int × Int × List (ByteArray) × (List (Int × ByteArray × Int × Int)) × Int × (List (Int × ByteArray)) × List (Int) × List (ByteArray) × Unit) × (Int × Int × Int × List (ByteArray) × (List (Int × ByteArray × Int × Int)) × Int × (List (Int × ByteArray)) × List (Int) × List (ByteArray) × Unit) × Int × Unit) → Option _) (y2 : List (ByteArray) × List (ByteArray) × (List (Int × Int × Int)) × ((List (Int × Int × Int × List (ByteArray) × List (Int × ByteArray × Int × Int) × Int × List (Int × ByteArray) × List (Int) × List (ByteArray))) × Int × (List (Int × Int × Int × Int × Int × List (Int) × ByteArray)) × Unit) × (Int × Int × Int × List (ByteArray) × (List (Int × ByteArray × Int × Int)) × Int × (List (Int × ByteArray)) × List (Int) × List (ByteArray) × Unit) × (Int × Int × Int × List (ByteArray) × (List (Int × ByteArray × Int × Int)) × Int × (List (Int × ByteArray)) × List (Int) × List (ByteArray) × Unit) × Int × Unit) =>
(if (decide (y2.2.2.2.2.2.2.1 < (List.length y2.1 : Int))) = true then
(if 0 ≤ y2.2.2.2.2.2.2.1 ∧ y2.2.2.2.2.2.2.1 < (List.length y2.1 : Int) then
((s_Push k ((y2.2.2.2.2.1.1, (y2.2.2.2.2.1.2.1, (y2.2.2.2.2.1.2.2.1, (y2.2.2.2.2.1.2.2.2.1, (y2.2.2.2.2.1.2.2.2.2.1, (y2.2.2.2.2.1.2.2.2.2.2.1, (y2.2.2.2.2.1.2.2.2.2.2.2.1, (y2.2.2.2.2.1.2.2.2.2.2.2.2.1, (y2.2.2.2.2.1.2.2.2.2.2.2.2.2.1, ()))))))))), ((Ty.rd (t := .str) y2.1 y2.2.2.2.2.2.2.1), ()))).bind fun p18 =>
(rec2 (y2.1, (y2.2.1, (y2.2.2.1, ((y2.2.2.2.1.1, (y2.2.2.2.1.2.1, (y2.2.2.2.1.2.2.1, ()))), ((p18.1.1.1, (p18.1.1.2.1, (p18.1.1.2.2.1, (p18.1.1.2.2.2.1, (p18.1.1.2.2.2.2.1, (p18.1.1.2.2.2.2.2.1, (p18.1.1.2.2.2.2.2.2.1, (p18.1.1.2.2.2.2.2.2.2.1, (p18.1.1.2.2.2.2.2.2.2.2.1, ()))))))))), ((y2.2.2.2.2.2.1.1, (y2.2.2.2.2.2.1.2.1, (y2.2.2.2.2.2.1.2.2.1, (y2.2.2.2.2.2.1.2.2.2.1, (y2.2.2.2.2.2.1.2.2.2.2.1, (y2.2.2.2.2.2.1.2.2.2.2.2.1, (y2.2.2.2.2.2.1.2.2.2.2.2.2.1, (y2.2.2.2.2.2.1.2.2.2.2.2.2.2.1, (y2.2.2.2.2.2.1.2.2.2.2.2.2.2.2.1, ()))))))))), ((wi64 (y2.2.2.2.2.2.2.1 + (1 : Int))), ())))))))))
else none)
else
((fun (z10 : List (ByteArray) × (List (Int × Int × Int)) × ((List (Int × Int × Int × List (ByteArray) × List (Int × ByteArray × Int × Int) × Int × List (Int × ByteArray) × List (Int) × List (ByteArray))) × Int × (List (Int × Int × Int × Int × Int × List (Int) × ByteArray)) × Unit) × (Int × Int × Int × List (ByteArray) × (List (Int × ByteArray × Int × Int)) × Int × (List (Int × ByteArray)) × List (Int) × List (ByteArray) × Unit) × (Int × Int × Int × List (ByteArray) × (List (Int × ByteArray × Int × Int)) × Int × (List (Int × ByteArray)) × List (Int) × List (ByteArray) × Unit) × Unit) =>
(whileK (fun (rec4 : (List (ByteArray) × (List (Int × Int × Int)) × ((List (Int × Int × Int × List (ByteArray) × List (Int × ByteArray × Int × Int) × Int × List (Int × ByteArray) × List (Int) × List (ByteArray))) × Int × (List (Int × Int × Int × Int × Int × List (Int) × ByteArray)) × Unit) × (Int × Int × Int × List (ByteArray) × (List (Int × ByteArray × Int × Int)) × Int × (List (Int × ByteArray)) × List (Int) × List (ByteArray) × Unit) × (Int × Int × Int × List (ByteArray) × (List (Int × ByteArray × Int × Int)) × Int × (List (Int × ByteArray)) × List (Int) × List (ByteArray) × Unit) × Int × Unit) → Option _) (y4 : List (ByteArray) × (List (Int × Int × Int)) × ((List (Int × Int × Int × List (ByteArray) × List (Int × ByteArray × Int × Int) × Int × List (Int × ByteArray) × List (Int) × List (ByteArray))) × Int × (List (Int × Int × Int × Int × Int × List (Int) × ByteArray)) × Unit) × (Int × Int × Int × List (ByteArray) × (List (Int × ByteArray × Int × Int)) × Int × (List (Int × ByteArray)) × List (Int) × List (ByteArray) × Unit) × (Int × Int × Int × List (ByteArray) × (List (Int × ByteArray × Int × Int)) × Int × (List (Int × ByteArray)) × List (Int) × List (ByteArray) × Unit) × Int × Unit) =>
(if (decide (y4.2.2.2.2.2.1 < (List.length y4.1 : Int))) = true then
(if 0 ≤ y4.2.2.2.2.2.1 ∧ y4.2.2.2.2.2.1 < (List.length y4.1 : Int) then
((s_Push k ((y4.2.2.2.2.1.1, (y4.2.2.2.2.1.2.1, (y4.2.2.2.2.1.2.2.1, (y4.2.2.2.2.1.2.2.2.1, (y4.2.2.2.2.1.2.2.2.2.1, (y4.2.2.2.2.1.2.2.2.2.2.1, (y4.2.2.2.2.1.2.2.2.2.2.2.1, (y4.2.2.2.2.1.2.2.2.2.2.2.2.1, (y4.2.2.2.2.1.2.2.2.2.2.2.2.2.1, ()))))))))), ((Ty.rd (t := .str) y4.1 y4.2.2.2.2.2.1), ()))).bind fun p19 =>
(rec4 (y4.1, (y4.2.1, ((y4.2.2.1.1, (y4.2.2.1.2.1, (y4.2.2.1.2.2.1, ()))), ((y4.2.2.2.1.1, (y4.2.2.2.1.2.1, (y4.2.2.2.1.2.2.1, (y4.2.2.2.1.2.2.2.1, (y4.2.2.2.1.2.2.2.2.1, (y4.2.2.2.1.2.2.2.2.2.1, (y4.2.2.2.1.2.2.2.2.2.2.1, (y4.2.2.2.1.2.2.2.2.2.2.2.1, (y4.2.2.2.1.2.2.2.2.2.2.2.2.1, ()))))))))), ((p19.1.1.1, (p19.1.1.2.1, (p19.1.1.2.2.1, (p19.1.1.2.2.2.1, (p19.1.1.2.2.2.2.1, (p19.1.1.2.2.2.2.2.1, (p19.1.1.2.2.2.2.2.2.1, (p19.1.1.2.2.2.2.2.2.2.1, (p19.1.1.2.2.2.2.2.2.2.2.1, ()))))))))), ((wi64 (y4.2.2.2.2.2.1 + (1 : Int))), ()))))))))
else none)
else
((fun (z11 : (List (Int × Int × Int)) × ((List (Int × Int × Int × List (ByteArray) × List (Int × ByteArray × Int × Int) × Int × List (Int × ByteArray) × List (Int) × List (ByteArray))) × Int × (List (Int × Int × Int × Int × Int × List (Int) × ByteArray)) × Unit) × (Int × Int × Int × List (ByteArray) × (List (Int × ByteArray × Int × Int)) × Int × (List (Int × ByteArray)) × List (Int) × List (ByteArray) × Unit) × (Int × Int × Int × List (ByteArray) × (List (Int × ByteArray × Int × Int)) × Int × (List (Int × ByteArray)) × List (Int) × List (ByteArray) × Unit) × Unit) =>
(whileK (fun (rec6 : ((List (Int × Int × Int)) × ((List (Int × Int × Int × List (ByteArray) × List (Int × ByteArray × Int × Int) × Int × List (Int × ByteArray) × List (Int) × List (ByteArray))) × Int × (List (Int × Int × Int × Int × Int × List (Int) × ByteArray)) × Unit) × ((List (Int × Int × Int × List (ByteArray) × List (Int × ByteArray × Int × Int) × Int × List (Int × ByteArray) × List (Int) × List (ByteArray))) × Int × (List (Int × Int × Int × Int × Int × List (Int) × ByteArray)) × Unit) × Int × Unit) → Option _) (y6 : (List (Int × Int × Int)) × ((List (Int × Int × Int × List (ByteArray) × List (Int × ByteArray × Int × Int) × Int × List (Int × ByteArray) × List (Int) × List (ByteArray))) × Int × (List (Int × Int × Int × Int × Int × List (Int) × ByteArray)) × Unit) × ((List (Int × Int × Int × List (ByteArray) × List (Int × ByteArray × Int × Int) × Int × List (Int × ByteArray) × List (Int) × List (ByteArray))) × Int × (List (Int × Int × Int × Int × Int × List (Int) × ByteArray)) × Unit) × Int × Unit) =>
(if (decide (y6.2.2.2.1 < (List.length y6.1 : Int))) = true then
(if 0 ≤ y6.2.2.2.1 ∧ y6.2.2.2.1 < (List.length y6.1 : Int) then
((s_l14Do k ((y6.2.2.1.1, (y6.2.2.1.2.1, (y6.2.2.1.2.2.1, ()))), (((Ty.rd (t := yT7) y6.1 y6.2.2.2.1).1, ((Ty.rd (t := yT7) y6.1 y6.2.2.2.1).2.1, ((Ty.rd (t := yT7) y6.1 y6.2.2.2.1).2.2, ()))), ()))).bind fun p20 =>
(rec6 (y6.1, ((y6.2.1.1, (y6.2.1.2.1, (y6.2.1.2.2.1, ()))), ((p20.2.1.1, ((wi64 (p20.2.1.2.1 + (3 : Int))), (p20.2.1.2.2.1, ()))), ((wi64 (y6.2.2.2.1 + (1 : Int))), ()))))))
else none)
else
((fun (z12 : ((List (Int × Int × Int × List (ByteArray) × List (Int × ByteArray × Int × Int) × Int × List (Int × ByteArray) × List (Int) × List (ByteArray))) × Int × (List (Int × Int × Int × Int × Int × List (Int) × ByteArray)) × Unit) × ((List (Int × Int × Int × List (ByteArray) × List (Int × ByteArray × Int × Int) × Int × List (Int × ByteArray) × List (Int) × List (ByteArray))) × Int × (List (Int × Int × Int × Int × Int × List (Int) × ByteArray)) × Unit) × Unit) =>
((s_l14Copy k ((z12.2.1.1, (z12.2.1.2.1, (z12.2.1.2.2.1, ()))), ())).bind fun p21 =>
some (((p21.1.1, (p21.1.2.1, (p21.1.2.2.1, ()))), (true, ())), ((), ((), ((), ())))))) ((y6.2.1.1, (y6.2.1.2.1, (y6.2.1.2.2.1, ()))), ((y6.2.2.1.1, (y6.2.2.1.2.1, (y6.2.2.1.2.2.1, ()))), ()))))) k (z11.1, ((z11.2.1.1, (z11.2.1.2.1, (z11.2.1.2.2.1, ()))), ((([(z11.2.2.1.1, (z11.2.2.1.2.1, (z11.2.2.1.2.2.1, (z11.2.2.1.2.2.2.1, (z11.2.2.1.2.2.2.2.1, (z11.2.2.1.2.2.2.2.2.1, (z11.2.2.1.2.2.2.2.2.2.1, (z11.2.2.1.2.2.2.2.2.2.2.1, z11.2.2.1.2.2.2.2.2.2.2.2.1)))))))), (z11.2.2.2.1.1, (z11.2.2.2.1.2.1, (z11.2.2.2.1.2.2.1, (z11.2.2.2.1.2.2.2.1, (z11.2.2.2.1.2.2.2.2.1, (z11.2.2.2.1.2.2.2.2.2.1, (z11.2.2.2.1.2.2.2.2.2.2.1, (z11.2.2.2.1.2.2.2.2.2.2.2.1, z11.2.2.2.1.2.2.2.2.2.2.2.2.1))))))))] : List (Int × Int × Int × List (ByteArray) × List (Int × ByteArray × Int × Int) × Int × List (Int × ByteArray) × List (Int) × List (ByteArray))), ((0 : Int), ([], ()))), ((0 : Int), ())))))) (y4.2.1, ((y4.2.2.1.1, (y4.2.2.1.2.1, (y4.2.2.1.2.2.1, ()))), ((y4.2.2.2.1.1, (y4.2.2.2.1.2.1, (y4.2.2.2.1.2.2.1, (y4.2.2.2.1.2.2.2.1, (y4.2.2.2.1.2.2.2.2.1, (y4.2.2.2.1.2.2.2.2.2.1, (y4.2.2.2.1.2.2.2.2.2.2.1, (y4.2.2.2.1.2.2.2.2.2.2.2.1, (y4.2.2.2.1.2.2.2.2.2.2.2.2.1, ()))))))))), ((y4.2.2.2.2.1.1, (y4.2.2.2.2.1.2.1, (y4.2.2.2.2.1.2.2.1, (y4.2.2.2.2.1.2.2.2.1, (y4.2.2.2.2.1.2.2.2.2.1, (y4.2.2.2.2.1.2.2.2.2.2.1, (y4.2.2.2.2.1.2.2.2.2.2.2.1, (y4.2.2.2.2.1.2.2.2.2.2.2.2.1, (y4.2.2.2.2.1.2.2.2.2.2.2.2.2.1, ()))))))))), ()))))))) k (z10.1, (z10.2.1, ((z10.2.2.1.1, (z10.2.2.1.2.1, (z10.2.2.1.2.2.1, ()))), ((z10.2.2.2.1.1, (z10.2.2.2.1.2.1, (z10.2.2.2.1.2.2.1, (z10.2.2.2.1.2.2.2.1, (z10.2.2.2.1.2.2.2.2.1, (z10.2.2.2.1.2.2.2.2.2.1, (z10.2.2.2.1.2.2.2.2.2.2.1, (z10.2.2.2.1.2.2.2.2.2.2.2.1, (z10.2.2.2.1.2.2.2.2.2.2.2.2.1, ()))))))))), ((z10.2.2.2.2.1.1, (z10.2.2.2.2.1.2.1, (z10.2.2.2.2.1.2.2.1, (z10.2.2.2.2.1.2.2.2.1, (z10.2.2.2.2.1.2.2.2.2.1, (z10.2.2.2.2.1.2.2.2.2.2.1, (z10.2.2.2.2.1.2.2.2.2.2.2.1, (z10.2.2.2.2.1.2.2.2.2.2.2.2.1, (z10.2.2.2.2.1.2.2.2.2.2.2.2.2.1, ()))))))))), ((0 : Int), ())))))))) (y2.2.1, (y2.2.2.1, ((y2.2.2.2.1.1, (y2.2.2.2.1.2.1, (y2.2.2.2.1.2.2.1, ()))), ((y2.2.2.2.2.1.1, (y2.2.2.2.2.1.2.1, (y2.2.2.2.2.1.2.2.1, (y2.2.2.2.2.1.2.2.2.1, (y2.2.2.2.2.1.2.2.2.2.1, (y2.2.2.2.2.1.2.2.2.2.2.1, (y2.2.2.2.2.1.2.2.2.2.2.2.1, (y2.2.2.2.2.1.2.2.2.2.2.2.2.1, (y2.2.2.2.2.1.2.2.2.2.2.2.2.2.1, ()))))))))), ((y2.2.2.2.2.2.1.1, (y2.2.2.2.2.2.1.2.1, (y2.2.2.2.2.2.1.2.2.1, (y2.2.2.2.2.2.1.2.2.2.1, (y2.2.2.2.2.2.1.2.2.2.2.1, (y2.2.2.2.2.2.1.2.2.2.2.2.1, (y2.2.2.2.2.2.1.2.2.2.2.2.2.1, (y2.2.2.2.2.2.1.2.2.2.2.2.2.2.1, (y2.2.2.2.2.2.1.2.2.2.2.2.2.2.2.1, ()))))))))), ())))))))) k (z9.1, (z9.2.1, (z9.2.2.1, ((z9.2.2.2.1.1, (z9.2.2.2.1.2.1, (z9.2.2.2.1.2.2.1, ()))), ((p16.1.1.1, (p16.1.1.2.1, (p16.1.1.2.2.1, (p16.1.1.2.2.2.1, (p16.1.1.2.2.2.2.1, (p16.1.1.2.2.2.2.2.1, (p16.1.1.2.2.2.2.2.2.1, (p16.1.1.2.2.2.2.2.2.2.1, (p16.1.1.2.2.2.2.2.2.2.2.1, ()))))))))), ((p17.1.1.1, (p17.1.1.2.1, (p17.1.1.2.2.1, (p17.1.1.2.2.2.1, (p17.1.1.2.2.2.2.1, (p17.1.1.2.2.2.2.2.1, (p17.1.1.2.2.2.2.2.2.1, (p17.1.1.2.2.2.2.2.2.2.1, (p17.1.1.2.2.2.2.2.2.2.2.1, ()))))))))), ((0 : Int), ())))))))))))) (fun (E9 : (List (ByteArray) × List (ByteArray) × (List (Int × Int × Int)) × ((List (Int × Int × Int × List (ByteArray) × List (Int × ByteArray × Int × Int) × Int × List (Int × ByteArray) × List (Int) × List (ByteArray))) × Int × (List (Int × Int × Int × Int × Int × List (Int) × ByteArray)) × Unit) × Bool × Unit) → Option _) =>
(whileK (fun (rec0 : (List (ByteArray) × List (ByteArray) × (List (Int × Int × Int)) × ((List (Int × Int × Int × List (ByteArray) × List (Int × ByteArray × Int × Int) × Int × List (Int × ByteArray) × List (Int) × List (ByteArray))) × Int × (List (Int × Int × Int × Int × Int × List (Int) × ByteArray)) × Unit) × Bool × Int × Unit) → Option _) (y0 : List (ByteArray) × List (ByteArray) × (List (Int × Int × Int)) × ((List (Int × Int × Int × List (ByteArray) × List (Int × ByteArray × Int × Int) × Int × List (Int × ByteArray) × List (Int) × List (ByteArray))) × Int × (List (Int × Int × Int × Int × Int × List (Int) × ByteArray)) × Unit) × Bool × Int × Unit) =>
(if (decide (y0.2.2.2.2.2.1 < (List.length y0.2.2.1 : Int))) = true then
(if y0.2.2.2.2.1 = true then
(if 0 ≤ y0.2.2.2.2.2.1 ∧ y0.2.2.2.2.2.1 < (List.length y0.2.2.1 : Int) then
((s_TurnOk k (((Ty.rd (t := yT7) y0.2.2.1 y0.2.2.2.2.2.1).1, ((Ty.rd (t := yT7) y0.2.2.1 y0.2.2.2.2.2.1).2.1, ((Ty.rd (t := yT7) y0.2.2.1 y0.2.2.2.2.2.1).2.2, ()))), ())).bind fun p15 =>
(rec0 (y0.1, (y0.2.1, (y0.2.2.1, ((y0.2.2.2.1.1, (y0.2.2.2.1.2.1, (y0.2.2.2.1.2.2.1, ()))), (p15.1, ((wi64 (y0.2.2.2.2.2.1 + (1 : Int))), ()))))))))
else none)
else
(E9 (y0.1, (y0.2.1, (y0.2.2.1, ((y0.2.2.2.1.1, (y0.2.2.2.1.2.1, (y0.2.2.2.1.2.2.1, ()))), (y0.2.2.2.2.1, ())))))))
else
(E9 (y0.1, (y0.2.1, (y0.2.2.1, ((y0.2.2.2.1.1, (y0.2.2.2.1.2.1, (y0.2.2.2.1.2.2.1, ()))), (y0.2.2.2.2.1, ())))))))) k (x.1, (x.2.1, (x.2.2.1, (([], ((0 : Int), ([], ()))), (false, ((0 : Int), ()))))))))))
abbrev E_s_RunTalk (k : Nat) : Entry := ⟨32, 0, (.cons (.il true .str) (.cons (.il true .str) (.cons (.il true yT7) .nil))), (.tup (.cons (.agg yP12) (.cons .bool .nil))), s_RunTalk k⟩
theorem t_s_RunTalk (k : Nat) (x) : evF TTab k [E_s_TurnOk k, E_s_ChanNew k, E_s_Push k, E_s_l14Do k, E_s_l14Copy k] [(0, ⟨[0, 1, 2, 6, 8, 9], (.cons (.il true .str) (.cons (.il true .str) (.cons (.il true yT7) (.cons (.ptr 0 yP12) (.cons .bool yP9)))))⟩, ⟨[0, 1, 2, 6, 8], (.cons (.il true .str) (.cons (.il true .str) (.cons (.il true yT7) (.cons (.ptr 0 yP12) (.cons .bool .nil)))))⟩), (2, ⟨[0, 1, 2, 6, 10, 12, 14], (.cons (.il true .str) (.cons (.il true .str) (.cons (.il true yT7) (.cons (.ptr 0 yP12) (.cons (.ptr 0 yP2) (.cons (.ptr 0 yP2) yP9))))))⟩, ⟨[1, 2, 6, 10, 12], (.cons (.il true .str) (.cons (.il true yT7) (.cons (.ptr 0 yP12) (.cons (.ptr 0 yP2) (.cons (.ptr 0 yP2) .nil)))))⟩), (4, ⟨[1, 2, 6, 10, 12, 15], (.cons (.il true .str) (.cons (.il true yT7) (.cons (.ptr 0 yP12) (.cons (.ptr 0 yP2) (.cons (.ptr 0 yP2) yP9)))))⟩, ⟨[2, 6, 10, 12], (.cons (.il true yT7) (.cons (.ptr 0 yP12) (.cons (.ptr 0 yP2) (.cons (.ptr 0 yP2) .nil))))⟩), (6, ⟨[2, 6, 16, 17], (.cons (.il true yT7) (.cons (.ptr 0 yP12) (.cons (.ptr 0 yP12) yP9)))⟩, ⟨[6, 16], (.cons (.ptr 0 yP12) (.cons (.ptr 0 yP12) .nil))⟩)] Try.f32 (.cons (.il true .str) (.cons (.il true .str) (.cons (.il true yT7) .nil))) (.tup (.cons (.agg yP12) (.cons .bool .nil))) x = s_RunTalk k x := by kernel_rfl
theorem e_s_RunTalk [Names] (k : Nat) : EntryOk Try.prog (E_s_RunTalk k) := entry_ok tok (es_cons (e_s_TurnOk k) (es_cons (e_s_ChanNew k) (es_cons (e_s_Push k) (es_cons (e_s_l14Do k) (es_cons (e_s_l14Copy k) es_nil))))) (by kernel_rfl) (by kernel_rfl) (by kernel_rfl) fun x r h => (t_s_RunTalk k x).trans h
def w_szTurnS (k : Nat) (x : (List (Int × Int × Int)) × Int × Unit) : Option (Int × Unit × Unit × Unit) :=
(if (decide ((wi64 (x.2.1 - (List.length x.1 : Int))) < (0 : Int))) = true then
some ((-1 : Int), ((), ((), ())))
else
some ((wi64 (x.2.1 - (List.length x.1 : Int))), ((), ((), ()))))
abbrev E_w_szTurnS (k : Nat) : Entry := ⟨38, 0, (.cons (.il true yT7) yP9), (.int .i64), w_szTurnS k⟩
theorem t_w_szTurnS (k : Nat) (x) : evF TTab k [] [] Try.f38 (.cons (.il true yT7) yP9) (.int .i64) x = w_szTurnS k x := by kernel_rfl
theorem e_w_szTurnS [Names] (k : Nat) : EntryOk Try.prog (E_w_szTurnS k) := entry_ok tok es_nil (by kernel_rfl) (by kernel_rfl) (by kernel_rfl) fun x r h => (t_w_szTurnS k x).trans h
def w_toTurn (k : Nat) (x : (Int × Int × Int × Unit) × Unit) : Option ((Int × Int × Int × Unit) × Unit × Unit) :=
some ((x.1.1, (x.1.2.1, (x.1.2.2.1, ()))), ((), ()))
abbrev E_w_toTurn (k : Nat) : Entry := ⟨96, 0, (.cons (.agg yP16) .nil), (.agg yP16), w_toTurn k⟩
theorem t_w_toTurn (k : Nat) (x) : evF TTab k [] [] Try.f96 (.cons (.agg yP16) .nil) (.agg yP16) x = w_toTurn k x := by kernel_rfl
theorem e_w_toTurn [Names] (k : Nat) : EntryOk Try.prog (E_w_toTurn k) := entry_ok tok es_nil (by kernel_rfl) (by kernel_rfl) (by kernel_rfl) fun x r h => (t_w_toTurn k x).trans h
def w_toTurnS (k : Nat) (x : (List (Int × Int × Int)) × Unit) : Option ((List (Int × Int × Int)) × Unit × Unit) :=
(if (List.length x.1 : Int) = (List.length x.1 : Int) then
(if 0 ≤ (List.length x.1 : Int) ∧ (List.length x.1 : Int) ≤ (capMax : Int) then
(whileK (fun (rec0 : ((List (Int × Int × Int)) × (List (Int × Int × Int)) × Int × Unit) → Option _) (y0 : (List (Int × Int × Int)) × (List (Int × Int × Int)) × Int × Unit) =>
(if (decide (y0.2.2.1 < (List.length y0.1 : Int))) = true then
(if 0 ≤ y0.2.2.1 ∧ y0.2.2.1 < (List.length y0.1 : Int) then
((w_toTurn k (((Ty.rd (t := yT7) y0.1 y0.2.2.1).1, ((Ty.rd (t := yT7) y0.1 y0.2.2.1).2.1, ((Ty.rd (t := yT7) y0.1 y0.2.2.1).2.2, ()))), ())).bind fun p1 =>
(if 0 ≤ y0.2.2.1 ∧ y0.2.2.1 < (List.length y0.2.1 : Int) then
(rec0 (y0.1, ((List.set y0.2.1 (Int.toNat y0.2.2.1) (p1.1.1, (p1.1.2.1, p1.1.2.2.1))), ((wi64 (y0.2.2.1 + (1 : Int))), ()))))
else none))
else none)
else
((fun (z1 : (List (Int × Int × Int)) × Unit) =>
some (z1.1, ((), ()))) (y0.2.1, ())))) k (x.1, ((List.replicate (Int.toNat (List.length x.1 : Int)) ((0 : Int), ((0 : Int), (0 : Int)))), ((0 : Int), ()))))
else none)
else none)
abbrev E_w_toTurnS (k : Nat) : Entry := ⟨40, 0, (.cons (.il true yT7) .nil), (.own false 112 yT7), w_toTurnS k⟩
theorem t_w_toTurnS (k : Nat) (x) : evF TTab k [E_w_toTurn k] [(0, ⟨[0, 3, 4], (.cons (.il true yT7) (.cons (.own false 112 yT7) yP9))⟩, ⟨[3], (.cons (.own false 112 yT7) .nil)⟩)] Try.f40 (.cons (.il true yT7) .nil) (.own false 112 yT7) x = w_toTurnS k x := by kernel_rfl
theorem e_w_toTurnS [Names] (k : Nat) : EntryOk Try.prog (E_w_toTurnS k) := entry_ok tok (es_cons (e_w_toTurn k) es_nil) (by kernel_rfl) (by kernel_rfl) (by kernel_rfl) fun x r h => (t_w_toTurnS k x).trans h
def w_eqPending (k : Nat) (x : (Int × ByteArray × Int × Int × Unit) × (Int × ByteArray × Int × Int × Unit) × Unit) : Option (Bool × Unit × Unit × Unit) :=
(if (!decide (x.1.1 = x.2.1.1)) = true then
some (false, ((), ((), ())))
else
(if (!decide (x.1.2.1 = x.2.1.2.1)) = true then
some (false, ((), ((), ())))
else
(if (!decide (x.1.2.2.1 = x.2.1.2.2.1)) = true then
some (false, ((), ((), ())))
else
(if (!decide (x.1.2.2.2.1 = x.2.1.2.2.2.1)) = true then
some (false, ((), ((), ())))
else
some (true, ((), ((), ())))))))
abbrev E_w_eqPending (k : Nat) : Entry := ⟨182, 0, (.cons (.agg (.cons (.int .i64) (.cons .str (.cons (.int .i64) yP9)))) (.cons (.agg (.cons (.int .i64) (.cons .str (.cons (.int .i64) yP9)))) .nil)), .bool, w_eqPending k⟩
theorem t_w_eqPending (k : Nat) (x) : evF TTab k [] [] Try.f182 (.cons (.agg (.cons (.int .i64) (.cons .str (.cons (.int .i64) yP9)))) (.cons (.agg (.cons (.int .i64) (.cons .str (.cons (.int .i64) yP9)))) .nil)) .bool x = w_eqPending k x := by kernel_rfl
theorem e_w_eqPending [Names] (k : Nat) : EntryOk Try.prog (E_w_eqPending k) := entry_ok tok es_nil (by kernel_rfl) (by kernel_rfl) (by kernel_rfl) fun x r h => (t_w_eqPending k x).trans h
def w_eqPendingS (k : Nat) (x : (List (Int × ByteArray × Int × Int)) × (List (Int × ByteArray × Int × Int)) × Unit) : Option (Bool × Unit × Unit × Unit) :=
(if (!decide ((List.length x.1 : Int) = (List.length x.2.1 : Int))) = true then
some (false, ((), ((), ())))
else
(whileK (fun (rec0 : ((List (Int × ByteArray × Int × Int)) × (List (Int × ByteArray × Int × Int)) × Int × Unit) → Option _) (y0 : (List (Int × ByteArray × Int × Int)) × (List (Int × ByteArray × Int × Int)) × Int × Unit) =>
(if (decide (y0.2.2.1 < (List.length y0.1 : Int))) = true then
(if 0 ≤ y0.2.2.1 ∧ y0.2.2.1 < (List.length y0.1 : Int) then
(if 0 ≤ y0.2.2.1 ∧ y0.2.2.1 < (List.length y0.2.1 : Int) then
((w_eqPending k (((Ty.rd (t := yT4) y0.1 y0.2.2.1).1, ((Ty.rd (t := yT4) y0.1 y0.2.2.1).2.1, ((Ty.rd (t := yT4) y0.1 y0.2.2.1).2.2.1, ((Ty.rd (t := yT4) y0.1 y0.2.2.1).2.2.2, ())))), (((Ty.rd (t := yT4) y0.2.1 y0.2.2.1).1, ((Ty.rd (t := yT4) y0.2.1 y0.2.2.1).2.1, ((Ty.rd (t := yT4) y0.2.1 y0.2.2.1).2.2.1, ((Ty.rd (t := yT4) y0.2.1 y0.2.2.1).2.2.2, ())))), ()))).bind fun p1 =>
(if (!p1.1) = true then
some (false, ((), ((), ())))
else
(rec0 (y0.1, (y0.2.1, ((wi64 (y0.2.2.1 + (1 : Int))), ()))))))
else none)
else none)
else
((fun (z1 : Unit) =>
some (true, ((), ((), ())))) ()))) k (x.1, (x.2.1, ((0 : Int), ())))))
abbrev E_w_eqPendingS (k : Nat) : Entry := ⟨164, 0, (.cons (.il true yT4) (.cons (.il true yT4) .nil)), .bool, w_eqPendingS k⟩
theorem t_w_eqPendingS (k : Nat) (x) : evF TTab k [E_w_eqPending k] [(0, ⟨[0, 1, 5], (.cons (.il true yT4) (.cons (.il true yT4) yP9))⟩, ⟨[], .nil⟩)] Try.f164 (.cons (.il true yT4) (.cons (.il true yT4) .nil)) .bool x = w_eqPendingS k x := by kernel_rfl
theorem e_w_eqPendingS [Names] (k : Nat) : EntryOk Try.prog (E_w_eqPendingS k) := entry_ok tok (es_cons (e_w_eqPending k) es_nil) (by kernel_rfl) (by kernel_rfl) (by kernel_rfl) fun x r h => (t_w_eqPendingS k x).trans h
def w_eqEarly (k : Nat) (x : (Int × ByteArray × Unit) × (Int × ByteArray × Unit) × Unit) : Option (Bool × Unit × Unit × Unit) :=
(if (!decide (x.1.1 = x.2.1.1)) = true then
some (false, ((), ((), ())))
else
(if (!decide (x.1.2.1 = x.2.1.2.1)) = true then
some (false, ((), ((), ())))
else
some (true, ((), ((), ())))))
abbrev E_w_eqEarly (k : Nat) : Entry := ⟨183, 0, (.cons (.agg (.cons (.int .i64) (.cons .str .nil))) (.cons (.agg (.cons (.int .i64) (.cons .str .nil))) .nil)), .bool, w_eqEarly k⟩
theorem t_w_eqEarly (k : Nat) (x) : evF TTab k [] [] Try.f183 (.cons (.agg (.cons (.int .i64) (.cons .str .nil))) (.cons (.agg (.cons (.int .i64) (.cons .str .nil))) .nil)) .bool x = w_eqEarly k x := by kernel_rfl
theorem e_w_eqEarly [Names] (k : Nat) : EntryOk Try.prog (E_w_eqEarly k) := entry_ok tok es_nil (by kernel_rfl) (by kernel_rfl) (by kernel_rfl) fun x r h => (t_w_eqEarly k x).trans h
def w_eqEarlyS (k : Nat) (x : (List (Int × ByteArray)) × (List (Int × ByteArray)) × Unit) : Option (Bool × Unit × Unit × Unit) :=
(if (!decide ((List.length x.1 : Int) = (List.length x.2.1 : Int))) = true then
some (false, ((), ((), ())))
else
(whileK (fun (rec0 : ((List (Int × ByteArray)) × (List (Int × ByteArray)) × Int × Unit) → Option _) (y0 : (List (Int × ByteArray)) × (List (Int × ByteArray)) × Int × Unit) =>
(if (decide (y0.2.2.1 < (List.length y0.1 : Int))) = true then
(if 0 ≤ y0.2.2.1 ∧ y0.2.2.1 < (List.length y0.1 : Int) then
(if 0 ≤ y0.2.2.1 ∧ y0.2.2.1 < (List.length y0.2.1 : Int) then
((w_eqEarly k (((Ty.rd (t := yT14) y0.1 y0.2.2.1).1, ((Ty.rd (t := yT14) y0.1 y0.2.2.1).2, ())), (((Ty.rd (t := yT14) y0.2.1 y0.2.2.1).1, ((Ty.rd (t := yT14) y0.2.1 y0.2.2.1).2, ())), ()))).bind fun p1 =>
(if (!p1.1) = true then
some (false, ((), ((), ())))
else
(rec0 (y0.1, (y0.2.1, ((wi64 (y0.2.2.1 + (1 : Int))), ()))))))
else none)
else none)
else
((fun (z1 : Unit) =>
some (true, ((), ((), ())))) ()))) k (x.1, (x.2.1, ((0 : Int), ())))))
abbrev E_w_eqEarlyS (k : Nat) : Entry := ⟨165, 0, (.cons (.il true yT14) (.cons (.il true yT14) .nil)), .bool, w_eqEarlyS k⟩
theorem t_w_eqEarlyS (k : Nat) (x) : evF TTab k [E_w_eqEarly k] [(0, ⟨[0, 1, 5], (.cons (.il true yT14) (.cons (.il true yT14) yP9))⟩, ⟨[], .nil⟩)] Try.f165 (.cons (.il true yT14) (.cons (.il true yT14) .nil)) .bool x = w_eqEarlyS k x := by kernel_rfl
theorem e_w_eqEarlyS [Names] (k : Nat) : EntryOk Try.prog (E_w_eqEarlyS k) := entry_ok tok (es_cons (e_w_eqEarly k) es_nil) (by kernel_rfl) (by kernel_rfl) (by kernel_rfl) fun x r h => (t_w_eqEarlyS k x).trans h
def w_eqIntS (k : Nat) (x : List (Int) × List (Int) × Unit) : Option (Bool × Unit × Unit × Unit) :=
(if (!decide ((List.length x.1 : Int) = (List.length x.2.1 : Int))) = true then
some (false, ((), ((), ())))
else
(whileK (fun (rec0 : (List (Int) × List (Int) × Int × Unit) → Option _) (y0 : List (Int) × List (Int) × Int × Unit) =>
(if (decide (y0.2.2.1 < (List.length y0.1 : Int))) = true then
(if 0 ≤ y0.2.2.1 ∧ y0.2.2.1 < (List.length y0.1 : Int) then
(if 0 ≤ y0.2.2.1 ∧ y0.2.2.1 < (List.length y0.2.1 : Int) then
(if (!decide ((Ty.rd (t := (.int .i64)) y0.1 y0.2.2.1) = (Ty.rd (t := (.int .i64)) y0.2.1 y0.2.2.1))) = true then
some (false, ((), ((), ())))
else
(rec0 (y0.1, (y0.2.1, ((wi64 (y0.2.2.1 + (1 : Int))), ())))))
else none)
else none)
else
((fun (z1 : Unit) =>
some (true, ((), ((), ())))) ()))) k (x.1, (x.2.1, ((0 : Int), ())))))
abbrev E_w_eqIntS (k : Nat) : Entry := ⟨166, 0, (.cons (.il true (.int .i64)) (.cons (.il true (.int .i64)) .nil)), .bool, w_eqIntS k⟩
theorem t_w_eqIntS (k : Nat) (x) : evF TTab k [] [(0, ⟨[0, 1, 5], (.cons (.il true (.int .i64)) (.cons (.il true (.int .i64)) yP9))⟩, ⟨[], .nil⟩)] Try.f166 (.cons (.il true (.int .i64)) (.cons (.il true (.int .i64)) .nil)) .bool x = w_eqIntS k x := by kernel_rfl
theorem e_w_eqIntS [Names] (k : Nat) : EntryOk Try.prog (E_w_eqIntS k) := entry_ok tok es_nil (by kernel_rfl) (by kernel_rfl) (by kernel_rfl) fun x r h => (t_w_eqIntS k x).trans h
def w_eqChan (k : Nat) (x : (Int × Int × Int × List (ByteArray) × (List (Int × ByteArray × Int × Int)) × Int × (List (Int × ByteArray)) × List (Int) × List (ByteArray) × Unit) × (Int × Int × Int × List (ByteArray) × (List (Int × ByteArray × Int × Int)) × Int × (List (Int × ByteArray)) × List (Int) × List (ByteArray) × Unit) × Unit) : Option (Bool × Unit × Unit × Unit) :=
(if (!decide (x.1.1 = x.2.1.1)) = true then
some (false, ((), ((), ())))
else
(if (!decide (x.1.2.1 = x.2.1.2.1)) = true then
some (false, ((), ((), ())))
else
(if (!decide (x.1.2.2.1 = x.2.1.2.2.1)) = true then
some (false, ((), ((), ())))
else
((w_eqStringS k (x.1.2.2.2.1, (x.2.1.2.2.2.1, ()))).bind fun p1 =>
(if (!p1.1) = true then
some (false, ((), ((), ())))
else
((w_eqPendingS k (x.1.2.2.2.2.1, (x.2.1.2.2.2.2.1, ()))).bind fun p2 =>
(if (!p2.1) = true then
some (false, ((), ((), ())))
else
(if (!decide (x.1.2.2.2.2.2.1 = x.2.1.2.2.2.2.2.1)) = true then
some (false, ((), ((), ())))
else
((w_eqEarlyS k (x.1.2.2.2.2.2.2.1, (x.2.1.2.2.2.2.2.2.1, ()))).bind fun p3 =>
(if (!p3.1) = true then
some (false, ((), ((), ())))
else
((w_eqIntS k (x.1.2.2.2.2.2.2.2.1, (x.2.1.2.2.2.2.2.2.2.1, ()))).bind fun p4 =>
(if (!p4.1) = true then
some (false, ((), ((), ())))
else
((w_eqStringS k (x.1.2.2.2.2.2.2.2.2.1, (x.2.1.2.2.2.2.2.2.2.2.1, ()))).bind fun p5 =>
(if (!p5.1) = true then
some (false, ((), ((), ())))
else
some (true, ((), ((), ())))))))))))))))))
abbrev E_w_eqChan (k : Nat) : Entry := ⟨136, 0, (.cons (.agg yP6) (.cons (.agg yP6) .nil)), .bool, w_eqChan k⟩
theorem t_w_eqChan (k : Nat) (x) : evF TTab k [E_w_eqStringS k, E_w_eqPendingS k, E_w_eqEarlyS k, E_w_eqIntS k] [] Try.f136 (.cons (.agg yP6) (.cons (.agg yP6) .nil)) .bool x = w_eqChan k x := by kernel_rfl
theorem e_w_eqChan [Names] (k : Nat) : EntryOk Try.prog (E_w_eqChan k) := entry_ok tok (es_cons (e_w_eqStringS k) (es_cons (e_w_eqPendingS k) (es_cons (e_w_eqEarlyS k) (es_cons (e_w_eqIntS k) es_nil)))) (by kernel_rfl) (by kernel_rfl) (by kernel_rfl) fun x r h => (t_w_eqChan k x).trans h
def w_eqChanS (k : Nat) (x : (List (Int × Int × Int × List (ByteArray) × List (Int × ByteArray × Int × Int) × Int × List (Int × ByteArray) × List (Int) × List (ByteArray))) × (List (Int × Int × Int × List (ByteArray) × List (Int × ByteArray × Int × Int) × Int × List (Int × ByteArray) × List (Int) × List (ByteArray))) × Unit) : Option (Bool × Unit × Unit × Unit) :=
(if (!decide ((List.length x.1 : Int) = (List.length x.2.1 : Int))) = true then
some (false, ((), ((), ())))
else
(whileK (fun (rec0 : ((List (Int × Int × Int × List (ByteArray) × List (Int × ByteArray × Int × Int) × Int × List (Int × ByteArray) × List (Int) × List (ByteArray))) × (List (Int × Int × Int × List (ByteArray) × List (Int × ByteArray × Int × Int) × Int × List (Int × ByteArray) × List (Int) × List (ByteArray))) × Int × Unit) → Option _) (y0 : (List (Int × Int × Int × List (ByteArray) × List (Int × ByteArray × Int × Int) × Int × List (Int × ByteArray) × List (Int) × List (ByteArray))) × (List (Int × Int × Int × List (ByteArray) × List (Int × ByteArray × Int × Int) × Int × List (Int × ByteArray) × List (Int) × List (ByteArray))) × Int × Unit) =>
(if (decide (y0.2.2.1 < (List.length y0.1 : Int))) = true then
(if 0 ≤ y0.2.2.1 ∧ y0.2.2.1 < (List.length y0.1 : Int) then
(if 0 ≤ y0.2.2.1 ∧ y0.2.2.1 < (List.length y0.2.1 : Int) then
((w_eqChan k (((Ty.rd (t := yT1) y0.1 y0.2.2.1).1, ((Ty.rd (t := yT1) y0.1 y0.2.2.1).2.1, ((Ty.rd (t := yT1) y0.1 y0.2.2.1).2.2.1, ((Ty.rd (t := yT1) y0.1 y0.2.2.1).2.2.2.1, ((Ty.rd (t := yT1) y0.1 y0.2.2.1).2.2.2.2.1, ((Ty.rd (t := yT1) y0.1 y0.2.2.1).2.2.2.2.2.1, ((Ty.rd (t := yT1) y0.1 y0.2.2.1).2.2.2.2.2.2.1, ((Ty.rd (t := yT1) y0.1 y0.2.2.1).2.2.2.2.2.2.2.1, ((Ty.rd (t := yT1) y0.1 y0.2.2.1).2.2.2.2.2.2.2.2, ()))))))))), (((Ty.rd (t := yT1) y0.2.1 y0.2.2.1).1, ((Ty.rd (t := yT1) y0.2.1 y0.2.2.1).2.1, ((Ty.rd (t := yT1) y0.2.1 y0.2.2.1).2.2.1, ((Ty.rd (t := yT1) y0.2.1 y0.2.2.1).2.2.2.1, ((Ty.rd (t := yT1) y0.2.1 y0.2.2.1).2.2.2.2.1, ((Ty.rd (t := yT1) y0.2.1 y0.2.2.1).2.2.2.2.2.1, ((Ty.rd (t := yT1) y0.2.1 y0.2.2.1).2.2.2.2.2.2.1, ((Ty.rd (t := yT1) y0.2.1 y0.2.2.1).2.2.2.2.2.2.2.1, ((Ty.rd (t := yT1) y0.2.1 y0.2.2.1).2.2.2.2.2.2.2.2, ()))))))))), ()))).bind fun p1 =>
(if (!p1.1) = true then
some (false, ((), ((), ())))
else
(rec0 (y0.1, (y0.2.1, ((wi64 (y0.2.2.1 + (1 : Int))), ()))))))
else none)
else none)
else
((fun (z1 : Unit) =>
some (true, ((), ((), ())))) ()))) k (x.1, (x.2.1, ((0 : Int), ())))))
abbrev E_w_eqChanS (k : Nat) : Entry := ⟨97, 0, (.cons (.il true yT1) (.cons (.il true yT1) .nil)), .bool, w_eqChanS k⟩
theorem t_w_eqChanS (k : Nat) (x) : evF TTabO k [E_w_eqChan k] [(0, ⟨[0, 1, 5], (.cons (.il true yT1) (.cons (.il true yT1) yP9))⟩, ⟨[], .nil⟩)] Try.f97 (.cons (.il true yT1) (.cons (.il true yT1) .nil)) .bool x = w_eqChanS k x := by kernel_rfl
theorem e_w_eqChanS [Names] (k : Nat) : EntryOk Try.prog (E_w_eqChanS k) := entry_ok tokO (es_cons (e_w_eqChan k) es_nil) (by kernel_rfl) (by kernel_rfl) (by kernel_rfl) fun x r h => (t_w_eqChanS k x).trans h
def w_eqPacket (k : Nat) (x : (Int × Int × Int × Int × Int × List (Int) × ByteArray × Unit) × (Int × Int × Int × Int × Int × List (Int) × ByteArray × Unit) × Unit) : Option (Bool × Unit × Unit × Unit) :=
(if (!decide (x.1.1 = x.2.1.1)) = true then
some (false, ((), ((), ())))
else
(if (!decide (x.1.2.1 = x.2.1.2.1)) = true then
some (false, ((), ((), ())))
else
(if (!decide (x.1.2.2.1 = x.2.1.2.2.1)) = true then
some (false, ((), ((), ())))
else
(if (!decide (x.1.2.2.2.1 = x.2.1.2.2.2.1)) = true then
some (false, ((), ((), ())))
else
(if (!decide (x.1.2.2.2.2.1 = x.2.1.2.2.2.2.1)) = true then
some (false, ((), ((), ())))
else
((w_eqIntS k (x.1.2.2.2.2.2.1, (x.2.1.2.2.2.2.2.1, ()))).bind fun p1 =>
(if (!p1.1) = true then
some (false, ((), ((), ())))
else
(if (!decide (x.1.2.2.2.2.2.2.1 = x.2.1.2.2.2.2.2.2.1)) = true then
some (false, ((), ((), ())))
else
some (true, ((), ((), ())))))))))))
abbrev E_w_eqPacket (k : Nat) : Entry := ⟨137, 0, (.cons (.agg yP8) (.cons (.agg yP8) .nil)), .bool, w_eqPacket k⟩
theorem t_w_eqPacket (k : Nat) (x) : evF TTab k [E_w_eqIntS k] [] Try.f137 (.cons (.agg yP8) (.cons (.agg yP8) .nil)) .bool x = w_eqPacket k x := by kernel_rfl
theorem e_w_eqPacket [Names] (k : Nat) : EntryOk Try.prog (E_w_eqPacket k) := entry_ok tok (es_cons (e_w_eqIntS k) es_nil) (by kernel_rfl) (by kernel_rfl) (by kernel_rfl) fun x r h => (t_w_eqPacket k x).trans h
def w_eqPacketS (k : Nat) (x : (List (Int × Int × Int × Int × Int × List (Int) × ByteArray)) × (List (Int × Int × Int × Int × Int × List (Int) × ByteArray)) × Unit) : Option (Bool × Unit × Unit × Unit) :=
(if (!decide ((List.length x.1 : Int) = (List.length x.2.1 : Int))) = true then
some (false, ((), ((), ())))
else
(whileK (fun (rec0 : ((List (Int × Int × Int × Int × Int × List (Int) × ByteArray)) × (List (Int × Int × Int × Int × Int × List (Int) × ByteArray)) × Int × Unit) → Option _) (y0 : (List (Int × Int × Int × Int × Int × List (Int) × ByteArray)) × (List (Int × Int × Int × Int × Int × List (Int) × ByteArray)) × Int × Unit) =>
(if (decide (y0.2.2.1 < (List.length y0.1 : Int))) = true then
(if 0 ≤ y0.2.2.1 ∧ y0.2.2.1 < (List.length y0.1 : Int) then
(if 0 ≤ y0.2.2.1 ∧ y0.2.2.1 < (List.length y0.2.1 : Int) then
((w_eqPacket k (((Ty.rd (t := yT3) y0.1 y0.2.2.1).1, ((Ty.rd (t := yT3) y0.1 y0.2.2.1).2.1, ((Ty.rd (t := yT3) y0.1 y0.2.2.1).2.2.1, ((Ty.rd (t := yT3) y0.1 y0.2.2.1).2.2.2.1, ((Ty.rd (t := yT3) y0.1 y0.2.2.1).2.2.2.2.1, ((Ty.rd (t := yT3) y0.1 y0.2.2.1).2.2.2.2.2.1, ((Ty.rd (t := yT3) y0.1 y0.2.2.1).2.2.2.2.2.2, ()))))))), (((Ty.rd (t := yT3) y0.2.1 y0.2.2.1).1, ((Ty.rd (t := yT3) y0.2.1 y0.2.2.1).2.1, ((Ty.rd (t := yT3) y0.2.1 y0.2.2.1).2.2.1, ((Ty.rd (t := yT3) y0.2.1 y0.2.2.1).2.2.2.1, ((Ty.rd (t := yT3) y0.2.1 y0.2.2.1).2.2.2.2.1, ((Ty.rd (t := yT3) y0.2.1 y0.2.2.1).2.2.2.2.2.1, ((Ty.rd (t := yT3) y0.2.1 y0.2.2.1).2.2.2.2.2.2, ()))))))), ()))).bind fun p1 =>
(if (!p1.1) = true then
some (false, ((), ((), ())))
else
(rec0 (y0.1, (y0.2.1, ((wi64 (y0.2.2.1 + (1 : Int))), ()))))))
else none)
else none)
else
((fun (z1 : Unit) =>
some (true, ((), ((), ())))) ()))) k (x.1, (x.2.1, ((0 : Int), ())))))
abbrev E_w_eqPacketS (k : Nat) : Entry := ⟨98, 0, (.cons (.il true yT3) (.cons (.il true yT3) .nil)), .bool, w_eqPacketS k⟩
theorem t_w_eqPacketS (k : Nat) (x) : evF TTabO k [E_w_eqPacket k] [(0, ⟨[0, 1, 5], (.cons (.il true yT3) (.cons (.il true yT3) yP9))⟩, ⟨[], .nil⟩)] Try.f98 (.cons (.il true yT3) (.cons (.il true yT3) .nil)) .bool x = w_eqPacketS k x := by kernel_rfl
theorem e_w_eqPacketS [Names] (k : Nat) : EntryOk Try.prog (E_w_eqPacketS k) := entry_ok tokO (es_cons (e_w_eqPacket k) es_nil) (by kernel_rfl) (by kernel_rfl) (by kernel_rfl) fun x r h => (t_w_eqPacketS k x).trans h
def w_eqTalk (k : Nat) (x : ((List (Int × Int × Int × List (ByteArray) × List (Int × ByteArray × Int × Int) × Int × List (Int × ByteArray) × List (Int) × List (ByteArray))) × Int × (List (Int × Int × Int × Int × Int × List (Int) × ByteArray)) × Unit) × ((List (Int × Int × Int × List (ByteArray) × List (Int × ByteArray × Int × Int) × Int × List (Int × ByteArray) × List (Int) × List (ByteArray))) × Int × (List (Int × Int × Int × Int × Int × List (Int) × ByteArray)) × Unit) × Unit) : Option (Bool × Unit × Unit × Unit) :=
((w_eqChanS k (x.1.1, (x.2.1.1, ()))).bind fun p1 =>
(if (!p1.1) = true then
some (false, ((), ((), ())))
else
(if (!decide (x.1.2.1 = x.2.1.2.1)) = true then
some (false, ((), ((), ())))
else
((w_eqPacketS k (x.1.2.2.1, (x.2.1.2.2.1, ()))).bind fun p2 =>
(if (!p2.1) = true then
some (false, ((), ((), ())))
else
some (true, ((), ((), ()))))))))
abbrev E_w_eqTalk (k : Nat) : Entry := ⟨41, 0, (.cons (.agg yP18) (.cons (.agg yP18) .nil)), .bool, w_eqTalk k⟩
theorem t_w_eqTalk (k : Nat) (x) : evF TTabO k [E_w_eqChanS k, E_w_eqPacketS k] [] Try.f41 (.cons (.agg yP18) (.cons (.agg yP18) .nil)) .bool x = w_eqTalk k x := by kernel_rfl
theorem e_w_eqTalk [Names] (k : Nat) : EntryOk Try.prog (E_w_eqTalk k) := entry_ok tokO (es_cons (e_w_eqChanS k) (es_cons (e_w_eqPacketS k) es_nil)) (by kernel_rfl) (by kernel_rfl) (by kernel_rfl) fun x r h => (t_w_eqTalk k x).trans h
def w_eqTurn (k : Nat) (x : (Int × Int × Int × Unit) × (Int × Int × Int × Unit) × Unit) : Option (Bool × Unit × Unit × Unit) :=
(if (!decide (x.1.1 = x.2.1.1)) = true then
some (false, ((), ((), ())))
else
(if (!decide (x.1.2.1 = x.2.1.2.1)) = true then
some (false, ((), ((), ())))
else
(if (!decide (x.1.2.2.1 = x.2.1.2.2.1)) = true then
some (false, ((), ((), ())))
else
some (true, ((), ((), ()))))))
abbrev E_w_eqTurn (k : Nat) : Entry := ⟨99, 0, (.cons (.agg yP16) (.cons (.agg yP16) .nil)), .bool, w_eqTurn k⟩
theorem t_w_eqTurn (k : Nat) (x) : evF TTab k [] [] Try.f99 (.cons (.agg yP16) (.cons (.agg yP16) .nil)) .bool x = w_eqTurn k x := by kernel_rfl
theorem e_w_eqTurn [Names] (k : Nat) : EntryOk Try.prog (E_w_eqTurn k) := entry_ok tok es_nil (by kernel_rfl) (by kernel_rfl) (by kernel_rfl) fun x r h => (t_w_eqTurn k x).trans h
def w_eqTurnS (k : Nat) (x : (List (Int × Int × Int)) × (List (Int × Int × Int)) × Unit) : Option (Bool × Unit × Unit × Unit) :=
(if (!decide ((List.length x.1 : Int) = (List.length x.2.1 : Int))) = true then
some (false, ((), ((), ())))
else
(whileK (fun (rec0 : ((List (Int × Int × Int)) × (List (Int × Int × Int)) × Int × Unit) → Option _) (y0 : (List (Int × Int × Int)) × (List (Int × Int × Int)) × Int × Unit) =>
(if (decide (y0.2.2.1 < (List.length y0.1 : Int))) = true then
(if 0 ≤ y0.2.2.1 ∧ y0.2.2.1 < (List.length y0.1 : Int) then
(if 0 ≤ y0.2.2.1 ∧ y0.2.2.1 < (List.length y0.2.1 : Int) then
((w_eqTurn k (((Ty.rd (t := yT7) y0.1 y0.2.2.1).1, ((Ty.rd (t := yT7) y0.1 y0.2.2.1).2.1, ((Ty.rd (t := yT7) y0.1 y0.2.2.1).2.2, ()))), (((Ty.rd (t := yT7) y0.2.1 y0.2.2.1).1, ((Ty.rd (t := yT7) y0.2.1 y0.2.2.1).2.1, ((Ty.rd (t := yT7) y0.2.1 y0.2.2.1).2.2, ()))), ()))).bind fun p1 =>
(if (!p1.1) = true then
some (false, ((), ((), ())))
else
(rec0 (y0.1, (y0.2.1, ((wi64 (y0.2.2.1 + (1 : Int))), ()))))))
else none)
else none)
else
((fun (z1 : Unit) =>
some (true, ((), ((), ())))) ()))) k (x.1, (x.2.1, ((0 : Int), ())))))
abbrev E_w_eqTurnS (k : Nat) : Entry := ⟨43, 0, (.cons (.il true yT7) (.cons (.il true yT7) .nil)), .bool, w_eqTurnS k⟩
theorem t_w_eqTurnS (k : Nat) (x) : evF TTab k [E_w_eqTurn k] [(0, ⟨[0, 1, 5], (.cons (.il true yT7) (.cons (.il true yT7) yP9))⟩, ⟨[], .nil⟩)] Try.f43 (.cons (.il true yT7) (.cons (.il true yT7) .nil)) .bool x = w_eqTurnS k x := by kernel_rfl
theorem e_w_eqTurnS [Names] (k : Nat) : EntryOk Try.prog (E_w_eqTurnS k) := entry_ok tok (es_cons (e_w_eqTurn k) es_nil) (by kernel_rfl) (by kernel_rfl) (by kernel_rfl) fun x r h => (t_w_eqTurnS k x).trans h
def w_markTurnS (k : Nat) (x : (List (Int × Int × Int)) × Int × Unit) : Option (Int × (List (Int × Int × Int)) × Unit × Unit) :=
(whileK (fun (rec0 : ((List (Int × Int × Int)) × Int × Int × Unit) → Option _) (y0 : (List (Int × Int × Int)) × Int × Int × Unit) =>
(if (decide (y0.2.2.1 < (List.length y0.1 : Int))) = true then
(if 0 ≤ y0.2.2.1 ∧ y0.2.2.1 < (List.length y0.1 : Int) then
(if 0 ≤ y0.2.2.1 ∧ y0.2.2.1 < (List.length (List.set y0.1 (Int.toNat y0.2.2.1) (y0.2.1, (Ty.rd (t := yT7) y0.1 y0.2.2.1).2)) : Int) then
(jn (List.set (List.set y0.1 (Int.toNat y0.2.2.1) (y0.2.1, (Ty.rd (t := yT7) y0.1 y0.2.2.1).2)) (Int.toNat y0.2.2.1) ((Ty.rd (t := yT7) (List.set y0.1 (Int.toNat y0.2.2.1) (y0.2.1, (Ty.rd (t := yT7) y0.1 y0.2.2.1).2)) y0.2.2.1).1, ((wi64 (y0.2.1 + (1 : Int))), (Ty.rd (t := yT7) (List.set y0.1 (Int.toNat y0.2.2.1) (y0.2.1, (Ty.rd (t := yT7) y0.1 y0.2.2.1).2)) y0.2.2.1).2.2))) (fun (q33 : List (Int × Int × Int)) =>
(if 0 ≤ y0.2.2.1 ∧ y0.2.2.1 < (List.length q33 : Int) then
(rec0 ((List.set q33 (Int.toNat y0.2.2.1) ((Ty.rd (t := yT7) q33 y0.2.2.1).1, ((Ty.rd (t := yT7) q33 y0.2.2.1).2.1, (wi64 ((wi64 (y0.2.1 + (1 : Int))) + (1 : Int)))))), ((wi64 ((wi64 ((wi64 (y0.2.1 + (1 : Int))) + (1 : Int))) + (1 : Int))), ((wi64 (y0.2.2.1 + (1 : Int))), ()))))
else none)))
else none)
else none)
else
((fun (z1 : (List (Int × Int × Int)) × Int × Unit) =>
some (z1.2.1, (z1.1, ((), ())))) (y0.1, (y0.2.1, ()))))) k (x.1, (x.2.1, ((0 : Int), ()))))
abbrev E_w_markTurnS (k : Nat) : Entry := ⟨45, 0, (.cons (.mut false 112 yT7) yP9), (.int .i64), w_markTurnS k⟩
theorem t_w_markTurnS (k : Nat) (x) : evF TTab k [] [(0, ⟨[0, 1, 5], (.cons (.own false 112 yT7) (.cons (.int .i64) yP9))⟩, ⟨[0, 1], (.cons (.own false 112 yT7) yP9)⟩)] Try.f45 (.cons (.mut false 112 yT7) yP9) (.int .i64) x = w_markTurnS k x := by kernel_rfl
theorem e_w_markTurnS [Names] (k : Nat) : EntryOk Try.prog (E_w_markTurnS k) := entry_ok tok es_nil (by kernel_rfl) (by kernel_rfl) (by kernel_rfl) fun x r h => (t_w_markTurnS k x).trans h
def w_markPendingS (k : Nat) (x : (List (Int × ByteArray × Int × Int)) × Int × Unit) : Option (Int × (List (Int × ByteArray × Int × Int)) × Unit × Unit) :=
(whileK (fun (rec0 : ((List (Int × ByteArray × Int × Int)) × Int × Int × Unit) → Option _) (y0 : (List (Int × ByteArray × Int × Int)) × Int × Int × Unit) =>
(if (decide (y0.2.2.1 < (List.length y0.1 : Int))) = true then
(if 0 ≤ y0.2.2.1 ∧ y0.2.2.1 < (List.length y0.1 : Int) then
((w_markText k ((wi64 (y0.2.1 + (1 : Int))), ())).bind fun p1 =>
(if 0 ≤ y0.2.2.1 ∧ y0.2.2.1 < (List.length (List.set y0.1 (Int.toNat y0.2.2.1) (y0.2.1, (Ty.rd (t := yT4) y0.1 y0.2.2.1).2)) : Int) then
(jn (List.set (List.set y0.1 (Int.toNat y0.2.2.1) (y0.2.1, (Ty.rd (t := yT4) y0.1 y0.2.2.1).2)) (Int.toNat y0.2.2.1) ((Ty.rd (t := yT4) (List.set y0.1 (Int.toNat y0.2.2.1) (y0.2.1, (Ty.rd (t := yT4) y0.1 y0.2.2.1).2)) y0.2.2.1).1, (p1.1, (Ty.rd (t := yT4) (List.set y0.1 (Int.toNat y0.2.2.1) (y0.2.1, (Ty.rd (t := yT4) y0.1 y0.2.2.1).2)) y0.2.2.1).2.2))) (fun (q34 : List (Int × ByteArray × Int × Int)) =>
(if 0 ≤ y0.2.2.1 ∧ y0.2.2.1 < (List.length q34 : Int) then
(if 0 ≤ y0.2.2.1 ∧ y0.2.2.1 < (List.length (List.set q34 (Int.toNat y0.2.2.1) ((Ty.rd (t := yT4) q34 y0.2.2.1).1, ((Ty.rd (t := yT4) q34 y0.2.2.1).2.1, ((wi64 ((wi64 (y0.2.1 + (1 : Int))) + (1 : Int))), (Ty.rd (t := yT4) q34 y0.2.2.1).2.2.2)))) : Int) then
(jn (List.set (List.set q34 (Int.toNat y0.2.2.1) ((Ty.rd (t := yT4) q34 y0.2.2.1).1, ((Ty.rd (t := yT4) q34 y0.2.2.1).2.1, ((wi64 ((wi64 (y0.2.1 + (1 : Int))) + (1 : Int))), (Ty.rd (t := yT4) q34 y0.2.2.1).2.2.2)))) (Int.toNat y0.2.2.1) ((Ty.rd (t := yT4) (List.set q34 (Int.toNat y0.2.2.1) ((Ty.rd (t := yT4) q34 y0.2.2.1).1, ((Ty.rd (t := yT4) q34 y0.2.2.1).2.1, ((wi64 ((wi64 (y0.2.1 + (1 : Int))) + (1 : Int))), (Ty.rd (t := yT4) q34 y0.2.2.1).2.2.2)))) y0.2.2.1).1, ((Ty.rd (t := yT4) (List.set q34 (Int.toNat y0.2.2.1) ((Ty.rd (t := yT4) q34 y0.2.2.1).1, ((Ty.rd (t := yT4) q34 y0.2.2.1).2.1, ((wi64 ((wi64 (y0.2.1 + (1 : Int))) + (1 : Int))), (Ty.rd (t := yT4) q34 y0.2.2.1).2.2.2)))) y0.2.2.1).2.1, ((Ty.rd (t := yT4) (List.set q34 (Int.toNat y0.2.2.1) ((Ty.rd (t := yT4) q34 y0.2.2.1).1, ((Ty.rd (t := yT4) q34 y0.2.2.1).2.1, ((wi64 ((wi64 (y0.2.1 + (1 : Int))) + (1 : Int))), (Ty.rd (t := yT4) q34 y0.2.2.1).2.2.2)))) y0.2.2.1).2.2.1, (wi64 ((wi64 ((wi64 (y0.2.1 + (1 : Int))) + (1 : Int))) + (1 : Int))))))) (fun (q35 : List (Int × ByteArray × Int × Int)) =>
(rec0 (q35, ((wi64 ((wi64 ((wi64 ((wi64 (y0.2.1 + (1 : Int))) + (1 : Int))) + (1 : Int))) + (1 : Int))), ((wi64 (y0.2.2.1 + (1 : Int))), ()))))))
else none)
else none)))
else none))
else none)
else
((fun (z1 : (List (Int × ByteArray × Int × Int)) × Int × Unit) =>
some (z1.2.1, (z1.1, ((), ())))) (y0.1, (y0.2.1, ()))))) k (x.1, (x.2.1, ((0 : Int), ()))))
abbrev E_w_markPendingS (k : Nat) : Entry := ⟨138, 0, (.cons (.mut false 129 yT4) yP9), (.int .i64), w_markPendingS k⟩
theorem t_w_markPendingS (k : Nat) (x) : evF TTab k [E_w_markText k] [(0, ⟨[0, 1, 5], (.cons (.own false 129 yT4) (.cons (.int .i64) yP9))⟩, ⟨[0, 1], (.cons (.own false 129 yT4) yP9)⟩)] Try.f138 (.cons (.mut false 129 yT4) yP9) (.int .i64) x = w_markPendingS k x := by kernel_rfl
theorem e_w_markPendingS [Names] (k : Nat) : EntryOk Try.prog (E_w_markPendingS k) := entry_ok tok (es_cons (e_w_markText k) es_nil) (by kernel_rfl) (by kernel_rfl) (by kernel_rfl) fun x r h => (t_w_markPendingS k x).trans h
def w_markEarlyS (k : Nat) (x : (List (Int × ByteArray)) × Int × Unit) : Option (Int × (List (Int × ByteArray)) × Unit × Unit) :=
(whileK (fun (rec0 : ((List (Int × ByteArray)) × Int × Int × Unit) → Option _) (y0 : (List (Int × ByteArray)) × Int × Int × Unit) =>
(if (decide (y0.2.2.1 < (List.length y0.1 : Int))) = true then
(if 0 ≤ y0.2.2.1 ∧ y0.2.2.1 < (List.length y0.1 : Int) then
((w_markText k ((wi64 (y0.2.1 + (1 : Int))), ())).bind fun p1 =>
(if 0 ≤ y0.2.2.1 ∧ y0.2.2.1 < (List.length (List.set y0.1 (Int.toNat y0.2.2.1) (y0.2.1, (Ty.rd (t := yT14) y0.1 y0.2.2.1).2)) : Int) then
(rec0 ((List.set (List.set y0.1 (Int.toNat y0.2.2.1) (y0.2.1, (Ty.rd (t := yT14) y0.1 y0.2.2.1).2)) (Int.toNat y0.2.2.1) ((Ty.rd (t := yT14) (List.set y0.1 (Int.toNat y0.2.2.1) (y0.2.1, (Ty.rd (t := yT14) y0.1 y0.2.2.1).2)) y0.2.2.1).1, p1.1)), ((wi64 ((wi64 (y0.2.1 + (1 : Int))) + (1 : Int))), ((wi64 (y0.2.2.1 + (1 : Int))), ()))))
else none))
else none)
else
((fun (z1 : (List (Int × ByteArray)) × Int × Unit) =>
some (z1.2.1, (z1.1, ((), ())))) (y0.1, (y0.2.1, ()))))) k (x.1, (x.2.1, ((0 : Int), ()))))
abbrev E_w_markEarlyS (k : Nat) : Entry := ⟨139, 0, (.cons (.mut false 131 yT14) yP9), (.int .i64), w_markEarlyS k⟩
theorem t_w_markEarlyS (k : Nat) (x) : evF TTab k [E_w_markText k] [(0, ⟨[0, 1, 5], (.cons (.own false 131 yT14) (.cons (.int .i64) yP9))⟩, ⟨[0, 1], (.cons (.own false 131 yT14) yP9)⟩)] Try.f139 (.cons (.mut false 131 yT14) yP9) (.int .i64) x = w_markEarlyS k x := by kernel_rfl
theorem e_w_markEarlyS [Names] (k : Nat) : EntryOk Try.prog (E_w_markEarlyS k) := entry_ok tok (es_cons (e_w_markText k) es_nil) (by kernel_rfl) (by kernel_rfl) (by kernel_rfl) fun x r h => (t_w_markEarlyS k x).trans h
def w_markIntS (k : Nat) (x : List (Int) × Int × Unit) : Option (Int × List (Int) × Unit × Unit) :=
(whileK (fun (rec0 : (List (Int) × Int × Int × Unit) → Option _) (y0 : List (Int) × Int × Int × Unit) =>
(if (decide (y0.2.2.1 < (List.length y0.1 : Int))) = true then
(if 0 ≤ y0.2.2.1 ∧ y0.2.2.1 < (List.length y0.1 : Int) then
(rec0 ((List.set y0.1 (Int.toNat y0.2.2.1) y0.2.1), ((wi64 (y0.2.1 + (1 : Int))), ((wi64 (y0.2.2.1 + (1 : Int))), ()))))
else none)
else
((fun (z1 : List (Int) × Int × Unit) =>
some (z1.2.1, (z1.1, ((), ())))) (y0.1, (y0.2.1, ()))))) k (x.1, (x.2.1, ((0 : Int), ()))))
abbrev E_w_markIntS (k : Nat) : Entry := ⟨140, 0, (.cons (.mut false 3 (.int .i64)) yP9), (.int .i64), w_markIntS k⟩
theorem t_w_markIntS (k : Nat) (x) : evF TTab k [] [(0, ⟨[0, 1, 5], (.cons (.own false 3 (.int .i64)) (.cons (.int .i64) yP9))⟩, ⟨[0, 1], (.cons (.own false 3 (.int .i64)) yP9)⟩)] Try.f140 (.cons (.mut false 3 (.int .i64)) yP9) (.int .i64) x = w_markIntS k x := by kernel_rfl
theorem e_w_markIntS [Names] (k : Nat) : EntryOk Try.prog (E_w_markIntS k) := entry_ok tok es_nil (by kernel_rfl) (by kernel_rfl) (by kernel_rfl) fun x r h => (t_w_markIntS k x).trans h
end Go.Proofs.Ytaamcelinnnncaa
