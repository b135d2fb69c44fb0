import Derived.Test.YtaamcelinnnncaaFun1
/- What functions of the program compute, as plain functions, and that their calls do so (part 2). Conditions: the plain function answers. -/
set_option linter.unusedVariables false
namespace Go.Proofs.Ytaamcelinnnncaa
open Go Go.Eng Go.Proofs
def s_Send (k : Nat) (x : (Int × Int × Int × List (ByteArray) × (List (Int × ByteArray × Int × Int)) × Int × (List (Int × ByteArray)) × List (Int) × List (ByteArray) × Unit) × Int × Unit) : Option (((Int × Int × Int × List (ByteArray) × (List (Int × ByteArray × Int × Int)) × Int × (List (Int × ByteArray)) × List (Int) × List (ByteArray) × Unit) × (List (Int × Int × Int × Int × Int × List (Int) × ByteArray)) × Unit) × Unit × Unit × Unit) :=
((s_l13Copy k ((x.1.1, (x.1.2.1, (x.1.2.2.1, (x.1.2.2.2.1, (x.1.2.2.2.2.1, (x.1.2.2.2.2.2.1, (x.1.2.2.2.2.2.2.1, (x.1.2.2.2.2.2.2.2.1, (x.1.2.2.2.2.2.2.2.2.1, ()))))))))), ())).bind fun p1 =>
((s_ChanOk k ((x.1.1, (x.1.2.1, (x.1.2.2.1, (x.1.2.2.2.1, (x.1.2.2.2.2.1, (x.1.2.2.2.2.2.1, (x.1.2.2.2.2.2.2.1, (x.1.2.2.2.2.2.2.2.1, (x.1.2.2.2.2.2.2.2.2.1, ()))))))))), ())).bind fun p2 =>
(if (!p2.1) = false then
((s_l01In k (x.2.1, ((0 : Int), ((999999000 : Int), ())))).bind fun p3 =>
(if (!p3.1) = true then
some (((p1.1.1, (p1.1.2.1, (p1.1.2.2.1, (p1.1.2.2.2.1, (p1.1.2.2.2.2.1, (p1.1.2.2.2.2.2.1, (p1.1.2.2.2.2.2.2.1, (p1.1.2.2.2.2.2.2.2.1, (p1.1.2.2.2.2.2.2.2.2.1, ()))))))))), (([] : List (Int × Int × Int × Int × Int × List (Int) × ByteArray)), ())), ((), ((), ())))
else
(jn (fun (z1 : Int × (Int × Int × Int × List (ByteArray) × (List (Int × ByteArray × Int × Int)) × Int × (List (Int × ByteArray)) × List (Int) × List (ByteArray) × Unit) × (Int × Int × Int × List (ByteArray) × (List (Int × ByteArray × Int × Int)) × Int × (List (Int × ByteArray)) × List (Int) × List (ByteArray) × Unit) × (Int × Int × Int × List (ByteArray) × (List (Int × ByteArray × Int × Int)) × Int × (List (Int × ByteArray)) × List (Int) × List (ByteArray) × Unit) × (List (Int × Int × Int × Int × Int × List (Int) × ByteArray)) × Unit) =>
(whileK (fun (rec2 : (Int × (Int × Int × Int × List (ByteArray) × (List (Int × ByteArray × Int × Int)) × Int × (List (Int × ByteArray)) × List (Int) × List (ByteArray) × Unit) × (Int × Int × Int × List (ByteArray) × (List (Int × ByteArray × Int × Int)) × Int × (List (Int × ByteArray)) × List (Int) × List (ByteArray) × Unit) × (Int × Int × Int × List (ByteArray) × (List (Int × ByteArray × Int × Int)) × Int × (List (Int × ByteArray)) × List (Int) × List (ByteArray) × Unit) × (List (Int × Int × Int × Int × Int × List (Int) × ByteArray)) × Int × Unit) → Option _) (y2 : Int × (Int × Int × Int × List (ByteArray) × (List (Int × ByteArray × Int × Int)) × Int × (List (Int × ByteArray)) × List (Int) × List (ByteArray) × Unit) × (Int × Int × Int × List (ByteArray) × (List (Int × ByteArray × Int × Int)) × Int × (List (Int × ByteArray)) × List (Int) × List (ByteArray) × Unit) × (Int × Int × Int × List (ByteArray) × (List (Int × ByteArray × Int × Int)) × Int × (List (Int × ByteArray)) × List (Int) × List (ByteArray) × Unit) × (List (Int × Int × Int × Int × Int × List (Int) × ByteArray)) × Int × Unit) =>
(if (decide (y2.2.2.2.2.2.1 < (List.length y2.2.2.2.1.2.2.2.2.1 : Int))) = true then
(jn (fun (j2v0 : List (Int × Int × Int × Int × Int × List (Int) × ByteArray)) (j2v1 : List (Int × ByteArray × Int × Int)) =>
(rec2 (y2.1, ((y2.2.1.1, (y2.2.1.2.1, (y2.2.1.2.2.1, (y2.2.1.2.2.2.1, (y2.2.1.2.2.2.2.1, (y2.2.1.2.2.2.2.2.1, (y2.2.1.2.2.2.2.2.2.1, (y2.2.1.2.2.2.2.2.2.2.1, (y2.2.1.2.2.2.2.2.2.2.2.1, ()))))))))), ((y2.2.2.1.1, (y2.2.2.1.2.1, (y2.2.2.1.2.2.1, (y2.2.2.1.2.2.2.1, (y2.2.2.1.2.2.2.2.1, (y2.2.2.1.2.2.2.2.2.1, (y2.2.2.1.2.2.2.2.2.2.1, (y2.2.2.1.2.2.2.2.2.2.2.1, (y2.2.2.1.2.2.2.2.2.2.2.2.1, ()))))))))), ((y2.2.2.2.1.1, (y2.2.2.2.1.2.1, (y2.2.2.2.1.2.2.1, (y2.2.2.2.1.2.2.2.1, (j2v1, (y2.2.2.2.1.2.2.2.2.2.1, (y2.2.2.2.1.2.2.2.2.2.2.1, (y2.2.2.2.1.2.2.2.2.2.2.2.1, (y2.2.2.2.1.2.2.2.2.2.2.2.2.1, ()))))))))), (j2v0, ((wi64 (y2.2.2.2.2.2.1 + (1 : Int))), ())))))))) (fun (j2 : (List (Int × Int × Int × Int × Int × List (Int) × ByteArray)) → (List (Int × ByteArray × Int × Int)) → Option _) =>
(if 0 ≤ y2.2.2.2.2.2.1 ∧ y2.2.2.2.2.2.1 < (List.length y2.2.2.2.1.2.2.2.2.1 : Int) then
(if (decide (y2.1 < (Ty.rd (t := yT5) y2.2.2.2.1.2.2.2.2.1 y2.2.2.2.2.2.1).2.2.1)) = false then
(if (decide ((8 : Int) ≤ (Ty.rd (t := yT5) y2.2.2.2.1.2.2.2.2.1 y2.2.2.2.2.2.1).2.2.2)) = true then
(rec2 (y2.1, ((y2.2.1.1, (y2.2.1.2.1, (y2.2.1.2.2.1, (y2.2.1.2.2.2.1, (y2.2.1.2.2.2.2.1, (y2.2.1.2.2.2.2.2.1, (y2.2.1.2.2.2.2.2.2.1, (y2.2.1.2.2.2.2.2.2.2.1, (y2.2.1.2.2.2.2.2.2.2.2.1, ()))))))))), ((y2.2.2.1.1, (y2.2.2.1.2.1, (y2.2.2.1.2.2.1, (y2.2.2.1.2.2.2.1, (y2.2.2.1.2.2.2.2.1, (y2.2.2.1.2.2.2.2.2.1, (y2.2.2.1.2.2.2.2.2.2.1, (y2.2.2.1.2.2.2.2.2.2.2.1, (y2.2.2.1.2.2.2.2.2.2.2.2.1, ()))))))))), ((y2.2.2.2.1.1, (y2.2.2.2.1.2.1, (y2.2.2.2.1.2.2.1, (y2.2.2.2.1.2.2.2.1, (y2.2.2.2.1.2.2.2.2.1, (y2.2.2.2.1.2.2.2.2.2.1, (y2.2.2.2.1.2.2.2.2.2.2.1, (y2.2.2.2.1.2.2.2.2.2.2.2.1, (y2.2.2.2.1.2.2.2.2.2.2.2.2.1, ()))))))))), (y2.2.2.2.2.1, ((wi64 (y2.2.2.2.2.2.1 + (1 : Int))), ())))))))
else
(if (decide ((List.length y2.2.2.2.2.1 : Int) = (0 : Int))) = true then
(if List.length ([] : List (Int)) + List.length y2.2.2.2.1.2.2.2.2.2.2.2.1 ≤ capMax then
(if List.length y2.2.2.2.2.1 + List.length ([((1 : Int), ((0 : Int), (y2.2.1.1, (y2.2.1.2.1, ((Ty.rd (t := yT5) y2.2.2.2.1.2.2.2.2.1 y2.2.2.2.2.2.1).1, ((([] : List (Int)) ++ y2.2.2.2.1.2.2.2.2.2.2.2.1), (Ty.rd (t := yT5) y2.2.2.2.1.2.2.2.2.1 y2.2.2.2.2.2.1).2.1))))))] : List (Int × Int × Int × Int × Int × List (Int) × ByteArray)) ≤ capMax then
(if 0 ≤ y2.2.2.2.2.2.1 ∧ y2.2.2.2.2.2.1 < (List.length y2.2.2.2.1.2.2.2.2.1 : Int) then
(jn (List.set y2.2.2.2.1.2.2.2.2.1 (Int.toNat y2.2.2.2.2.2.1) ((Ty.rd (t := yT5) y2.2.2.2.1.2.2.2.2.1 y2.2.2.2.2.2.1).1, ((Ty.rd (t := yT5) y2.2.2.2.1.2.2.2.2.1 y2.2.2.2.2.2.1).2.1, ((Ty.rd (t := yT5) y2.2.2.2.1.2.2.2.2.1 y2.2.2.2.2.2.1).2.2.1, (wi64 ((Ty.rd (t := yT5) y2.2.2.2.1.2.2.2.2.1 y2.2.2.2.2.2.1).2.2.2 + (1 : Int))))))) (fun (q31 : List (Int × ByteArray × Int × Int)) =>
((s_l13Power k ((wi64 ((Ty.rd (t := yT5) y2.2.2.2.1.2.2.2.2.1 y2.2.2.2.2.2.1).2.2.2 + (1 : Int))), ())).bind fun p4 =>
(if 0 ≤ y2.2.2.2.2.2.1 ∧ y2.2.2.2.2.2.1 < (List.length q31 : Int) then
(j2 (y2.2.2.2.2.1 ++ ([((1 : Int), ((0 : Int), (y2.2.1.1, (y2.2.1.2.1, ((Ty.rd (t := yT5) y2.2.2.2.1.2.2.2.2.1 y2.2.2.2.2.2.1).1, ((([] : List (Int)) ++ y2.2.2.2.1.2.2.2.2.2.2.2.1), (Ty.rd (t := yT5) y2.2.2.2.1.2.2.2.2.1 y2.2.2.2.2.2.1).2.1))))))] : List (Int × Int × Int × Int × Int × List (Int) × ByteArray))) (List.set q31 (Int.toNat y2.2.2.2.2.2.1) ((Ty.rd (t := yT5) q31 y2.2.2.2.2.2.1).1, ((Ty.rd (t := yT5) q31 y2.2.2.2.2.2.1).2.1, ((wi64 (y2.1 + p4.1)), (Ty.rd (t := yT5) q31 y2.2.2.2.2.2.1).2.2.2)))))
else none))))
else none)
else none)
else none)
else
(if List.length y2.2.2.2.2.1 + List.length ([((1 : Int), ((0 : Int), (y2.2.1.1, (y2.2.1.2.1, ((Ty.rd (t := yT5) y2.2.2.2.1.2.2.2.2.1 y2.2.2.2.2.2.1).1, ([], (Ty.rd (t := yT5) y2.2.2.2.1.2.2.2.2.1 y2.2.2.2.2.2.1).2.1))))))] : List (Int × Int × Int × Int × Int × List (Int) × ByteArray)) ≤ capMax then
(if 0 ≤ y2.2.2.2.2.2.1 ∧ y2.2.2.2.2.2.1 < (List.length y2.2.2.2.1.2.2.2.2.1 : Int) then
(jn (List.set y2.2.2.2.1.2.2.2.2.1 (Int.toNat y2.2.2.2.2.2.1) ((Ty.rd (t := yT5) y2.2.2.2.1.2.2.2.2.1 y2.2.2.2.2.2.1).1, ((Ty.rd (t := yT5) y2.2.2.2.1.2.2.2.2.1 y2.2.2.2.2.2.1).2.1, ((Ty.rd (t := yT5) y2.2.2.2.1.2.2.2.2.1 y2.2.2.2.2.2.1).2.2.1, (wi64 ((Ty.rd (t := yT5) y2.2.2.2.1.2.2.2.2.1 y2.2.2.2.2.2.1).2.2.2 + (1 : Int))))))) (fun (q32 : List (Int × ByteArray × Int × Int)) =>
((s_l13Power k ((wi64 ((Ty.rd (t := yT5) y2.2.2.2.1.2.2.2.2.1 y2.2.2.2.2.2.1).2.2.2 + (1 : Int))), ())).bind fun p5 =>
(if 0 ≤ y2.2.2.2.2.2.1 ∧ y2.2.2.2.2.2.1 < (List.length q32 : Int) then
(j2 (y2.2.2.2.2.1 ++ ([((1 : Int), ((0 : Int), (y2.2.1.1, (y2.2.1.2.1, ((Ty.rd (t := yT5) y2.2.2.2.1.2.2.2.2.1 y2.2.2.2.2.2.1).1, ([], (Ty.rd (t := yT5) y2.2.2.2.1.2.2.2.2.1 y2.2.2.2.2.2.1).2.1))))))] : List (Int × Int × Int × Int × Int × List (Int) × ByteArray))) (List.set q32 (Int.toNat y2.2.2.2.2.2.1) ((Ty.rd (t := yT5) q32 y2.2.2.2.2.2.1).1, ((Ty.rd (t := yT5) q32 y2.2.2.2.2.2.1).2.1, ((wi64 (y2.1 + p5.1)), (Ty.rd (t := yT5) q32 y2.2.2.2.2.2.1).2.2.2)))))
else none))))
else none)
else none)))
else
(rec2 (y2.1, ((y2.2.1.1, (y2.2.1.2.1, (y2.2.1.2.2.1, (y2.2.1.2.2.2.1, (y2.2.1.2.2.2.2.1, (y2.2.1.2.2.2.2.2.1, (y2.2.1.2.2.2.2.2.2.1, (y2.2.1.2.2.2.2.2.2.2.1, (y2.2.1.2.2.2.2.2.2.2.2.1, ()))))))))), ((y2.2.2.1.1, (y2.2.2.1.2.1, (y2.2.2.1.2.2.1, (y2.2.2.1.2.2.2.1, (y2.2.2.1.2.2.2.2.1, (y2.2.2.1.2.2.2.2.2.1, (y2.2.2.1.2.2.2.2.2.2.1, (y2.2.2.1.2.2.2.2.2.2.2.1, (y2.2.2.1.2.2.2.2.2.2.2.2.1, ()))))))))), ((y2.2.2.2.1.1, (y2.2.2.2.1.2.1, (y2.2.2.2.1.2.2.1, (y2.2.2.2.1.2.2.2.1, (y2.2.2.2.1.2.2.2.2.1, (y2.2.2.2.1.2.2.2.2.2.1, (y2.2.2.2.1.2.2.2.2.2.2.1, (y2.2.2.2.1.2.2.2.2.2.2.2.1, (y2.2.2.2.1.2.2.2.2.2.2.2.2.1, ()))))))))), (y2.2.2.2.2.1, ((wi64 (y2.2.2.2.2.2.1 + (1 : Int))), ()))))))))
else none)))
else
((fun (z2 : (Int × Int × Int × List (ByteArray) × (List (Int × ByteArray × Int × Int)) × Int × (List (Int × ByteArray)) × List (Int) × List (ByteArray) × Unit) × (Int × Int × Int × List (ByteArray) × (List (Int × ByteArray × Int × Int)) × Int × (List (Int × ByteArray)) × List (Int) × List (ByteArray) × Unit) × (Int × Int × Int × List (ByteArray) × (List (Int × ByteArray × Int × Int)) × Int × (List (Int × ByteArray)) × List (Int) × List (ByteArray) × Unit) × (List (Int × Int × Int × Int × Int × List (Int) × ByteArray)) × Unit) =>
(if (decide ((List.length z2.2.2.2.1 : Int) = (0 : Int))) = true then
(if (decide ((0 : Int) < (List.length z2.2.2.1.2.2.2.2.2.2.2.1 : Int))) = true then
(if List.length ([] : List (Int)) + List.length z2.2.2.1.2.2.2.2.2.2.2.1 ≤ capMax then
(if List.length z2.2.2.2.1 + List.length ([((2 : Int), ((0 : Int), (z2.1.1, (z2.1.2.1, ((0 : Int), ((([] : List (Int)) ++ z2.2.2.1.2.2.2.2.2.2.2.1), (⟨#[]⟩ : ByteArray)))))))] : List (Int × Int × Int × Int × Int × List (Int) × ByteArray)) ≤ capMax then
(if (decide ((0 : Int) < (List.length (z2.2.2.2.1 ++ ([((2 : Int), ((0 : Int), (z2.1.1, (z2.1.2.1, ((0 : Int), ((([] : List (Int)) ++ z2.2.2.1.2.2.2.2.2.2.2.1), (⟨#[]⟩ : ByteArray)))))))] : List (Int × Int × Int × Int × Int × List (Int) × ByteArray))) : Int))) = true then
some (((z2.2.2.1.1, (z2.2.2.1.2.1, (z2.2.2.1.2.2.1, (z2.2.2.1.2.2.2.1, (z2.2.2.1.2.2.2.2.1, (z2.2.2.1.2.2.2.2.2.1, (z2.2.2.1.2.2.2.2.2.2.1, (([] : List (Int)), (z2.2.2.1.2.2.2.2.2.2.2.2.1, ()))))))))), ((z2.2.2.2.1 ++ ([((2 : Int), ((0 : Int), (z2.1.1, (z2.1.2.1, ((0 : Int), ((([] : List (Int)) ++ z2.2.2.1.2.2.2.2.2.2.2.1), (⟨#[]⟩ : ByteArray)))))))] : List (Int × Int × Int × Int × Int × List (Int) × ByteArray))), ())), ((), ((), ())))
else
some (((z2.2.2.1.1, (z2.2.2.1.2.1, (z2.2.2.1.2.2.1, (z2.2.2.1.2.2.2.1, (z2.2.2.1.2.2.2.2.1, (z2.2.2.1.2.2.2.2.2.1, (z2.2.2.1.2.2.2.2.2.2.1, (z2.2.2.1.2.2.2.2.2.2.2.1, (z2.2.2.1.2.2.2.2.2.2.2.2.1, ()))))))))), ((z2.2.2.2.1 ++ ([((2 : Int), ((0 : Int), (z2.1.1, (z2.1.2.1, ((0 : Int), ((([] : List (Int)) ++ z2.2.2.1.2.2.2.2.2.2.2.1), (⟨#[]⟩ : ByteArray)))))))] : List (Int × Int × Int × Int × Int × List (Int) × ByteArray))), ())), ((), ((), ()))))
else none)
else none)
else
(if (decide ((0 : Int) < (List.length z2.2.2.2.1 : Int))) = true then
some (((z2.2.2.1.1, (z2.2.2.1.2.1, (z2.2.2.1.2.2.1, (z2.2.2.1.2.2.2.1, (z2.2.2.1.2.2.2.2.1, (z2.2.2.1.2.2.2.2.2.1, (z2.2.2.1.2.2.2.2.2.2.1, (([] : List (Int)), (z2.2.2.1.2.2.2.2.2.2.2.2.1, ()))))))))), (z2.2.2.2.1, ())), ((), ((), ())))
else
some (((z2.2.2.1.1, (z2.2.2.1.2.1, (z2.2.2.1.2.2.1, (z2.2.2.1.2.2.2.1, (z2.2.2.1.2.2.2.2.1, (z2.2.2.1.2.2.2.2.2.1, (z2.2.2.1.2.2.2.2.2.2.1, (z2.2.2.1.2.2.2.2.2.2.2.1, (z2.2.2.1.2.2.2.2.2.2.2.2.1, ()))))))))), (z2.2.2.2.1, ())), ((), ((), ())))))
else
(if (decide ((0 : Int) < (List.length z2.2.2.2.1 : Int))) = true then
some (((z2.2.2.1.1, (z2.2.2.1.2.1, (z2.2.2.1.2.2.1, (z2.2.2.1.2.2.2.1, (z2.2.2.1.2.2.2.2.1, (z2.2.2.1.2.2.2.2.2.1, (z2.2.2.1.2.2.2.2.2.2.1, (([] : List (Int)), (z2.2.2.1.2.2.2.2.2.2.2.2.1, ()))))))))), (z2.2.2.2.1, ())), ((), ((), ())))
else
some (((z2.2.2.1.1, (z2.2.2.1.2.1, (z2.2.2.1.2.2.1, (z2.2.2.1.2.2.2.1, (z2.2.2.1.2.2.2.2.1, (z2.2.2.1.2.2.2.2.2.1, (z2.2.2.1.2.2.2.2.2.2.1, (z2.2.2.1.2.2.2.2.2.2.2.1, (z2.2.2.1.2.2.2.2.2.2.2.2.1, ()))))))))), (z2.2.2.2.1, ())), ((), ((), ())))))) ((y2.2.1.1, (y2.2.1.2.1, (y2.2.1.2.2.1, (y2.2.1.2.2.2.1, (y2.2.1.2.2.2.2.1, (y2.2.1.2.2.2.2.2.1, (y2.2.1.2.2.2.2.2.2.1, (y2.2.1.2.2.2.2.2.2.2.1, (y2.2.1.2.2.2.2.2.2.2.2.1, ()))))))))), ((y2.2.2.1.1, (y2.2.2.1.2.1, (y2.2.2.1.2.2.1, (y2.2.2.1.2.2.2.1, (y2.2.2.1.2.2.2.2.1, (y2.2.2.1.2.2.2.2.2.1, (y2.2.2.1.2.2.2.2.2.2.1, (y2.2.2.1.2.2.2.2.2.2.2.1, (y2.2.2.1.2.2.2.2.2.2.2.2.1, ()))))))))), ((y2.2.2.2.1.1, (y2.2.2.2.1.2.1, (y2.2.2.2.1.2.2.1, (y2.2.2.2.1.2.2.2.1, (y2.2.2.2.1.2.2.2.2.1, (y2.2.2.2.1.2.2.2.2.2.1, (y2.2.2.2.1.2.2.2.2.2.2.1, (y2.2.2.2.1.2.2.2.2.2.2.2.1, (y2.2.2.2.1.2.2.2.2.2.2.2.2.1, ()))))))))), (y2.2.2.2.2.1, ()))))))) k (z1.1, ((z1.2.1.1, (z1.2.1.2.1, (z1.2.1.2.2.1, (z1.2.1.2.2.2.1, (z1.2.1.2.2.2.2.1, (z1.2.1.2.2.2.2.2.1, (z1.2.1.2.2.2.2.2.2.1, (z1.2.1.2.2.2.2.2.2.2.1, (z1.2.1.2.2.2.2.2.2.2.2.1, ()))))))))), ((z1.2.2.1.1, (z1.2.2.1.2.1, (z1.2.2.1.2.2.1, (z1.2.2.1.2.2.2.1, (z1.2.2.1.2.2.2.2.1, (z1.2.2.1.2.2.2.2.2.1, (z1.2.2.1.2.2.2.2.2.2.1, (z1.2.2.1.2.2.2.2.2.2.2.1, (z1.2.2.1.2.2.2.2.2.2.2.2.1, ()))))))))), ((z1.2.2.2.1.1, (z1.2.2.2.1.2.1, (z1.2.2.2.1.2.2.1, (z1.2.2.2.1.2.2.2.1, (z1.2.2.2.1.2.2.2.2.1, (z1.2.2.2.1.2.2.2.2.2.1, (z1.2.2.2.1.2.2.2.2.2.2.1, (z1.2.2.2.1.2.2.2.2.2.2.2.1, (z1.2.2.2.1.2.2.2.2.2.2.2.2.1, ()))))))))), (z1.2.2.2.2.1, ((0 : Int), ())))))))) (fun (E1 : (Int × (Int × Int × Int × List (ByteArray) × (List (Int × ByteArray × Int × Int)) × Int × (List (Int × ByteArray)) × List (Int) × List (ByteArray) × Unit) × (Int × Int × Int × List (ByteArray) × (List (Int × ByteArray × Int × Int)) × Int × (List (Int × ByteArray)) × List (Int) × List (ByteArray) × Unit) × (Int × Int × Int × List (ByteArray) × (List (Int × ByteArray × Int × Int)) × Int × (List (Int × ByteArray)) × List (Int) × List (ByteArray) × Unit) × (List (Int × Int × Int × Int × Int × List (Int) × ByteArray)) × Unit) → Option _) =>
(whileK (fun (rec0 : (Int × (Int × Int × Int × List (ByteArray) × (List (Int × ByteArray × Int × Int)) × Int × (List (Int × ByteArray)) × List (Int) × List (ByteArray) × Unit) × (Int × Int × Int × List (ByteArray) × (List (Int × ByteArray × Int × Int)) × Int × (List (Int × ByteArray)) × List (Int) × List (ByteArray) × Unit) × (Int × Int × Int × List (ByteArray) × (List (Int × ByteArray × Int × Int)) × Int × (List (Int × ByteArray)) × List (Int) × List (ByteArray) × Unit) × (List (Int × Int × Int × Int × Int × List (Int) × ByteArray)) × Unit) → Option _) (y0 : Int × (Int × Int × Int × List (ByteArray) × (List (Int × ByteArray × Int × Int)) × Int × (List (Int × ByteArray)) × List (Int) × List (ByteArray) × Unit) × (Int × Int × Int × List (ByteArray) × (List (Int × ByteArray × Int × Int)) × Int × (List (Int × ByteArray)) × List (Int) × List (ByteArray) × Unit) × (Int × Int × Int × List (ByteArray) × (List (Int × ByteArray × Int × Int)) × Int × (List (Int × ByteArray)) × List (Int) × List (ByteArray) × Unit) × (List (Int × Int × Int × Int × Int × List (Int) × ByteArray)) × Unit) =>
(jn (
(if 0 ≤ (0 : Int) ∧ (0 : Int) < (List.length y0.2.2.2.1.2.2.2.1 : Int) then
(if List.length y0.2.2.2.1.2.2.2.2.1 + List.length ([((wi64 (y0.2.2.2.1.2.2.1 + (1 : Int))), ((Ty.rd (t := .str) y0.2.2.2.1.2.2.2.1 (0 : Int)), (y0.1, (0 : Int))))] : List (Int × ByteArray × Int × Int)) ≤ capMax then
(if 0 ≤ (1 : Int) ∧ (1 : Int) ≤ (List.length y0.2.2.2.1.2.2.2.1 : Int) then
(if List.length ([] : List (ByteArray)) + List.length (List.drop (Int.toNat (1 : Int)) (List.take (Int.toNat (List.length y0.2.2.2.1.2.2.2.1 : Int)) y0.2.2.2.1.2.2.2.1)) ≤ capMax then
(rec0 (y0.1, ((y0.2.1.1, (y0.2.1.2.1, (y0.2.1.2.2.1, (y0.2.1.2.2.2.1, (y0.2.1.2.2.2.2.1, (y0.2.1.2.2.2.2.2.1, (y0.2.1.2.2.2.2.2.2.1, (y0.2.1.2.2.2.2.2.2.2.1, (y0.2.1.2.2.2.2.2.2.2.2.1, ()))))))))), ((y0.2.2.1.1, (y0.2.2.1.2.1, (y0.2.2.1.2.2.1, (y0.2.2.1.2.2.2.1, (y0.2.2.1.2.2.2.2.1, (y0.2.2.1.2.2.2.2.2.1, (y0.2.2.1.2.2.2.2.2.2.1, (y0.2.2.1.2.2.2.2.2.2.2.1, (y0.2.2.1.2.2.2.2.2.2.2.2.1, ()))))))))), ((y0.2.2.2.1.1, (y0.2.2.2.1.2.1, ((wi64 (y0.2.2.2.1.2.2.1 + (1 : Int))), ((([] : List (ByteArray)) ++ (List.drop (Int.toNat (1 : Int)) (List.take (Int.toNat (List.length y0.2.2.2.1.2.2.2.1 : Int)) y0.2.2.2.1.2.2.2.1))), ((y0.2.2.2.1.2.2.2.2.1 ++ ([((wi64 (y0.2.2.2.1.2.2.1 + (1 : Int))), ((Ty.rd (t := .str) y0.2.2.2.1.2.2.2.1 (0 : Int)), (y0.1, (0 : Int))))] : List (Int × ByteArray × Int × Int))), (y0.2.2.2.1.2.2.2.2.2.1, (y0.2.2.2.1.2.2.2.2.2.2.1, (y0.2.2.2.1.2.2.2.2.2.2.2.1, (y0.2.2.2.1.2.2.2.2.2.2.2.2.1, ()))))))))), (y0.2.2.2.2.1, ()))))))
else none)
else none)
else none)
else none)) (fun (j1 : Option _) =>
(if (decide ((0 : Int) < (List.length y0.2.2.2.1.2.2.2.1 : Int))) = true then
(if (decide ((List.length y0.2.2.2.1.2.2.2.2.1 : Int) < (4 : Int))) = true then
(if (decide ((List.length y0.2.2.2.1.2.2.2.2.1 : Int) = (0 : Int))) = false then
(if 0 ≤ (0 : Int) ∧ (0 : Int) < (List.length y0.2.2.2.1.2.2.2.2.1 : Int) then
(if (decide ((wi64 ((wi64 (y0.2.2.2.1.2.2.1 + (1 : Int))) - (4 : Int))) < (Ty.rd (t := yT5) y0.2.2.2.1.2.2.2.2.1 (0 : Int)).1)) = true then
j1
else
(E1 (y0.1, ((y0.2.1.1, (y0.2.1.2.1, (y0.2.1.2.2.1, (y0.2.1.2.2.2.1, (y0.2.1.2.2.2.2.1, (y0.2.1.2.2.2.2.2.1, (y0.2.1.2.2.2.2.2.2.1, (y0.2.1.2.2.2.2.2.2.2.1, (y0.2.1.2.2.2.2.2.2.2.2.1, ()))))))))), ((y0.2.2.1.1, (y0.2.2.1.2.1, (y0.2.2.1.2.2.1, (y0.2.2.1.2.2.2.1, (y0.2.2.1.2.2.2.2.1, (y0.2.2.1.2.2.2.2.2.1, (y0.2.2.1.2.2.2.2.2.2.1, (y0.2.2.1.2.2.2.2.2.2.2.1, (y0.2.2.1.2.2.2.2.2.2.2.2.1, ()))))))))), ((y0.2.2.2.1.1, (y0.2.2.2.1.2.1, (y0.2.2.2.1.2.2.1, (y0.2.2.2.1.2.2.2.1, (y0.2.2.2.1.2.2.2.2.1, (y0.2.2.2.1.2.2.2.2.2.1, (y0.2.2.2.1.2.2.2.2.2.2.1, (y0.2.2.2.1.2.2.2.2.2.2.2.1, (y0.2.2.2.1.2.2.2.2.2.2.2.2.1, ()))))))))), (y0.2.2.2.2.1, ())))))))
else none)
else
j1)
else
(E1 (y0.1, ((y0.2.1.1, (y0.2.1.2.1, (y0.2.1.2.2.1, (y0.2.1.2.2.2.1, (y0.2.1.2.2.2.2.1, (y0.2.1.2.2.2.2.2.1, (y0.2.1.2.2.2.2.2.2.1, (y0.2.1.2.2.2.2.2.2.2.1, (y0.2.1.2.2.2.2.2.2.2.2.1, ()))))))))), ((y0.2.2.1.1, (y0.2.2.1.2.1, (y0.2.2.1.2.2.1, (y0.2.2.1.2.2.2.1, (y0.2.2.1.2.2.2.2.1, (y0.2.2.1.2.2.2.2.2.1, (y0.2.2.1.2.2.2.2.2.2.1, (y0.2.2.1.2.2.2.2.2.2.2.1, (y0.2.2.1.2.2.2.2.2.2.2.2.1, ()))))))))), ((y0.2.2.2.1.1, (y0.2.2.2.1.2.1, (y0.2.2.2.1.2.2.1, (y0.2.2.2.1.2.2.2.1, (y0.2.2.2.1.2.2.2.2.1, (y0.2.2.2.1.2.2.2.2.2.1, (y0.2.2.2.1.2.2.2.2.2.2.1, (y0.2.2.2.1.2.2.2.2.2.2.2.1, (y0.2.2.2.1.2.2.2.2.2.2.2.2.1, ()))))))))), (y0.2.2.2.2.1, ())))))))
else
(E1 (y0.1, ((y0.2.1.1, (y0.2.1.2.1, (y0.2.1.2.2.1, (y0.2.1.2.2.2.1, (y0.2.1.2.2.2.2.1, (y0.2.1.2.2.2.2.2.1, (y0.2.1.2.2.2.2.2.2.1, (y0.2.1.2.2.2.2.2.2.2.1, (y0.2.1.2.2.2.2.2.2.2.2.1, ()))))))))), ((y0.2.2.1.1, (y0.2.2.1.2.1, (y0.2.2.1.2.2.1, (y0.2.2.1.2.2.2.1, (y0.2.2.1.2.2.2.2.1, (y0.2.2.1.2.2.2.2.2.1, (y0.2.2.1.2.2.2.2.2.2.1, (y0.2.2.1.2.2.2.2.2.2.2.1, (y0.2.2.1.2.2.2.2.2.2.2.2.1, ()))))))))), ((y0.2.2.2.1.1, (y0.2.2.2.1.2.1, (y0.2.2.2.1.2.2.1, (y0.2.2.2.1.2.2.2.1, (y0.2.2.2.1.2.2.2.2.1, (y0.2.2.2.1.2.2.2.2.2.1, (y0.2.2.2.1.2.2.2.2.2.2.1, (y0.2.2.2.1.2.2.2.2.2.2.2.1, (y0.2.2.2.1.2.2.2.2.2.2.2.2.1, ()))))))))), (y0.2.2.2.2.1, ())))))))))) k (x.2.1, ((x.1.1, (x.1.2.1, (x.1.2.2.1, (x.1.2.2.2.1, (x.1.2.2.2.2.1, (x.1.2.2.2.2.2.1, (x.1.2.2.2.2.2.2.1, (x.1.2.2.2.2.2.2.2.1, (x.1.2.2.2.2.2.2.2.2.1, ()))))))))), (((0 : Int), ((0 : Int), ((0 : Int), ([], ([], ((0 : Int), ([], ([], ([], ()))))))))), ((p1.1.1, (p1.1.2.1, (p1.1.2.2.1, (p1.1.2.2.2.1, (p1.1.2.2.2.2.1, (p1.1.2.2.2.2.2.1, (p1.1.2.2.2.2.2.2.1, (p1.1.2.2.2.2.2.2.2.1, (p1.1.2.2.2.2.2.2.2.2.1, ()))))))))), (([] : List (Int × Int × Int × Int × Int × List (Int) × ByteArray)), ()))))))))))
else
some (((p1.1.1, (p1.1.2.1, (p1.1.2.2.1, (p1.1.2.2.2.1, (p1.1.2.2.2.2.1, (p1.1.2.2.2.2.2.1, (p1.1.2.2.2.2.2.2.1, (p1.1.2.2.2.2.2.2.2.1, (p1.1.2.2.2.2.2.2.2.2.1, ()))))))))), (([] : List (Int × Int × Int × Int × Int × List (Int) × ByteArray)), ())), ((), ((), ()))))))
abbrev E_s_Send (k : Nat) : Entry := ⟨146, 0, (.cons (.agg yP4) yP14), (.tup (.cons (.agg yP1) (.cons (.own false 122 yT3) .nil))), s_Send k⟩
theorem t_s_Send (k : Nat) (x) : evF TTab k [E_s_l01In k, E_s_l13Copy k, E_s_ChanOk k, E_s_l13Power k] [(0, ⟨[1, 2, 4, 6, 7], (.cons (.int .i64) (.cons (.ptr 0 yP4) (.cons (.ptr 0 yP1) (.cons (.ptr 0 yP1) (.cons (.own false 122 yT3) .nil)))))⟩, ⟨[1, 2, 4, 6, 7], (.cons (.int .i64) (.cons (.ptr 0 yP4) (.cons (.ptr 0 yP1) (.cons (.ptr 0 yP1) (.cons (.own false 122 yT3) .nil)))))⟩), (2, ⟨[1, 2, 4, 6, 7, 8], (.cons (.int .i64) (.cons (.ptr 0 yP4) (.cons (.ptr 0 yP1) (.cons (.ptr 0 yP1) (.cons (.own false 122 yT3) yP14)))))⟩, ⟨[2, 4, 6, 7], (.cons (.ptr 0 yP4) (.cons (.ptr 0 yP1) (.cons (.ptr 0 yP1) (.cons (.own false 122 yT3) .nil))))⟩)] Try.f146 (.cons (.agg yP4) yP14) (.tup (.cons (.agg yP1) (.cons (.own false 122 yT3) .nil))) x = s_Send k x := by kernel_rfl
theorem e_s_Send [Names] (k : Nat) : EntryOk Try.prog (E_s_Send k) := entry_ok tok (es_cons (e_s_l01In k) (es_cons (e_s_l13Copy k) (es_cons (e_s_ChanOk k) (es_cons (e_s_l13Power k) es_nil)))) (by kernel_rfl) (by kernel_rfl) (by kernel_rfl) fun x r h => (t_s_Send k x).trans h
def s_l14Send (k : Nat) (x : ((List (Int × Int × Int × List (ByteArray) × List (Int × ByteArray × Int × Int) × Int × List (Int × ByteArray) × List (Int) × List (ByteArray))) × Int × (List (Int × Int × Int × Int × Int × List (Int) × ByteArray)) × Unit) × Int × Unit) : Option (Unit × ((List (Int × Int × Int × List (ByteArray) × List (Int × ByteArray × Int × Int) × Int × List (Int × ByteArray) × List (Int) × List (ByteArray))) × Int × (List (Int × Int × Int × Int × Int × List (Int) × ByteArray)) × Unit) × Unit × Unit) :=
(if List.length ([] : List (Int × Int × Int × List (ByteArray) × List (Int × ByteArray × Int × Int) × Int × List (Int × ByteArray) × List (Int) × List (ByteArray))) + List.length x.1.1 ≤ capMax then
(if 0 ≤ x.2.1 ∧ x.2.1 < (List.length (([] : List (Int × Int × Int × List (ByteArray) × List (Int × ByteArray × Int × Int) × Int × List (Int × ByteArray) × List (Int) × List (ByteArray))) ++ x.1.1) : Int) then
((s_Send k (((Ty.rd (t := yT2) (([] : List (Int × Int × Int × List (ByteArray) × List (Int × ByteArray × Int × Int) × Int × List (Int × ByteArray) × List (Int) × List (ByteArray))) ++ x.1.1) x.2.1).1, ((Ty.rd (t := yT2) (([] : List (Int × Int × Int × List (ByteArray) × List (Int × ByteArray × Int × Int) × Int × List (Int × ByteArray) × List (Int) × List (ByteArray))) ++ x.1.1) x.2.1).2.1, ((Ty.rd (t := yT2) (([] : List (Int × Int × Int × List (ByteArray) × List (Int × ByteArray × Int × Int) × Int × List (Int × ByteArray) × List (Int) × List (ByteArray))) ++ x.1.1) x.2.1).2.2.1, ((Ty.rd (t := yT2) (([] : List (Int × Int × Int × List (ByteArray) × List (Int × ByteArray × Int × Int) × Int × List (Int × ByteArray) × List (Int) × List (ByteArray))) ++ x.1.1) x.2.1).2.2.2.1, ((Ty.rd (t := yT2) (([] : List (Int × Int × Int × List (ByteArray) × List (Int × ByteArray × Int × Int) × Int × List (Int × ByteArray) × List (Int) × List (ByteArray))) ++ x.1.1) x.2.1).2.2.2.2.1, ((Ty.rd (t := yT2) (([] : List (Int × Int × Int × List (ByteArray) × List (Int × ByteArray × Int × Int) × Int × List (Int × ByteArray) × List (Int) × List (ByteArray))) ++ x.1.1) x.2.1).2.2.2.2.2.1, ((Ty.rd (t := yT2) (([] : List (Int × Int × Int × List (ByteArray) × List (Int × ByteArray × Int × Int) × Int × List (Int × ByteArray) × List (Int) × List (ByteArray))) ++ x.1.1) x.2.1).2.2.2.2.2.2.1, ((Ty.rd (t := yT2) (([] : List (Int × Int × Int × List (ByteArray) × List (Int × ByteArray × Int × Int) × Int × List (Int × ByteArray) × List (Int) × List (ByteArray))) ++ x.1.1) x.2.1).2.2.2.2.2.2.2.1, ((Ty.rd (t := yT2) (([] : List (Int × Int × Int × List (ByteArray) × List (Int × ByteArray × Int × Int) × Int × List (Int × ByteArray) × List (Int) × List (ByteArray))) ++ x.1.1) x.2.1).2.2.2.2.2.2.2.2, ()))))))))), (x.1.2.1, ()))).bind fun p1 =>
(if 0 ≤ x.2.1 ∧ x.2.1 < (List.length (([] : List (Int × Int × Int × List (ByteArray) × List (Int × ByteArray × Int × Int) × Int × List (Int × ByteArray) × List (Int) × List (ByteArray))) ++ x.1.1) : Int) then
(if List.length ([] : List (Int × Int × Int × Int × Int × List (Int) × ByteArray)) + List.length x.1.2.2.1 ≤ capMax then
(if List.length (([] : List (Int × Int × Int × Int × Int × List (Int) × ByteArray)) ++ x.1.2.2.1) + List.length p1.1.2.1 ≤ capMax then
some ((), (((List.set (([] : List (Int × Int × Int × List (ByteArray) × List (Int × ByteArray × Int × Int) × Int × List (Int × ByteArray) × List (Int) × List (ByteArray))) ++ x.1.1) (Int.toNat x.2.1) (p1.1.1.1, (p1.1.1.2.1, (p1.1.1.2.2.1, (p1.1.1.2.2.2.1, (p1.1.1.2.2.2.2.1, (p1.1.1.2.2.2.2.2.1, (p1.1.1.2.2.2.2.2.2.1, (p1.1.1.2.2.2.2.2.2.2.1, p1.1.1.2.2.2.2.2.2.2.2.1))))))))), (x.1.2.1, (((([] : List (Int × Int × Int × Int × Int × List (Int) × ByteArray)) ++ x.1.2.2.1) ++ p1.1.2.1), ()))), ((), ())))
else none)
else none)
else none))
else none)
else none)
abbrev E_s_l14Send (k : Nat) : Entry := ⟨107, 0, (.cons (.ptr 0 yP12) yP14), (.tup .nil), s_l14Send k⟩
theorem t_s_l14Send (k : Nat) (x) : evF TTab k [E_s_Send k] [] Try.f107 (.cons (.ptr 0 yP12) yP14) (.tup .nil) x = s_l14Send k x := by kernel_rfl
theorem e_s_l14Send [Names] (k : Nat) : EntryOk Try.prog (E_s_l14Send k) := entry_ok tok (es_cons (e_s_Send k) es_nil) (by kernel_rfl) (by kernel_rfl) (by kernel_rfl) fun x r h => (t_s_l14Send k x).trans h
def s_PacketOk (k : Nat) (x : (Int × Int × Int × Int × Int × List (Int) × ByteArray × Unit) × Unit) : Option (Bool × Unit × Unit) :=
((s_l01In k (x.1.1, ((1 : Int), ((3 : Int), ())))).bind fun p1 =>
(if (!p1.1) = false then
((s_l01In k (x.1.2.1, ((0 : Int), ((7 : Int), ())))).bind fun p2 =>
(if (!p2.1) = false then
((s_l01In k (x.1.2.2.1, ((1 : Int), ((99 : Int), ())))).bind fun p3 =>
(if (!p3.1) = false then
((s_l01In k (x.1.2.2.2.1, ((1 : Int), ((99 : Int), ())))).bind fun p4 =>
(if (!p4.1) = false then
((s_l01In k (x.1.2.2.2.2.1, ((0 : Int), ((1000000000 : Int), ())))).bind fun p5 =>
(if (!p5.1) = false then
(if (decide ((4 : Int) < (List.length x.1.2.2.2.2.2.1 : Int))) = false then
(if (decide ((120 : Int) < (ByteArray.size x.1.2.2.2.2.2.2.1 : Int))) = true then
some (false, ((), ()))
else
(whileK (fun (rec0 : ((Int × Int × Int × Int × Int × List (Int) × ByteArray × Unit) × Int × Unit) → Option _) (y0 : (Int × Int × Int × Int × Int × List (Int) × ByteArray × Unit) × Int × Unit) =>
(if (decide (y0.2.1 < (List.length y0.1.2.2.2.2.2.1 : Int))) = true then
(if 0 ≤ y0.2.1 ∧ y0.2.1 < (List.length y0.1.2.2.2.2.2.1 : Int) then
((s_l01In k ((Ty.rd (t := (.int .i64)) y0.1.2.2.2.2.2.1 y0.2.1), ((1 : Int), ((1000000000 : Int), ())))).bind fun p6 =>
(if (!p6.1) = false then
(if (decide (y0.1.1 = (3 : Int))) = true then
some (false, ((), ()))
else
(rec0 ((y0.1.1, (y0.1.2.1, (y0.1.2.2.1, (y0.1.2.2.2.1, (y0.1.2.2.2.2.1, (y0.1.2.2.2.2.2.1, (y0.1.2.2.2.2.2.2.1, ()))))))), ((wi64 (y0.2.1 + (1 : Int))), ()))))
else
some (false, ((), ()))))
else none)
else
((fun (z1 : (Int × Int × Int × Int × Int × List (Int) × ByteArray × Unit) × Unit) =>
(if (!decide (z1.1.1 = (2 : Int))) = false then
(if (decide (z1.1.2.2.2.2.2.2.1 = (⟨#[]⟩ : ByteArray))) = true then
some ((decide (z1.1.2.2.2.2.1 = (0 : Int))), ((), ()))
else
some (false, ((), ())))
else
some (true, ((), ())))) ((y0.1.1, (y0.1.2.1, (y0.1.2.2.1, (y0.1.2.2.2.1, (y0.1.2.2.2.2.1, (y0.1.2.2.2.2.2.1, (y0.1.2.2.2.2.2.2.1, ()))))))), ())))) k ((x.1.1, (x.1.2.1, (x.1.2.2.1, (x.1.2.2.2.1, (x.1.2.2.2.2.1, (x.1.2.2.2.2.2.1, (x.1.2.2.2.2.2.2.1, ()))))))), ((0 : Int), ()))))
else
some (false, ((), ())))
else
some (false, ((), ()))))
else
some (false, ((), ()))))
else
some (false, ((), ()))))
else
some (false, ((), ()))))
else
some (false, ((), ()))))
abbrev E_s_PacketOk (k : Nat) : Entry := ⟨171, 0, (.cons (.agg yP7) .nil), .bool, s_PacketOk k⟩
theorem t_s_PacketOk (k : Nat) (x) : evF TTab k [E_s_l01In k] [(0, ⟨[1, 3], (.cons (.ptr 0 yP7) yP14)⟩, ⟨[1], (.cons (.ptr 0 yP7) .nil)⟩)] Try.f171 (.cons (.agg yP7) .nil) .bool x = s_PacketOk k x := by kernel_rfl
theorem e_s_PacketOk [Names] (k : Nat) : EntryOk Try.prog (E_s_PacketOk k) := entry_ok tok (es_cons (e_s_l01In k) es_nil) (by kernel_rfl) (by kernel_rfl) (by kernel_rfl) fun x r h => (t_s_PacketOk k x).trans h
def s_l13In (k : Nat) (x : List (Int) × Int × Unit) : Option (Bool × Unit × Unit × Unit) :=
(whileK (fun (rec0 : (List (Int) × Int × Int × Unit) → Option _) (y0 : List (Int) × Int × Int × Unit) =>
(if (decide (y0.2.2.1 < (List.length y0.1 : Int))) = true then
(if 0 ≤ y0.2.2.1 ∧ y0.2.2.1 < (List.length y0.1 : Int) then
(if (decide ((Ty.rd (t := (.int .i64)) y0.1 y0.2.2.1) = y0.2.1)) = true then
some (true, ((), ((), ())))
else
(rec0 (y0.1, (y0.2.1, ((wi64 (y0.2.2.1 + (1 : Int))), ())))))
else none)
else
((fun (z1 : Unit) =>
some (false, ((), ((), ())))) ()))) k (x.1, (x.2.1, ((0 : Int), ()))))
abbrev E_s_l13In (k : Nat) : Entry := ⟨172, 0, (.cons (.il true (.int .i64)) yP14), .bool, s_l13In k⟩
theorem t_s_l13In (k : Nat) (x) : evF TTab k [] [(0, ⟨[0, 1, 5], (.cons (.il true (.int .i64)) yP9)⟩, ⟨[], .nil⟩)] Try.f172 (.cons (.il true (.int .i64)) yP14) .bool x = s_l13In k x := by kernel_rfl
theorem e_s_l13In [Names] (k : Nat) : EntryOk Try.prog (E_s_l13In k) := entry_ok tok es_nil (by kernel_rfl) (by kernel_rfl) (by kernel_rfl) fun x r h => (t_s_l13In k x).trans h
def s_l13Put (k : Nat) (x : (Int × Int × Int × List (ByteArray) × (List (Int × ByteArray × Int × Int)) × Int × (List (Int × ByteArray)) × List (Int) × List (ByteArray) × Unit) × Int × ByteArray × Unit) : Option (Unit × (Int × Int × Int × List (ByteArray) × (List (Int × ByteArray × Int × Int)) × Int × (List (Int × ByteArray)) × List (Int) × List (ByteArray) × Unit) × Unit × Unit × Unit) :=
(whileK (fun (rec0 : ((Int × Int × Int × List (ByteArray) × (List (Int × ByteArray × Int × Int)) × Int × (List (Int × ByteArray)) × List (Int) × List (ByteArray) × Unit) × Int × ByteArray × (List (Int × ByteArray)) × Int × Unit) → Option _) (y0 : (Int × Int × Int × List (ByteArray) × (List (Int × ByteArray × Int × Int)) × Int × (List (Int × ByteArray)) × List (Int) × List (ByteArray) × Unit) × Int × ByteArray × (List (Int × ByteArray)) × Int × Unit) =>
(if (decide (y0.2.2.2.2.1 < (List.length y0.1.2.2.2.2.2.2.1 : Int))) = true then
(if 0 ≤ y0.2.2.2.2.1 ∧ y0.2.2.2.2.1 < (List.length y0.1.2.2.2.2.2.2.1 : Int) then
(if (decide ((Ty.rd (t := yT15) y0.1.2.2.2.2.2.2.1 y0.2.2.2.2.1).1 = y0.2.1)) = true then
some ((), ((y0.1.1, (y0.1.2.1, (y0.1.2.2.1, (y0.1.2.2.2.1, (y0.1.2.2.2.2.1, (y0.1.2.2.2.2.2.1, (y0.1.2.2.2.2.2.2.1, (y0.1.2.2.2.2.2.2.2.1, (y0.1.2.2.2.2.2.2.2.2.1, ()))))))))), ((), ((), ()))))
else
(if 0 ≤ y0.2.2.2.2.1 ∧ y0.2.2.2.2.1 < (List.length y0.1.2.2.2.2.2.2.1 : Int) then
(if (decide ((Ty.rd (t := yT15) y0.1.2.2.2.2.2.2.1 y0.2.2.2.2.1).1 < y0.2.1)) = true then
(if 0 ≤ y0.2.2.2.2.1 ∧ y0.2.2.2.2.1 < (List.length y0.1.2.2.2.2.2.2.1 : Int) then
(if List.length y0.2.2.2.1 + List.length ([((Ty.rd (t := yT15) y0.1.2.2.2.2.2.2.1 y0.2.2.2.2.1).1, (Ty.rd (t := yT15) y0.1.2.2.2.2.2.2.1 y0.2.2.2.2.1).2)] : List (Int × ByteArray)) ≤ capMax then
(rec0 ((y0.1.1, (y0.1.2.1, (y0.1.2.2.1, (y0.1.2.2.2.1, (y0.1.2.2.2.2.1, (y0.1.2.2.2.2.2.1, (y0.1.2.2.2.2.2.2.1, (y0.1.2.2.2.2.2.2.2.1, (y0.1.2.2.2.2.2.2.2.2.1, ()))))))))), (y0.2.1, (y0.2.2.1, ((y0.2.2.2.1 ++ ([((Ty.rd (t := yT15) y0.1.2.2.2.2.2.2.1 y0.2.2.2.2.1).1, (Ty.rd (t := yT15) y0.1.2.2.2.2.2.2.1 y0.2.2.2.2.1).2)] : List (Int × ByteArray))), ((wi64 (y0.2.2.2.2.1 + (1 : Int))), ()))))))
else none)
else none)
else
(rec0 ((y0.1.1, (y0.1.2.1, (y0.1.2.2.1, (y0.1.2.2.2.1, (y0.1.2.2.2.2.1, (y0.1.2.2.2.2.2.1, (y0.1.2.2.2.2.2.2.1, (y0.1.2.2.2.2.2.2.2.1, (y0.1.2.2.2.2.2.2.2.2.1, ()))))))))), (y0.2.1, (y0.2.2.1, (y0.2.2.2.1, ((wi64 (y0.2.2.2.2.1 + (1 : Int))), ())))))))
else none))
else none)
else
((fun (z1 : (Int × Int × Int × List (ByteArray) × (List (Int × ByteArray × Int × Int)) × Int × (List (Int × ByteArray)) × List (Int) × List (ByteArray) × Unit) × Int × ByteArray × (List (Int × ByteArray)) × Unit) =>
(if List.length z1.2.2.2.1 + List.length ([(z1.2.1, z1.2.2.1)] : List (Int × ByteArray)) ≤ capMax then
(whileK (fun (rec2 : ((Int × Int × Int × List (ByteArray) × (List (Int × ByteArray × Int × Int)) × Int × (List (Int × ByteArray)) × List (Int) × List (ByteArray) × Unit) × Int × (List (Int × ByteArray)) × Int × Unit) → Option _) (y2 : (Int × Int × Int × List (ByteArray) × (List (Int × ByteArray × Int × Int)) × Int × (List (Int × ByteArray)) × List (Int) × List (ByteArray) × Unit) × Int × (List (Int × ByteArray)) × Int × Unit) =>
(if (decide (y2.2.2.2.1 < (List.length y2.1.2.2.2.2.2.2.1 : Int))) = true then
(if 0 ≤ y2.2.2.2.1 ∧ y2.2.2.2.1 < (List.length y2.1.2.2.2.2.2.2.1 : Int) then
(if (decide (y2.2.1 < (Ty.rd (t := yT15) y2.1.2.2.2.2.2.2.1 y2.2.2.2.1).1)) = true then
(if 0 ≤ y2.2.2.2.1 ∧ y2.2.2.2.1 < (List.length y2.1.2.2.2.2.2.2.1 : Int) then
(if List.length y2.2.2.1 + List.length ([((Ty.rd (t := yT15) y2.1.2.2.2.2.2.2.1 y2.2.2.2.1).1, (Ty.rd (t := yT15) y2.1.2.2.2.2.2.2.1 y2.2.2.2.1).2)] : List (Int × ByteArray)) ≤ capMax then
(rec2 ((y2.1.1, (y2.1.2.1, (y2.1.2.2.1, (y2.1.2.2.2.1, (y2.1.2.2.2.2.1, (y2.1.2.2.2.2.2.1, (y2.1.2.2.2.2.2.2.1, (y2.1.2.2.2.2.2.2.2.1, (y2.1.2.2.2.2.2.2.2.2.1, ()))))))))), (y2.2.1, ((y2.2.2.1 ++ ([((Ty.rd (t := yT15) y2.1.2.2.2.2.2.2.1 y2.2.2.2.1).1, (Ty.rd (t := yT15) y2.1.2.2.2.2.2.2.1 y2.2.2.2.1).2)] : List (Int × ByteArray))), ((wi64 (y2.2.2.2.1 + (1 : Int))), ())))))
else none)
else none)
else
(rec2 ((y2.1.1, (y2.1.2.1, (y2.1.2.2.1, (y2.1.2.2.2.1, (y2.1.2.2.2.2.1, (y2.1.2.2.2.2.2.1, (y2.1.2.2.2.2.2.2.1, (y2.1.2.2.2.2.2.2.2.1, (y2.1.2.2.2.2.2.2.2.2.1, ()))))))))), (y2.2.1, (y2.2.2.1, ((wi64 (y2.2.2.2.1 + (1 : Int))), ()))))))
else none)
else
((fun (z2 : (Int × Int × Int × List (ByteArray) × (List (Int × ByteArray × Int × Int)) × Int × (List (Int × ByteArray)) × List (Int) × List (ByteArray) × Unit) × (List (Int × ByteArray)) × Unit) =>
(jn (fun (z3 : (Int × Int × Int × List (ByteArray) × (List (Int × ByteArray × Int × Int)) × Int × (List (Int × ByteArray)) × List (Int) × List (ByteArray) × Unit) × (List (Int × ByteArray)) × Unit) =>
(if List.length ([] : List (Int × ByteArray)) + List.length z3.2.1 ≤ capMax then
some ((), ((z3.1.1, (z3.1.2.1, (z3.1.2.2.1, (z3.1.2.2.2.1, (z3.1.2.2.2.2.1, (z3.1.2.2.2.2.2.1, ((([] : List (Int × ByteArray)) ++ z3.2.1), (z3.1.2.2.2.2.2.2.2.1, (z3.1.2.2.2.2.2.2.2.2.1, ()))))))))), ((), ((), ()))))
else none)) (fun (E3 : ((Int × Int × Int × List (ByteArray) × (List (Int × ByteArray × Int × Int)) × Int × (List (Int × ByteArray)) × List (Int) × List (ByteArray) × Unit) × (List (Int × ByteArray)) × Unit) → Option _) =>
(whileK (fun (rec4 : ((Int × Int × Int × List (ByteArray) × (List (Int × ByteArray × Int × Int)) × Int × (List (Int × ByteArray)) × List (Int) × List (ByteArray) × Unit) × (List (Int × ByteArray)) × Unit) → Option _) (y4 : (Int × Int × Int × List (ByteArray) × (List (Int × ByteArray × Int × Int)) × Int × (List (Int × ByteArray)) × List (Int) × List (ByteArray) × Unit) × (List (Int × ByteArray)) × Unit) =>
(if (decide ((0 : Int) < (List.length y4.2.1 : Int))) = true then
(if 0 ≤ (0 : Int) ∧ (0 : Int) < (List.length y4.2.1 : Int) then
(if (decide ((Ty.rd (t := yT15) y4.2.1 (0 : Int)).1 = (wi64 (y4.1.2.2.2.2.2.1 + (1 : Int))))) = true then
(if 0 ≤ (0 : Int) ∧ (0 : Int) < (List.length y4.2.1 : Int) then
(if List.length y4.1.2.2.2.2.2.2.2.2.1 + List.length ([(Ty.rd (t := yT15) y4.2.1 (0 : Int)).2] : List (ByteArray)) ≤ capMax then
(if 0 ≤ (1 : Int) ∧ (1 : Int) ≤ (List.length y4.2.1 : Int) then
(rec4 ((y4.1.1, (y4.1.2.1, (y4.1.2.2.1, (y4.1.2.2.2.1, (y4.1.2.2.2.2.1, ((wi64 (y4.1.2.2.2.2.2.1 + (1 : Int))), (y4.1.2.2.2.2.2.2.1, (y4.1.2.2.2.2.2.2.2.1, ((y4.1.2.2.2.2.2.2.2.2.1 ++ ([(Ty.rd (t := yT15) y4.2.1 (0 : Int)).2] : List (ByteArray))), ()))))))))), ((List.drop (Int.toNat (1 : Int)) (List.take (Int.toNat (List.length y4.2.1 : Int)) y4.2.1)), ())))
else none)
else none)
else none)
else
(E3 ((y4.1.1, (y4.1.2.1, (y4.1.2.2.1, (y4.1.2.2.2.1, (y4.1.2.2.2.2.1, (y4.1.2.2.2.2.2.1, (y4.1.2.2.2.2.2.2.1, (y4.1.2.2.2.2.2.2.2.1, (y4.1.2.2.2.2.2.2.2.2.1, ()))))))))), (y4.2.1, ()))))
else none)
else
(E3 ((y4.1.1, (y4.1.2.1, (y4.1.2.2.1, (y4.1.2.2.2.1, (y4.1.2.2.2.2.1, (y4.1.2.2.2.2.2.1, (y4.1.2.2.2.2.2.2.1, (y4.1.2.2.2.2.2.2.2.1, (y4.1.2.2.2.2.2.2.2.2.1, ()))))))))), (y4.2.1, ()))))) k ((z2.1.1, (z2.1.2.1, (z2.1.2.2.1, (z2.1.2.2.2.1, (z2.1.2.2.2.2.1, (z2.1.2.2.2.2.2.1, (z2.1.2.2.2.2.2.2.1, (z2.1.2.2.2.2.2.2.2.1, (z2.1.2.2.2.2.2.2.2.2.1, ()))))))))), (z2.2.1, ())))))) ((y2.1.1, (y2.1.2.1, (y2.1.2.2.1, (y2.1.2.2.2.1, (y2.1.2.2.2.2.1, (y2.1.2.2.2.2.2.1, (y2.1.2.2.2.2.2.2.1, (y2.1.2.2.2.2.2.2.2.1, (y2.1.2.2.2.2.2.2.2.2.1, ()))))))))), (y2.2.2.1, ()))))) k ((z1.1.1, (z1.1.2.1, (z1.1.2.2.1, (z1.1.2.2.2.1, (z1.1.2.2.2.2.1, (z1.1.2.2.2.2.2.1, (z1.1.2.2.2.2.2.2.1, (z1.1.2.2.2.2.2.2.2.1, (z1.1.2.2.2.2.2.2.2.2.1, ()))))))))), (z1.2.1, ((z1.2.2.2.1 ++ ([(z1.2.1, z1.2.2.1)] : List (Int × ByteArray))), ((0 : Int), ())))))
else none)) ((y0.1.1, (y0.1.2.1, (y0.1.2.2.1, (y0.1.2.2.2.1, (y0.1.2.2.2.2.1, (y0.1.2.2.2.2.2.1, (y0.1.2.2.2.2.2.2.1, (y0.1.2.2.2.2.2.2.2.1, (y0.1.2.2.2.2.2.2.2.2.1, ()))))))))), (y0.2.1, (y0.2.2.1, (y0.2.2.2.1, ()))))))) k ((x.1.1, (x.1.2.1, (x.1.2.2.1, (x.1.2.2.2.1, (x.1.2.2.2.2.1, (x.1.2.2.2.2.2.1, (x.1.2.2.2.2.2.2.1, (x.1.2.2.2.2.2.2.2.1, (x.1.2.2.2.2.2.2.2.2.1, ()))))))))), (x.2.1, (x.2.2.1, (([] : List (Int × ByteArray)), ((0 : Int), ()))))))
abbrev E_s_l13Put (k : Nat) : Entry := ⟨173, 0, (.cons (.ptr 0 yP1) (.cons (.int .i64) (.cons .str .nil))), (.tup .nil), s_l13Put k⟩
theorem t_s_l13Put (k : Nat) (x) : evF TTab k [] [(0, ⟨[0, 1, 2, 6, 7], (.cons (.ptr 0 yP1) (.cons (.int .i64) (.cons .str (.cons (.own false 131 yT15) yP14))))⟩, ⟨[0, 1, 2, 6], (.cons (.ptr 0 yP1) (.cons (.int .i64) (.cons .str (.cons (.own false 131 yT15) .nil))))⟩), (2, ⟨[0, 1, 6, 8], (.cons (.ptr 0 yP1) (.cons (.int .i64) (.cons (.own false 131 yT15) yP14)))⟩, ⟨[0, 6], (.cons (.ptr 0 yP1) (.cons (.own false 131 yT15) .nil))⟩), (4, ⟨[0, 6], (.cons (.ptr 0 yP1) (.cons (.own false 131 yT15) .nil))⟩, ⟨[0, 6], (.cons (.ptr 0 yP1) (.cons (.own false 131 yT15) .nil))⟩)] Try.f173 (.cons (.ptr 0 yP1) (.cons (.int .i64) (.cons .str .nil))) (.tup .nil) x = s_l13Put k x := by kernel_rfl
theorem e_s_l13Put [Names] (k : Nat) : EntryOk Try.prog (E_s_l13Put k) := entry_ok tok es_nil (by kernel_rfl) (by kernel_rfl) (by kernel_rfl) fun x r h => (t_s_l13Put k x).trans h
def s_Take (k : Nat) (x : (Int × Int × Int × List (ByteArray) × (List (Int × ByteArray × Int × Int)) × Int × (List (Int × ByteArray)) × List (Int) × List (ByteArray) × Unit) × (Int × Int × Int × Int × Int × List (Int) × ByteArray × Unit) × Unit) : Option (((Int × Int × Int × List (ByteArray) × (List (Int × ByteArray × Int × Int)) × Int × (List (Int × ByteArray)) × List (Int) × List (ByteArray) × Unit) × Bool × Unit) × Unit × Unit × Unit) :=
((s_l13Copy k ((x.1.1, (x.1.2.1, (x.1.2.2.1, (x.1.2.2.2.1, (x.1.2.2.2.2.1, (x.1.2.2.2.2.2.1, (x.1.2.2.2.2.2.2.1, (x.1.2.2.2.2.2.2.2.1, (x.1.2.2.2.2.2.2.2.2.1, ()))))))))), ())).bind fun p1 =>
((s_ChanOk k ((x.1.1, (x.1.2.1, (x.1.2.2.1, (x.1.2.2.2.1, (x.1.2.2.2.2.1, (x.1.2.2.2.2.2.1, (x.1.2.2.2.2.2.2.1, (x.1.2.2.2.2.2.2.2.1, (x.1.2.2.2.2.2.2.2.2.1, ()))))))))), ())).bind fun p2 =>
(if (!p2.1) = false then
((s_PacketOk k ((x.2.1.1, (x.2.1.2.1, (x.2.1.2.2.1, (x.2.1.2.2.2.1, (x.2.1.2.2.2.2.1, (x.2.1.2.2.2.2.2.1, (x.2.1.2.2.2.2.2.2.1, ()))))))), ())).bind fun p3 =>
(if (!p3.1) = false then
(if (decide (x.2.1.1 = (3 : Int))) = false then
(if (!decide (x.2.1.2.2.1 = x.1.2.1)) = false then
(if (!decide (x.2.1.2.2.2.1 = x.1.1)) = true then
some (((p1.1.1, (p1.1.2.1, (p1.1.2.2.1, (p1.1.2.2.2.1, (p1.1.2.2.2.2.1, (p1.1.2.2.2.2.2.1, (p1.1.2.2.2.2.2.2.1, (p1.1.2.2.2.2.2.2.2.1, (p1.1.2.2.2.2.2.2.2.2.1, ()))))))))), (false, ())), ((), ((), ())))
else
(jn (
(whileK (fun (rec0 : ((Int × Int × Int × List (ByteArray) × (List (Int × ByteArray × Int × Int)) × Int × (List (Int × ByteArray)) × List (Int) × List (ByteArray) × Unit) × (Int × Int × Int × Int × Int × List (Int) × ByteArray × Unit) × (Int × Int × Int × List (ByteArray) × (List (Int × ByteArray × Int × Int)) × Int × (List (Int × ByteArray)) × List (Int) × List (ByteArray) × Unit) × (Int × Int × Int × List (ByteArray) × (List (Int × ByteArray × Int × Int)) × Int × (List (Int × ByteArray)) × List (Int) × List (ByteArray) × Unit) × (List (Int × ByteArray × Int × Int)) × Int × Unit) → Option _) (y0 : (Int × Int × Int × List (ByteArray) × (List (Int × ByteArray × Int × Int)) × Int × (List (Int × ByteArray)) × List (Int) × List (ByteArray) × Unit) × (Int × Int × Int × Int × Int × List (Int) × ByteArray × Unit) × (Int × Int × Int × List (ByteArray) × (List (Int × ByteArray × Int × Int)) × Int × (List (Int × ByteArray)) × List (Int) × List (ByteArray) × Unit) × (Int × Int × Int × List (ByteArray) × (List (Int × ByteArray × Int × Int)) × Int × (List (Int × ByteArray)) × List (Int) × List (ByteArray) × Unit) × (List (Int × ByteArray × Int × Int)) × Int × Unit) =>
(if (decide (y0.2.2.2.2.2.1 < (List.length y0.2.2.2.1.2.2.2.2.1 : Int))) = true then
(if 0 ≤ y0.2.2.2.2.2.1 ∧ y0.2.2.2.2.2.1 < (List.length y0.2.2.2.1.2.2.2.2.1 : Int) then
((s_l13In k (y0.2.1.2.2.2.2.2.1, ((Ty.rd (t := yT5) y0.2.2.2.1.2.2.2.2.1 y0.2.2.2.2.2.1).1, ()))).bind fun p10 =>
(if (!p10.1) = true then
(if 0 ≤ y0.2.2.2.2.2.1 ∧ y0.2.2.2.2.2.1 < (List.length y0.2.2.2.1.2.2.2.2.1 : Int) then
(if List.length y0.2.2.2.2.1 + List.length ([((Ty.rd (t := yT5) y0.2.2.2.1.2.2.2.2.1 y0.2.2.2.2.2.1).1, ((Ty.rd (t := yT5) y0.2.2.2.1.2.2.2.2.1 y0.2.2.2.2.2.1).2.1, ((Ty.rd (t := yT5) y0.2.2.2.1.2.2.2.2.1 y0.2.2.2.2.2.1).2.2.1, (Ty.rd (t := yT5) y0.2.2.2.1.2.2.2.2.1 y0.2.2.2.2.2.1).2.2.2)))] : List (Int × ByteArray × Int × Int)) ≤ capMax then
(rec0 ((y0.1.1, (y0.1.2.1, (y0.1.2.2.1, (y0.1.2.2.2.1, (y0.1.2.2.2.2.1, (y0.1.2.2.2.2.2.1, (y0.1.2.2.2.2.2.2.1, (y0.1.2.2.2.2.2.2.2.1, (y0.1.2.2.2.2.2.2.2.2.1, ()))))))))), ((y0.2.1.1, (y0.2.1.2.1, (y0.2.1.2.2.1, (y0.2.1.2.2.2.1, (y0.2.1.2.2.2.2.1, (y0.2.1.2.2.2.2.2.1, (y0.2.1.2.2.2.2.2.2.1, ()))))))), ((y0.2.2.1.1, (y0.2.2.1.2.1, (y0.2.2.1.2.2.1, (y0.2.2.1.2.2.2.1, (y0.2.2.1.2.2.2.2.1, (y0.2.2.1.2.2.2.2.2.1, (y0.2.2.1.2.2.2.2.2.2.1, (y0.2.2.1.2.2.2.2.2.2.2.1, (y0.2.2.1.2.2.2.2.2.2.2.2.1, ()))))))))), ((y0.2.2.2.1.1, (y0.2.2.2.1.2.1, (y0.2.2.2.1.2.2.1, (y0.2.2.2.1.2.2.2.1, (y0.2.2.2.1.2.2.2.2.1, (y0.2.2.2.1.2.2.2.2.2.1, (y0.2.2.2.1.2.2.2.2.2.2.1, (y0.2.2.2.1.2.2.2.2.2.2.2.1, (y0.2.2.2.1.2.2.2.2.2.2.2.2.1, ()))))))))), ((y0.2.2.2.2.1 ++ ([((Ty.rd (t := yT5) y0.2.2.2.1.2.2.2.2.1 y0.2.2.2.2.2.1).1, ((Ty.rd (t := yT5) y0.2.2.2.1.2.2.2.2.1 y0.2.2.2.2.2.1).2.1, ((Ty.rd (t := yT5) y0.2.2.2.1.2.2.2.2.1 y0.2.2.2.2.2.1).2.2.1, (Ty.rd (t := yT5) y0.2.2.2.1.2.2.2.2.1 y0.2.2.2.2.2.1).2.2.2)))] : List (Int × ByteArray × Int × Int))), ((wi64 (y0.2.2.2.2.2.1 + (1 : Int))), ())))))))
else none)
else none)
else
(rec0 ((y0.1.1, (y0.1.2.1, (y0.1.2.2.1, (y0.1.2.2.2.1, (y0.1.2.2.2.2.1, (y0.1.2.2.2.2.2.1, (y0.1.2.2.2.2.2.2.1, (y0.1.2.2.2.2.2.2.2.1, (y0.1.2.2.2.2.2.2.2.2.1, ()))))))))), ((y0.2.1.1, (y0.2.1.2.1, (y0.2.1.2.2.1, (y0.2.1.2.2.2.1, (y0.2.1.2.2.2.2.1, (y0.2.1.2.2.2.2.2.1, (y0.2.1.2.2.2.2.2.2.1, ()))))))), ((y0.2.2.1.1, (y0.2.2.1.2.1, (y0.2.2.1.2.2.1, (y0.2.2.1.2.2.2.1, (y0.2.2.1.2.2.2.2.1, (y0.2.2.1.2.2.2.2.2.1, (y0.2.2.1.2.2.2.2.2.2.1, (y0.2.2.1.2.2.2.2.2.2.2.1, (y0.2.2.1.2.2.2.2.2.2.2.2.1, ()))))))))), ((y0.2.2.2.1.1, (y0.2.2.2.1.2.1, (y0.2.2.2.1.2.2.1, (y0.2.2.2.1.2.2.2.1, (y0.2.2.2.1.2.2.2.2.1, (y0.2.2.2.1.2.2.2.2.2.1, (y0.2.2.2.1.2.2.2.2.2.2.1, (y0.2.2.2.1.2.2.2.2.2.2.2.1, (y0.2.2.2.1.2.2.2.2.2.2.2.2.1, ()))))))))), (y0.2.2.2.2.1, ((wi64 (y0.2.2.2.2.2.1 + (1 : Int))), ())))))))))
else none)
else
((fun (z2 : (Int × Int × Int × List (ByteArray) × (List (Int × ByteArray × Int × Int)) × Int × (List (Int × ByteArray)) × List (Int) × List (ByteArray) × Unit) × (Int × Int × Int × Int × Int × List (Int) × ByteArray × Unit) × (Int × Int × Int × List (ByteArray) × (List (Int × ByteArray × Int × Int)) × Int × (List (Int × ByteArray)) × List (Int) × List (ByteArray) × Unit) × (Int × Int × Int × List (ByteArray) × (List (Int × ByteArray × Int × Int)) × Int × (List (Int × ByteArray)) × List (Int) × List (ByteArray) × Unit) × (List (Int × ByteArray × Int × Int)) × Unit) =>
(if (decide (z2.2.1.1 = (2 : Int))) = true then
some (((z2.2.2.2.1.1, (z2.2.2.2.1.2.1, (z2.2.2.2.1.2.2.1, (z2.2.2.2.1.2.2.2.1, (z2.2.2.2.2.1, (z2.2.2.2.1.2.2.2.2.2.1, (z2.2.2.2.1.2.2.2.2.2.2.1, (z2.2.2.2.1.2.2.2.2.2.2.2.1, (z2.2.2.2.1.2.2.2.2.2.2.2.2.1, ()))))))))), (true, ())), ((), ((), ())))
else
(jn (
(if (decide (z2.1.2.2.2.2.2.1 < z2.2.1.2.2.2.2.1)) = true then
((s_l13Put k ((z2.2.2.2.1.1, (z2.2.2.2.1.2.1, (z2.2.2.2.1.2.2.1, (z2.2.2.2.1.2.2.2.1, (z2.2.2.2.2.1, (z2.2.2.2.1.2.2.2.2.2.1, (z2.2.2.2.1.2.2.2.2.2.2.1, (z2.2.2.2.1.2.2.2.2.2.2.2.1, (z2.2.2.2.1.2.2.2.2.2.2.2.2.1, ()))))))))), (z2.2.1.2.2.2.2.1, (z2.2.1.2.2.2.2.2.2.1, ())))).bind fun p14 =>
some (((p14.2.1.1, (p14.2.1.2.1, (p14.2.1.2.2.1, (p14.2.1.2.2.2.1, (p14.2.1.2.2.2.2.1, (p14.2.1.2.2.2.2.2.1, (p14.2.1.2.2.2.2.2.2.1, (p14.2.1.2.2.2.2.2.2.2.1, (p14.2.1.2.2.2.2.2.2.2.2.1, ()))))))))), (true, ())), ((), ((), ()))))
else
some (((z2.2.2.2.1.1, (z2.2.2.2.1.2.1, (z2.2.2.2.1.2.2.1, (z2.2.2.2.1.2.2.2.1, (z2.2.2.2.2.1, (z2.2.2.2.1.2.2.2.2.2.1, (z2.2.2.2.1.2.2.2.2.2.2.1, (z2.2.2.2.1.2.2.2.2.2.2.2.1, (z2.2.2.2.1.2.2.2.2.2.2.2.2.1, ()))))))))), (true, ())), ((), ((), ()))))) (fun (j3 : Option _) =>
(if (decide ((List.length z2.2.2.2.1.2.2.2.2.2.2.2.1 : Int) < (4 : Int))) = true then
((s_l13In k (z2.2.2.2.1.2.2.2.2.2.2.2.1, (z2.2.1.2.2.2.2.1, ()))).bind fun p11 =>
(if (!p11.1) = true then
(if List.length z2.2.2.2.1.2.2.2.2.2.2.2.1 + List.length ([z2.2.1.2.2.2.2.1] : List (Int)) ≤ capMax then
(if (decide (z2.1.2.2.2.2.2.1 < z2.2.1.2.2.2.2.1)) = true then
((s_l13Put k ((z2.2.2.2.1.1, (z2.2.2.2.1.2.1, (z2.2.2.2.1.2.2.1, (z2.2.2.2.1.2.2.2.1, (z2.2.2.2.2.1, (z2.2.2.2.1.2.2.2.2.2.1, (z2.2.2.2.1.2.2.2.2.2.2.1, ((z2.2.2.2.1.2.2.2.2.2.2.2.1 ++ ([z2.2.1.2.2.2.2.1] : List (Int))), (z2.2.2.2.1.2.2.2.2.2.2.2.2.1, ()))))))))), (z2.2.1.2.2.2.2.1, (z2.2.1.2.2.2.2.2.2.1, ())))).bind fun p12 =>
some (((p12.2.1.1, (p12.2.1.2.1, (p12.2.1.2.2.1, (p12.2.1.2.2.2.1, (p12.2.1.2.2.2.2.1, (p12.2.1.2.2.2.2.2.1, (p12.2.1.2.2.2.2.2.2.1, (p12.2.1.2.2.2.2.2.2.2.1, (p12.2.1.2.2.2.2.2.2.2.2.1, ()))))))))), (true, ())), ((), ((), ()))))
else
some (((z2.2.2.2.1.1, (z2.2.2.2.1.2.1, (z2.2.2.2.1.2.2.1, (z2.2.2.2.1.2.2.2.1, (z2.2.2.2.2.1, (z2.2.2.2.1.2.2.2.2.2.1, (z2.2.2.2.1.2.2.2.2.2.2.1, ((z2.2.2.2.1.2.2.2.2.2.2.2.1 ++ ([z2.2.1.2.2.2.2.1] : List (Int))), (z2.2.2.2.1.2.2.2.2.2.2.2.2.1, ()))))))))), (true, ())), ((), ((), ()))))
else none)
else
j3))
else
j3))))) ((y0.1.1, (y0.1.2.1, (y0.1.2.2.1, (y0.1.2.2.2.1, (y0.1.2.2.2.2.1, (y0.1.2.2.2.2.2.1, (y0.1.2.2.2.2.2.2.1, (y0.1.2.2.2.2.2.2.2.1, (y0.1.2.2.2.2.2.2.2.2.1, ()))))))))), ((y0.2.1.1, (y0.2.1.2.1, (y0.2.1.2.2.1, (y0.2.1.2.2.2.1, (y0.2.1.2.2.2.2.1, (y0.2.1.2.2.2.2.2.1, (y0.2.1.2.2.2.2.2.2.1, ()))))))), ((y0.2.2.1.1, (y0.2.2.1.2.1, (y0.2.2.1.2.2.1, (y0.2.2.1.2.2.2.1, (y0.2.2.1.2.2.2.2.1, (y0.2.2.1.2.2.2.2.2.1, (y0.2.2.1.2.2.2.2.2.2.1, (y0.2.2.1.2.2.2.2.2.2.2.1, (y0.2.2.1.2.2.2.2.2.2.2.2.1, ()))))))))), ((y0.2.2.2.1.1, (y0.2.2.2.1.2.1, (y0.2.2.2.1.2.2.1, (y0.2.2.2.1.2.2.2.1, (y0.2.2.2.1.2.2.2.2.1, (y0.2.2.2.1.2.2.2.2.2.1, (y0.2.2.2.1.2.2.2.2.2.2.1, (y0.2.2.2.1.2.2.2.2.2.2.2.1, (y0.2.2.2.1.2.2.2.2.2.2.2.2.1, ()))))))))), (y0.2.2.2.2.1, ())))))))) k ((x.1.1, (x.1.2.1, (x.1.2.2.1, (x.1.2.2.2.1, (x.1.2.2.2.2.1, (x.1.2.2.2.2.2.1, (x.1.2.2.2.2.2.2.1, (x.1.2.2.2.2.2.2.2.1, (x.1.2.2.2.2.2.2.2.2.1, ()))))))))), ((x.2.1.1, (x.2.1.2.1, (x.2.1.2.2.1, (x.2.1.2.2.2.1, (x.2.1.2.2.2.2.1, (x.2.1.2.2.2.2.2.1, (x.2.1.2.2.2.2.2.2.1, ()))))))), (((0 : Int), ((0 : Int), ((0 : Int), ([], ([], ((0 : Int), ([], ([], ([], ()))))))))), ((p1.1.1, (p1.1.2.1, (p1.1.2.2.1, (p1.1.2.2.2.1, (p1.1.2.2.2.2.1, (p1.1.2.2.2.2.2.1, (p1.1.2.2.2.2.2.2.1, (p1.1.2.2.2.2.2.2.2.1, (p1.1.2.2.2.2.2.2.2.2.1, ()))))))))), (([] : List (Int × ByteArray × Int × Int)), ((0 : Int), ())))))))) (fun (j2 : Option _) =>
(if (decide (x.2.1.1 = (1 : Int))) = true then
((s_l01In k (x.2.1.2.2.2.2.1, ((1 : Int), ((wi64 (x.1.2.2.2.2.2.1 + (4 : Int))), ())))).bind fun p4 =>
(if (!p4.1) = false then
(if (decide ((990 : Int) < x.1.2.2.2.2.2.1)) = true then
some (((p1.1.1, (p1.1.2.1, (p1.1.2.2.1, (p1.1.2.2.2.1, (p1.1.2.2.2.2.1, (p1.1.2.2.2.2.2.1, (p1.1.2.2.2.2.2.2.1, (p1.1.2.2.2.2.2.2.2.1, (p1.1.2.2.2.2.2.2.2.2.1, ()))))))))), (false, ())), ((), ((), ())))
else
j2)
else
some (((p1.1.1, (p1.1.2.1, (p1.1.2.2.1, (p1.1.2.2.2.1, (p1.1.2.2.2.2.1, (p1.1.2.2.2.2.2.1, (p1.1.2.2.2.2.2.2.1, (p1.1.2.2.2.2.2.2.2.1, (p1.1.2.2.2.2.2.2.2.2.1, ()))))))))), (false, ())), ((), ((), ())))))
else
(if (decide ((990 : Int) < x.1.2.2.2.2.2.1)) = true then
some (((p1.1.1, (p1.1.2.1, (p1.1.2.2.1, (p1.1.2.2.2.1, (p1.1.2.2.2.2.1, (p1.1.2.2.2.2.2.1, (p1.1.2.2.2.2.2.2.1, (p1.1.2.2.2.2.2.2.2.1, (p1.1.2.2.2.2.2.2.2.2.1, ()))))))))), (false, ())), ((), ((), ())))
else
j2)))))
else
some (((p1.1.1, (p1.1.2.1, (p1.1.2.2.1, (p1.1.2.2.2.1, (p1.1.2.2.2.2.1, (p1.1.2.2.2.2.2.1, (p1.1.2.2.2.2.2.2.1, (p1.1.2.2.2.2.2.2.2.1, (p1.1.2.2.2.2.2.2.2.2.1, ()))))))))), (false, ())), ((), ((), ()))))
else
some (((p1.1.1, (p1.1.2.1, (p1.1.2.2.1, (p1.1.2.2.2.1, (p1.1.2.2.2.2.1, (p1.1.2.2.2.2.2.1, (p1.1.2.2.2.2.2.2.1, (p1.1.2.2.2.2.2.2.2.1, (p1.1.2.2.2.2.2.2.2.2.1, ()))))))))), (false, ())), ((), ((), ()))))
else
some (((p1.1.1, (p1.1.2.1, (p1.1.2.2.1, (p1.1.2.2.2.1, (p1.1.2.2.2.2.1, (p1.1.2.2.2.2.2.1, (p1.1.2.2.2.2.2.2.1, (p1.1.2.2.2.2.2.2.2.1, (p1.1.2.2.2.2.2.2.2.2.1, ()))))))))), (false, ())), ((), ((), ())))))
else
some (((p1.1.1, (p1.1.2.1, (p1.1.2.2.1, (p1.1.2.2.2.1, (p1.1.2.2.2.2.1, (p1.1.2.2.2.2.2.1, (p1.1.2.2.2.2.2.2.1, (p1.1.2.2.2.2.2.2.2.1, (p1.1.2.2.2.2.2.2.2.2.1, ()))))))))), (false, ())), ((), ((), ()))))))
abbrev E_s_Take (k : Nat) : Entry := ⟨147, 0, (.cons (.agg yP4) (.cons (.agg yP7) .nil)), yP19, s_Take k⟩
theorem t_s_Take (k : Nat) (x) : evF TTab k [E_s_l01In k, E_s_l13Copy k, E_s_ChanOk k, E_s_PacketOk k, E_s_l13In k, E_s_l13Put k] [(0, ⟨[2, 3, 4, 6, 7, 8], (.cons (.ptr 0 yP4) (.cons (.ptr 0 yP7) (.cons (.ptr 0 yP1) (.cons (.ptr 0 yP1) (.cons (.own false 129 yT5) yP14)))))⟩, ⟨[2, 3, 4, 6, 7], (.cons (.ptr 0 yP4) (.cons (.ptr 0 yP7) (.cons (.ptr 0 yP1) (.cons (.ptr 0 yP1) (.cons (.own false 129 yT5) .nil)))))⟩)] Try.f147 (.cons (.agg yP4) (.cons (.agg yP7) .nil)) yP19 x = s_Take k x := by kernel_rfl
theorem e_s_Take [Names] (k : Nat) : EntryOk Try.prog (E_s_Take k) := entry_ok tok (es_cons (e_s_l01In k) (es_cons (e_s_l13Copy k) (es_cons (e_s_ChanOk k) (es_cons (e_s_PacketOk k) (es_cons (e_s_l13In k) (es_cons (e_s_l13Put k) es_nil)))))) (by kernel_rfl) (by kernel_rfl) (by kernel_rfl) fun x r h => (t_s_Take k x).trans h
def s_l14Deliver (k : Nat) (x : ((List (Int × Int × Int × List (ByteArray) × List (Int × ByteArray × Int × Int) × Int × List (Int × ByteArray) × List (Int) × List (ByteArray))) × Int × (List (Int × Int × Int × Int × Int × List (Int) × ByteArray)) × Unit) × (Int × Int × Int × Int × Int × List (Int) × ByteArray × Unit) × Unit) : Option (Unit × ((List (Int × Int × Int × List (ByteArray) × List (Int × ByteArray × Int × Int) × Int × List (Int × ByteArray) × List (Int) × List (ByteArray))) × Int × (List (Int × Int × Int × Int × Int × List (Int) × ByteArray)) × Unit) × Unit × Unit) :=
(if List.length ([] : List (Int × Int × Int × List (ByteArray) × List (Int × ByteArray × Int × Int) × Int × List (Int × ByteArray) × List (Int) × List (ByteArray))) + List.length x.1.1 ≤ capMax then
(whileK (fun (rec0 : (((List (Int × Int × Int × List (ByteArray) × List (Int × ByteArray × Int × Int) × Int × List (Int × ByteArray) × List (Int) × List (ByteArray))) × Int × (List (Int × Int × Int × Int × Int × List (Int) × ByteArray)) × Unit) × (Int × Int × Int × Int × Int × List (Int) × ByteArray × Unit) × (List (Int × Int × Int × List (ByteArray) × List (Int × ByteArray × Int × Int) × Int × List (Int × ByteArray) × List (Int) × List (ByteArray))) × Int × Unit) → Option _) (y0 : ((List (Int × Int × Int × List (ByteArray) × List (Int × ByteArray × Int × Int) × Int × List (Int × ByteArray) × List (Int) × List (ByteArray))) × Int × (List (Int × Int × Int × Int × Int × List (Int) × ByteArray)) × Unit) × (Int × Int × Int × Int × Int × List (Int) × ByteArray × Unit) × (List (Int × Int × Int × List (ByteArray) × List (Int × ByteArray × Int × Int) × Int × List (Int × ByteArray) × List (Int) × List (ByteArray))) × Int × Unit) =>
(if (decide (y0.2.2.2.1 < (List.length y0.2.2.1 : Int))) = true then
(if 0 ≤ y0.2.2.2.1 ∧ y0.2.2.2.1 < (List.length y0.2.2.1 : Int) then
(if (decide ((Ty.rd (t := yT2) y0.2.2.1 y0.2.2.2.1).1 = y0.2.1.2.2.2.1)) = true then
(if 0 ≤ y0.2.2.2.1 ∧ y0.2.2.2.1 < (List.length y0.2.2.1 : Int) then
((s_Take k (((Ty.rd (t := yT2) y0.2.2.1 y0.2.2.2.1).1, ((Ty.rd (t := yT2) y0.2.2.1 y0.2.2.2.1).2.1, ((Ty.rd (t := yT2) y0.2.2.1 y0.2.2.2.1).2.2.1, ((Ty.rd (t := yT2) y0.2.2.1 y0.2.2.2.1).2.2.2.1, ((Ty.rd (t := yT2) y0.2.2.1 y0.2.2.2.1).2.2.2.2.1, ((Ty.rd (t := yT2) y0.2.2.1 y0.2.2.2.1).2.2.2.2.2.1, ((Ty.rd (t := yT2) y0.2.2.1 y0.2.2.2.1).2.2.2.2.2.2.1, ((Ty.rd (t := yT2) y0.2.2.1 y0.2.2.2.1).2.2.2.2.2.2.2.1, ((Ty.rd (t := yT2) y0.2.2.1 y0.2.2.2.1).2.2.2.2.2.2.2.2, ()))))))))), ((y0.2.1.1, (y0.2.1.2.1, (y0.2.1.2.2.1, (y0.2.1.2.2.2.1, (y0.2.1.2.2.2.2.1, (y0.2.1.2.2.2.2.2.1, (y0.2.1.2.2.2.2.2.2.1, ()))))))), ()))).bind fun p1 =>
(if 0 ≤ y0.2.2.2.1 ∧ y0.2.2.2.1 < (List.length y0.2.2.1 : Int) then
(rec0 ((y0.1.1, (y0.1.2.1, (y0.1.2.2.1, ()))), ((y0.2.1.1, (y0.2.1.2.1, (y0.2.1.2.2.1, (y0.2.1.2.2.2.1, (y0.2.1.2.2.2.2.1, (y0.2.1.2.2.2.2.2.1, (y0.2.1.2.2.2.2.2.2.1, ()))))))), ((List.set y0.2.2.1 (Int.toNat y0.2.2.2.1) (p1.1.1.1, (p1.1.1.2.1, (p1.1.1.2.2.1, (p1.1.1.2.2.2.1, (p1.1.1.2.2.2.2.1, (p1.1.1.2.2.2.2.2.1, (p1.1.1.2.2.2.2.2.2.1, (p1.1.1.2.2.2.2.2.2.2.1, p1.1.1.2.2.2.2.2.2.2.2.1))))))))), ((wi64 (y0.2.2.2.1 + (1 : Int))), ())))))
else none))
else none)
else
(rec0 ((y0.1.1, (y0.1.2.1, (y0.1.2.2.1, ()))), ((y0.2.1.1, (y0.2.1.2.1, (y0.2.1.2.2.1, (y0.2.1.2.2.2.1, (y0.2.1.2.2.2.2.1, (y0.2.1.2.2.2.2.2.1, (y0.2.1.2.2.2.2.2.2.1, ()))))))), (y0.2.2.1, ((wi64 (y0.2.2.2.1 + (1 : Int))), ()))))))
else none)
else
((fun (z1 : ((List (Int × Int × Int × List (ByteArray) × List (Int × ByteArray × Int × Int) × Int × List (Int × ByteArray) × List (Int) × List (ByteArray))) × Int × (List (Int × Int × Int × Int × Int × List (Int) × ByteArray)) × Unit) × (List (Int × Int × Int × List (ByteArray) × List (Int × ByteArray × Int × Int) × Int × List (Int × ByteArray) × List (Int) × List (ByteArray))) × Unit) =>
some ((), ((z1.2.1, (z1.1.2.1, (z1.1.2.2.1, ()))), ((), ())))) ((y0.1.1, (y0.1.2.1, (y0.1.2.2.1, ()))), (y0.2.2.1, ()))))) k ((x.1.1, (x.1.2.1, (x.1.2.2.1, ()))), ((x.2.1.1, (x.2.1.2.1, (x.2.1.2.2.1, (x.2.1.2.2.2.1, (x.2.1.2.2.2.2.1, (x.2.1.2.2.2.2.2.1, (x.2.1.2.2.2.2.2.2.1, ()))))))), ((([] : List (Int × Int × Int × List (ByteArray) × List (Int × ByteArray × Int × Int) × Int × List (Int × ByteArray) × List (Int) × List (ByteArray))) ++ x.1.1), ((0 : Int), ())))))
else none)
abbrev E_s_l14Deliver (k : Nat) : Entry := ⟨108, 0, (.cons (.ptr 0 yP12) (.cons (.agg yP7) .nil)), (.tup .nil), s_l14Deliver k⟩
theorem t_s_l14Deliver (k : Nat) (x) : evF TTab k [E_s_Take k] [(0, ⟨[0, 3, 4, 5], (.cons (.ptr 0 yP12) (.cons (.ptr 0 yP7) (.cons (.own false 68 yT2) yP14)))⟩, ⟨[0, 4], (.cons (.ptr 0 yP12) (.cons (.own false 68 yT2) .nil))⟩)] Try.f108 (.cons (.ptr 0 yP12) (.cons (.agg yP7) .nil)) (.tup .nil) x = s_l14Deliver k x := by kernel_rfl
theorem e_s_l14Deliver [Names] (k : Nat) : EntryOk Try.prog (E_s_l14Deliver k) := entry_ok tok (es_cons (e_s_Take k) es_nil) (by kernel_rfl) (by kernel_rfl) (by kernel_rfl) fun x r h => (t_s_l14Deliver k x).trans h
def s_l14Do (k : Nat) (x : ((List (Int × Int × Int × List (ByteArray) × List (Int × ByteArray × Int × Int) × Int × List (Int × ByteArray) × List (Int) × List (ByteArray))) × Int × (List (Int × Int × Int × Int × Int × List (Int) × ByteArray)) × Unit) × (Int × Int × Int × Unit) × Unit) : Option (Unit × ((List (Int × Int × Int × List (ByteArray) × List (Int × ByteArray × Int × Int) × Int × List (Int × ByteArray) × List (Int) × List (ByteArray))) × Int × (List (Int × Int × Int × Int × Int × List (Int) × ByteArray)) × Unit) × Unit × Unit) :=
(if (decide (x.2.1.1 = (1 : Int))) = true then
((s_l14Send k ((x.1.1, (x.1.2.1, (x.1.2.2.1, ()))), (x.2.1.2.1, ()))).bind fun p1 =>
some ((), ((p1.2.1.1, (p1.2.1.2.1, (p1.2.1.2.2.1, ()))), ((), ()))))
else
(if (decide ((List.length x.1.2.2.1 : Int) = (0 : Int))) = true then
some ((), ((x.1.1, (x.1.2.1, (x.1.2.2.1, ()))), ((), ())))
else
(if (List.length x.1.2.2.1 : Int) = 0 then
none
else
(if 0 ≤ (Int.tmod x.2.1.2.2.1 (List.length x.1.2.2.1 : Int)) ∧ (Int.tmod x.2.1.2.2.1 (List.length x.1.2.2.1 : Int)) < (List.length x.1.2.2.1 : Int) then
(if (decide (x.2.1.1 = (4 : Int))) = true then
(if List.length ([] : List (Int × Int × Int × Int × Int × List (Int) × ByteArray)) + List.length x.1.2.2.1 ≤ capMax then
(if List.length (([] : List (Int × Int × Int × Int × Int × List (Int) × ByteArray)) ++ x.1.2.2.1) + List.length ([((Ty.rd (t := yT3) x.1.2.2.1 (Int.tmod x.2.1.2.2.1 (List.length x.1.2.2.1 : Int))).1, ((Ty.rd (t := yT3) x.1.2.2.1 (Int.tmod x.2.1.2.2.1 (List.length x.1.2.2.1 : Int))).2.1, ((Ty.rd (t := yT3) x.1.2.2.1 (Int.tmod x.2.1.2.2.1 (List.length x.1.2.2.1 : Int))).2.2.1, ((Ty.rd (t := yT3) x.1.2.2.1 (Int.tmod x.2.1.2.2.1 (List.length x.1.2.2.1 : Int))).2.2.2.1, ((Ty.rd (t := yT3) x.1.2.2.1 (Int.tmod x.2.1.2.2.1 (List.length x.1.2.2.1 : Int))).2.2.2.2.1, ((Ty.rd (t := yT3) x.1.2.2.1 (Int.tmod x.2.1.2.2.1 (List.length x.1.2.2.1 : Int))).2.2.2.2.2.1, (Ty.rd (t := yT3) x.1.2.2.1 (Int.tmod x.2.1.2.2.1 (List.length x.1.2.2.1 : Int))).2.2.2.2.2.2))))))] : List (Int × Int × Int × Int × Int × List (Int) × ByteArray)) ≤ capMax then
some ((), ((x.1.1, (x.1.2.1, (((([] : List (Int × Int × Int × Int × Int × List (Int) × ByteArray)) ++ x.1.2.2.1) ++ ([((Ty.rd (t := yT3) x.1.2.2.1 (Int.tmod x.2.1.2.2.1 (List.length x.1.2.2.1 : Int))).1, ((Ty.rd (t := yT3) x.1.2.2.1 (Int.tmod x.2.1.2.2.1 (List.length x.1.2.2.1 : Int))).2.1, ((Ty.rd (t := yT3) x.1.2.2.1 (Int.tmod x.2.1.2.2.1 (List.length x.1.2.2.1 : Int))).2.2.1, ((Ty.rd (t := yT3) x.1.2.2.1 (Int.tmod x.2.1.2.2.1 (List.length x.1.2.2.1 : Int))).2.2.2.1, ((Ty.rd (t := yT3) x.1.2.2.1 (Int.tmod x.2.1.2.2.1 (List.length x.1.2.2.1 : Int))).2.2.2.2.1, ((Ty.rd (t := yT3) x.1.2.2.1 (Int.tmod x.2.1.2.2.1 (List.length x.1.2.2.1 : Int))).2.2.2.2.2.1, (Ty.rd (t := yT3) x.1.2.2.1 (Int.tmod x.2.1.2.2.1 (List.length x.1.2.2.1 : Int))).2.2.2.2.2.2))))))] : List (Int × Int × Int × Int × Int × List (Int) × ByteArray))), ()))), ((), ())))
else none)
else none)
else
(if 0 ≤ (Int.tmod x.2.1.2.2.1 (List.length x.1.2.2.1 : Int)) ∧ (Int.tmod x.2.1.2.2.1 (List.length x.1.2.2.1 : Int)) ≤ (List.length x.1.2.2.1 : Int) then
(if List.length ([] : List (Int × Int × Int × Int × Int × List (Int) × ByteArray)) + List.length (List.drop (Int.toNat (0 : Int)) (List.take (Int.toNat (Int.tmod x.2.1.2.2.1 (List.length x.1.2.2.1 : Int))) x.1.2.2.1)) ≤ capMax then
(if 0 ≤ (wi64 ((Int.tmod x.2.1.2.2.1 (List.length x.1.2.2.1 : Int)) + (1 : Int))) ∧ (wi64 ((Int.tmod x.2.1.2.2.1 (List.length x.1.2.2.1 : Int)) + (1 : Int))) ≤ (List.length x.1.2.2.1 : Int) then
(if List.length (([] : List (Int × Int × Int × Int × Int × List (Int) × ByteArray)) ++ (List.drop (Int.toNat (0 : Int)) (List.take (Int.toNat (Int.tmod x.2.1.2.2.1 (List.length x.1.2.2.1 : Int))) x.1.2.2.1))) + List.length (List.drop (Int.toNat (wi64 ((Int.tmod x.2.1.2.2.1 (List.length x.1.2.2.1 : Int)) + (1 : Int)))) (List.take (Int.toNat (List.length x.1.2.2.1 : Int)) x.1.2.2.1)) ≤ capMax then
(if (decide (x.2.1.1 = (2 : Int))) = true then
((s_l14Deliver k ((x.1.1, (x.1.2.1, (((([] : List (Int × Int × Int × Int × Int × List (Int) × ByteArray)) ++ (List.drop (Int.toNat (0 : Int)) (List.take (Int.toNat (Int.tmod x.2.1.2.2.1 (List.length x.1.2.2.1 : Int))) x.1.2.2.1))) ++ (List.drop (Int.toNat (wi64 ((Int.tmod x.2.1.2.2.1 (List.length x.1.2.2.1 : Int)) + (1 : Int)))) (List.take (Int.toNat (List.length x.1.2.2.1 : Int)) x.1.2.2.1))), ()))), (((Ty.rd (t := yT3) x.1.2.2.1 (Int.tmod x.2.1.2.2.1 (List.length x.1.2.2.1 : Int))).1, ((Ty.rd (t := yT3) x.1.2.2.1 (Int.tmod x.2.1.2.2.1 (List.length x.1.2.2.1 : Int))).2.1, ((Ty.rd (t := yT3) x.1.2.2.1 (Int.tmod x.2.1.2.2.1 (List.length x.1.2.2.1 : Int))).2.2.1, ((Ty.rd (t := yT3) x.1.2.2.1 (Int.tmod x.2.1.2.2.1 (List.length x.1.2.2.1 : Int))).2.2.2.1, ((Ty.rd (t := yT3) x.1.2.2.1 (Int.tmod x.2.1.2.2.1 (List.length x.1.2.2.1 : Int))).2.2.2.2.1, ((Ty.rd (t := yT3) x.1.2.2.1 (Int.tmod x.2.1.2.2.1 (List.length x.1.2.2.1 : Int))).2.2.2.2.2.1, ((Ty.rd (t := yT3) x.1.2.2.1 (Int.tmod x.2.1.2.2.1 (List.length x.1.2.2.1 : Int))).2.2.2.2.2.2, ()))))))), ()))).bind fun p2 =>
some ((), ((p2.2.1.1, (p2.2.1.2.1, (p2.2.1.2.2.1, ()))), ((), ()))))
else
some ((), ((x.1.1, (x.1.2.1, (((([] : List (Int × Int × Int × Int × Int × List (Int) × ByteArray)) ++ (List.drop (Int.toNat (0 : Int)) (List.take (Int.toNat (Int.tmod x.2.1.2.2.1 (List.length x.1.2.2.1 : Int))) x.1.2.2.1))) ++ (List.drop (Int.toNat (wi64 ((Int.tmod x.2.1.2.2.1 (List.length x.1.2.2.1 : Int)) + (1 : Int)))) (List.take (Int.toNat (List.length x.1.2.2.1 : Int)) x.1.2.2.1))), ()))), ((), ()))))
else none)
else none)
else none)
else none))
else none))))
abbrev E_s_l14Do (k : Nat) : Entry := ⟨91, 0, (.cons (.ptr 0 yP12) (.cons (.agg (.cons (.int .i64) yP9)) .nil)), (.tup .nil), s_l14Do k⟩
theorem t_s_l14Do (k : Nat) (x) : evF TTab k [E_s_l14Send k, E_s_l14Deliver k] [] Try.f91 (.cons (.ptr 0 yP12) (.cons (.agg (.cons (.int .i64) yP9)) .nil)) (.tup .nil) x = s_l14Do k x := by kernel_rfl
theorem e_s_l14Do [Names] (k : Nat) : EntryOk Try.prog (E_s_l14Do k) := entry_ok tok (es_cons (e_s_l14Send k) (es_cons (e_s_l14Deliver k) es_nil)) (by kernel_rfl) (by kernel_rfl) (by kernel_rfl) fun x r h => (t_s_l14Do k x).trans h
def s_l12CopyPackets (k : Nat) (x : (List (Int × Int × Int × Int × Int × List (Int) × ByteArray)) × Unit) : Option ((List (Int × Int × Int × Int × Int × List (Int) × ByteArray)) × Unit × Unit) :=
(whileK (fun (rec0 : ((List (Int × Int × Int × Int × Int × List (Int) × ByteArray)) × (List (Int × Int × Int × Int × Int × List (Int) × ByteArray)) × Int × Unit) → Option _) (y0 : (List (Int × Int × Int × Int × Int × List (Int) × ByteArray)) × (List (Int × Int × Int × Int × Int × List (Int) × ByteArray)) × Int × Unit) =>
(if (decide (y0.2.2.1 < (List.length y0.1 : Int))) = true then
(if 0 ≤ y0.2.2.1 ∧ y0.2.2.1 < (List.length y0.1 : Int) then
(if List.length ([] : List (Int)) + List.length (Ty.rd (t := yT3) y0.1 y0.2.2.1).2.2.2.2.2.1 ≤ capMax then
(if List.length y0.2.1 + List.length ([((Ty.rd (t := yT3) y0.1 y0.2.2.1).1, ((Ty.rd (t := yT3) y0.1 y0.2.2.1).2.1, ((Ty.rd (t := yT3) y0.1 y0.2.2.1).2.2.1, ((Ty.rd (t := yT3) y0.1 y0.2.2.1).2.2.2.1, ((Ty.rd (t := yT3) y0.1 y0.2.2.1).2.2.2.2.1, ((([] : List (Int)) ++ (Ty.rd (t := yT3) y0.1 y0.2.2.1).2.2.2.2.2.1), (Ty.rd (t := yT3) y0.1 y0.2.2.1).2.2.2.2.2.2))))))] : List (Int × Int × Int × Int × Int × List (Int) × ByteArray)) ≤ capMax then
(rec0 (y0.1, ((y0.2.1 ++ ([((Ty.rd (t := yT3) y0.1 y0.2.2.1).1, ((Ty.rd (t := yT3) y0.1 y0.2.2.1).2.1, ((Ty.rd (t := yT3) y0.1 y0.2.2.1).2.2.1, ((Ty.rd (t := yT3) y0.1 y0.2.2.1).2.2.2.1, ((Ty.rd (t := yT3) y0.1 y0.2.2.1).2.2.2.2.1, ((([] : List (Int)) ++ (Ty.rd (t := yT3) y0.1 y0.2.2.1).2.2.2.2.2.1), (Ty.rd (t := yT3) y0.1 y0.2.2.1).2.2.2.2.2.2))))))] : List (Int × Int × Int × Int × Int × List (Int) × ByteArray))), ((wi64 (y0.2.2.1 + (1 : Int))), ()))))
else none)
else none)
else none)
else
((fun (z1 : (List (Int × Int × Int × Int × Int × List (Int) × ByteArray)) × Unit) =>
some (z1.1, ((), ()))) (y0.2.1, ())))) k (x.1, (([] : List (Int × Int × Int × Int × Int × List (Int) × ByteArray)), ((0 : Int), ()))))
abbrev E_s_l12CopyPackets (k : Nat) : Entry := ⟨134, 0, (.cons (.il true yT3) .nil), (.own false 122 yT3), s_l12CopyPackets k⟩
theorem t_s_l12CopyPackets (k : Nat) (x) : evF TTab k [] [(0, ⟨[0, 3, 4], (.cons (.il true yT3) (.cons (.own false 122 yT3) yP14))⟩, ⟨[3], (.cons (.own false 122 yT3) .nil)⟩)] Try.f134 (.cons (.il true yT3) .nil) (.own false 122 yT3) x = s_l12CopyPackets k x := by kernel_rfl
theorem e_s_l12CopyPackets [Names] (k : Nat) : EntryOk Try.prog (E_s_l12CopyPackets k) := entry_ok tok es_nil (by kernel_rfl) (by kernel_rfl) (by kernel_rfl) fun x r h => (t_s_l12CopyPackets k x).trans h
def s_l14Copy (k : Nat) (x : ((List (Int × Int × Int × List (ByteArray) × List (Int × ByteArray × Int × Int) × Int × List (Int × ByteArray) × List (Int) × List (ByteArray))) × Int × (List (Int × Int × Int × Int × Int × List (Int) × ByteArray)) × Unit) × Unit) : Option (((List (Int × Int × Int × List (ByteArray) × List (Int × ByteArray × Int × Int) × Int × List (Int × ByteArray) × List (Int) × List (ByteArray))) × Int × (List (Int × Int × Int × Int × Int × List (Int) × ByteArray)) × Unit) × Unit × Unit) :=
((s_l12CopyPackets k (x.1.2.2.1, ())).bind fun p1 =>
(whileK (fun (rec0 : (((List (Int × Int × Int × List (ByteArray) × List (Int × ByteArray × Int × Int) × Int × List (Int × ByteArray) × List (Int) × List (ByteArray))) × Int × (List (Int × Int × Int × Int × Int × List (Int) × ByteArray)) × Unit) × ((List (Int × Int × Int × List (ByteArray) × List (Int × ByteArray × Int × Int) × Int × List (Int × ByteArray) × List (Int) × List (ByteArray))) × Int × (List (Int × Int × Int × Int × Int × List (Int) × ByteArray)) × Unit) × ((List (Int × Int × Int × List (ByteArray) × List (Int × ByteArray × Int × Int) × Int × List (Int × ByteArray) × List (Int) × List (ByteArray))) × Int × (List (Int × Int × Int × Int × Int × List (Int) × ByteArray)) × Unit) × Int × Unit) → Option _) (y0 : ((List (Int × Int × Int × List (ByteArray) × List (Int × ByteArray × Int × Int) × Int × List (Int × ByteArray) × List (Int) × List (ByteArray))) × Int × (List (Int × Int × Int × Int × Int × List (Int) × ByteArray)) × Unit) × ((List (Int × Int × Int × List (ByteArray) × List (Int × ByteArray × Int × Int) × Int × List (Int × ByteArray) × List (Int) × List (ByteArray))) × Int × (List (Int × Int × Int × Int × Int × List (Int) × ByteArray)) × Unit) × ((List (Int × Int × Int × List (ByteArray) × List (Int × ByteArray × Int × Int) × Int × List (Int × ByteArray) × List (Int) × List (ByteArray))) × Int × (List (Int × Int × Int × Int × Int × List (Int) × ByteArray)) × Unit) × Int × Unit) =>
(if (decide (y0.2.2.2.1 < (List.length y0.1.1 : Int))) = true then
(if 0 ≤ y0.2.2.2.1 ∧ y0.2.2.2.1 < (List.length y0.1.1 : Int) then
((s_l13Copy k (((Ty.rd (t := yT2) y0.1.1 y0.2.2.2.1).1, ((Ty.rd (t := yT2) y0.1.1 y0.2.2.2.1).2.1, ((Ty.rd (t := yT2) y0.1.1 y0.2.2.2.1).2.2.1, ((Ty.rd (t := yT2) y0.1.1 y0.2.2.2.1).2.2.2.1, ((Ty.rd (t := yT2) y0.1.1 y0.2.2.2.1).2.2.2.2.1, ((Ty.rd (t := yT2) y0.1.1 y0.2.2.2.1).2.2.2.2.2.1, ((Ty.rd (t := yT2) y0.1.1 y0.2.2.2.1).2.2.2.2.2.2.1, ((Ty.rd (t := yT2) y0.1.1 y0.2.2.2.1).2.2.2.2.2.2.2.1, ((Ty.rd (t := yT2) y0.1.1 y0.2.2.2.1).2.2.2.2.2.2.2.2, ()))))))))), ())).bind fun p2 =>
(if List.length y0.2.2.1.1 + List.length ([(p2.1.1, (p2.1.2.1, (p2.1.2.2.1, (p2.1.2.2.2.1, (p2.1.2.2.2.2.1, (p2.1.2.2.2.2.2.1, (p2.1.2.2.2.2.2.2.1, (p2.1.2.2.2.2.2.2.2.1, p2.1.2.2.2.2.2.2.2.2.1))))))))] : List (Int × Int × Int × List (ByteArray) × List (Int × ByteArray × Int × Int) × Int × List (Int × ByteArray) × List (Int) × List (ByteArray))) ≤ capMax then
(rec0 ((y0.1.1, (y0.1.2.1, (y0.1.2.2.1, ()))), ((y0.2.1.1, (y0.2.1.2.1, (y0.2.1.2.2.1, ()))), (((y0.2.2.1.1 ++ ([(p2.1.1, (p2.1.2.1, (p2.1.2.2.1, (p2.1.2.2.2.1, (p2.1.2.2.2.2.1, (p2.1.2.2.2.2.2.1, (p2.1.2.2.2.2.2.2.1, (p2.1.2.2.2.2.2.2.2.1, p2.1.2.2.2.2.2.2.2.2.1))))))))] : List (Int × Int × Int × List (ByteArray) × List (Int × ByteArray × Int × Int) × Int × List (Int × ByteArray) × List (Int) × List (ByteArray)))), (y0.2.2.1.2.1, (y0.2.2.1.2.2.1, ()))), ((wi64 (y0.2.2.2.1 + (1 : Int))), ())))))
else none))
else none)
else
((fun (z1 : ((List (Int × Int × Int × List (ByteArray) × List (Int × ByteArray × Int × Int) × Int × List (Int × ByteArray) × List (Int) × List (ByteArray))) × Int × (List (Int × Int × Int × Int × Int × List (Int) × ByteArray)) × Unit) × ((List (Int × Int × Int × List (ByteArray) × List (Int × ByteArray × Int × Int) × Int × List (Int × ByteArray) × List (Int) × List (ByteArray))) × Int × (List (Int × Int × Int × Int × Int × List (Int) × ByteArray)) × Unit) × Unit) =>
some ((z1.2.1.1, (z1.2.1.2.1, (z1.2.1.2.2.1, ()))), ((), ()))) ((y0.2.1.1, (y0.2.1.2.1, (y0.2.1.2.2.1, ()))), ((y0.2.2.1.1, (y0.2.2.1.2.1, (y0.2.2.1.2.2.1, ()))), ()))))) k ((x.1.1, (x.1.2.1, (x.1.2.2.1, ()))), (([], ((0 : Int), ([], ()))), (([], (x.1.2.1, (p1.1, ()))), ((0 : Int), ()))))))
abbrev E_s_l14Copy (k : Nat) : Entry := ⟨92, 0, (.cons (.agg (.cons (.il true yT2) (.cons (.int .i64) (.cons (.il true yT3) .nil)))) .nil), (.agg yP12), s_l14Copy k⟩
theorem t_s_l14Copy (k : Nat) (x) : evF TTab k [E_s_l13Copy k, E_s_l12CopyPackets k] [(0, ⟨[1, 2, 3, 4], (.cons (.ptr 0 (.cons (.il true yT2) (.cons (.int .i64) (.cons (.il true yT3) .nil)))) (.cons (.ptr 0 yP12) (.cons (.ptr 0 yP12) yP14)))⟩, ⟨[2, 3], (.cons (.ptr 0 yP12) (.cons (.ptr 0 yP12) .nil))⟩)] Try.f92 (.cons (.agg (.cons (.il true yT2) (.cons (.int .i64) (.cons (.il true yT3) .nil)))) .nil) (.agg yP12) x = s_l14Copy k x := by kernel_rfl
theorem e_s_l14Copy [Names] (k : Nat) : EntryOk Try.prog (E_s_l14Copy k) := entry_ok tok (es_cons (e_s_l13Copy k) (es_cons (e_s_l12CopyPackets k) es_nil)) (by kernel_rfl) (by kernel_rfl) (by kernel_rfl) fun x r h => (t_s_l14Copy k x).trans h
def s_RunTalk (k : Nat) (x : List (ByteArray) × List (ByteArray) × (List (Int × Int × Int)) × Unit) : Option ((((List (Int × Int × Int × List (ByteArray) × List (Int × ByteArray × Int × Int) × Int × List (Int × ByteArray) × List (Int) × List (ByteArray))) × Int × (List (Int × Int × Int × Int × Int × List (Int) × ByteArray)) × Unit) × Bool × Unit) × Unit × Unit × Unit × Unit) :=
(if (decide ((List.length x.1 : Int) ≤ (20 : Int))) = true then
(if (decide ((List.length x.2.1 : Int) ≤ (20 : Int))) = true then
(jn (fun (z1 : List (ByteArray) × List (ByteArray) × (List (Int × Int × Int)) × ((List (Int × Int × Int × List (ByteArray) × List (Int × ByteArray × Int × Int) × Int × List (Int × ByteArray) × List (Int) × List (ByteArray))) × Int × (List (Int × Int × Int × Int × Int × List (Int) × ByteArray)) × Unit) × Bool × Unit) =>
(if (!z1.2.2.2.2.1) = true then
some ((([], ((0 : Int), ([], ()))), (false, ())), ((), ((), ((), ()))))
else
((s_ChanNew k ((1 : Int), ((2 : Int), ()))).bind fun p2 =>
((s_ChanNew k ((2 : Int), ((1 : Int), ()))).bind fun p3 =>
(whileK (fun (rec2 : (List (ByteArray) × List (ByteArray) × (List (Int × Int × Int)) × ((List (Int × Int × Int × List (ByteArray) × List (Int × ByteArray × Int × Int) × Int × List (Int × ByteArray) × List (Int) × List (ByteArray))) × Int × (List (Int × Int × Int × Int × Int × List (Int) × ByteArray)) × Unit) × (Int × Int × Int × List (ByteArray) × (List (Int × ByteArray × Int × Int)) × Int × (List (Int × ByteArray)) × List (Int) × List (ByteArray) × Unit) × (Int × Int × Int × List (ByteArray) × (List (Int × ByteArray × Int × Int)) × Int × (List (Int × ByteArray)) × List (Int) × List (ByteArray) × Unit) × Int × Unit) → Option _) (y2 : List (ByteArray) × List (ByteArray) × (List (Int × Int × Int)) × ((List (Int × Int × Int × List (ByteArray) × List (Int × ByteArray × Int × Int) × Int × List (Int × ByteArray) × List (Int) × List (ByteArray))) × Int × (List (Int × Int × Int × Int × Int × List (Int) × ByteArray)) × Unit) × (Int × Int × Int × List (ByteArray) × (List (Int × ByteArray × Int × Int)) × Int × (List (Int × ByteArray)) × List (Int) × List (ByteArray) × Unit) × (Int × Int × Int × List (ByteArray) × (List (Int × ByteArray × Int × Int)) × Int × (List (Int × ByteArray)) × List (Int) × List (ByteArray) × Unit) × Int × Unit) =>
(if (decide (y2.2.2.2.2.2.2.1 < (List.length y2.1 : Int))) = true then
(if 0 ≤ y2.2.2.2.2.2.2.1 ∧ y2.2.2.2.2.2.2.1 < (List.length y2.1 : Int) then
((s_Push k ((y2.2.2.2.2.1.1, (y2.2.2.2.2.1.2.1, (y2.2.2.2.2.1.2.2.1, (y2.2.2.2.2.1.2.2.2.1, (y2.2.2.2.2.1.2.2.2.2.1, (y2.2.2.2.2.1.2.2.2.2.2.1, (y2.2.2.2.2.1.2.2.2.2.2.2.1, (y2.2.2.2.2.1.2.2.2.2.2.2.2.1, (y2.2.2.2.2.1.2.2.2.2.2.2.2.2.1, ()))))))))), ((Ty.rd (t := .str) y2.1 y2.2.2.2.2.2.2.1), ()))).bind fun p4 =>
(rec2 (y2.1, (y2.2.1, (y2.2.2.1, ((y2.2.2.2.1.1, (y2.2.2.2.1.2.1, (y2.2.2.2.1.2.2.1, ()))), ((p4.1.1.1, (p4.1.1.2.1, (p4.1.1.2.2.1, (p4.1.1.2.2.2.1, (p4.1.1.2.2.2.2.1, (p4.1.1.2.2.2.2.2.1, (p4.1.1.2.2.2.2.2.2.1, (p4.1.1.2.2.2.2.2.2.2.1, (p4.1.1.2.2.2.2.2.2.2.2.1, ()))))))))), ((y2.2.2.2.2.2.1.1, (y2.2.2.2.2.2.1.2.1, (y2.2.2.2.2.2.1.2.2.1, (y2.2.2.2.2.2.1.2.2.2.1, (y2.2.2.2.2.2.1.2.2.2.2.1, (y2.2.2.2.2.2.1.2.2.2.2.2.1, (y2.2.2.2.2.2.1.2.2.2.2.2.2.1, (y2.2.2.2.2.2.1.2.2.2.2.2.2.2.1, (y2.2.2.2.2.2.1.2.2.2.2.2.2.2.2.1, ()))))))))), ((wi64 (y2.2.2.2.2.2.2.1 + (1 : Int))), ())))))))))
else none)
else
((fun (z2 : List (ByteArray) × (List (Int × Int × Int)) × ((List (Int × Int × Int × List (ByteArray) × List (Int × ByteArray × Int × Int) × Int × List (Int × ByteArray) × List (Int) × List (ByteArray))) × Int × (List (Int × Int × Int × Int × Int × List (Int) × ByteArray)) × Unit) × (Int × Int × Int × List (ByteArray) × (List (Int × ByteArray × Int × Int)) × Int × (List (Int × ByteArray)) × List (Int) × List (ByteArray) × Unit) × (Int × Int × Int × List (ByteArray) × (List (Int × ByteArray × Int × Int)) × Int × (List (Int × ByteArray)) × List (Int) × List (ByteArray) × Unit) × Unit) =>
(whileK (fun (rec4 : (List (ByteArray) × (List (Int × Int × Int)) × ((List (Int × Int × Int × List (ByteArray) × List (Int × ByteArray × Int × Int) × Int × List (Int × ByteArray) × List (Int) × List (ByteArray))) × Int × (List (Int × Int × Int × Int × Int × List (Int) × ByteArray)) × Unit) × (Int × Int × Int × List (ByteArray) × (List (Int × ByteArray × Int × Int)) × Int × (List (Int × ByteArray)) × List (Int) × List (ByteArray) × Unit) × (Int × Int × Int × List (ByteArray) × (List (Int × ByteArray × Int × Int)) × Int × (List (Int × ByteArray)) × List (Int) × List (ByteArray) × Unit) × Int × Unit) → Option _) (y4 : List (ByteArray) × (List (Int × Int × Int)) × ((List (Int × Int × Int × List (ByteArray) × List (Int × ByteArray × Int × Int) × Int × List (Int × ByteArray) × List (Int) × List (ByteArray))) × Int × (List (Int × Int × Int × Int × Int × List (Int) × ByteArray)) × Unit) × (Int × Int × Int × List (ByteArray) × (List (Int × ByteArray × Int × Int)) × Int × (List (Int × ByteArray)) × List (Int) × List (ByteArray) × Unit) × (Int × Int × Int × List (ByteArray) × (List (Int × ByteArray × Int × Int)) × Int × (List (Int × ByteArray)) × List (Int) × List (ByteArray) × Unit) × Int × Unit) =>
(if (decide (y4.2.2.2.2.2.1 < (List.length y4.1 : Int))) = true then
(if 0 ≤ y4.2.2.2.2.2.1 ∧ y4.2.2.2.2.2.1 < (List.length y4.1 : Int) then
((s_Push k ((y4.2.2.2.2.1.1, (y4.2.2.2.2.1.2.1, (y4.2.2.2.2.1.2.2.1, (y4.2.2.2.2.1.2.2.2.1, (y4.2.2.2.2.1.2.2.2.2.1, (y4.2.2.2.2.1.2.2.2.2.2.1, (y4.2.2.2.2.1.2.2.2.2.2.2.1, (y4.2.2.2.2.1.2.2.2.2.2.2.2.1, (y4.2.2.2.2.1.2.2.2.2.2.2.2.2.1, ()))))))))), ((Ty.rd (t := .str) y4.1 y4.2.2.2.2.2.1), ()))).bind fun p5 =>
(rec4 (y4.1, (y4.2.1, ((y4.2.2.1.1, (y4.2.2.1.2.1, (y4.2.2.1.2.2.1, ()))), ((y4.2.2.2.1.1, (y4.2.2.2.1.2.1, (y4.2.2.2.1.2.2.1, (y4.2.2.2.1.2.2.2.1, (y4.2.2.2.1.2.2.2.2.1, (y4.2.2.2.1.2.2.2.2.2.1, (y4.2.2.2.1.2.2.2.2.2.2.1, (y4.2.2.2.1.2.2.2.2.2.2.2.1, (y4.2.2.2.1.2.2.2.2.2.2.2.2.1, ()))))))))), ((p5.1.1.1, (p5.1.1.2.1, (p5.1.1.2.2.1, (p5.1.1.2.2.2.1, (p5.1.1.2.2.2.2.1, (p5.1.1.2.2.2.2.2.1, (p5.1.1.2.2.2.2.2.2.1, (p5.1.1.2.2.2.2.2.2.2.1, (p5.1.1.2.2.2.2.2.2.2.2.1, ()))))))))), ((wi64 (y4.2.2.2.2.2.1 + (1 : Int))), ()))))))))
else none)
else
((fun (z3 : (List (Int × Int × Int)) × ((List (Int × Int × Int × List (ByteArray) × List (Int × ByteArray × Int × Int) × Int × List (Int × ByteArray) × List (Int) × List (ByteArray))) × Int × (List (Int × Int × Int × Int × Int × List (Int) × ByteArray)) × Unit) × (Int × Int × Int × List (ByteArray) × (List (Int × ByteArray × Int × Int)) × Int × (List (Int × ByteArray)) × List (Int) × List (ByteArray) × Unit) × (Int × Int × Int × List (ByteArray) × (List (Int × ByteArray × Int × Int)) × Int × (List (Int × ByteArray)) × List (Int) × List (ByteArray) × Unit) × Unit) =>
(whileK (fun (rec6 : ((List (Int × Int × Int)) × ((List (Int × Int × Int × List (ByteArray) × List (Int × ByteArray × Int × Int) × Int × List (Int × ByteArray) × List (Int) × List (ByteArray))) × Int × (List (Int × Int × Int × Int × Int × List (Int) × ByteArray)) × Unit) × ((List (Int × Int × Int × List (ByteArray) × List (Int × ByteArray × Int × Int) × Int × List (Int × ByteArray) × List (Int) × List (ByteArray))) × Int × (List (Int × Int × Int × Int × Int × List (Int) × ByteArray)) × Unit) × Int × Unit) → Option _) (y6 : (List (Int × Int × Int)) × ((List (Int × Int × Int × List (ByteArray) × List (Int × ByteArray × Int × Int) × Int × List (Int × ByteArray) × List (Int) × List (ByteArray))) × Int × (List (Int × Int × Int × Int × Int × List (Int) × ByteArray)) × Unit) × ((List (Int × Int × Int × List (ByteArray) × List (Int × ByteArray × Int × Int) × Int × List (Int × ByteArray) × List (Int) × List (ByteArray))) × Int × (List (Int × Int × Int × Int × Int × List (Int) × ByteArray)) × Unit) × Int × Unit) =>
(if (decide (y6.2.2.2.1 < (List.length y6.1 : Int))) = true then
(if 0 ≤ y6.2.2.2.1 ∧ y6.2.2.2.1 < (List.length y6.1 : Int) then
((s_l14Do k ((y6.2.2.1.1, (y6.2.2.1.2.1, (y6.2.2.1.2.2.1, ()))), (((Ty.rd (t := yT8) y6.1 y6.2.2.2.1).1, ((Ty.rd (t := yT8) y6.1 y6.2.2.2.1).2.1, ((Ty.rd (t := yT8) y6.1 y6.2.2.2.1).2.2, ()))), ()))).bind fun p6 =>
(rec6 (y6.1, ((y6.2.1.1, (y6.2.1.2.1, (y6.2.1.2.2.1, ()))), ((p6.2.1.1, ((wi64 (p6.2.1.2.1 + (3 : Int))), (p6.2.1.2.2.1, ()))), ((wi64 (y6.2.2.2.1 + (1 : Int))), ()))))))
else none)
else
((fun (z4 : ((List (Int × Int × Int × List (ByteArray) × List (Int × ByteArray × Int × Int) × Int × List (Int × ByteArray) × List (Int) × List (ByteArray))) × Int × (List (Int × Int × Int × Int × Int × List (Int) × ByteArray)) × Unit) × ((List (Int × Int × Int × List (ByteArray) × List (Int × ByteArray × Int × Int) × Int × List (Int × ByteArray) × List (Int) × List (ByteArray))) × Int × (List (Int × Int × Int × Int × Int × List (Int) × ByteArray)) × Unit) × Unit) =>
((s_l14Copy k ((z4.2.1.1, (z4.2.1.2.1, (z4.2.1.2.2.1, ()))), ())).bind fun p7 =>
some (((p7.1.1, (p7.1.2.1, (p7.1.2.2.1, ()))), (true, ())), ((), ((), ((), ())))))) ((y6.2.1.1, (y6.2.1.2.1, (y6.2.1.2.2.1, ()))), ((y6.2.2.1.1, (y6.2.2.1.2.1, (y6.2.2.1.2.2.1, ()))), ()))))) k (z3.1, ((z3.2.1.1, (z3.2.1.2.1, (z3.2.1.2.2.1, ()))), ((([(z3.2.2.1.1, (z3.2.2.1.2.1, (z3.2.2.1.2.2.1, (z3.2.2.1.2.2.2.1, (z3.2.2.1.2.2.2.2.1, (z3.2.2.1.2.2.2.2.2.1, (z3.2.2.1.2.2.2.2.2.2.1, (z3.2.2.1.2.2.2.2.2.2.2.1, z3.2.2.1.2.2.2.2.2.2.2.2.1)))))))), (z3.2.2.2.1.1, (z3.2.2.2.1.2.1, (z3.2.2.2.1.2.2.1, (z3.2.2.2.1.2.2.2.1, (z3.2.2.2.1.2.2.2.2.1, (z3.2.2.2.1.2.2.2.2.2.1, (z3.2.2.2.1.2.2.2.2.2.2.1, (z3.2.2.2.1.2.2.2.2.2.2.2.1, z3.2.2.2.1.2.2.2.2.2.2.2.2.1))))))))] : List (Int × Int × Int × List (ByteArray) × List (Int × ByteArray × Int × Int) × Int × List (Int × ByteArray) × List (Int) × List (ByteArray))), ((0 : Int), ([], ()))), ((0 : Int), ())))))) (y4.2.1, ((y4.2.2.1.1, (y4.2.2.1.2.1, (y4.2.2.1.2.2.1, ()))), ((y4.2.2.2.1.1, (y4.2.2.2.1.2.1, (y4.2.2.2.1.2.2.1, (y4.2.2.2.1.2.2.2.1, (y4.2.2.2.1.2.2.2.2.1, (y4.2.2.2.1.2.2.2.2.2.1, (y4.2.2.2.1.2.2.2.2.2.2.1, (y4.2.2.2.1.2.2.2.2.2.2.2.1, (y4.2.2.2.1.2.2.2.2.2.2.2.2.1, ()))))))))), ((y4.2.2.2.2.1.1, (y4.2.2.2.2.1.2.1, (y4.2.2.2.2.1.2.2.1, (y4.2.2.2.2.1.2.2.2.1, (y4.2.2.2.2.1.2.2.2.2.1, (y4.2.2.2.2.1.2.2.2.2.2.1, (y4.2.2.2.2.1.2.2.2.2.2.2.1, (y4.2.2.2.2.1.2.2.2.2.2.2.2.1, (y4.2.2.2.2.1.2.2.2.2.2.2.2.2.1, ()))))))))), ()))))))) k (z2.1, (z2.2.1, ((z2.2.2.1.1, (z2.2.2.1.2.1, (z2.2.2.1.2.2.1, ()))), ((z2.2.2.2.1.1, (z2.2.2.2.1.2.1, (z2.2.2.2.1.2.2.1, (z2.2.2.2.1.2.2.2.1, (z2.2.2.2.1.2.2.2.2.1, (z2.2.2.2.1.2.2.2.2.2.1, (z2.2.2.2.1.2.2.2.2.2.2.1, (z2.2.2.2.1.2.2.2.2.2.2.2.1, (z2.2.2.2.1.2.2.2.2.2.2.2.2.1, ()))))))))), ((z2.2.2.2.2.1.1, (z2.2.2.2.2.1.2.1, (z2.2.2.2.2.1.2.2.1, (z2.2.2.2.2.1.2.2.2.1, (z2.2.2.2.2.1.2.2.2.2.1, (z2.2.2.2.2.1.2.2.2.2.2.1, (z2.2.2.2.2.1.2.2.2.2.2.2.1, (z2.2.2.2.2.1.2.2.2.2.2.2.2.1, (z2.2.2.2.2.1.2.2.2.2.2.2.2.2.1, ()))))))))), ((0 : Int), ())))))))) (y2.2.1, (y2.2.2.1, ((y2.2.2.2.1.1, (y2.2.2.2.1.2.1, (y2.2.2.2.1.2.2.1, ()))), ((y2.2.2.2.2.1.1, (y2.2.2.2.2.1.2.1, (y2.2.2.2.2.1.2.2.1, (y2.2.2.2.2.1.2.2.2.1, (y2.2.2.2.2.1.2.2.2.2.1, (y2.2.2.2.2.1.2.2.2.2.2.1, (y2.2.2.2.2.1.2.2.2.2.2.2.1, (y2.2.2.2.2.1.2.2.2.2.2.2.2.1, (y2.2.2.2.2.1.2.2.2.2.2.2.2.2.1, ()))))))))), ((y2.2.2.2.2.2.1.1, (y2.2.2.2.2.2.1.2.1, (y2.2.2.2.2.2.1.2.2.1, (y2.2.2.2.2.2.1.2.2.2.1, (y2.2.2.2.2.2.1.2.2.2.2.1, (y2.2.2.2.2.2.1.2.2.2.2.2.1, (y2.2.2.2.2.2.1.2.2.2.2.2.2.1, (y2.2.2.2.2.2.1.2.2.2.2.2.2.2.1, (y2.2.2.2.2.2.1.2.2.2.2.2.2.2.2.1, ()))))))))), ())))))))) k (z1.1, (z1.2.1, (z1.2.2.1, ((z1.2.2.2.1.1, (z1.2.2.2.1.2.1, (z1.2.2.2.1.2.2.1, ()))), ((p2.1.1.1, (p2.1.1.2.1, (p2.1.1.2.2.1, (p2.1.1.2.2.2.1, (p2.1.1.2.2.2.2.1, (p2.1.1.2.2.2.2.2.1, (p2.1.1.2.2.2.2.2.2.1, (p2.1.1.2.2.2.2.2.2.2.1, (p2.1.1.2.2.2.2.2.2.2.2.1, ()))))))))), ((p3.1.1.1, (p3.1.1.2.1, (p3.1.1.2.2.1, (p3.1.1.2.2.2.1, (p3.1.1.2.2.2.2.1, (p3.1.1.2.2.2.2.2.1, (p3.1.1.2.2.2.2.2.2.1, (p3.1.1.2.2.2.2.2.2.2.1, (p3.1.1.2.2.2.2.2.2.2.2.1, ()))))))))), ((0 : Int), ())))))))))))) (fun (E1 : (List (ByteArray) × List (ByteArray) × (List (Int × Int × Int)) × ((List (Int × Int × Int × List (ByteArray) × List (Int × ByteArray × Int × Int) × Int × List (Int × ByteArray) × List (Int) × List (ByteArray))) × Int × (List (Int × Int × Int × Int × Int × List (Int) × ByteArray)) × Unit) × Bool × Unit) → Option _) =>
(whileK (fun (rec0 : (List (ByteArray) × List (ByteArray) × (List (Int × Int × Int)) × ((List (Int × Int × Int × List (ByteArray) × List (Int × ByteArray × Int × Int) × Int × List (Int × ByteArray) × List (Int) × List (ByteArray))) × Int × (List (Int × Int × Int × Int × Int × List (Int) × ByteArray)) × Unit) × Bool × Int × Unit) → Option _) (y0 : List (ByteArray) × List (ByteArray) × (List (Int × Int × Int)) × ((List (Int × Int × Int × List (ByteArray) × List (Int × ByteArray × Int × Int) × Int × List (Int × ByteArray) × List (Int) × List (ByteArray))) × Int × (List (Int × Int × Int × Int × Int × List (Int) × ByteArray)) × Unit) × Bool × Int × Unit) =>
(if (decide (y0.2.2.2.2.2.1 < (List.length y0.2.2.1 : Int))) = true then
(if y0.2.2.2.2.1 = true then
(if 0 ≤ y0.2.2.2.2.2.1 ∧ y0.2.2.2.2.2.1 < (List.length y0.2.2.1 : Int) then
((s_TurnOk k (((Ty.rd (t := yT8) y0.2.2.1 y0.2.2.2.2.2.1).1, ((Ty.rd (t := yT8) y0.2.2.1 y0.2.2.2.2.2.1).2.1, ((Ty.rd (t := yT8) y0.2.2.1 y0.2.2.2.2.2.1).2.2, ()))), ())).bind fun p1 =>
(rec0 (y0.1, (y0.2.1, (y0.2.2.1, ((y0.2.2.2.1.1, (y0.2.2.2.1.2.1, (y0.2.2.2.1.2.2.1, ()))), (p1.1, ((wi64 (y0.2.2.2.2.2.1 + (1 : Int))), ()))))))))
else none)
else
(E1 (y0.1, (y0.2.1, (y0.2.2.1, ((y0.2.2.2.1.1, (y0.2.2.2.1.2.1, (y0.2.2.2.1.2.2.1, ()))), (y0.2.2.2.2.1, ())))))))
else
(E1 (y0.1, (y0.2.1, (y0.2.2.1, ((y0.2.2.2.1.1, (y0.2.2.2.1.2.1, (y0.2.2.2.1.2.2.1, ()))), (y0.2.2.2.2.1, ())))))))) k (x.1, (x.2.1, (x.2.2.1, (([], ((0 : Int), ([], ()))), ((decide ((List.length x.2.2.1 : Int) ≤ (100 : Int))), ((0 : Int), ())))))))))
else
(jn (fun (z5 : List (ByteArray) × List (ByteArray) × (List (Int × Int × Int)) × ((List (Int × Int × Int × List (ByteArray) × List (Int × ByteArray × Int × Int) × Int × List (Int × ByteArray) × List (Int) × List (ByteArray))) × Int × (List (Int × Int × Int × Int × Int × List (Int) × ByteArray)) × Unit) × Bool × Unit) =>
(if (!z5.2.2.2.2.1) = true then
some ((([], ((0 : Int), ([], ()))), (false, ())), ((), ((), ((), ()))))
else
((s_ChanNew k ((1 : Int), ((2 : Int), ()))).bind fun p9 =>
((s_ChanNew k ((2 : Int), ((1 : Int), ()))).bind fun p10 =>
(whileK (fun (rec2 : (List (ByteArray) × List (ByteArray) × (List (Int × Int × Int)) × ((List (Int × Int × Int × List (ByteArray) × List (Int × ByteArray × Int × Int) × Int × List (Int × ByteArray) × List (Int) × List (ByteArray))) × Int × (List (Int × Int × Int × Int × Int × List (Int) × ByteArray)) × Unit) × (Int × Int × Int × List (ByteArray) × (List (Int × ByteArray × Int × Int)) × Int × (List (Int × ByteArray)) × List (Int) × List (ByteArray) × Unit) × (Int × Int × Int × List (ByteArray) × (List (Int × ByteArray × Int × Int)) × Int × (List (Int × ByteArray)) × List (Int) × List (ByteArray) × Unit) × Int × Unit) → Option _) (y2 : List (ByteArray) × List (ByteArray) × (List (Int × Int × Int)) × ((List (Int × Int × Int × List (ByteArray) × List (Int × ByteArray × Int × Int) × Int × List (Int × ByteArray) × List (Int) × List (ByteArray))) × Int × (List (Int × Int × Int × Int × Int × List (Int) × ByteArray)) × Unit) × (Int × Int × Int × List (ByteArray) × (List (Int × ByteArray × Int × Int)) × Int × (List (Int × ByteArray)) × List (Int) × List (ByteArray) × Unit) × (Int × Int × Int × List (ByteArray) × (List (Int × ByteArray × Int × Int)) × Int × (List (Int × ByteArray)) × List (Int) × List (ByteArray) × Unit) × Int × Unit) =>
(if (decide (y2.2.2.2.2.2.2.1 < (List.length y2.1 : Int))) = true then
(if 0 ≤ y2.2.2.2.2.2.2.1 ∧ y2.2.2.2.2.2.2.1 < (List.length y2.1 : Int) then
((s_Push k ((y2.2.2.2.2.1.1, (y2.2.2.2.2.1.2.1, (y2.2.2.2.2.1.2.2.1, (y2.2.2.2.2.1.2.2.2.1, (y2.2.2.2.2.1.2.2.2.2.1, (y2.2.2.2.2.1.2.2.2.2.2.1, (y2.2.2.2.2.1.2.2.2.2.2.2.1, (y2.2.2.2.2.1.2.2.2.2.2.2.2.1, (y2.2.2.2.2.1.2.2.2.2.2.2.2.2.1, ()))))))))), ((Ty.rd (t := .str) y2.1 y2.2.2.2.2.2.2.1), ()))).bind fun p11 =>
(rec2 (y2.1, (y2.2.1, (y2.2.2.1, ((y2.2.2.2.1.1, (y2.2.2.2.1.2.1, (y2.2.2.2.1.2.2.1, ()))), ((p11.1.1.1, (p11.1.1.2.1, (p11.1.1.2.2.1, (p11.1.1.2.2.2.1, (p11.1.1.2.2.2.2.1, (p11.1.1.2.2.2.2.2.1, (p11.1.1.2.2.2.2.2.2.1, (p11.1.1.2.2.2.2.2.2.2.1, (p11.1.1.2.2.2.2.2.2.2.2.1, ()))))))))), ((y2.2.2.2.2.2.1.1, (y2.2.2.2.2.2.1.2.1, (y2.2.2.2.2.2.1.2.2.1, (y2.2.2.2.2.2.1.2.2.2.1, (y2.2.2.2.2.2.1.2.2.2.2.1, (y2.2.2.2.2.2.1.2.2.2.2.2.1, (y2.2.2.2.2.2.1.2.2.2.2.2.2.1, (y2.2.2.2.2.2.1.2.2.2.2.2.2.2.1, (y2.2.2.2.2.2.1.2.2.2.2.2.2.2.2.1, ()))))))))), ((wi64 (y2.2.2.2.2.2.2.1 + (1 : Int))), ())))))))))
else none)
else
((fun (z6 : List (ByteArray) × (List (Int × Int × Int)) × ((List (Int × Int × Int × List (ByteArray) × List (Int × ByteArray × Int × Int) × Int × List (Int × ByteArray) × List (Int) × List (ByteArray))) × Int × (List (Int × Int × Int × Int × Int × List (Int) × ByteArray)) × Unit) × (Int × Int × Int × List (ByteArray) × (List (Int × ByteArray × Int × Int)) × Int × (List (Int × ByteArray)) × List (Int) × List (ByteArray) × Unit) × (Int × Int × Int × List (ByteArray) × (List (Int × ByteArray × Int × Int)) × Int × (List (Int × ByteArray)) × List (Int) × List (ByteArray) × Unit) × Unit) =>
(whileK (fun (rec4 : (List (ByteArray) × (List (Int × Int × Int)) × ((List (Int × Int × Int × List (ByteArray) × List (Int × ByteArray × Int × Int) × Int × List (Int × ByteArray) × List (Int) × List (ByteArray))) × Int × (List (Int × Int × Int × Int × Int × List (Int) × ByteArray)) × Unit) × (Int × Int × Int × List (ByteArray) × (List (Int × ByteArray × Int × Int)) × Int × (List (Int × ByteArray)) × List (Int) × List (ByteArray) × Unit) × (Int × Int × Int × List (ByteArray) × (List (Int × ByteArray × Int × Int)) × Int × (List (Int × ByteArray)) × List (Int) × List (ByteArray) × Unit) × Int × Unit) → Option _) (y4 : List (ByteArray) × (List (Int × Int × Int)) × ((List (Int × Int × Int × List (ByteArray) × List (Int × ByteArray × Int × Int) × Int × List (Int × ByteArray) × List (Int) × List (ByteArray))) × Int × (List (Int × Int × Int × Int × Int × List (Int) × ByteArray)) × Unit) × (Int × Int × Int × List (ByteArray) × (List (Int × ByteArray × Int × Int)) × Int × (List (Int × ByteArray)) × List (Int) × List (ByteArray) × Unit) × (Int × Int × Int × List (ByteArray) × (List (Int × ByteArray × Int × Int)) × Int × (List (Int × ByteArray)) × List (Int) × List (ByteArray) × Unit) × Int × Unit) =>
(if (decide (y4.2.2.2.2.2.1 < (List.length y4.1 : Int))) = true then
(if 0 ≤ y4.2.2.2.2.2.1 ∧ y4.2.2.2.2.2.1 < (List.length y4.1 : Int) then
((s_Push k ((y4.2.2.2.2.1.1, (y4.2.2.2.2.1.2.1, (y4.2.2.2.2.1.2.2.1, (y4.2.2.2.2.1.2.2.2.1, (y4.2.2.2.2.1.2.2.2.2.1, (y4.2.2.2.2.1.2.2.2.2.2.1, (y4.2.2.2.2.1.2.2.2.2.2.2.1, (y4.2.2.2.2.1.2.2.2.2.2.2.2.1, (y4.2.2.2.2.1.2.2.2.2.2.2.2.2.1, ()))))))))), ((Ty.rd (t := .str) y4.1 y4.2.2.2.2.2.1), ()))).bind fun p12 =>
(rec4 (y4.1, (y4.2.1, ((y4.2.2.1.1, (y4.2.2.1.2.1, (y4.2.2.1.2.2.1, ()))), ((y4.2.2.2.1.1, (y4.2.2.2.1.2.1, (y4.2.2.2.1.2.2.1, (y4.2.2.2.1.2.2.2.1, (y4.2.2.2.1.2.2.2.2.1, (y4.2.2.2.1.2.2.2.2.2.1, (y4.2.2.2.1.2.2.2.2.2.2.1, (y4.2.2.2.1.2.2.2.2.2.2.2.1, (y4.2.2.2.1.2.2.2.2.2.2.2.2.1, ()))))))))), ((p12.1.1.1, (p12.1.1.2.1, (p12.1.1.2.2.1, (p12.1.1.2.2.2.1, (p12.1.1.2.2.2.2.1, (p12.1.1.2.2.2.2.2.1, (p12.1.1.2.2.2.2.2.2.1, (p12.1.1.2.2.2.2.2.2.2.1, (p12.1.1.2.2.2.2.2.2.2.2.1, ()))))))))), ((wi64 (y4.2.2.2.2.2.1 + (1 : Int))), ()))))))))
else none)
else
((fun (z7 : (List (Int × Int × Int)) × ((List (Int × Int × Int × List (ByteArray) × List (Int × ByteArray × Int × Int) × Int × List (Int × ByteArray) × List (Int) × List (ByteArray))) × Int × (List (Int × Int × Int × Int × Int × List (Int) × ByteArray)) × Unit) × (Int × Int × Int × List (ByteArray) × (List (Int × ByteArray × Int × Int)) × Int × (List (Int × ByteArray)) × List (Int) × List (ByteArray) × Unit) × (Int × Int × Int × List (ByteArray) × (List (Int × ByteArray × Int × Int)) × Int × (List (Int × ByteArray)) × List (Int) × List (ByteArray) × Unit) × Unit) =>
(whileK (fun (rec6 : ((List (Int × Int × Int)) × ((List (Int × Int × Int × List (ByteArray) × List (Int × ByteArray × Int × Int) × Int × List (Int × ByteArray) × List (Int) × List (ByteArray))) × Int × (List (Int × Int × Int × Int × Int × List (Int) × ByteArray)) × Unit) × ((List (Int × Int × Int × List (ByteArray) × List (Int × ByteArray × Int × Int) × Int × List (Int × ByteArray) × List (Int) × List (ByteArray))) × Int × (List (Int × Int × Int × Int × Int × List (Int) × ByteArray)) × Unit) × Int × Unit) → Option _) (y6 : (List (Int × Int × Int)) × ((List (Int × Int × Int × List (ByteArray) × List (Int × ByteArray × Int × Int) × Int × List (Int × ByteArray) × List (Int) × List (ByteArray))) × Int × (List (Int × Int × Int × Int × Int × List (Int) × ByteArray)) × Unit) × ((List (Int × Int × Int × List (ByteArray) × List (Int × ByteArray × Int × Int) × Int × List (Int × ByteArray) × List (Int) × List (ByteArray))) × Int × (List (Int × Int × Int × Int × Int × List (Int) × ByteArray)) × Unit) × Int × Unit) =>
(if (decide (y6.2.2.2.1 < (List.length y6.1 : Int))) = true then
(if 0 ≤ y6.2.2.2.1 ∧ y6.2.2.2.1 < (List.length y6.1 : Int) then
((s_l14Do k ((y6.2.2.1.1, (y6.2.2.1.2.1, (y6.2.2.1.2.2.1, ()))), (((Ty.rd (t := yT8) y6.1 y6.2.2.2.1).1, ((Ty.rd (t := yT8) y6.1 y6.2.2.2.1).2.1, ((Ty.rd (t := yT8) y6.1 y6.2.2.2.1).2.2, ()))), ()))).bind fun p13 =>
(rec6 (y6.1, ((y6.2.1.1, (y6.2.1.2.1, (y6.2.1.2.2.1, ()))), ((p13.2.1.1, ((wi64 (p13.2.1.2.1 + (3 : Int))), (p13.2.1.2.2.1, ()))), ((wi64 (y6.2.2.2.1 + (1 : Int))), ()))))))
else none)
else
((fun (z8 : ((List (Int × Int × Int × List (ByteArray) × List (Int × ByteArray × Int × Int) × Int × List (Int × ByteArray) × List (Int) × List (ByteArray))) × Int × (List (Int × Int × Int × Int × Int × List (Int) × ByteArray)) × Unit) × ((List (Int × Int × Int × List (ByteArray) × List (Int × ByteArray × Int × Int) × Int × List (Int × ByteArray) × List (Int) × List (ByteArray))) × Int × (List (Int × Int × Int × Int × Int × List (Int) × ByteArray)) × Unit) × Unit) =>
((s_l14Copy k ((z8.2.1.1, (z8.2.1.2.1, (z8.2.1.2.2.1, ()))), ())).bind fun p14 =>
some (((p14.1.1, (p14.1.2.1, (p14.1.2.2.1, ()))), (true, ())), ((), ((), ((), ())))))) ((y6.2.1.1, (y6.2.1.2.1, (y6.2.1.2.2.1, ()))), ((y6.2.2.1.1, (y6.2.2.1.2.1, (y6.2.2.1.2.2.1, ()))), ()))))) k (z7.1, ((z7.2.1.1, (z7.2.1.2.1, (z7.2.1.2.2.1, ()))), ((([(z7.2.2.1.1, (z7.2.2.1.2.1, (z7.2.2.1.2.2.1, (z7.2.2.1.2.2.2.1, (z7.2.2.1.2.2.2.2.1, (z7.2.2.1.2.2.2.2.2.1, (z7.2.2.1.2.2.2.2.2.2.1, (z7.2.2.1.2.2.2.2.2.2.2.1, z7.2.2.1.2.2.2.2.2.2.2.2.1)))))))), (z7.2.2.2.1.1, (z7.2.2.2.1.2.1, (z7.2.2.2.1.2.2.1, (z7.2.2.2.1.2.2.2.1, (z7.2.2.2.1.2.2.2.2.1, (z7.2.2.2.1.2.2.2.2.2.1, (z7.2.2.2.1.2.2.2.2.2.2.1, (z7.2.2.2.1.2.2.2.2.2.2.2.1, z7.2.2.2.1.2.2.2.2.2.2.2.2.1))))))))] : List (Int × Int × Int × List (ByteArray) × List (Int × ByteArray × Int × Int) × Int × List (Int × ByteArray) × List (Int) × List (ByteArray))), ((0 : Int), ([], ()))), ((0 : Int), ())))))) (y4.2.1, ((y4.2.2.1.1, (y4.2.2.1.2.1, (y4.2.2.1.2.2.1, ()))), ((y4.2.2.2.1.1, (y4.2.2.2.1.2.1, (y4.2.2.2.1.2.2.1, (y4.2.2.2.1.2.2.2.1, (y4.2.2.2.1.2.2.2.2.1, (y4.2.2.2.1.2.2.2.2.2.1, (y4.2.2.2.1.2.2.2.2.2.2.1, (y4.2.2.2.1.2.2.2.2.2.2.2.1, (y4.2.2.2.1.2.2.2.2.2.2.2.2.1, ()))))))))), ((y4.2.2.2.2.1.1, (y4.2.2.2.2.1.2.1, (y4.2.2.2.2.1.2.2.1, (y4.2.2.2.2.1.2.2.2.1, (y4.2.2.2.2.1.2.2.2.2.1, (y4.2.2.2.2.1.2.2.2.2.2.1, (y4.2.2.2.2.1.2.2.2.2.2.2.1, (y4.2.2.2.2.1.2.2.2.2.2.2.2.1, (y4.2.2.2.2.1.2.2.2.2.2.2.2.2.1, ()))))))))), ()))))))) k (z6.1, (z6.2.1, ((z6.2.2.1.1, (z6.2.2.1.2.1, (z6.2.2.1.2.2.1, ()))), ((z6.2.2.2.1.1, (z6.2.2.2.1.2.1, (z6.2.2.2.1.2.2.1, (z6.2.2.2.1.2.2.2.1, (z6.2.2.2.1.2.2.2.2.1, (z6.2.2.2.1.2.2.2.2.2.1, (z6.2.2.2.1.2.2.2.2.2.2.1, (z6.2.2.2.1.2.2.2.2.2.2.2.1, (z6.2.2.2.1.2.2.2.2.2.2.2.2.1, ()))))))))), ((z6.2.2.2.2.1.1, (z6.2.2.2.2.1.2.1, (z6.2.2.2.2.1.2.2.1, (z6.2.2.2.2.1.2.2.2.1, (z6.2.2.2.2.1.2.2.2.2.1, (z6.2.2.2.2.1.2.2.2.2.2.1, (z6.2.2.2.2.1.2.2.2.2.2.2.1, (z6.2.2.2.2.1.2.2.2.2.2.2.2.1, (z6.2.2.2.2.1.2.2.2.2.2.2.2.2.1, ()))))))))), ((0 : Int), ())))))))) (y2.2.1, (y2.2.2.1, ((y2.2.2.2.1.1, (y2.2.2.2.1.2.1, (y2.2.2.2.1.2.2.1, ()))), ((y2.2.2.2.2.1.1, (y2.2.2.2.2.1.2.1, (y2.2.2.2.2.1.2.2.1, (y2.2.2.2.2.1.2.2.2.1, (y2.2.2.2.2.1.2.2.2.2.1, (y2.2.2.2.2.1.2.2.2.2.2.1, (y2.2.2.2.2.1.2.2.2.2.2.2.1, (y2.2.2.2.2.1.2.2.2.2.2.2.2.1, (y2.2.2.2.2.1.2.2.2.2.2.2.2.2.1, ()))))))))), ((y2.2.2.2.2.2.1.1, (y2.2.2.2.2.2.1.2.1, (y2.2.2.2.2.2.1.2.2.1, (y2.2.2.2.2.2.1.2.2.2.1, (y2.2.2.2.2.2.1.2.2.2.2.1, (y2.2.2.2.2.2.1.2.2.2.2.2.1, (y2.2.2.2.2.2.1.2.2.2.2.2.2.1, (y2.2.2.2.2.2.1.2.2.2.2.2.2.2.1, (y2.2.2.2.2.2.1.2.2.2.2.2.2.2.2.1, ()))))))))), ())))))))) k (z5.1, (z5.2.1, (z5.2.2.1, ((z5.2.2.2.1.1, (z5.2.2.2.1.2.1, (z5.2.2.2.1.2.2.1, ()))), ((p9.1.1.1, (p9.1.1.2.1, (p9.1.1.2.2.1, (p9.1.1.2.2.2.1, (p9.1.1.2.2.2.2.1, (p9.1.1.2.2.2.2.2.1, (p9.1.1.2.2.2.2.2.2.1, (p9.1.1.2.2.2.2.2.2.2.1, (p9.1.1.2.2.2.2.2.2.2.2.1, ()))))))))), ((p10.1.1.1, (p10.1.1.2.1, (p10.1.1.2.2.1, (p10.1.1.2.2.2.1, (p10.1.1.2.2.2.2.1, (p10.1.1.2.2.2.2.2.1, (p10.1.1.2.2.2.2.2.2.1, (p10.1.1.2.2.2.2.2.2.2.1, (p10.1.1.2.2.2.2.2.2.2.2.1, ()))))))))), ((0 : Int), ())))))))))))) (fun (E5 : (List (ByteArray) × List (ByteArray) × (List (Int × Int × Int)) × ((List (Int × Int × Int × List (ByteArray) × List (Int × ByteArray × Int × Int) × Int × List (Int × ByteArray) × List (Int) × List (ByteArray))) × Int × (List (Int × Int × Int × Int × Int × List (Int) × ByteArray)) × Unit) × Bool × Unit) → Option _) =>
(whileK (fun (rec0 : (List (ByteArray) × List (ByteArray) × (List (Int × Int × Int)) × ((List (Int × Int × Int × List (ByteArray) × List (Int × ByteArray × Int × Int) × Int × List (Int × ByteArray) × List (Int) × List (ByteArray))) × Int × (List (Int × Int × Int × Int × Int × List (Int) × ByteArray)) × Unit) × Bool × Int × Unit) → Option _) (y0 : List (ByteArray) × List (ByteArray) × (List (Int × Int × Int)) × ((List (Int × Int × Int × List (ByteArray) × List (Int × ByteArray × Int × Int) × Int × List (Int × ByteArray) × List (Int) × List (ByteArray))) × Int × (List (Int × Int × Int × Int × Int × List (Int) × ByteArray)) × Unit) × Bool × Int × Unit) =>
(if (decide (y0.2.2.2.2.2.1 < (List.length y0.2.2.1 : Int))) = true then
(if y0.2.2.2.2.1 = true then
(if 0 ≤ y0.2.2.2.2.2.1 ∧ y0.2.2.2.2.2.1 < (List.length y0.2.2.1 : Int) then
((s_TurnOk k (((Ty.rd (t := yT8) y0.2.2.1 y0.2.2.2.2.2.1).1, ((Ty.rd (t := yT8) y0.2.2.1 y0.2.2.2.2.2.1).2.1, ((Ty.rd (t := yT8) y0.2.2.1 y0.2.2.2.2.2.1).2.2, ()))), ())).bind fun p8 =>
(rec0 (y0.1, (y0.2.1, (y0.2.2.1, ((y0.2.2.2.1.1, (y0.2.2.2.1.2.1, (y0.2.2.2.1.2.2.1, ()))), (p8.1, ((wi64 (y0.2.2.2.2.2.1 + (1 : Int))), ()))))))))
else none)
else
(E5 (y0.1, (y0.2.1, (y0.2.2.1, ((y0.2.2.2.1.1, (y0.2.2.2.1.2.1, (y0.2.2.2.1.2.2.1, ()))), (y0.2.2.2.2.1, ())))))))
else
(E5 (y0.1, (y0.2.1, (y0.2.2.1, ((y0.2.2.2.1.1, (y0.2.2.2.1.2.1, (y0.2.2.2.1.2.2.1, ()))), (y0.2.2.2.2.1, ())))))))) k (x.1, (x.2.1, (x.2.2.1, (([], ((0 : Int), ([], ()))), (false, ((0 : Int), ()))))))))))
else
(jn (fun (z9 : List (ByteArray) × List (ByteArray) × (List (Int × Int × Int)) × ((List (Int × Int × Int × List (ByteArray) × List (Int × ByteArray × Int × Int) × Int × List (Int × ByteArray) × List (Int) × List (ByteArray))) × Int × (List (Int × Int × Int × Int × Int × List (Int) × ByteArray)) × Unit) × Bool × Unit) =>
(if (!z9.2.2.2.2.1) = true then
some ((([], ((0 : Int), ([], ()))), (false, ())), ((), ((), ((), ()))))
else
((s_ChanNew k ((1 : Int), ((2 : Int), ()))).bind fun p16 =>
((s_ChanNew k ((2 : Int), ((1 : Int), ()))).bind fun p17 =>
(whileK (fun (rec2 : (List (ByteArray) × List (ByteArray) × (List (Int × Int × Int)) × ((List (Int × Int × Int × List (ByteArray) × List (Int × ByteArray × Int × Int) × Int × List (Int × ByteArray) × List (Int) × List (ByteArray))) × Int × (List (Int × Int × Int × Int × Int × List (Int) × ByteArray)) × Unit) × (Int × Int × Int × List (ByteArray) × (List (Int × ByteArray × Int × Int)) × Int × (List (Int × ByteArray)) × List (Int) × List (ByteArray) × Unit) × (Int × Int × Int × List (ByteArray) × (List (Int × ByteArray × Int × Int)) × Int × (List (Int × ByteArray)) × List (Int) × List (ByteArray) × Unit) × Int × Unit) → Option _) (y2 : List (ByteArray) × List (ByteArray) × (List (Int × Int × Int)) × ((List (Int × Int × Int × List (ByteArray) × List (Int × ByteArray × Int × Int) × Int × List (Int × ByteArray) × List (Int) × List (ByteArray))) × Int × (List (Int × Int × Int × Int × Int × List (Int) × ByteArray)) × Unit) × (Int × Int × Int × List (ByteArray) × (List (Int × ByteArray × Int × Int)) × Int × (List (Int × ByteArray)) × List (Int) × List (ByteArray) × Unit) × (Int × Int × Int × List (ByteArray) × (List (Int × ByteArray × Int × Int)) × Int × (List (Int × ByteArray)) × List (Int) × List (ByteArray) × Unit) × Int × Unit) =>
(if (decide (y2.2.2.2.2.2.2.1 < (List.length y2.1 : Int))) = true then
(if 0 ≤ y2.2.2.2.2.2.2.1 ∧ y2.2.2.2.2.2.2.1 < (List.length y2.1 : Int) then
((s_Push k ((y2.2.2.2.2.1.1, (y2.2.2.2.2.1.2.1, (y2.2.2.2.2.1.2.2.1, (y2.2.2.2.2.1.2.2.2.1, (y2.2.2.2.2.1.2.2.2.2.1, (y2.2.2.2.2.1.2.2.2.2.2.1, (y2.2.2.2.2.1.2.2.2.2.2.2.1, (y2.2.2.2.2.1.2.2.2.2.2.2.2.1, (y2.2.2.2.2.1.2.2.2.2.2.2.2.2.1, ()))))))))), ((Ty.rd (t := .str) y2.1 y2.2.2.2.2.2.2.1), ()))).bind fun p18 =>
(rec2 (y2.1, (y2.2.1, (y2.2.2.1, ((y2.2.2.2.1.1, (y2.2.2.2.1.2.1, (y2.2.2.2.1.2.2.1, ()))), ((p18.1.1.1, (p18.1.1.2.1, (p18.1.1.2.2.1, (p18.1.1.2.2.2.1, (p18.1.1.2.2.2.2.1, (p18.1.1.2.2.2.2.2.1, (p18.1.1.2.2.2.2.2.2.1, (p18.1.1.2.2.2.2.2.2.2.1, (p18.1.1.2.2.2.2.2.2.2.2.1, ()))))))))), ((y2.2.2.2.2.2.1.1, (y2.2.2.2.2.2.1.2.1, (y2.2.2.2.2.2.1.2.2.1, (y2.2.2.2.2.2.1.2.2.2.1, (y2.2.2.2.2.2.1.2.2.2.2.1, (y2.2.2.2.2.2.1.2.2.2.2.2.1, (y2.2.2.2.2.2.1.2.2.2.2.2.2.1, (y2.2.2.2.2.2.1.2.2.2.2.2.2.2.1, (y2.2.2.2.2.2.1.2.2.2.2.2.2.2.2.1, ()))))))))), ((wi64 (y2.2.2.2.2.2.2.1 + (1 : Int))), ())))))))))
else none)
else
((fun (z10 : List (ByteArray) × (List (Int × Int × Int)) × ((List (Int × Int × Int × List (ByteArray) × List (Int × ByteArray × Int × Int) × Int × List (Int × ByteArray) × List (Int) × List (ByteArray))) × Int × (List (Int × Int × Int × Int × Int × List (Int) × ByteArray)) × Unit) × (Int × Int × Int × List (ByteArray) × (List (Int × ByteArray × Int × Int)) × Int × (List (Int × ByteArray)) × List (Int) × List (ByteArray) × Unit) × (Int × Int × Int × List (ByteArray) × (List (Int × ByteArray × Int × Int)) × Int × (List (Int × ByteArray)) × List (Int) × List (ByteArray) × Unit) × Unit) =>
(whileK (fun (rec4 : (List (ByteArray) × (List (Int × Int × Int)) × ((List (Int × Int × Int × List (ByteArray) × List (Int × ByteArray × Int × Int) × Int × List (Int × ByteArray) × List (Int) × List (ByteArray))) × Int × (List (Int × Int × Int × Int × Int × List (Int) × ByteArray)) × Unit) × (Int × Int × Int × List (ByteArray) × (List (Int × ByteArray × Int × Int)) × Int × (List (Int × ByteArray)) × List (Int) × List (ByteArray) × Unit) × (Int × Int × Int × List (ByteArray) × (List (Int × ByteArray × Int × Int)) × Int × (List (Int × ByteArray)) × List (Int) × List (ByteArray) × Unit) × Int × Unit) → Option _) (y4 : List (ByteArray) × (List (Int × Int × Int)) × ((List (Int × Int × Int × List (ByteArray) × List (Int × ByteArray × Int × Int) × Int × List (Int × ByteArray) × List (Int) × List (ByteArray))) × Int × (List (Int × Int × Int × Int × Int × List (Int) × ByteArray)) × Unit) × (Int × Int × Int × List (ByteArray) × (List (Int × ByteArray × Int × Int)) × Int × (List (Int × ByteArray)) × List (Int) × List (ByteArray) × Unit) × (Int × Int × Int × List (ByteArray) × (List (Int × ByteArray × Int × Int)) × Int × (List (Int × ByteArray)) × List (Int) × List (ByteArray) × Unit) × Int × Unit) =>
(if (decide (y4.2.2.2.2.2.1 < (List.length y4.1 : Int))) = true then
(if 0 ≤ y4.2.2.2.2.2.1 ∧ y4.2.2.2.2.2.1 < (List.length y4.1 : Int) then
((s_Push k ((y4.2.2.2.2.1.1, (y4.2.2.2.2.1.2.1, (y4.2.2.2.2.1.2.2.1, (y4.2.2.2.2.1.2.2.2.1, (y4.2.2.2.2.1.2.2.2.2.1, (y4.2.2.2.2.1.2.2.2.2.2.1, (y4.2.2.2.2.1.2.2.2.2.2.2.1, (y4.2.2.2.2.1.2.2.2.2.2.2.2.1, (y4.2.2.2.2.1.2.2.2.2.2.2.2.2.1, ()))))))))), ((Ty.rd (t := .str) y4.1 y4.2.2.2.2.2.1), ()))).bind fun p19 =>
(rec4 (y4.1, (y4.2.1, ((y4.2.2.1.1, (y4.2.2.1.2.1, (y4.2.2.1.2.2.1, ()))), ((y4.2.2.2.1.1, (y4.2.2.2.1.2.1, (y4.2.2.2.1.2.2.1, (y4.2.2.2.1.2.2.2.1, (y4.2.2.2.1.2.2.2.2.1, (y4.2.2.2.1.2.2.2.2.2.1, (y4.2.2.2.1.2.2.2.2.2.2.1, (y4.2.2.2.1.2.2.2.2.2.2.2.1, (y4.2.2.2.1.2.2.2.2.2.2.2.2.1, ()))))))))), ((p19.1.1.1, (p19.1.1.2.1, (p19.1.1.2.2.1, (p19.1.1.2.2.2.1, (p19.1.1.2.2.2.2.1, (p19.1.1.2.2.2.2.2.1, (p19.1.1.2.2.2.2.2.2.1, (p19.1.1.2.2.2.2.2.2.2.1, (p19.1.1.2.2.2.2.2.2.2.2.1, ()))))))))), ((wi64 (y4.2.2.2.2.2.1 + (1 : Int))), ()))))))))
else none)
else
((fun (z11 : (List (Int × Int × Int)) × ((List (Int × Int × Int × List (ByteArray) × List (Int × ByteArray × Int × Int) × Int × List (Int × ByteArray) × List (Int) × List (ByteArray))) × Int × (List (Int × Int × Int × Int × Int × List (Int) × ByteArray)) × Unit) × (Int × Int × Int × List (ByteArray) × (List (Int × ByteArray × Int × Int)) × Int × (List (Int × ByteArray)) × List (Int) × List (ByteArray) × Unit) × (Int × Int × Int × List (ByteArray) × (List (Int × ByteArray × Int × Int)) × Int × (List (Int × ByteArray)) × List (Int) × List (ByteArray) × Unit) × Unit) =>
(whileK (fun (rec6 : ((List (Int × Int × Int)) × ((List (Int × Int × Int × List (ByteArray) × List (Int × ByteArray × Int × Int) × Int × List (Int × ByteArray) × List (Int) × List (ByteArray))) × Int × (List (Int × Int × Int × Int × Int × List (Int) × ByteArray)) × Unit) × ((List (Int × Int × Int × List (ByteArray) × List (Int × ByteArray × Int × Int) × Int × List (Int × ByteArray) × List (Int) × List (ByteArray))) × Int × (List (Int × Int × Int × Int × Int × List (Int) × ByteArray)) × Unit) × Int × Unit) → Option _) (y6 : (List (Int × Int × Int)) × ((List (Int × Int × Int × List (ByteArray) × List (Int × ByteArray × Int × Int) × Int × List (Int × ByteArray) × List (Int) × List (ByteArray))) × Int × (List (Int × Int × Int × Int × Int × List (Int) × ByteArray)) × Unit) × ((List (Int × Int × Int × List (ByteArray) × List (Int × ByteArray × Int × Int) × Int × List (Int × ByteArray) × List (Int) × List (ByteArray))) × Int × (List (Int × Int × Int × Int × Int × List (Int) × ByteArray)) × Unit) × Int × Unit) =>
(if (decide (y6.2.2.2.1 < (List.length y6.1 : Int))) = true then
(if 0 ≤ y6.2.2.2.1 ∧ y6.2.2.2.1 < (List.length y6.1 : Int) then
((s_l14Do k ((y6.2.2.1.1, (y6.2.2.1.2.1, (y6.2.2.1.2.2.1, ()))), (((Ty.rd (t := yT8) y6.1 y6.2.2.2.1).1, ((Ty.rd (t := yT8) y6.1 y6.2.2.2.1).2.1, ((Ty.rd (t := yT8) y6.1 y6.2.2.2.1).2.2, ()))), ()))).bind fun p20 =>
(rec6 (y6.1, ((y6.2.1.1, (y6.2.1.2.1, (y6.2.1.2.2.1, ()))), ((p20.2.1.1, ((wi64 (p20.2.1.2.1 + (3 : Int))), (p20.2.1.2.2.1, ()))), ((wi64 (y6.2.2.2.1 + (1 : Int))), ()))))))
else none)
else
((fun (z12 : ((List (Int × Int × Int × List (ByteArray) × List (Int × ByteArray × Int × Int) × Int × List (Int × ByteArray) × List (Int) × List (ByteArray))) × Int × (List (Int × Int × Int × Int × Int × List (Int) × ByteArray)) × Unit) × ((List (Int × Int × Int × List (ByteArray) × List (Int × ByteArray × Int × Int) × Int × List (Int × ByteArray) × List (Int) × List (ByteArray))) × Int × (List (Int × Int × Int × Int × Int × List (Int) × ByteArray)) × Unit) × Unit) =>
((s_l14Copy k ((z12.2.1.1, (z12.2.1.2.1, (z12.2.1.2.2.1, ()))), ())).bind fun p21 =>
some (((p21.1.1, (p21.1.2.1, (p21.1.2.2.1, ()))), (true, ())), ((), ((), ((), ())))))) ((y6.2.1.1, (y6.2.1.2.1, (y6.2.1.2.2.1, ()))), ((y6.2.2.1.1, (y6.2.2.1.2.1, (y6.2.2.1.2.2.1, ()))), ()))))) k (z11.1, ((z11.2.1.1, (z11.2.1.2.1, (z11.2.1.2.2.1, ()))), ((([(z11.2.2.1.1, (z11.2.2.1.2.1, (z11.2.2.1.2.2.1, (z11.2.2.1.2.2.2.1, (z11.2.2.1.2.2.2.2.1, (z11.2.2.1.2.2.2.2.2.1, (z11.2.2.1.2.2.2.2.2.2.1, (z11.2.2.1.2.2.2.2.2.2.2.1, z11.2.2.1.2.2.2.2.2.2.2.2.1)))))))), (z11.2.2.2.1.1, (z11.2.2.2.1.2.1, (z11.2.2.2.1.2.2.1, (z11.2.2.2.1.2.2.2.1, (z11.2.2.2.1.2.2.2.2.1, (z11.2.2.2.1.2.2.2.2.2.1, (z11.2.2.2.1.2.2.2.2.2.2.1, (z11.2.2.2.1.2.2.2.2.2.2.2.1, z11.2.2.2.1.2.2.2.2.2.2.2.2.1))))))))] : List (Int × Int × Int × List (ByteArray) × List (Int × ByteArray × Int × Int) × Int × List (Int × ByteArray) × List (Int) × List (ByteArray))), ((0 : Int), ([], ()))), ((0 : Int), ())))))) (y4.2.1, ((y4.2.2.1.1, (y4.2.2.1.2.1, (y4.2.2.1.2.2.1, ()))), ((y4.2.2.2.1.1, (y4.2.2.2.1.2.1, (y4.2.2.2.1.2.2.1, (y4.2.2.2.1.2.2.2.1, (y4.2.2.2.1.2.2.2.2.1, (y4.2.2.2.1.2.2.2.2.2.1, (y4.2.2.2.1.2.2.2.2.2.2.1, (y4.2.2.2.1.2.2.2.2.2.2.2.1, (y4.2.2.2.1.2.2.2.2.2.2.2.2.1, ()))))))))), ((y4.2.2.2.2.1.1, (y4.2.2.2.2.1.2.1, (y4.2.2.2.2.1.2.2.1, (y4.2.2.2.2.1.2.2.2.1, (y4.2.2.2.2.1.2.2.2.2.1, (y4.2.2.2.2.1.2.2.2.2.2.1, (y4.2.2.2.2.1.2.2.2.2.2.2.1, (y4.2.2.2.2.1.2.2.2.2.2.2.2.1, (y4.2.2.2.2.1.2.2.2.2.2.2.2.2.1, ()))))))))), ()))))))) k (z10.1, (z10.2.1, ((z10.2.2.1.1, (z10.2.2.1.2.1, (z10.2.2.1.2.2.1, ()))), ((z10.2.2.2.1.1, (z10.2.2.2.1.2.1, (z10.2.2.2.1.2.2.1, (z10.2.2.2.1.2.2.2.1, (z10.2.2.2.1.2.2.2.2.1, (z10.2.2.2.1.2.2.2.2.2.1, (z10.2.2.2.1.2.2.2.2.2.2.1, (z10.2.2.2.1.2.2.2.2.2.2.2.1, (z10.2.2.2.1.2.2.2.2.2.2.2.2.1, ()))))))))), ((z10.2.2.2.2.1.1, (z10.2.2.2.2.1.2.1, (z10.2.2.2.2.1.2.2.1, (z10.2.2.2.2.1.2.2.2.1, (z10.2.2.2.2.1.2.2.2.2.1, (z10.2.2.2.2.1.2.2.2.2.2.1, (z10.2.2.2.2.1.2.2.2.2.2.2.1, (z10.2.2.2.2.1.2.2.2.2.2.2.2.1, (z10.2.2.2.2.1.2.2.2.2.2.2.2.2.1, ()))))))))), ((0 : Int), ())))))))) (y2.2.1, (y2.2.2.1, ((y2.2.2.2.1.1, (y2.2.2.2.1.2.1, (y2.2.2.2.1.2.2.1, ()))), ((y2.2.2.2.2.1.1, (y2.2.2.2.2.1.2.1, (y2.2.2.2.2.1.2.2.1, (y2.2.2.2.2.1.2.2.2.1, (y2.2.2.2.2.1.2.2.2.2.1, (y2.2.2.2.2.1.2.2.2.2.2.1, (y2.2.2.2.2.1.2.2.2.2.2.2.1, (y2.2.2.2.2.1.2.2.2.2.2.2.2.1, (y2.2.2.2.2.1.2.2.2.2.2.2.2.2.1, ()))))))))), ((y2.2.2.2.2.2.1.1, (y2.2.2.2.2.2.1.2.1, (y2.2.2.2.2.2.1.2.2.1, (y2.2.2.2.2.2.1.2.2.2.1, (y2.2.2.2.2.2.1.2.2.2.2.1, (y2.2.2.2.2.2.1.2.2.2.2.2.1, (y2.2.2.2.2.2.1.2.2.2.2.2.2.1, (y2.2.2.2.2.2.1.2.2.2.2.2.2.2.1, (y2.2.2.2.2.2.1.2.2.2.2.2.2.2.2.1, ()))))))))), ())))))))) k (z9.1, (z9.2.1, (z9.2.2.1, ((z9.2.2.2.1.1, (z9.2.2.2.1.2.1, (z9.2.2.2.1.2.2.1, ()))), ((p16.1.1.1, (p16.1.1.2.1, (p16.1.1.2.2.1, (p16.1.1.2.2.2.1, (p16.1.1.2.2.2.2.1, (p16.1.1.2.2.2.2.2.1, (p16.1.1.2.2.2.2.2.2.1, (p16.1.1.2.2.2.2.2.2.2.1, (p16.1.1.2.2.2.2.2.2.2.2.1, ()))))))))), ((p17.1.1.1, (p17.1.1.2.1, (p17.1.1.2.2.1, (p17.1.1.2.2.2.1, (p17.1.1.2.2.2.2.1, (p17.1.1.2.2.2.2.2.1, (p17.1.1.2.2.2.2.2.2.1, (p17.1.1.2.2.2.2.2.2.2.1, (p17.1.1.2.2.2.2.2.2.2.2.1, ()))))))))), ((0 : Int), ())))))))))))) (fun (E9 : (List (ByteArray) × List (ByteArray) × (List (Int × Int × Int)) × ((List (Int × Int × Int × List (ByteArray) × List (Int × ByteArray × Int × Int) × Int × List (Int × ByteArray) × List (Int) × List (ByteArray))) × Int × (List (Int × Int × Int × Int × Int × List (Int) × ByteArray)) × Unit) × Bool × Unit) → Option _) =>
(whileK (fun (rec0 : (List (ByteArray) × List (ByteArray) × (List (Int × Int × Int)) × ((List (Int × Int × Int × List (ByteArray) × List (Int × ByteArray × Int × Int) × Int × List (Int × ByteArray) × List (Int) × List (ByteArray))) × Int × (List (Int × Int × Int × Int × Int × List (Int) × ByteArray)) × Unit) × Bool × Int × Unit) → Option _) (y0 : List (ByteArray) × List (ByteArray) × (List (Int × Int × Int)) × ((List (Int × Int × Int × List (ByteArray) × List (Int × ByteArray × Int × Int) × Int × List (Int × ByteArray) × List (Int) × List (ByteArray))) × Int × (List (Int × Int × Int × Int × Int × List (Int) × ByteArray)) × Unit) × Bool × Int × Unit) =>
(if (decide (y0.2.2.2.2.2.1 < (List.length y0.2.2.1 : Int))) = true then
(if y0.2.2.2.2.1 = true then
(if 0 ≤ y0.2.2.2.2.2.1 ∧ y0.2.2.2.2.2.1 < (List.length y0.2.2.1 : Int) then
((s_TurnOk k (((Ty.rd (t := yT8) y0.2.2.1 y0.2.2.2.2.2.1).1, ((Ty.rd (t := yT8) y0.2.2.1 y0.2.2.2.2.2.1).2.1, ((Ty.rd (t := yT8) y0.2.2.1 y0.2.2.2.2.2.1).2.2, ()))), ())).bind fun p15 =>
(rec0 (y0.1, (y0.2.1, (y0.2.2.1, ((y0.2.2.2.1.1, (y0.2.2.2.1.2.1, (y0.2.2.2.1.2.2.1, ()))), (p15.1, ((wi64 (y0.2.2.2.2.2.1 + (1 : Int))), ()))))))))
else none)
else
(E9 (y0.1, (y0.2.1, (y0.2.2.1, ((y0.2.2.2.1.1, (y0.2.2.2.1.2.1, (y0.2.2.2.1.2.2.1, ()))), (y0.2.2.2.2.1, ())))))))
else
(E9 (y0.1, (y0.2.1, (y0.2.2.1, ((y0.2.2.2.1.1, (y0.2.2.2.1.2.1, (y0.2.2.2.1.2.2.1, ()))), (y0.2.2.2.2.1, ())))))))) k (x.1, (x.2.1, (x.2.2.1, (([], ((0 : Int), ([], ()))), (false, ((0 : Int), ()))))))))))
abbrev E_s_RunTalk (k : Nat) : Entry := ⟨32, 0, (.cons (.il true .str) (.cons (.il true .str) (.cons (.il true yT8) .nil))), (.tup (.cons (.agg yP12) (.cons .bool .nil))), s_RunTalk k⟩
theorem t_s_RunTalk (k : Nat) (x) : evF TTab k [E_s_TurnOk k, E_s_ChanNew k, E_s_Push k, E_s_l14Do k, E_s_l14Copy k] [(0, ⟨[0, 1, 2, 6, 8, 9], (.cons (.il true .str) (.cons (.il true .str) (.cons (.il true yT8) (.cons (.ptr 0 yP12) (.cons .bool yP14)))))⟩, ⟨[0, 1, 2, 6, 8], (.cons (.il true .str) (.cons (.il true .str) (.cons (.il true yT8) (.cons (.ptr 0 yP12) (.cons .bool .nil)))))⟩), (2, ⟨[0, 1, 2, 6, 10, 12, 14], (.cons (.il true .str) (.cons (.il true .str) (.cons (.il true yT8) (.cons (.ptr 0 yP12) (.cons (.ptr 0 yP1) (.cons (.ptr 0 yP1) yP14))))))⟩, ⟨[1, 2, 6, 10, 12], (.cons (.il true .str) (.cons (.il true yT8) (.cons (.ptr 0 yP12) (.cons (.ptr 0 yP1) (.cons (.ptr 0 yP1) .nil)))))⟩), (4, ⟨[1, 2, 6, 10, 12, 15], (.cons (.il true .str) (.cons (.il true yT8) (.cons (.ptr 0 yP12) (.cons (.ptr 0 yP1) (.cons (.ptr 0 yP1) yP14)))))⟩, ⟨[2, 6, 10, 12], (.cons (.il true yT8) (.cons (.ptr 0 yP12) (.cons (.ptr 0 yP1) (.cons (.ptr 0 yP1) .nil))))⟩), (6, ⟨[2, 6, 16, 17], (.cons (.il true yT8) (.cons (.ptr 0 yP12) (.cons (.ptr 0 yP12) yP14)))⟩, ⟨[6, 16], (.cons (.ptr 0 yP12) (.cons (.ptr 0 yP12) .nil))⟩)] Try.f32 (.cons (.il true .str) (.cons (.il true .str) (.cons (.il true yT8) .nil))) (.tup (.cons (.agg yP12) (.cons .bool .nil))) x = s_RunTalk k x := by kernel_rfl
theorem e_s_RunTalk [Names] (k : Nat) : EntryOk Try.prog (E_s_RunTalk k) := entry_ok tok (es_cons (e_s_TurnOk k) (es_cons (e_s_ChanNew k) (es_cons (e_s_Push k) (es_cons (e_s_l14Do k) (es_cons (e_s_l14Copy k) es_nil))))) (by kernel_rfl) (by kernel_rfl) (by kernel_rfl) fun x r h => (t_s_RunTalk k x).trans h
def w_sameInts (k : Nat) (x : List (Int) × List (Int) × Unit) : Option (Bool × Unit × Unit × Unit) :=
(if (!decide ((List.length x.1 : Int) = (List.length x.2.1 : Int))) = true then
some (false, ((), ((), ())))
else
(whileK (fun (rec0 : (List (Int) × List (Int) × Int × Unit) → Option _) (y0 : List (Int) × List (Int) × Int × Unit) =>
(if (decide (y0.2.2.1 < (List.length y0.1 : Int))) = true then
(if 0 ≤ y0.2.2.1 ∧ y0.2.2.1 < (List.length y0.1 : Int) then
(if 0 ≤ y0.2.2.1 ∧ y0.2.2.1 < (List.length y0.2.1 : Int) then
(if (!decide ((Ty.rd (t := (.int .i64)) y0.1 y0.2.2.1) = (Ty.rd (t := (.int .i64)) y0.2.1 y0.2.2.1))) = true then
some (false, ((), ((), ())))
else
(rec0 (y0.1, (y0.2.1, ((wi64 (y0.2.2.1 + (1 : Int))), ())))))
else none)
else none)
else
((fun (z1 : Unit) =>
some (true, ((), ((), ())))) ()))) k (x.1, (x.2.1, ((0 : Int), ())))))
abbrev E_w_sameInts (k : Nat) : Entry := ⟨135, 0, (.cons (.il true (.int .i64)) (.cons (.il true (.int .i64)) .nil)), .bool, w_sameInts k⟩
theorem t_w_sameInts (k : Nat) (x) : evF TTab k [] [(0, ⟨[0, 1, 5], (.cons (.il true (.int .i64)) (.cons (.il true (.int .i64)) yP14))⟩, ⟨[], .nil⟩)] Try.f135 (.cons (.il true (.int .i64)) (.cons (.il true (.int .i64)) .nil)) .bool x = w_sameInts k x := by kernel_rfl
theorem e_w_sameInts [Names] (k : Nat) : EntryOk Try.prog (E_w_sameInts k) := entry_ok tok es_nil (by kernel_rfl) (by kernel_rfl) (by kernel_rfl) fun x r h => (t_w_sameInts k x).trans h
def w_samePacket (k : Nat) (x : (Int × Int × Int × Int × Int × List (Int) × ByteArray × Unit) × (Int × Int × Int × Int × Int × List (Int) × ByteArray × Unit) × Unit) : Option (Bool × Unit × Unit × Unit) :=
(if (decide (x.1.1 = x.2.1.1)) = true then
(if (decide (x.1.2.1 = x.2.1.2.1)) = true then
(if (decide (x.1.2.2.1 = x.2.1.2.2.1)) = true then
(if (decide (x.1.2.2.2.1 = x.2.1.2.2.2.1)) = true then
(if (decide (x.1.2.2.2.2.1 = x.2.1.2.2.2.2.1)) = true then
((w_sameInts k (x.1.2.2.2.2.2.1, (x.2.1.2.2.2.2.2.1, ()))).bind fun p1 =>
(if p1.1 = true then
some ((decide (x.1.2.2.2.2.2.2.1 = x.2.1.2.2.2.2.2.2.1)), ((), ((), ())))
else
some (false, ((), ((), ())))))
else
some (false, ((), ((), ()))))
else
some (false, ((), ((), ()))))
else
some (false, ((), ((), ()))))
else
some (false, ((), ((), ()))))
else
some (false, ((), ((), ()))))
abbrev E_w_samePacket (k : Nat) : Entry := ⟨93, 0, (.cons (.agg yP7) (.cons (.agg yP7) .nil)), .bool, w_samePacket k⟩
theorem t_w_samePacket (k : Nat) (x) : evF TTab k [E_w_sameInts k] [] Try.f93 (.cons (.agg yP7) (.cons (.agg yP7) .nil)) .bool x = w_samePacket k x := by kernel_rfl
theorem e_w_samePacket [Names] (k : Nat) : EntryOk Try.prog (E_w_samePacket k) := entry_ok tok (es_cons (e_w_sameInts k) es_nil) (by kernel_rfl) (by kernel_rfl) (by kernel_rfl) fun x r h => (t_w_samePacket k x).trans h
def w_samePackets (k : Nat) (x : (List (Int × Int × Int × Int × Int × List (Int) × ByteArray)) × (List (Int × Int × Int × Int × Int × List (Int) × ByteArray)) × Unit) : Option (Bool × Unit × Unit × Unit) :=
(if (!decide ((List.length x.1 : Int) = (List.length x.2.1 : Int))) = true then
some (false, ((), ((), ())))
else
(whileK (fun (rec0 : ((List (Int × Int × Int × Int × Int × List (Int) × ByteArray)) × (List (Int × Int × Int × Int × Int × List (Int) × ByteArray)) × Int × Unit) → Option _) (y0 : (List (Int × Int × Int × Int × Int × List (Int) × ByteArray)) × (List (Int × Int × Int × Int × Int × List (Int) × ByteArray)) × Int × Unit) =>
(if (decide (y0.2.2.1 < (List.length y0.1 : Int))) = true then
(if 0 ≤ y0.2.2.1 ∧ y0.2.2.1 < (List.length y0.1 : Int) then
(if 0 ≤ y0.2.2.1 ∧ y0.2.2.1 < (List.length y0.2.1 : Int) then
((w_samePacket k (((Ty.rd (t := yT3) y0.1 y0.2.2.1).1, ((Ty.rd (t := yT3) y0.1 y0.2.2.1).2.1, ((Ty.rd (t := yT3) y0.1 y0.2.2.1).2.2.1, ((Ty.rd (t := yT3) y0.1 y0.2.2.1).2.2.2.1, ((Ty.rd (t := yT3) y0.1 y0.2.2.1).2.2.2.2.1, ((Ty.rd (t := yT3) y0.1 y0.2.2.1).2.2.2.2.2.1, ((Ty.rd (t := yT3) y0.1 y0.2.2.1).2.2.2.2.2.2, ()))))))), (((Ty.rd (t := yT3) y0.2.1 y0.2.2.1).1, ((Ty.rd (t := yT3) y0.2.1 y0.2.2.1).2.1, ((Ty.rd (t := yT3) y0.2.1 y0.2.2.1).2.2.1, ((Ty.rd (t := yT3) y0.2.1 y0.2.2.1).2.2.2.1, ((Ty.rd (t := yT3) y0.2.1 y0.2.2.1).2.2.2.2.1, ((Ty.rd (t := yT3) y0.2.1 y0.2.2.1).2.2.2.2.2.1, ((Ty.rd (t := yT3) y0.2.1 y0.2.2.1).2.2.2.2.2.2, ()))))))), ()))).bind fun p1 =>
(if (!p1.1) = true then
some (false, ((), ((), ())))
else
(rec0 (y0.1, (y0.2.1, ((wi64 (y0.2.2.1 + (1 : Int))), ()))))))
else none)
else none)
else
((fun (z1 : Unit) =>
some (true, ((), ((), ())))) ()))) k (x.1, (x.2.1, ((0 : Int), ())))))
abbrev E_w_samePackets (k : Nat) : Entry := ⟨33, 0, (.cons (.il true yT3) (.cons (.il true yT3) .nil)), .bool, w_samePackets k⟩
theorem t_w_samePackets (k : Nat) (x) : evF TTabO k [E_w_samePacket k] [(0, ⟨[0, 1, 5], (.cons (.il true yT3) (.cons (.il true yT3) yP14))⟩, ⟨[], .nil⟩)] Try.f33 (.cons (.il true yT3) (.cons (.il true yT3) .nil)) .bool x = w_samePackets k x := by kernel_rfl
theorem e_w_samePackets [Names] (k : Nat) : EntryOk Try.prog (E_w_samePackets k) := entry_ok tokO (es_cons (e_w_samePacket k) es_nil) (by kernel_rfl) (by kernel_rfl) (by kernel_rfl) fun x r h => (t_w_samePackets k x).trans h
def x_slices_Equal_string_string (k : Nat) (x : List (ByteArray) × List (ByteArray) × Unit) : Option (Bool × Unit × Unit × Unit) :=
(if (!decide ((List.length x.1 : Int) = (List.length x.2.1 : Int))) = true then
some (false, ((), ((), ())))
else
(whileK (fun (rec0 : (List (ByteArray) × List (ByteArray) × Int × Int × Unit) → Option _) (y0 : List (ByteArray) × List (ByteArray) × Int × Int × Unit) =>
(if (decide (y0.2.2.2.1 < y0.2.2.1)) = true then
(if 0 ≤ y0.2.2.2.1 ∧ y0.2.2.2.1 < (List.length y0.1 : Int) then
(if 0 ≤ y0.2.2.2.1 ∧ y0.2.2.2.1 < (List.length y0.2.1 : Int) then
(if (!decide ((Ty.rd (t := .str) y0.1 y0.2.2.2.1) = (Ty.rd (t := .str) y0.2.1 y0.2.2.2.1))) = true then
some (false, ((), ((), ())))
else
(rec0 (y0.1, (y0.2.1, (y0.2.2.1, ((wi64 (y0.2.2.2.1 + (1 : Int))), ()))))))
else none)
else none)
else
((fun (z1 : Unit) =>
some (true, ((), ((), ())))) ()))) k (x.1, (x.2.1, ((List.length x.1 : Int), ((0 : Int), ()))))))
abbrev E_x_slices_Equal_string_string (k : Nat) : Entry := ⟨94, 0, (.cons (.il true .str) (.cons (.il true .str) .nil)), .bool, x_slices_Equal_string_string k⟩
theorem t_x_slices_Equal_string_string (k : Nat) (x) : evF TTab k [] [(0, ⟨[0, 1, 12, 13], (.cons (.il true .str) (.cons (.il true .str) yP9))⟩, ⟨[], .nil⟩)] Try.f94 (.cons (.il true .str) (.cons (.il true .str) .nil)) .bool x = x_slices_Equal_string_string k x := by kernel_rfl
theorem e_x_slices_Equal_string_string [Names] (k : Nat) : EntryOk Try.prog (E_x_slices_Equal_string_string k) := entry_ok tok es_nil (by kernel_rfl) (by kernel_rfl) (by kernel_rfl) fun x r h => (t_x_slices_Equal_string_string k x).trans h
def i_BeginsWith (k : Nat) (x : List (ByteArray) × List (ByteArray) × Unit) : Option (Bool × Unit × Unit × Unit) :=
(if (decide ((List.length x.2.1 : Int) ≤ (List.length x.1 : Int))) = true then
(if 0 ≤ (List.length x.2.1 : Int) ∧ (List.length x.2.1 : Int) ≤ (List.length x.1 : Int) then
((x_slices_Equal_string_string k ((List.drop (Int.toNat (0 : Int)) (List.take (Int.toNat (List.length x.2.1 : Int)) x.1)), (x.2.1, ()))).bind fun p1 =>
some (p1.1, ((), ((), ()))))
else none)
else
some (false, ((), ((), ()))))
abbrev E_i_BeginsWith (k : Nat) : Entry := ⟨34, 0, (.cons (.il true .str) (.cons (.il true .str) .nil)), .bool, i_BeginsWith k⟩
theorem t_i_BeginsWith (k : Nat) (x) : evF TTab k [E_x_slices_Equal_string_string k] [] Try.f34 (.cons (.il true .str) (.cons (.il true .str) .nil)) .bool x = i_BeginsWith k x := by kernel_rfl
theorem e_i_BeginsWith [Names] (k : Nat) : EntryOk Try.prog (E_i_BeginsWith k) := entry_ok tok (es_cons (e_x_slices_Equal_string_string k) es_nil) (by kernel_rfl) (by kernel_rfl) (by kernel_rfl) fun x r h => (t_i_BeginsWith k x).trans h
def w_beginning (k : Nat) (x : List (ByteArray) × List (ByteArray) × Unit) : Option (Bool × Unit × Unit × Unit) :=
(if (decide ((List.length x.2.1 : Int) ≤ (List.length x.1 : Int))) = true then
(if 0 ≤ (List.length x.2.1 : Int) ∧ (List.length x.2.1 : Int) ≤ (List.length x.1 : Int) then
((w_sameTexts k ((List.drop (Int.toNat (0 : Int)) (List.take (Int.toNat (List.length x.2.1 : Int)) x.1)), (x.2.1, ()))).bind fun p1 =>
some (p1.1, ((), ((), ()))))
else none)
else
some (false, ((), ((), ()))))
abbrev E_w_beginning (k : Nat) : Entry := ⟨35, 0, (.cons (.il true .str) (.cons (.il true .str) .nil)), .bool, w_beginning k⟩
theorem t_w_beginning (k : Nat) (x) : evF TTab k [E_w_sameTexts k] [] Try.f35 (.cons (.il true .str) (.cons (.il true .str) .nil)) .bool x = w_beginning k x := by kernel_rfl
theorem e_w_beginning [Names] (k : Nat) : EntryOk Try.prog (E_w_beginning k) := entry_ok tok (es_cons (e_w_sameTexts k) es_nil) (by kernel_rfl) (by kernel_rfl) (by kernel_rfl) fun x r h => (t_w_beginning k x).trans h
def w_FnTalks (k : Nat) (x : List (Int) × Unit) : Option (Bool × Unit × Unit) :=
((w_big k (x.1, ())).bind fun p1 =>
(if p1.1 = true then
some (true, ((), ()))
else
((s_DrawTalks k (x.1, ())).bind fun p2 =>
((i_RunTalk k (p2.1.1, (p2.1.2.1, (p2.1.2.2.1, ())))).bind fun p3 =>
((s_RunTalk k (p2.1.1, (p2.1.2.1, (p2.1.2.2.1, ())))).bind fun p4 =>
(if (!p3.1.2.1) = false then
(if (!decide ((List.length p3.1.1.1 : Int) = (2 : Int))) = false then
(if 0 ≤ (0 : Int) ∧ (0 : Int) < (List.length p3.1.1.1 : Int) then
(if 0 ≤ (0 : Int) ∧ (0 : Int) < (List.length p4.1.1.1 : Int) then
((w_sameTexts k ((Ty.rd (t := yT0) p3.1.1.1 (0 : Int)).2.2.2.2.2.2.2.2, ((Ty.rd (t := yT2) p4.1.1.1 (0 : Int)).2.2.2.2.2.2.2.2, ()))).bind fun p5 =>
(if (!p5.1) = false then
(if 0 ≤ (1 : Int) ∧ (1 : Int) < (List.length p3.1.1.1 : Int) then
(if 0 ≤ (1 : Int) ∧ (1 : Int) < (List.length p4.1.1.1 : Int) then
((w_sameTexts k ((Ty.rd (t := yT0) p3.1.1.1 (1 : Int)).2.2.2.2.2.2.2.2, ((Ty.rd (t := yT2) p4.1.1.1 (1 : Int)).2.2.2.2.2.2.2.2, ()))).bind fun p6 =>
(if (!p6.1) = false then
((w_samePackets k (p3.1.1.2.2.1, (p4.1.1.2.2.1, ()))).bind fun p7 =>
(if (!p7.1) = true then
some (false, ((), ()))
else
(if 0 ≤ (0 : Int) ∧ (0 : Int) < (List.length p3.1.1.1 : Int) then
((i_BeginsWith k (p2.1.2.1, ((Ty.rd (t := yT0) p3.1.1.1 (0 : Int)).2.2.2.2.2.2.2.2, ()))).bind fun p8 =>
(if p8.1 = true then
(if 0 ≤ (1 : Int) ∧ (1 : Int) < (List.length p3.1.1.1 : Int) then
((i_BeginsWith k (p2.1.1, ((Ty.rd (t := yT0) p3.1.1.1 (1 : Int)).2.2.2.2.2.2.2.2, ()))).bind fun p9 =>
(if p9.1 = true then
(if 0 ≤ (0 : Int) ∧ (0 : Int) < (List.length p3.1.1.1 : Int) then
((w_beginning k (p2.1.2.1, ((Ty.rd (t := yT0) p3.1.1.1 (0 : Int)).2.2.2.2.2.2.2.2, ()))).bind fun p10 =>
(if p10.1 = true then
(if 0 ≤ (1 : Int) ∧ (1 : Int) < (List.length p3.1.1.1 : Int) then
((w_beginning k (p2.1.1, ((Ty.rd (t := yT0) p3.1.1.1 (1 : Int)).2.2.2.2.2.2.2.2, ()))).bind fun p11 =>
(if p11.1 = true then
(if 0 ≤ (0 : Int) ∧ (0 : Int) < (List.length p3.1.1.1 : Int) then
((i_ChanOk k (((Ty.rd (t := yT0) p3.1.1.1 (0 : Int)).1, ((Ty.rd (t := yT0) p3.1.1.1 (0 : Int)).2.1, ((Ty.rd (t := yT0) p3.1.1.1 (0 : Int)).2.2.1, ((Ty.rd (t := yT0) p3.1.1.1 (0 : Int)).2.2.2.1, ((Ty.rd (t := yT0) p3.1.1.1 (0 : Int)).2.2.2.2.1, ((Ty.rd (t := yT0) p3.1.1.1 (0 : Int)).2.2.2.2.2.1, ((Ty.rd (t := yT0) p3.1.1.1 (0 : Int)).2.2.2.2.2.2.1, ((Ty.rd (t := yT0) p3.1.1.1 (0 : Int)).2.2.2.2.2.2.2.1, ((Ty.rd (t := yT0) p3.1.1.1 (0 : Int)).2.2.2.2.2.2.2.2, ()))))))))), ())).bind fun p12 =>
(if p12.1 = true then
(if 0 ≤ (1 : Int) ∧ (1 : Int) < (List.length p3.1.1.1 : Int) then
((i_ChanOk k (((Ty.rd (t := yT0) p3.1.1.1 (1 : Int)).1, ((Ty.rd (t := yT0) p3.1.1.1 (1 : Int)).2.1, ((Ty.rd (t := yT0) p3.1.1.1 (1 : Int)).2.2.1, ((Ty.rd (t := yT0) p3.1.1.1 (1 : Int)).2.2.2.1, ((Ty.rd (t := yT0) p3.1.1.1 (1 : Int)).2.2.2.2.1, ((Ty.rd (t := yT0) p3.1.1.1 (1 : Int)).2.2.2.2.2.1, ((Ty.rd (t := yT0) p3.1.1.1 (1 : Int)).2.2.2.2.2.2.1, ((Ty.rd (t := yT0) p3.1.1.1 (1 : Int)).2.2.2.2.2.2.2.1, ((Ty.rd (t := yT0) p3.1.1.1 (1 : Int)).2.2.2.2.2.2.2.2, ()))))))))), ())).bind fun p13 =>
some (p13.1, ((), ())))
else none)
else
some (false, ((), ()))))
else none)
else
some (false, ((), ()))))
else none)
else
some (false, ((), ()))))
else none)
else
some (false, ((), ()))))
else none)
else
some (false, ((), ()))))
else none)))
else
some (false, ((), ()))))
else none)
else none)
else
some (false, ((), ()))))
else none)
else none)
else
some (false, ((), ())))
else
some (false, ((), ()))))))))
abbrev E_w_FnTalks (k : Nat) : Entry := ⟨8, 0, (.cons (.il true (.int .u8)) .nil), .bool, w_FnTalks k⟩
theorem t_w_FnTalks (k : Nat) (x) : evF TTab k [E_w_big k, E_w_sameTexts k, E_s_DrawTalks k, E_i_RunTalk k, E_s_RunTalk k, E_w_samePackets k, E_i_BeginsWith k, E_w_beginning k, E_i_ChanOk k] [] Try.f8 (.cons (.il true (.int .u8)) .nil) .bool x = w_FnTalks k x := by kernel_rfl
theorem e_w_FnTalks [Names] (k : Nat) : EntryOk Try.prog (E_w_FnTalks k) := entry_ok tok (es_cons (e_w_big k) (es_cons (e_w_sameTexts k) (es_cons (e_s_DrawTalks k) (es_cons (e_i_RunTalk k) (es_cons (e_s_RunTalk k) (es_cons (e_w_samePackets k) (es_cons (e_i_BeginsWith k) (es_cons (e_w_beginning k) (es_cons (e_i_ChanOk k) es_nil))))))))) (by kernel_rfl) (by kernel_rfl) (by kernel_rfl) fun x r h => (t_w_FnTalks k x).trans h
end Go.Proofs.Ytaamcelinnnncaa
