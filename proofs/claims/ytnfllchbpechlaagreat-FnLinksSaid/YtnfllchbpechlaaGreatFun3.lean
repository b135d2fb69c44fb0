import Derived.Test.YtnfllchbpechlaaGreatFun2
/- What functions of the program compute, as plain functions, and that their calls do so (part 3). Conditions: the plain function answers. -/
set_option linter.unusedVariables false
namespace Go.Proofs.YtnfllchbpechlaaGreat
open Go Go.Eng Go.Proofs
def i_AddPart (k : Nat) (x : ((List (Int × Int × Int × List (ByteArray) × List (Bool) × Int)) × Unit) × Int × ByteArray × Int × Unit) : Option ((((List (Int × Int × Int × List (ByteArray) × List (Bool) × Int)) × Unit) × ByteArray × Bool × Unit) × Unit × Unit × Unit × Unit × Unit) :=
((i_copyShelf k ((x.1.1, ()), ())).bind fun p1 =>
((i_ReadPart k (x.2.2.1, ())).bind fun p2 =>
((i_ShelfOk k ((x.1.1, ()), ())).bind fun p3 =>
(if (!p3.1) = false then
((i_isId k (x.2.1, ())).bind fun p4 =>
(if (!p4.1) = false then
(if (!p2.1.2.2.2.2.1) = false then
(if (decide ((120 : Int) < (ByteArray.size p2.1.2.2.2.1 : Int))) = false then
((i_within k (x.2.2.2.1, ((0 : Int), ((999999992 : Int), ())))).bind fun p5 =>
(if (!p5.1) = true then
some (((p1.1.1, ()), ((⟨#[]⟩ : ByteArray), (false, ()))), ((), ((), ((), ((), ())))))
else
(if (decide (p2.1.2.2.1 = (1 : Int))) = true then
some (((p1.1.1, ()), (p2.1.2.2.2.1, (true, ()))), ((), ((), ((), ((), ())))))
else
((i_heldAt k ((p1.1.1, ()), (x.2.1, (p2.1.1, ())))).bind fun p6 =>
(jn (
(jn (fun (j11v0 : Int) (j11v1 : List (Int × Int × Int × List (ByteArray) × List (Bool) × Int)) =>
(if 0 ≤ j11v0 ∧ j11v0 < (List.length j11v1 : Int) then
(jn (fun (j12v0 : List (Int × Int × Int × List (ByteArray) × List (Bool) × Int)) =>
((x_slices_Contains_bool_bool k ((Ty.rd (t := yT1) j12v0 j11v0).2.2.2.2.1, (false, ()))).bind fun p53 =>
(if p53.1 = true then
some (((j12v0, ()), ((⟨#[]⟩ : ByteArray), (false, ()))), ((), ((), ((), ((), ())))))
else
((x_strings_Join k ((Ty.rd (t := yT1) j12v0 j11v0).2.2.2.1, ((⟨#[]⟩ : ByteArray), ()))).bind fun p54 =>
((x_slices_Delete_impl_Held_impl_Held k (j12v0, (j11v0, ((wi64 (j11v0 + (1 : Int))), ())))).bind fun p55 =>
some (((p55.1, ()), (p54.1, (true, ()))), ((), ((), ((), ((), ())))))))))) (fun (j12 : (List (Int × Int × Int × List (ByteArray) × List (Bool) × Int)) → Option _) =>
(if 0 ≤ p2.1.2.1 ∧ p2.1.2.1 < (List.length (Ty.rd (t := yT1) j11v1 j11v0).2.2.2.2.1 : Int) then
(if (!(Ty.rd (t := .bool) (Ty.rd (t := yT1) j11v1 j11v0).2.2.2.2.1 p2.1.2.1)) = true then
(if 0 ≤ p2.1.2.1 ∧ p2.1.2.1 < (List.length (Ty.rd (t := yT1) j11v1 j11v0).2.2.2.2.1 : Int) then
(jn (List.set j11v1 (Int.toNat j11v0) ((Ty.rd (t := yT1) j11v1 j11v0).1, ((Ty.rd (t := yT1) j11v1 j11v0).2.1, ((Ty.rd (t := yT1) j11v1 j11v0).2.2.1, ((Ty.rd (t := yT1) j11v1 j11v0).2.2.2.1, ((List.set (Ty.rd (t := yT1) j11v1 j11v0).2.2.2.2.1 (Int.toNat p2.1.2.1) true), (Ty.rd (t := yT1) j11v1 j11v0).2.2.2.2.2)))))) (fun (q46 : List (Int × Int × Int × List (ByteArray) × List (Bool) × Int)) =>
(if 0 ≤ p2.1.2.1 ∧ p2.1.2.1 < (List.length (Ty.rd (t := yT1) q46 j11v0).2.2.2.1 : Int) then
(jn (List.set q46 (Int.toNat j11v0) ((Ty.rd (t := yT1) q46 j11v0).1, ((Ty.rd (t := yT1) q46 j11v0).2.1, ((Ty.rd (t := yT1) q46 j11v0).2.2.1, ((List.set (Ty.rd (t := yT1) q46 j11v0).2.2.2.1 (Int.toNat p2.1.2.1) p2.1.2.2.2.1), (Ty.rd (t := yT1) q46 j11v0).2.2.2.2))))) (fun (q47 : List (Int × Int × Int × List (ByteArray) × List (Bool) × Int)) =>
(j12 q47)))
else none)))
else none)
else
(j12 j11v1))
else none)))
else none)) (fun (j11 : Int → (List (Int × Int × Int × List (ByteArray) × List (Bool) × Int)) → Option _) =>
(if (decide (p6.1 < (0 : Int))) = true then
(if (decide ((List.length p1.1.1 : Int) = (3 : Int))) = true then
(if 0 ≤ (1 : Int) ∧ (1 : Int) ≤ (List.length p1.1.1 : Int) then
(if p2.1.2.2.1 = p2.1.2.2.1 then
(if 0 ≤ p2.1.2.2.1 ∧ p2.1.2.2.1 ≤ (capMax : Int) then
(if p2.1.2.2.1 = p2.1.2.2.1 then
(if 0 ≤ p2.1.2.2.1 ∧ p2.1.2.2.1 ≤ (capMax : Int) then
(if (List.length p1.1.1 : Int) = (List.length p1.1.1 : Int) ∧ List.length p1.1.1 + List.length ([(x.2.1, (p2.1.1, (p2.1.2.2.1, ((List.replicate (Int.toNat p2.1.2.2.1) (⟨#[]⟩ : ByteArray)), ((List.replicate (Int.toNat p2.1.2.2.1) false), (wi64 (x.2.2.2.1 + (8 : Int))))))))] : List (Int × Int × Int × List (ByteArray) × List (Bool) × Int)) ≤ capMax then
(j11 ((List.length p1.1.1 : Int) - (1 : Int)) ((List.drop (Int.toNat (1 : Int)) p1.1.1) ++ ([(x.2.1, (p2.1.1, (p2.1.2.2.1, ((List.replicate (Int.toNat p2.1.2.2.1) (⟨#[]⟩ : ByteArray)), ((List.replicate (Int.toNat p2.1.2.2.1) false), (wi64 (x.2.2.2.1 + (8 : Int))))))))] : List (Int × Int × Int × List (ByteArray) × List (Bool) × Int))))
else none)
else none)
else none)
else none)
else none)
else none)
else
(if p2.1.2.2.1 = p2.1.2.2.1 then
(if 0 ≤ p2.1.2.2.1 ∧ p2.1.2.2.1 ≤ (capMax : Int) then
(if p2.1.2.2.1 = p2.1.2.2.1 then
(if 0 ≤ p2.1.2.2.1 ∧ p2.1.2.2.1 ≤ (capMax : Int) then
(if List.length p1.1.1 + List.length ([(x.2.1, (p2.1.1, (p2.1.2.2.1, ((List.replicate (Int.toNat p2.1.2.2.1) (⟨#[]⟩ : ByteArray)), ((List.replicate (Int.toNat p2.1.2.2.1) false), (wi64 (x.2.2.2.1 + (8 : Int))))))))] : List (Int × Int × Int × List (ByteArray) × List (Bool) × Int)) ≤ capMax then
(j11 (List.length p1.1.1 : Int) (p1.1.1 ++ ([(x.2.1, (p2.1.1, (p2.1.2.2.1, ((List.replicate (Int.toNat p2.1.2.2.1) (⟨#[]⟩ : ByteArray)), ((List.replicate (Int.toNat p2.1.2.2.1) false), (wi64 (x.2.2.2.1 + (8 : Int))))))))] : List (Int × Int × Int × List (ByteArray) × List (Bool) × Int))))
else none)
else none)
else none)
else none)
else none))
else
(if 0 ≤ p6.1 ∧ p6.1 < (List.length p1.1.1 : Int) then
(jn (fun (j13v0 : List (Int × Int × Int × List (ByteArray) × List (Bool) × Int)) =>
((x_slices_Contains_bool_bool k ((Ty.rd (t := yT1) j13v0 p6.1).2.2.2.2.1, (false, ()))).bind fun p59 =>
(if p59.1 = true then
some (((j13v0, ()), ((⟨#[]⟩ : ByteArray), (false, ()))), ((), ((), ((), ((), ())))))
else
((x_strings_Join k ((Ty.rd (t := yT1) j13v0 p6.1).2.2.2.1, ((⟨#[]⟩ : ByteArray), ()))).bind fun p60 =>
((x_slices_Delete_impl_Held_impl_Held k (j13v0, (p6.1, ((wi64 (p6.1 + (1 : Int))), ())))).bind fun p61 =>
some (((p61.1, ()), (p60.1, (true, ()))), ((), ((), ((), ((), ())))))))))) (fun (j13 : (List (Int × Int × Int × List (ByteArray) × List (Bool) × Int)) → Option _) =>
(if 0 ≤ p2.1.2.1 ∧ p2.1.2.1 < (List.length (Ty.rd (t := yT1) p1.1.1 p6.1).2.2.2.2.1 : Int) then
(if (!(Ty.rd (t := .bool) (Ty.rd (t := yT1) p1.1.1 p6.1).2.2.2.2.1 p2.1.2.1)) = true then
(if 0 ≤ p2.1.2.1 ∧ p2.1.2.1 < (List.length (Ty.rd (t := yT1) p1.1.1 p6.1).2.2.2.2.1 : Int) then
(jn (List.set p1.1.1 (Int.toNat p6.1) ((Ty.rd (t := yT1) p1.1.1 p6.1).1, ((Ty.rd (t := yT1) p1.1.1 p6.1).2.1, ((Ty.rd (t := yT1) p1.1.1 p6.1).2.2.1, ((Ty.rd (t := yT1) p1.1.1 p6.1).2.2.2.1, ((List.set (Ty.rd (t := yT1) p1.1.1 p6.1).2.2.2.2.1 (Int.toNat p2.1.2.1) true), (Ty.rd (t := yT1) p1.1.1 p6.1).2.2.2.2.2)))))) (fun (q48 : List (Int × Int × Int × List (ByteArray) × List (Bool) × Int)) =>
(if 0 ≤ p2.1.2.1 ∧ p2.1.2.1 < (List.length (Ty.rd (t := yT1) q48 p6.1).2.2.2.1 : Int) then
(jn (List.set q48 (Int.toNat p6.1) ((Ty.rd (t := yT1) q48 p6.1).1, ((Ty.rd (t := yT1) q48 p6.1).2.1, ((Ty.rd (t := yT1) q48 p6.1).2.2.1, ((List.set (Ty.rd (t := yT1) q48 p6.1).2.2.2.1 (Int.toNat p2.1.2.1) p2.1.2.2.2.1), (Ty.rd (t := yT1) q48 p6.1).2.2.2.2))))) (fun (q49 : List (Int × Int × Int × List (ByteArray) × List (Bool) × Int)) =>
(j13 q49)))
else none)))
else none)
else
(j13 p1.1.1))
else none)))
else none))))) (fun (j9 : Option _) =>
(if (decide ((0 : Int) ≤ p6.1)) = true then
(if 0 ≤ p6.1 ∧ p6.1 < (List.length p1.1.1 : Int) then
(if (!decide ((Ty.rd (t := yT1) p1.1.1 p6.1).2.2.1 = p2.1.2.2.1)) = true then
((x_slices_Delete_impl_Held_impl_Held k (p1.1.1, (p6.1, ((wi64 (p6.1 + (1 : Int))), ())))).bind fun p7 =>
(jn (fun (j2v0 : Int) (j2v1 : List (Int × Int × Int × List (ByteArray) × List (Bool) × Int)) =>
(if 0 ≤ j2v0 ∧ j2v0 < (List.length j2v1 : Int) then
(jn (fun (j3v0 : List (Int × Int × Int × List (ByteArray) × List (Bool) × Int)) =>
((x_slices_Contains_bool_bool k ((Ty.rd (t := yT1) j3v0 j2v0).2.2.2.2.1, (false, ()))).bind fun p17 =>
(if p17.1 = true then
some (((j3v0, ()), ((⟨#[]⟩ : ByteArray), (false, ()))), ((), ((), ((), ((), ())))))
else
((x_strings_Join k ((Ty.rd (t := yT1) j3v0 j2v0).2.2.2.1, ((⟨#[]⟩ : ByteArray), ()))).bind fun p18 =>
((x_slices_Delete_impl_Held_impl_Held k (j3v0, (j2v0, ((wi64 (j2v0 + (1 : Int))), ())))).bind fun p19 =>
some (((p19.1, ()), (p18.1, (true, ()))), ((), ((), ((), ((), ())))))))))) (fun (j3 : (List (Int × Int × Int × List (ByteArray) × List (Bool) × Int)) → Option _) =>
(if 0 ≤ p2.1.2.1 ∧ p2.1.2.1 < (List.length (Ty.rd (t := yT1) j2v1 j2v0).2.2.2.2.1 : Int) then
(if (!(Ty.rd (t := .bool) (Ty.rd (t := yT1) j2v1 j2v0).2.2.2.2.1 p2.1.2.1)) = true then
(if 0 ≤ p2.1.2.1 ∧ p2.1.2.1 < (List.length (Ty.rd (t := yT1) j2v1 j2v0).2.2.2.2.1 : Int) then
(jn (List.set j2v1 (Int.toNat j2v0) ((Ty.rd (t := yT1) j2v1 j2v0).1, ((Ty.rd (t := yT1) j2v1 j2v0).2.1, ((Ty.rd (t := yT1) j2v1 j2v0).2.2.1, ((Ty.rd (t := yT1) j2v1 j2v0).2.2.2.1, ((List.set (Ty.rd (t := yT1) j2v1 j2v0).2.2.2.2.1 (Int.toNat p2.1.2.1) true), (Ty.rd (t := yT1) j2v1 j2v0).2.2.2.2.2)))))) (fun (q34 : List (Int × Int × Int × List (ByteArray) × List (Bool) × Int)) =>
(if 0 ≤ p2.1.2.1 ∧ p2.1.2.1 < (List.length (Ty.rd (t := yT1) q34 j2v0).2.2.2.1 : Int) then
(jn (List.set q34 (Int.toNat j2v0) ((Ty.rd (t := yT1) q34 j2v0).1, ((Ty.rd (t := yT1) q34 j2v0).2.1, ((Ty.rd (t := yT1) q34 j2v0).2.2.1, ((List.set (Ty.rd (t := yT1) q34 j2v0).2.2.2.1 (Int.toNat p2.1.2.1) p2.1.2.2.2.1), (Ty.rd (t := yT1) q34 j2v0).2.2.2.2))))) (fun (q35 : List (Int × Int × Int × List (ByteArray) × List (Bool) × Int)) =>
(j3 q35)))
else none)))
else none)
else
(j3 j2v1))
else none)))
else none)) (fun (j2 : Int → (List (Int × Int × Int × List (ByteArray) × List (Bool) × Int)) → Option _) =>
(if (decide ((-1 : Int) < (0 : Int))) = true then
(if (decide ((List.length p7.1 : Int) = (3 : Int))) = true then
(if 0 ≤ (1 : Int) ∧ (1 : Int) ≤ (List.length p7.1 : Int) then
(if p2.1.2.2.1 = p2.1.2.2.1 then
(if 0 ≤ p2.1.2.2.1 ∧ p2.1.2.2.1 ≤ (capMax : Int) then
(if p2.1.2.2.1 = p2.1.2.2.1 then
(if 0 ≤ p2.1.2.2.1 ∧ p2.1.2.2.1 ≤ (capMax : Int) then
(if (List.length p7.1 : Int) = (List.length p7.1 : Int) ∧ List.length p7.1 + List.length ([(x.2.1, (p2.1.1, (p2.1.2.2.1, ((List.replicate (Int.toNat p2.1.2.2.1) (⟨#[]⟩ : ByteArray)), ((List.replicate (Int.toNat p2.1.2.2.1) false), (wi64 (x.2.2.2.1 + (8 : Int))))))))] : List (Int × Int × Int × List (ByteArray) × List (Bool) × Int)) ≤ capMax then
(j2 ((List.length p7.1 : Int) - (1 : Int)) ((List.drop (Int.toNat (1 : Int)) p7.1) ++ ([(x.2.1, (p2.1.1, (p2.1.2.2.1, ((List.replicate (Int.toNat p2.1.2.2.1) (⟨#[]⟩ : ByteArray)), ((List.replicate (Int.toNat p2.1.2.2.1) false), (wi64 (x.2.2.2.1 + (8 : Int))))))))] : List (Int × Int × Int × List (ByteArray) × List (Bool) × Int))))
else none)
else none)
else none)
else none)
else none)
else none)
else
(if p2.1.2.2.1 = p2.1.2.2.1 then
(if 0 ≤ p2.1.2.2.1 ∧ p2.1.2.2.1 ≤ (capMax : Int) then
(if p2.1.2.2.1 = p2.1.2.2.1 then
(if 0 ≤ p2.1.2.2.1 ∧ p2.1.2.2.1 ≤ (capMax : Int) then
(if List.length p7.1 + List.length ([(x.2.1, (p2.1.1, (p2.1.2.2.1, ((List.replicate (Int.toNat p2.1.2.2.1) (⟨#[]⟩ : ByteArray)), ((List.replicate (Int.toNat p2.1.2.2.1) false), (wi64 (x.2.2.2.1 + (8 : Int))))))))] : List (Int × Int × Int × List (ByteArray) × List (Bool) × Int)) ≤ capMax then
(j2 (List.length p7.1 : Int) (p7.1 ++ ([(x.2.1, (p2.1.1, (p2.1.2.2.1, ((List.replicate (Int.toNat p2.1.2.2.1) (⟨#[]⟩ : ByteArray)), ((List.replicate (Int.toNat p2.1.2.2.1) false), (wi64 (x.2.2.2.1 + (8 : Int))))))))] : List (Int × Int × Int × List (ByteArray) × List (Bool) × Int))))
else none)
else none)
else none)
else none)
else none))
else
(if 0 ≤ (-1 : Int) ∧ (-1 : Int) < (List.length p7.1 : Int) then
(jn (fun (j4v0 : List (Int × Int × Int × List (ByteArray) × List (Bool) × Int)) =>
((x_slices_Contains_bool_bool k ((Ty.rd (t := yT1) j4v0 (-1 : Int)).2.2.2.2.1, (false, ()))).bind fun p23 =>
(if p23.1 = true then
some (((j4v0, ()), ((⟨#[]⟩ : ByteArray), (false, ()))), ((), ((), ((), ((), ())))))
else
((x_strings_Join k ((Ty.rd (t := yT1) j4v0 (-1 : Int)).2.2.2.1, ((⟨#[]⟩ : ByteArray), ()))).bind fun p24 =>
((x_slices_Delete_impl_Held_impl_Held k (j4v0, ((-1 : Int), ((wi64 ((-1 : Int) + (1 : Int))), ())))).bind fun p25 =>
some (((p25.1, ()), (p24.1, (true, ()))), ((), ((), ((), ((), ())))))))))) (fun (j4 : (List (Int × Int × Int × List (ByteArray) × List (Bool) × Int)) → Option _) =>
(if 0 ≤ p2.1.2.1 ∧ p2.1.2.1 < (List.length (Ty.rd (t := yT1) p7.1 (-1 : Int)).2.2.2.2.1 : Int) then
(if (!(Ty.rd (t := .bool) (Ty.rd (t := yT1) p7.1 (-1 : Int)).2.2.2.2.1 p2.1.2.1)) = true then
(if 0 ≤ p2.1.2.1 ∧ p2.1.2.1 < (List.length (Ty.rd (t := yT1) p7.1 (-1 : Int)).2.2.2.2.1 : Int) then
(jn (List.set p7.1 (Int.toNat (-1 : Int)) ((Ty.rd (t := yT1) p7.1 (-1 : Int)).1, ((Ty.rd (t := yT1) p7.1 (-1 : Int)).2.1, ((Ty.rd (t := yT1) p7.1 (-1 : Int)).2.2.1, ((Ty.rd (t := yT1) p7.1 (-1 : Int)).2.2.2.1, ((List.set (Ty.rd (t := yT1) p7.1 (-1 : Int)).2.2.2.2.1 (Int.toNat p2.1.2.1) true), (Ty.rd (t := yT1) p7.1 (-1 : Int)).2.2.2.2.2)))))) (fun (q36 : List (Int × Int × Int × List (ByteArray) × List (Bool) × Int)) =>
(if 0 ≤ p2.1.2.1 ∧ p2.1.2.1 < (List.length (Ty.rd (t := yT1) q36 (-1 : Int)).2.2.2.1 : Int) then
(jn (List.set q36 (Int.toNat (-1 : Int)) ((Ty.rd (t := yT1) q36 (-1 : Int)).1, ((Ty.rd (t := yT1) q36 (-1 : Int)).2.1, ((Ty.rd (t := yT1) q36 (-1 : Int)).2.2.1, ((List.set (Ty.rd (t := yT1) q36 (-1 : Int)).2.2.2.1 (Int.toNat p2.1.2.1) p2.1.2.2.2.1), (Ty.rd (t := yT1) q36 (-1 : Int)).2.2.2.2))))) (fun (q37 : List (Int × Int × Int × List (ByteArray) × List (Bool) × Int)) =>
(j4 q37)))
else none)))
else none)
else
(j4 p7.1))
else none)))
else none)))))
else
j9)
else none)
else
j9)))))))
else
some (((p1.1.1, ()), ((⟨#[]⟩ : ByteArray), (false, ()))), ((), ((), ((), ((), ()))))))
else
some (((p1.1.1, ()), ((⟨#[]⟩ : ByteArray), (false, ()))), ((), ((), ((), ((), ()))))))
else
some (((p1.1.1, ()), ((⟨#[]⟩ : ByteArray), (false, ()))), ((), ((), ((), ((), ())))))))
else
some (((p1.1.1, ()), ((⟨#[]⟩ : ByteArray), (false, ()))), ((), ((), ((), ((), ())))))))))
theorem t_i_AddPart (k : Nat) (x) : evF TTabO k [⟨55, 0, yP12, .bool, i_within k⟩, ⟨133, 0, yP2, .bool, i_isId k⟩, ⟨184, 0, (.cons yP34 .nil), (.agg yP36), i_copyShelf k⟩, ⟨201, 0, (.cons .str .nil), (.tup (.cons (.int .i64) (.cons (.int .i64) (.cons (.int .i64) yP22)))), i_ReadPart k⟩, ⟨202, 0, (.cons yP34 .nil), .bool, i_ShelfOk k⟩, ⟨203, 0, (.cons yP34 (.cons (.int .i64) yP2)), (.int .i64), i_heldAt k⟩, ⟨204, 0, (.cons (.own false 229 yT1) (.cons (.int .i64) yP2)), (.own false 229 yT1), x_slices_Delete_impl_Held_impl_Held k⟩, ⟨205, 0, (.cons (.il true .bool) (.cons .bool .nil)), .bool, x_slices_Contains_bool_bool k⟩, ⟨206, 0, (.cons (.il true .str) (.cons .str .nil)), .str, x_strings_Join k⟩] [] Tryz.f117 (.cons yP34 (.cons (.int .i64) (.cons .str yP2))) (.tup (.cons (.agg yP36) yP22)) x = i_AddPart k x := by kernel_rfl
theorem e_i_AddPart [Names] (k : Nat) : EntryOk Tryz.prog ⟨117, 0, (.cons yP34 (.cons (.int .i64) (.cons .str yP2))), (.tup (.cons (.agg yP36) yP22)), i_AddPart k⟩ := entry_ok tokO (by intro e he; simp only [List.mem_cons, List.not_mem_nil, or_false] at he; rcases he with rfl | rfl | rfl | rfl | rfl | rfl | rfl | rfl | rfl <;> first | exact e_i_within k | exact e_i_isId k | exact e_i_copyShelf k | exact e_i_ReadPart k | exact e_i_ShelfOk k | exact e_i_heldAt k | exact e_x_slices_Delete_impl_Held_impl_Held k | exact e_x_slices_Contains_bool_bool k | exact e_x_strings_Join k) (by kernel_rfl) (fn := Tryz.f117) (k := k) (es := [⟨55, 0, yP12, .bool, i_within k⟩, ⟨133, 0, yP2, .bool, i_isId k⟩, ⟨184, 0, (.cons yP34 .nil), (.agg yP36), i_copyShelf k⟩, ⟨201, 0, (.cons .str .nil), (.tup (.cons (.int .i64) (.cons (.int .i64) (.cons (.int .i64) yP22)))), i_ReadPart k⟩, ⟨202, 0, (.cons yP34 .nil), .bool, i_ShelfOk k⟩, ⟨203, 0, (.cons yP34 (.cons (.int .i64) yP2)), (.int .i64), i_heldAt k⟩, ⟨204, 0, (.cons (.own false 229 yT1) (.cons (.int .i64) yP2)), (.own false 229 yT1), x_slices_Delete_impl_Held_impl_Held k⟩, ⟨205, 0, (.cons (.il true .bool) (.cons .bool .nil)), .bool, x_slices_Contains_bool_bool k⟩, ⟨206, 0, (.cons (.il true .str) (.cons .str .nil)), .str, x_strings_Join k⟩]) (loops := []) (by kernel_rfl) (by kernel_rfl) (fun x r h => (t_i_AddPart k x).trans h)
def i_ReadInner (k : Nat) (x : ByteArray × Unit) : Option (((Int × Int × ByteArray × Unit) × Bool × Unit) × Unit × Unit) :=
((i_within k ((ByteArray.size x.1 : Int), ((8 : Int), ((108 : Int), ())))).bind fun p1 =>
(if (!p1.1) = true then
some ((((0 : Int), ((0 : Int), ((⟨#[]⟩ : ByteArray), ()))), (false, ())), ((), ()))
else
(if 0 ≤ (8 : Int) ∧ (8 : Int) ≤ (ByteArray.size x.1 : Int) then
(if 0 ≤ (4 : Int) ∧ (4 : Int) ≤ (ByteArray.size x.1 : Int) then
((i_ReadNumber k ((ByteArray.extract x.1 (Int.toNat (0 : Int)) (Int.toNat (4 : Int))), ())).bind fun p2 =>
(if 0 ≤ (8 : Int) ∧ (8 : Int) ≤ (ByteArray.size x.1 : Int) then
(if 0 ≤ (4 : Int) ∧ (4 : Int) ≤ (8 : Int) then
((i_ReadNumber k ((ByteArray.extract x.1 (Int.toNat (4 : Int)) (Int.toNat (8 : Int))), ())).bind fun p3 =>
some (((p2.1.1, (p3.1.1, ((ByteArray.extract x.1 (Int.toNat (8 : Int)) (Int.toNat (ByteArray.size x.1 : Int))), ()))), (true, ())), ((), ())))
else none)
else none))
else none)
else none)))
theorem t_i_ReadInner (k : Nat) (x) : evF TTab k [⟨55, 0, yP12, .bool, i_within k⟩, ⟨207, 0, (.cons .str .nil), (.tup (.cons (.int .i64) (.cons .bool .nil))), i_ReadNumber k⟩] [] Tryz.f118 (.cons .str .nil) (.tup (.cons yP35 (.cons .bool .nil))) x = i_ReadInner k x := by kernel_rfl
theorem e_i_ReadInner [Names] (k : Nat) : EntryOk Tryz.prog ⟨118, 0, (.cons .str .nil), (.tup (.cons yP35 (.cons .bool .nil))), i_ReadInner k⟩ := entry_ok tok (by intro e he; simp only [List.mem_cons, List.not_mem_nil, or_false] at he; rcases he with rfl | rfl <;> first | exact e_i_within k | exact e_i_ReadNumber k) (by kernel_rfl) (fn := Tryz.f118) (k := k) (es := [⟨55, 0, yP12, .bool, i_within k⟩, ⟨207, 0, (.cons .str .nil), (.tup (.cons (.int .i64) (.cons .bool .nil))), i_ReadNumber k⟩]) (loops := []) (by kernel_rfl) (by kernel_rfl) (fun x r h => (t_i_ReadInner k x).trans h)
def i_TakeData (k : Nat) (x : (Int × Int × Int × ByteArray × ByteArray × Int × List (Int) × Int × Int × ByteArray × ByteArray × Int × List (Int) × Int × (List (Int × Int × Int × List (ByteArray) × List (Bool) × Int)) × Int × Unit) × (Int × Int × Int × Int × Int × List (Int) × ByteArray × Unit) × Int × Unit) : Option (((Int × Int × Int × ByteArray × ByteArray × Int × List (Int) × Int × Int × ByteArray × ByteArray × Int × List (Int) × Int × (List (Int × Int × Int × List (ByteArray) × List (Bool) × Int)) × Int × Unit) × (Int × Int × ByteArray × Unit) × Bool × Unit) × Unit × Unit × Unit × Unit) :=
((i_copyUser k (x.1, ())).bind fun p1 =>
((i_OpenData k ((x.1.2.2.1, (x.1.2.2.2.1, (x.1.2.2.2.2.1, (x.1.2.2.2.2.2.1, (x.1.2.2.2.2.2.2.1, (x.1.2.2.2.2.2.2.2.1, (x.1.2.2.2.2.2.2.2.2.1, (x.1.2.2.2.2.2.2.2.2.2.1, (x.1.2.2.2.2.2.2.2.2.2.2.1, (x.1.2.2.2.2.2.2.2.2.2.2.2.1, (x.1.2.2.2.2.2.2.2.2.2.2.2.2.1, (x.1.2.2.2.2.2.2.2.2.2.2.2.2.2.1, ())))))))))))), ((x.2.1.1, (x.2.1.2.1, (x.2.1.2.2.1, (x.2.1.2.2.2.1, (x.2.1.2.2.2.2.1, (x.2.1.2.2.2.2.2.1, (x.2.1.2.2.2.2.2.2.1, ()))))))), (x.2.2.1, ())))).bind fun p2 =>
(if (!p2.1.2.2.1) = true then
some ((p1.1, (((0 : Int), ((0 : Int), ((⟨#[]⟩ : ByteArray), ()))), (false, ()))), ((), ((), ((), ()))))
else
((i_AddPart k ((x.1.2.2.2.2.2.2.2.2.2.2.2.2.2.2.1, ()), (x.2.1.2.2.1, (p2.1.2.1, (x.2.2.1, ()))))).bind fun p3 =>
((i_ReadInner k (p3.1.2.1, ())).bind fun p4 =>
(if (!p3.1.2.2.1) = false then
(if (!p4.1.2.1) = true then
some (((p1.1.1, (p1.1.2.1, (p2.1.1.1, (p2.1.1.2.1, (p2.1.1.2.2.1, (p2.1.1.2.2.2.1, (p2.1.1.2.2.2.2.1, (p2.1.1.2.2.2.2.2.1, (p2.1.1.2.2.2.2.2.2.1, (p2.1.1.2.2.2.2.2.2.2.1, (p2.1.1.2.2.2.2.2.2.2.2.1, (p2.1.1.2.2.2.2.2.2.2.2.2.1, (p2.1.1.2.2.2.2.2.2.2.2.2.2.1, (p2.1.1.2.2.2.2.2.2.2.2.2.2.2.1, (p3.1.1.1, (p1.1.2.2.2.2.2.2.2.2.2.2.2.2.2.2.2.1, ())))))))))))))))), (((0 : Int), ((0 : Int), ((⟨#[]⟩ : ByteArray), ()))), (false, ()))), ((), ((), ((), ()))))
else
some (((p1.1.1, (p1.1.2.1, (p2.1.1.1, (p2.1.1.2.1, (p2.1.1.2.2.1, (p2.1.1.2.2.2.1, (p2.1.1.2.2.2.2.1, (p2.1.1.2.2.2.2.2.1, (p2.1.1.2.2.2.2.2.2.1, (p2.1.1.2.2.2.2.2.2.2.1, (p2.1.1.2.2.2.2.2.2.2.2.1, (p2.1.1.2.2.2.2.2.2.2.2.2.1, (p2.1.1.2.2.2.2.2.2.2.2.2.2.1, (p2.1.1.2.2.2.2.2.2.2.2.2.2.2.1, (p3.1.1.1, (p1.1.2.2.2.2.2.2.2.2.2.2.2.2.2.2.2.1, ())))))))))))))))), ((p4.1.1.1, (p4.1.1.2.1, (p4.1.1.2.2.1, ()))), (true, ()))), ((), ((), ((), ())))))
else
some (((p1.1.1, (p1.1.2.1, (p2.1.1.1, (p2.1.1.2.1, (p2.1.1.2.2.1, (p2.1.1.2.2.2.1, (p2.1.1.2.2.2.2.1, (p2.1.1.2.2.2.2.2.1, (p2.1.1.2.2.2.2.2.2.1, (p2.1.1.2.2.2.2.2.2.2.1, (p2.1.1.2.2.2.2.2.2.2.2.1, (p2.1.1.2.2.2.2.2.2.2.2.2.1, (p2.1.1.2.2.2.2.2.2.2.2.2.2.1, (p2.1.1.2.2.2.2.2.2.2.2.2.2.2.1, (p3.1.1.1, (p1.1.2.2.2.2.2.2.2.2.2.2.2.2.2.2.2.1, ())))))))))))))))), (((0 : Int), ((0 : Int), ((⟨#[]⟩ : ByteArray), ()))), (false, ()))), ((), ((), ((), ()))))))))))
theorem t_i_TakeData (k : Nat) (x) : evF TTabO k [⟨100, 0, (.cons (.agg yP9) .nil), (.agg yP3), i_copyUser k⟩, ⟨116, 0, (.cons yP6 (.cons (.agg yP11) yP2)), (.tup (.cons (.agg yP5) yP22)), i_OpenData k⟩, ⟨117, 0, (.cons yP34 (.cons (.int .i64) (.cons .str yP2))), (.tup (.cons (.agg yP36) yP22)), i_AddPart k⟩, ⟨118, 0, (.cons .str .nil), (.tup (.cons yP35 (.cons .bool .nil))), i_ReadInner k⟩] [] Tryz.f43 (.cons (.agg yP9) (.cons (.agg yP11) yP2)) (.tup (.cons (.agg yP3) (.cons yP35 (.cons .bool .nil)))) x = i_TakeData k x := by kernel_rfl
theorem e_i_TakeData [Names] (k : Nat) : EntryOk Tryz.prog ⟨43, 0, (.cons (.agg yP9) (.cons (.agg yP11) yP2)), (.tup (.cons (.agg yP3) (.cons yP35 (.cons .bool .nil)))), i_TakeData k⟩ := entry_ok tokO (by intro e he; simp only [List.mem_cons, List.not_mem_nil, or_false] at he; rcases he with rfl | rfl | rfl | rfl <;> first | exact e_i_copyUser k | exact e_i_OpenData k | exact e_i_AddPart k | exact e_i_ReadInner k) (by kernel_rfl) (fn := Tryz.f43) (k := k) (es := [⟨100, 0, (.cons (.agg yP9) .nil), (.agg yP3), i_copyUser k⟩, ⟨116, 0, (.cons yP6 (.cons (.agg yP11) yP2)), (.tup (.cons (.agg yP5) yP22)), i_OpenData k⟩, ⟨117, 0, (.cons yP34 (.cons (.int .i64) (.cons .str yP2))), (.tup (.cons (.agg yP36) yP22)), i_AddPart k⟩, ⟨118, 0, (.cons .str .nil), (.tup (.cons yP35 (.cons .bool .nil))), i_ReadInner k⟩]) (loops := []) (by kernel_rfl) (by kernel_rfl) (fun x r h => (t_i_TakeData k x).trans h)
def s_l14Texts (k : Nat) (x : (List (Int) × Int × Int × Unit) × Unit) : Option (List (ByteArray) × (List (Int) × Int × Int × Unit) × Unit) :=
(whileK (fun (rec0 : ((List (Int) × Int × Int × Unit) × List (ByteArray) × Int × Unit) → Option _) (y0 : (List (Int) × Int × Int × Unit) × List (ByteArray) × Int × Unit) =>
((s_l01Below k ((y0.1.1, (y0.1.2.1, (y0.1.2.2.1, ()))), ((9 : Int), ()))).bind fun p1 =>
(if (decide (y0.2.2.1 < p1.1)) = true then
((s_l01Below k ((p1.2.1.1, (p1.2.1.2.1, (p1.2.1.2.2.1, ()))), ((3 : Int), ()))).bind fun p2 =>
((s_l01Text k ((p2.2.1.1, (p2.2.1.2.1, (p2.2.1.2.2.1, ()))), (p2.1, ()))).bind fun p3 =>
(if List.length y0.2.1 + List.length ([p3.1] : List (ByteArray)) ≤ capMax then
(rec0 ((p3.2.1.1, (p3.2.1.2.1, (p3.2.1.2.2.1, ()))), ((y0.2.1 ++ ([p3.1] : List (ByteArray))), ((wi64 (y0.2.2.1 + (1 : Int))), ()))))
else none)))
else
((fun (z1 : (List (Int) × Int × Int × Unit) × List (ByteArray) × Unit) =>
some (z1.2.1, ((z1.1.1, (z1.1.2.1, (z1.1.2.2.1, ()))), ()))) ((p1.2.1.1, (p1.2.1.2.1, (p1.2.1.2.2.1, ()))), (y0.2.1, ())))))) k ((x.1.1, (x.1.2.1, (x.1.2.2.1, ()))), (([] : List (ByteArray)), ((0 : Int), ()))))
theorem t_s_l14Texts (k : Nat) (x) : evF TTab k [⟨53, 0, (.cons (.ptr 0 yP18) yP2), (.int .i64), s_l01Below k⟩, ⟨120, 0, (.cons (.ptr 0 yP18) yP2), .str, s_l01Text k⟩] [(0, ⟨[0, 3, 4], (.cons (.ptr 0 yP18) (.cons (.own false 9 .str) yP2))⟩, ⟨[0, 3], (.cons (.ptr 0 yP18) (.cons (.own false 9 .str) .nil))⟩)] Tryz.f121 (.cons (.ptr 0 yP18) .nil) (.own false 9 .str) x = s_l14Texts k x := by kernel_rfl
theorem e_s_l14Texts [Names] (k : Nat) : EntryOk Tryz.prog ⟨121, 0, (.cons (.ptr 0 yP18) .nil), (.own false 9 .str), s_l14Texts k⟩ := entry_ok tok (by intro e he; simp only [List.mem_cons, List.not_mem_nil, or_false] at he; rcases he with rfl | rfl <;> first | exact e_s_l01Below k | exact e_s_l01Text k) (by kernel_rfl) (fn := Tryz.f121) (k := k) (es := [⟨53, 0, (.cons (.ptr 0 yP18) yP2), (.int .i64), s_l01Below k⟩, ⟨120, 0, (.cons (.ptr 0 yP18) yP2), .str, s_l01Text k⟩]) (loops := [(0, ⟨[0, 3, 4], (.cons (.ptr 0 yP18) (.cons (.own false 9 .str) yP2))⟩, ⟨[0, 3], (.cons (.ptr 0 yP18) (.cons (.own false 9 .str) .nil))⟩)]) (by kernel_rfl) (by kernel_rfl) (fun x r h => (t_s_l14Texts k x).trans h)
def s_DrawBodies (k : Nat) (x : List (Int) × Unit) : Option ((ByteArray × List (ByteArray) × Unit) × Unit × Unit) :=
((s_l01New k (x.1, ())).bind fun p1 =>
((s_l01Text k ((p1.1.1, (p1.1.2.1, (p1.1.2.2.1, ()))), ((2 : Int), ()))).bind fun p2 =>
((s_l14Texts k ((p2.2.1.1, (p2.2.1.2.1, (p2.2.1.2.2.1, ()))), ())).bind fun p3 =>
some ((p2.1, (p3.1, ())), ((), ())))))
theorem t_s_DrawBodies (k : Nat) (x) : evF TTab k [⟨51, 0, (.cons (.il true (.int .u8)) .nil), (.ptr 0 yP18), s_l01New k⟩, ⟨120, 0, (.cons (.ptr 0 yP18) yP2), .str, s_l01Text k⟩, ⟨121, 0, (.cons (.ptr 0 yP18) .nil), (.own false 9 .str), s_l14Texts k⟩] [] Tryz.f47 (.cons (.il true (.int .u8)) .nil) (.tup (.cons .str (.cons (.own false 9 .str) .nil))) x = s_DrawBodies k x := by kernel_rfl
theorem e_s_DrawBodies [Names] (k : Nat) : EntryOk Tryz.prog ⟨47, 0, (.cons (.il true (.int .u8)) .nil), (.tup (.cons .str (.cons (.own false 9 .str) .nil))), s_DrawBodies k⟩ := entry_ok tok (by intro e he; simp only [List.mem_cons, List.not_mem_nil, or_false] at he; rcases he with rfl | rfl | rfl <;> first | exact e_s_l01New k | exact e_s_l01Text k | exact e_s_l14Texts k) (by kernel_rfl) (fn := Tryz.f47) (k := k) (es := [⟨51, 0, (.cons (.il true (.int .u8)) .nil), (.ptr 0 yP18), s_l01New k⟩, ⟨120, 0, (.cons (.ptr 0 yP18) yP2), .str, s_l01Text k⟩, ⟨121, 0, (.cons (.ptr 0 yP18) .nil), (.own false 9 .str), s_l14Texts k⟩]) (loops := []) (by kernel_rfl) (by kernel_rfl) (fun x r h => (t_s_DrawBodies k x).trans h)
def i_HubNew (k : Nat) (x : (Int × Int × Unit) × Unit) : Option (((Int × Int × (List (Int × Int × Int)) × (List (Int × Int)) × (List ((Int × Int) × Int)) × (List (Int × Int × ((Int × ByteArray × ByteArray × Int × List (Int) × Int) × Int × ByteArray × ByteArray × Int × List (Int) × Int) × List (Int × Int × Int × List (ByteArray) × List (Bool) × Int) × Int)) × Unit) × Bool × Unit) × Unit × Unit) :=
((i_PoolOk k ((x.1.1, (x.1.2.1, ([], ([], ())))), ())).bind fun p1 =>
(if (!p1.1) = true then
some ((((0 : Int), ((0 : Int), ([], ([], ([], ([], ())))))), (false, ())), ((), ()))
else
some (((x.1.1, (x.1.2.1, ([], ([], ([], ([], ())))))), (true, ())), ((), ()))))
theorem t_i_HubNew (k : Nat) (x) : evF TTabO k [⟨124, 0, (.cons (.agg yP14) .nil), .bool, i_PoolOk k⟩] [] Tryz.f49 (.cons yP28 .nil) (.tup (.cons yP16 (.cons .bool .nil))) x = i_HubNew k x := by kernel_rfl
theorem e_i_HubNew [Names] (k : Nat) : EntryOk Tryz.prog ⟨49, 0, (.cons yP28 .nil), (.tup (.cons yP16 (.cons .bool .nil))), i_HubNew k⟩ := entry_ok tokO (by intro e he; simp only [List.mem_cons, List.not_mem_nil, or_false] at he; rcases he with rfl <;> first | exact e_i_PoolOk k) (by kernel_rfl) (fn := Tryz.f49) (k := k) (es := [⟨124, 0, (.cons (.agg yP14) .nil), .bool, i_PoolOk k⟩]) (loops := []) (by kernel_rfl) (by kernel_rfl) (fun x r h => (t_i_HubNew k x).trans h)
def w_FnLinks (k : Nat) (x : List (Int) × Unit) : Option (Bool × Unit × Unit) :=
((w_big k (x.1, ())).bind fun p1 =>
(if p1.1 = true then
some (true, ((), ()))
else
((s_DrawBodies k (x.1, ())).bind fun p2 =>
((s_PairSlots k (p2.1.1, ())).bind fun p3 =>
(whileK (fun (rec0 : (List (ByteArray) × (Int × Int × Int × ByteArray × ByteArray × Int × List (Int) × Int × Int × ByteArray × ByteArray × Int × List (Int) × Int × (List (Int × Int × Int × List (ByteArray) × List (Bool) × Int)) × Int × Unit) × (Int × Int × Int × ByteArray × ByteArray × Int × List (Int) × Int × Int × ByteArray × ByteArray × Int × List (Int) × Int × (List (Int × Int × Int × List (ByteArray) × List (Bool) × Int)) × Int × Unit) × Int × Unit) → Option _) (y0 : List (ByteArray) × (Int × Int × Int × ByteArray × ByteArray × Int × List (Int) × Int × Int × ByteArray × ByteArray × Int × List (Int) × Int × (List (Int × Int × Int × List (ByteArray) × List (Bool) × Int)) × Int × Unit) × (Int × Int × Int × ByteArray × ByteArray × Int × List (Int) × Int × Int × ByteArray × ByteArray × Int × List (Int) × Int × (List (Int × Int × Int × List (ByteArray) × List (Bool) × Int)) × Int × Unit) × Int × Unit) =>
(if (decide (y0.2.2.2.1 < (List.length y0.1 : Int))) = true then
(if (decide (y0.2.2.2.1 < (4 : Int))) = true then
(if 0 ≤ y0.2.2.2.1 ∧ y0.2.2.2.1 < (List.length y0.1 : Int) then
(if 0 ≤ (wi64 ((10 : Int) + (wi64 ((10 : Int) * y0.2.2.2.1)))) ∧ (wi64 ((10 : Int) + (wi64 ((10 : Int) * y0.2.2.2.1)))) ≤ (ByteArray.size (⟨#[48, 49, 50, 51, 52, 53, 54, 55, 56, 57, 48, 49, 50, 51, 52, 53, 54, 55, 56, 57, 48, 49, 50, 51, 52, 53, 54, 55, 56, 57, 48, 49, 50, 51, 52, 53, 54, 55, 56, 57, 48, 49, 50, 51, 52, 53, 54, 55, 56, 57, 48, 49, 50, 51, 52, 53, 54, 55, 56, 57, 48]⟩ : ByteArray) : Int) then
(if ByteArray.size (Ty.rd (t := .str) y0.1 y0.2.2.2.1) + ByteArray.size (ByteArray.extract (⟨#[48, 49, 50, 51, 52, 53, 54, 55, 56, 57, 48, 49, 50, 51, 52, 53, 54, 55, 56, 57, 48, 49, 50, 51, 52, 53, 54, 55, 56, 57, 48, 49, 50, 51, 52, 53, 54, 55, 56, 57, 48, 49, 50, 51, 52, 53, 54, 55, 56, 57, 48, 49, 50, 51, 52, 53, 54, 55, 56, 57, 48]⟩ : ByteArray) (Int.toNat (0 : Int)) (Int.toNat (wi64 ((10 : Int) + (wi64 ((10 : Int) * y0.2.2.2.1)))))) ≤ maxStr then
((i_SendInner k (y0.2.1, ((3 : Int), ((99 : Int), (((5 : Int), ((6 : Int), (((Ty.rd (t := .str) y0.1 y0.2.2.2.1) ++ (ByteArray.extract (⟨#[48, 49, 50, 51, 52, 53, 54, 55, 56, 57, 48, 49, 50, 51, 52, 53, 54, 55, 56, 57, 48, 49, 50, 51, 52, 53, 54, 55, 56, 57, 48, 49, 50, 51, 52, 53, 54, 55, 56, 57, 48, 49, 50, 51, 52, 53, 54, 55, 56, 57, 48, 49, 50, 51, 52, 53, 54, 55, 56, 57, 48]⟩ : ByteArray) (Int.toNat (0 : Int)) (Int.toNat (wi64 ((10 : Int) + (wi64 ((10 : Int) * y0.2.2.2.1))))))), ()))), ()))))).bind fun p4 =>
(if (!p4.1.2.2.1) = true then
some (false, ((), ()))
else
(whileK (fun (rec2 : (List (ByteArray) × (Int × Int × Int × ByteArray × ByteArray × Int × List (Int) × Int × Int × ByteArray × ByteArray × Int × List (Int) × Int × (List (Int × Int × Int × List (ByteArray) × List (Bool) × Int)) × Int × Unit) × (Int × Int × Int × ByteArray × ByteArray × Int × List (Int) × Int × Int × ByteArray × ByteArray × Int × List (Int) × Int × (List (Int × Int × Int × List (ByteArray) × List (Bool) × Int)) × Int × Unit) × Int × (Int × Int × ByteArray × Unit) × (List (Int × Int × Int × Int × Int × List (Int) × ByteArray)) × Int × Int × Unit) → Option _) (y2 : List (ByteArray) × (Int × Int × Int × ByteArray × ByteArray × Int × List (Int) × Int × Int × ByteArray × ByteArray × Int × List (Int) × Int × (List (Int × Int × Int × List (ByteArray) × List (Bool) × Int)) × Int × Unit) × (Int × Int × Int × ByteArray × ByteArray × Int × List (Int) × Int × Int × ByteArray × ByteArray × Int × List (Int) × Int × (List (Int × Int × Int × List (ByteArray) × List (Bool) × Int)) × Int × Unit) × Int × (Int × Int × ByteArray × Unit) × (List (Int × Int × Int × Int × Int × List (Int) × ByteArray)) × Int × Int × Unit) =>
(if (decide (y2.2.2.2.2.2.2.2.1 < (List.length y2.2.2.2.2.2.1 : Int))) = true then
(if 0 ≤ y2.2.2.2.2.2.2.2.1 ∧ y2.2.2.2.2.2.2.2.1 < (List.length y2.2.2.2.2.2.1 : Int) then
((i_TakeData k (y2.2.2.1, (((Ty.rd (t := yT13) y2.2.2.2.2.2.1 y2.2.2.2.2.2.2.2.1).1, ((Ty.rd (t := yT13) y2.2.2.2.2.2.1 y2.2.2.2.2.2.2.2.1).2.1, ((Ty.rd (t := yT13) y2.2.2.2.2.2.1 y2.2.2.2.2.2.2.2.1).2.2.1, ((Ty.rd (t := yT13) y2.2.2.2.2.2.1 y2.2.2.2.2.2.2.2.1).2.2.2.1, ((Ty.rd (t := yT13) y2.2.2.2.2.2.1 y2.2.2.2.2.2.2.2.1).2.2.2.2.1, ((Ty.rd (t := yT13) y2.2.2.2.2.2.1 y2.2.2.2.2.2.2.2.1).2.2.2.2.2.1, ((Ty.rd (t := yT13) y2.2.2.2.2.2.1 y2.2.2.2.2.2.2.2.1).2.2.2.2.2.2, ()))))))), (y2.2.2.2.1, ())))).bind fun p5 =>
(if 0 ≤ y2.2.2.2.2.2.2.2.1 ∧ y2.2.2.2.2.2.2.2.1 < (List.length y2.2.2.2.2.2.1 : Int) then
((i_TakeData k (p5.1.1, (((Ty.rd (t := yT13) y2.2.2.2.2.2.1 y2.2.2.2.2.2.2.2.1).1, ((Ty.rd (t := yT13) y2.2.2.2.2.2.1 y2.2.2.2.2.2.2.2.1).2.1, ((Ty.rd (t := yT13) y2.2.2.2.2.2.1 y2.2.2.2.2.2.2.2.1).2.2.1, ((Ty.rd (t := yT13) y2.2.2.2.2.2.1 y2.2.2.2.2.2.2.2.1).2.2.2.1, ((Ty.rd (t := yT13) y2.2.2.2.2.2.1 y2.2.2.2.2.2.2.2.1).2.2.2.2.1, ((Ty.rd (t := yT13) y2.2.2.2.2.2.1 y2.2.2.2.2.2.2.2.1).2.2.2.2.2.1, ((Ty.rd (t := yT13) y2.2.2.2.2.2.1 y2.2.2.2.2.2.2.2.1).2.2.2.2.2.2, ()))))))), (y2.2.2.2.1, ())))).bind fun p6 =>
(if p6.1.2.2.1 = false then
(if p5.1.2.2.1 = true then
(if (!(decide (p5.1.2.1.1 = y2.2.2.2.2.1.1) && (decide (p5.1.2.1.2.1 = y2.2.2.2.2.1.2.1) && decide (p5.1.2.1.2.2.1 = y2.2.2.2.2.1.2.2.1)))) = true then
some (false, ((), ()))
else
(if p5.1.2.2.1 = true then
(rec2 (y2.1, (y2.2.1, (p5.1.1, (y2.2.2.2.1, ((y2.2.2.2.2.1.1, (y2.2.2.2.2.1.2.1, (y2.2.2.2.2.1.2.2.1, ()))), (y2.2.2.2.2.2.1, ((wi64 (y2.2.2.2.2.2.2.1 + (1 : Int))), ((wi64 (y2.2.2.2.2.2.2.2.1 + (1 : Int))), ())))))))))
else
(rec2 (y2.1, (y2.2.1, (p5.1.1, (y2.2.2.2.1, ((y2.2.2.2.2.1.1, (y2.2.2.2.2.1.2.1, (y2.2.2.2.2.1.2.2.1, ()))), (y2.2.2.2.2.2.1, (y2.2.2.2.2.2.2.1, ((wi64 (y2.2.2.2.2.2.2.2.1 + (1 : Int))), ())))))))))))
else
(if p5.1.2.2.1 = true then
(rec2 (y2.1, (y2.2.1, (p5.1.1, (y2.2.2.2.1, ((y2.2.2.2.2.1.1, (y2.2.2.2.2.1.2.1, (y2.2.2.2.2.1.2.2.1, ()))), (y2.2.2.2.2.2.1, ((wi64 (y2.2.2.2.2.2.2.1 + (1 : Int))), ((wi64 (y2.2.2.2.2.2.2.2.1 + (1 : Int))), ())))))))))
else
(rec2 (y2.1, (y2.2.1, (p5.1.1, (y2.2.2.2.1, ((y2.2.2.2.2.1.1, (y2.2.2.2.2.1.2.1, (y2.2.2.2.2.1.2.2.1, ()))), (y2.2.2.2.2.2.1, (y2.2.2.2.2.2.2.1, ((wi64 (y2.2.2.2.2.2.2.2.1 + (1 : Int))), ())))))))))))
else
some (false, ((), ()))))
else none))
else none)
else
((fun (z1 : List (ByteArray) × (Int × Int × Int × ByteArray × ByteArray × Int × List (Int) × Int × Int × ByteArray × ByteArray × Int × List (Int) × Int × (List (Int × Int × Int × List (ByteArray) × List (Bool) × Int)) × Int × Unit) × (Int × Int × Int × ByteArray × ByteArray × Int × List (Int) × Int × Int × ByteArray × ByteArray × Int × List (Int) × Int × (List (Int × Int × Int × List (ByteArray) × List (Bool) × Int)) × Int × Unit) × Int × Int × Unit) =>
(if (!decide (z1.2.2.2.2.1 = (1 : Int))) = true then
some (false, ((), ()))
else
(rec0 (z1.1, (z1.2.1, (z1.2.2.1, ((wi64 (z1.2.2.2.1 + (1 : Int))), ()))))))) (y2.1, (y2.2.1, (y2.2.2.1, (y2.2.2.2.1, (y2.2.2.2.2.2.2.1, ())))))))) k (y0.1, (p4.1.1, (y0.2.2.1, (y0.2.2.2.1, (((5 : Int), ((6 : Int), (((Ty.rd (t := .str) y0.1 y0.2.2.2.1) ++ (ByteArray.extract (⟨#[48, 49, 50, 51, 52, 53, 54, 55, 56, 57, 48, 49, 50, 51, 52, 53, 54, 55, 56, 57, 48, 49, 50, 51, 52, 53, 54, 55, 56, 57, 48, 49, 50, 51, 52, 53, 54, 55, 56, 57, 48, 49, 50, 51, 52, 53, 54, 55, 56, 57, 48, 49, 50, 51, 52, 53, 54, 55, 56, 57, 48]⟩ : ByteArray) (Int.toNat (0 : Int)) (Int.toNat (wi64 ((10 : Int) + (wi64 ((10 : Int) * y0.2.2.2.1))))))), ()))), (p4.1.2.1, ((0 : Int), ((0 : Int), ())))))))))))
else none)
else none)
else none)
else
((fun (z2 : Unit) =>
((i_HubNew k (((167772160 : Int), ((24 : Int), ())), ())).bind fun p7 =>
((i_AddNet k ((p7.1.1.1, (p7.1.1.2.1, (p7.1.1.2.2.1, (p7.1.1.2.2.2.1, (p7.1.1.2.2.2.2.1, (p7.1.1.2.2.2.2.2.1, ())))))), ((3 : Int), (((0 : Int), ((0 : Int), ())), ())))).bind fun p8 =>
(if p7.1.2.1 = true then
(if (!p8.1.2.1) = true then
some ((decide ((List.length p8.1.1.2.2.2.2.1 : Int) = (0 : Int))), ((), ()))
else
some (false, ((), ())))
else
some (false, ((), ())))))) ()))
else
((fun (z2 : Unit) =>
((i_HubNew k (((167772160 : Int), ((24 : Int), ())), ())).bind fun p7 =>
((i_AddNet k ((p7.1.1.1, (p7.1.1.2.1, (p7.1.1.2.2.1, (p7.1.1.2.2.2.1, (p7.1.1.2.2.2.2.1, (p7.1.1.2.2.2.2.2.1, ())))))), ((3 : Int), (((0 : Int), ((0 : Int), ())), ())))).bind fun p8 =>
(if p7.1.2.1 = true then
(if (!p8.1.2.1) = true then
some ((decide ((List.length p8.1.1.2.2.2.2.1 : Int) = (0 : Int))), ((), ()))
else
some (false, ((), ())))
else
some (false, ((), ())))))) ()))) k (p2.1.2.1, (((3 : Int), ((0 : Int), (p3.1.1.1, (p3.1.1.2.1, (p3.1.1.2.2.1, (p3.1.1.2.2.2.1, (p3.1.1.2.2.2.2.1, (p3.1.1.2.2.2.2.2.1, (p3.1.1.2.2.2.2.2.2.1, (p3.1.1.2.2.2.2.2.2.2.1, (p3.1.1.2.2.2.2.2.2.2.2.1, (p3.1.1.2.2.2.2.2.2.2.2.2.1, (p3.1.1.2.2.2.2.2.2.2.2.2.2.1, (p3.1.1.2.2.2.2.2.2.2.2.2.2.2.1, ([], ((0 : Int), ())))))))))))))))), (((3 : Int), ((0 : Int), (p3.1.2.1.1, (p3.1.2.1.2.1, (p3.1.2.1.2.2.1, (p3.1.2.1.2.2.2.1, (p3.1.2.1.2.2.2.2.1, (p3.1.2.1.2.2.2.2.2.1, (p3.1.2.1.2.2.2.2.2.2.1, (p3.1.2.1.2.2.2.2.2.2.2.1, (p3.1.2.1.2.2.2.2.2.2.2.2.1, (p3.1.2.1.2.2.2.2.2.2.2.2.2.1, (p3.1.2.1.2.2.2.2.2.2.2.2.2.2.1, (p3.1.2.1.2.2.2.2.2.2.2.2.2.2.2.1, ([], ((0 : Int), ())))))))))))))))), ((0 : Int), ())))))))))
theorem t_w_FnLinks (k : Nat) (x) : evF TTabO k [⟨10, 0, (.cons (.il true (.int .u8)) .nil), .bool, w_big k⟩, ⟨23, 0, (.cons yP27 (.cons (.int .i64) (.cons yP28 .nil))), (.tup (.cons yP16 (.cons .bool .nil))), i_AddNet k⟩, ⟨33, 0, (.cons (.agg yP9) (.cons (.int .i64) (.cons (.int .i64) (.cons yP35 .nil)))), (.tup (.cons (.agg yP3) (.cons (.own false 100 yT13) (.cons .bool .nil)))), i_SendInner k⟩, ⟨43, 0, (.cons (.agg yP9) (.cons (.agg yP11) yP2)), (.tup (.cons (.agg yP3) (.cons yP35 (.cons .bool .nil)))), i_TakeData k⟩, ⟨47, 0, (.cons (.il true (.int .u8)) .nil), (.tup (.cons .str (.cons (.own false 9 .str) .nil))), s_DrawBodies k⟩, ⟨48, 0, (.cons .str .nil), (.tup (.cons (.agg yP5) (.cons (.agg yP5) .nil))), s_PairSlots k⟩, ⟨49, 0, (.cons yP28 .nil), (.tup (.cons yP16 (.cons .bool .nil))), i_HubNew k⟩] [(0, ⟨[4, 7, 8, 9], (.cons (.own false 9 .str) (.cons (.ptr 0 yP3) (.cons (.ptr 0 yP3) yP2)))⟩, ⟨[], .nil⟩), (2, ⟨[4, 7, 8, 9, 10, 12, 14, 15], (.cons (.own false 9 .str) (.cons (.ptr 0 yP3) (.cons (.ptr 0 yP3) (.cons (.int .i64) (.cons (.ptr 0 (.cons (.int .i64) yP19)) (.cons (.own false 100 yT13) (.cons (.int .i64) yP2)))))))⟩, ⟨[4, 7, 8, 9, 14], (.cons (.own false 9 .str) (.cons (.ptr 0 yP3) (.cons (.ptr 0 yP3) (.cons (.int .i64) yP2))))⟩)] Tryz.f9 (.cons (.il true (.int .u8)) .nil) .bool x = w_FnLinks k x := by kernel_rfl
theorem e_w_FnLinks [Names] (k : Nat) : EntryOk Tryz.prog ⟨9, 0, (.cons (.il true (.int .u8)) .nil), .bool, w_FnLinks k⟩ := entry_ok tokO (by intro e he; simp only [List.mem_cons, List.not_mem_nil, or_false] at he; rcases he with rfl | rfl | rfl | rfl | rfl | rfl | rfl <;> first | exact e_w_big k | exact e_i_AddNet k | exact e_i_SendInner k | exact e_i_TakeData k | exact e_s_DrawBodies k | exact e_s_PairSlots k | exact e_i_HubNew k) (by kernel_rfl) (fn := Tryz.f9) (k := k) (es := [⟨10, 0, (.cons (.il true (.int .u8)) .nil), .bool, w_big k⟩, ⟨23, 0, (.cons yP27 (.cons (.int .i64) (.cons yP28 .nil))), (.tup (.cons yP16 (.cons .bool .nil))), i_AddNet k⟩, ⟨33, 0, (.cons (.agg yP9) (.cons (.int .i64) (.cons (.int .i64) (.cons yP35 .nil)))), (.tup (.cons (.agg yP3) (.cons (.own false 100 yT13) (.cons .bool .nil)))), i_SendInner k⟩, ⟨43, 0, (.cons (.agg yP9) (.cons (.agg yP11) yP2)), (.tup (.cons (.agg yP3) (.cons yP35 (.cons .bool .nil)))), i_TakeData k⟩, ⟨47, 0, (.cons (.il true (.int .u8)) .nil), (.tup (.cons .str (.cons (.own false 9 .str) .nil))), s_DrawBodies k⟩, ⟨48, 0, (.cons .str .nil), (.tup (.cons (.agg yP5) (.cons (.agg yP5) .nil))), s_PairSlots k⟩, ⟨49, 0, (.cons yP28 .nil), (.tup (.cons yP16 (.cons .bool .nil))), i_HubNew k⟩]) (loops := [(0, ⟨[4, 7, 8, 9], (.cons (.own false 9 .str) (.cons (.ptr 0 yP3) (.cons (.ptr 0 yP3) yP2)))⟩, ⟨[], .nil⟩), (2, ⟨[4, 7, 8, 9, 10, 12, 14, 15], (.cons (.own false 9 .str) (.cons (.ptr 0 yP3) (.cons (.ptr 0 yP3) (.cons (.int .i64) (.cons (.ptr 0 (.cons (.int .i64) yP19)) (.cons (.own false 100 yT13) (.cons (.int .i64) yP2)))))))⟩, ⟨[4, 7, 8, 9, 14], (.cons (.own false 9 .str) (.cons (.ptr 0 yP3) (.cons (.ptr 0 yP3) (.cons (.int .i64) yP2))))⟩)]) (by kernel_rfl) (by kernel_rfl) (fun x r h => (t_w_FnLinks k x).trans h)
end Go.Proofs.YtnfllchbpechlaaGreat
