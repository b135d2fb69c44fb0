import Derived.Test.YtnfllchbpechlaaGreatFun2
/- What functions of the program compute, as plain functions, and that their calls do so (part 3). Conditions: the plain function answers. -/
set_option linter.unusedVariables false
namespace Go.Proofs.YtnfllchbpechlaaGreat
open Go Go.Eng Go.Proofs
def qAM (k : Nat) (x : List (Bool) × Bool × Unit) : Option (Bool × Unit × Unit × Unit) :=
((qAl k (x.1, (x.2.1, ()))).bind fun p1 =>
some ((decide ((0 : Int) ≤ p1.1)), ((), ((), ()))))
abbrev qBc (k : Nat) : qAI := ⟨205, 0, (.cons (.il true .bool) (.cons .bool .nil)), .bool, qAM k⟩
theorem qCx (k : Nat) (x) : evF TTab k [qBz k] [] Tryz.f205 (.cons (.il true .bool) (.cons .bool .nil)) .bool x = qAM k x := by kernel_rfl
theorem qCy [Names] (k : Nat) : qAD Tryz.prog (qBc k) := qAC tok (qAB (qDm k) qAF) (by kernel_rfl) (by kernel_rfl) (by kernel_rfl) fun x r h => (qCx k x).trans h
def qA9 (k : Nat) (x : List (ByteArray) × ByteArray × Unit) : Option (ByteArray × Unit × Unit × Unit) := joinF x
abbrev qE7 (k : Nat) : qAI := ⟨206, 0, (.cons (.il true .str) (.cons .str .nil)), .str, qA9 k⟩
theorem e_x_strings_Join [Names] (k : Nat) : qAD Tryz.prog (qE7 k) := entry_join Tryz.func206 (by kernel_rfl) Tryz.strings_Join_none Tryz.strings_Join true
def qB5 (k : Nat) (x : ((List (Int × Int × Int × List (ByteArray) × List (Bool) × Int)) × Unit) × Int × ByteArray × Int × Unit) : Option ((((List (Int × Int × Int × List (ByteArray) × List (Bool) × Int)) × Unit) × ByteArray × Bool × Unit) × Unit × Unit × Unit × Unit × Unit) :=
((qCg k ((x.1.1, ()), ())).bind fun p1 =>
((qEY k (x.2.2.1, ())).bind fun p2 =>
((qF0 k ((x.1.1, ()), ())).bind fun p3 =>
(if (!p3.1) = false then
((i_isId k (x.2.1, ())).bind fun p4 =>
(if (!p4.1) = false then
(if (!p2.1.2.2.2.2.1) = false then
(if (decide ((120 : Int) < (ByteArray.size p2.1.2.2.2.1 : Int))) = false then
((qAn k (x.2.2.2.1, ((0 : Int), ((999999992 : Int), ())))).bind fun p5 =>
(if (!p5.1) = true then
some (((p1.1.1, ()), ((⟨#[]⟩ : ByteArray), (false, ()))), ((), ((), ((), ((), ())))))
else
(if (decide (p2.1.2.2.1 = (1 : Int))) = true then
some (((p1.1.1, ()), (p2.1.2.2.2.1, (true, ()))), ((), ((), ((), ((), ())))))
else
((qGT k ((p1.1.1, ()), (x.2.1, (p2.1.1, ())))).bind fun p6 =>
(jn (
(jn (fun (j11v0 : Int) (j11v1 : List (Int × Int × Int × List (ByteArray) × List (Bool) × Int)) =>
(if 0 ≤ j11v0 ∧ j11v0 < (List.length j11v1 : Int) then
(jn (fun (j12v0 : List (Int × Int × Int × List (ByteArray) × List (Bool) × Int)) =>
((qAM k ((Ty.rd (t := yT1) j12v0 j11v0).2.2.2.2.1, (false, ()))).bind fun p53 =>
(if p53.1 = true then
some (((j12v0, ()), ((⟨#[]⟩ : ByteArray), (false, ()))), ((), ((), ((), ((), ())))))
else
((qA9 k ((Ty.rd (t := yT1) j12v0 j11v0).2.2.2.1, ((⟨#[]⟩ : ByteArray), ()))).bind fun p54 =>
((qAJ k (j12v0, (j11v0, ((wi64 (j11v0 + (1 : Int))), ())))).bind fun p55 =>
some (((p55.1, ()), (p54.1, (true, ()))), ((), ((), ((), ((), ())))))))))) (fun (j12 : (List (Int × Int × Int × List (ByteArray) × List (Bool) × Int)) → Option _) =>
(if 0 ≤ p2.1.2.1 ∧ p2.1.2.1 < (List.length (Ty.rd (t := yT1) j11v1 j11v0).2.2.2.2.1 : Int) then
(if (!(Ty.rd (t := .bool) (Ty.rd (t := yT1) j11v1 j11v0).2.2.2.2.1 p2.1.2.1)) = true then
(if 0 ≤ p2.1.2.1 ∧ p2.1.2.1 < (List.length (Ty.rd (t := yT1) j11v1 j11v0).2.2.2.2.1 : Int) then
(jn (List.set j11v1 (Int.toNat j11v0) ((Ty.rd (t := yT1) j11v1 j11v0).1, ((Ty.rd (t := yT1) j11v1 j11v0).2.1, ((Ty.rd (t := yT1) j11v1 j11v0).2.2.1, ((Ty.rd (t := yT1) j11v1 j11v0).2.2.2.1, ((List.set (Ty.rd (t := yT1) j11v1 j11v0).2.2.2.2.1 (Int.toNat p2.1.2.1) true), (Ty.rd (t := yT1) j11v1 j11v0).2.2.2.2.2)))))) (fun (q46 : List (Int × Int × Int × List (ByteArray) × List (Bool) × Int)) =>
(if 0 ≤ p2.1.2.1 ∧ p2.1.2.1 < (List.length (Ty.rd (t := yT1) q46 j11v0).2.2.2.1 : Int) then
(jn (List.set q46 (Int.toNat j11v0) ((Ty.rd (t := yT1) q46 j11v0).1, ((Ty.rd (t := yT1) q46 j11v0).2.1, ((Ty.rd (t := yT1) q46 j11v0).2.2.1, ((List.set (Ty.rd (t := yT1) q46 j11v0).2.2.2.1 (Int.toNat p2.1.2.1) p2.1.2.2.2.1), (Ty.rd (t := yT1) q46 j11v0).2.2.2.2))))) (fun (q47 : List (Int × Int × Int × List (ByteArray) × List (Bool) × Int)) =>
(j12 q47)))
else none)))
else none)
else
(j12 j11v1))
else none)))
else none)) (fun (j11 : Int → (List (Int × Int × Int × List (ByteArray) × List (Bool) × Int)) → Option _) =>
(if (decide (p6.1 < (0 : Int))) = true then
(if (decide ((List.length p1.1.1 : Int) = (3 : Int))) = true then
(if 0 ≤ (1 : Int) ∧ (1 : Int) ≤ (List.length p1.1.1 : Int) then
(if p2.1.2.2.1 = p2.1.2.2.1 then
(if 0 ≤ p2.1.2.2.1 ∧ p2.1.2.2.1 ≤ (capMax : Int) then
(if p2.1.2.2.1 = p2.1.2.2.1 then
(if 0 ≤ p2.1.2.2.1 ∧ p2.1.2.2.1 ≤ (capMax : Int) then
(if (List.length p1.1.1 : Int) = (List.length p1.1.1 : Int) ∧ List.length p1.1.1 + List.length ([(x.2.1, (p2.1.1, (p2.1.2.2.1, ((List.replicate (Int.toNat p2.1.2.2.1) (⟨#[]⟩ : ByteArray)), ((List.replicate (Int.toNat p2.1.2.2.1) false), (wi64 (x.2.2.2.1 + (8 : Int))))))))] : List (Int × Int × Int × List (ByteArray) × List (Bool) × Int)) ≤ capMax then
(j11 ((List.length p1.1.1 : Int) - (1 : Int)) ((List.drop (Int.toNat (1 : Int)) p1.1.1) ++ ([(x.2.1, (p2.1.1, (p2.1.2.2.1, ((List.replicate (Int.toNat p2.1.2.2.1) (⟨#[]⟩ : ByteArray)), ((List.replicate (Int.toNat p2.1.2.2.1) false), (wi64 (x.2.2.2.1 + (8 : Int))))))))] : List (Int × Int × Int × List (ByteArray) × List (Bool) × Int))))
else none)
else none)
else none)
else none)
else none)
else none)
else
(if p2.1.2.2.1 = p2.1.2.2.1 then
(if 0 ≤ p2.1.2.2.1 ∧ p2.1.2.2.1 ≤ (capMax : Int) then
(if p2.1.2.2.1 = p2.1.2.2.1 then
(if 0 ≤ p2.1.2.2.1 ∧ p2.1.2.2.1 ≤ (capMax : Int) then
(if List.length p1.1.1 + List.length ([(x.2.1, (p2.1.1, (p2.1.2.2.1, ((List.replicate (Int.toNat p2.1.2.2.1) (⟨#[]⟩ : ByteArray)), ((List.replicate (Int.toNat p2.1.2.2.1) false), (wi64 (x.2.2.2.1 + (8 : Int))))))))] : List (Int × Int × Int × List (ByteArray) × List (Bool) × Int)) ≤ capMax then
(j11 (List.length p1.1.1 : Int) (p1.1.1 ++ ([(x.2.1, (p2.1.1, (p2.1.2.2.1, ((List.replicate (Int.toNat p2.1.2.2.1) (⟨#[]⟩ : ByteArray)), ((List.replicate (Int.toNat p2.1.2.2.1) false), (wi64 (x.2.2.2.1 + (8 : Int))))))))] : List (Int × Int × Int × List (ByteArray) × List (Bool) × Int))))
else none)
else none)
else none)
else none)
else none))
else
(if 0 ≤ p6.1 ∧ p6.1 < (List.length p1.1.1 : Int) then
(jn (fun (j13v0 : List (Int × Int × Int × List (ByteArray) × List (Bool) × Int)) =>
((qAM k ((Ty.rd (t := yT1) j13v0 p6.1).2.2.2.2.1, (false, ()))).bind fun p59 =>
(if p59.1 = true then
some (((j13v0, ()), ((⟨#[]⟩ : ByteArray), (false, ()))), ((), ((), ((), ((), ())))))
else
((qA9 k ((Ty.rd (t := yT1) j13v0 p6.1).2.2.2.1, ((⟨#[]⟩ : ByteArray), ()))).bind fun p60 =>
((qAJ k (j13v0, (p6.1, ((wi64 (p6.1 + (1 : Int))), ())))).bind fun p61 =>
some (((p61.1, ()), (p60.1, (true, ()))), ((), ((), ((), ((), ())))))))))) (fun (j13 : (List (Int × Int × Int × List (ByteArray) × List (Bool) × Int)) → Option _) =>
(if 0 ≤ p2.1.2.1 ∧ p2.1.2.1 < (List.length (Ty.rd (t := yT1) p1.1.1 p6.1).2.2.2.2.1 : Int) then
(if (!(Ty.rd (t := .bool) (Ty.rd (t := yT1) p1.1.1 p6.1).2.2.2.2.1 p2.1.2.1)) = true then
(if 0 ≤ p2.1.2.1 ∧ p2.1.2.1 < (List.length (Ty.rd (t := yT1) p1.1.1 p6.1).2.2.2.2.1 : Int) then
(jn (List.set p1.1.1 (Int.toNat p6.1) ((Ty.rd (t := yT1) p1.1.1 p6.1).1, ((Ty.rd (t := yT1) p1.1.1 p6.1).2.1, ((Ty.rd (t := yT1) p1.1.1 p6.1).2.2.1, ((Ty.rd (t := yT1) p1.1.1 p6.1).2.2.2.1, ((List.set (Ty.rd (t := yT1) p1.1.1 p6.1).2.2.2.2.1 (Int.toNat p2.1.2.1) true), (Ty.rd (t := yT1) p1.1.1 p6.1).2.2.2.2.2)))))) (fun (q48 : List (Int × Int × Int × List (ByteArray) × List (Bool) × Int)) =>
(if 0 ≤ p2.1.2.1 ∧ p2.1.2.1 < (List.length (Ty.rd (t := yT1) q48 p6.1).2.2.2.1 : Int) then
(jn (List.set q48 (Int.toNat p6.1) ((Ty.rd (t := yT1) q48 p6.1).1, ((Ty.rd (t := yT1) q48 p6.1).2.1, ((Ty.rd (t := yT1) q48 p6.1).2.2.1, ((List.set (Ty.rd (t := yT1) q48 p6.1).2.2.2.1 (Int.toNat p2.1.2.1) p2.1.2.2.2.1), (Ty.rd (t := yT1) q48 p6.1).2.2.2.2))))) (fun (q49 : List (Int × Int × Int × List (ByteArray) × List (Bool) × Int)) =>
(j13 q49)))
else none)))
else none)
else
(j13 p1.1.1))
else none)))
else none))))) (fun (j9 : Option _) =>
(if (decide ((0 : Int) ≤ p6.1)) = true then
(if 0 ≤ p6.1 ∧ p6.1 < (List.length p1.1.1 : Int) then
(if (!decide ((Ty.rd (t := yT1) p1.1.1 p6.1).2.2.1 = p2.1.2.2.1)) = true then
((qAJ k (p1.1.1, (p6.1, ((wi64 (p6.1 + (1 : Int))), ())))).bind fun p7 =>
(jn (fun (j2v0 : Int) (j2v1 : List (Int × Int × Int × List (ByteArray) × List (Bool) × Int)) =>
(if 0 ≤ j2v0 ∧ j2v0 < (List.length j2v1 : Int) then
(jn (fun (j3v0 : List (Int × Int × Int × List (ByteArray) × List (Bool) × Int)) =>
((qAM k ((Ty.rd (t := yT1) j3v0 j2v0).2.2.2.2.1, (false, ()))).bind fun p17 =>
(if p17.1 = true then
some (((j3v0, ()), ((⟨#[]⟩ : ByteArray), (false, ()))), ((), ((), ((), ((), ())))))
else
((qA9 k ((Ty.rd (t := yT1) j3v0 j2v0).2.2.2.1, ((⟨#[]⟩ : ByteArray), ()))).bind fun p18 =>
((qAJ k (j3v0, (j2v0, ((wi64 (j2v0 + (1 : Int))), ())))).bind fun p19 =>
some (((p19.1, ()), (p18.1, (true, ()))), ((), ((), ((), ((), ())))))))))) (fun (j3 : (List (Int × Int × Int × List (ByteArray) × List (Bool) × Int)) → Option _) =>
(if 0 ≤ p2.1.2.1 ∧ p2.1.2.1 < (List.length (Ty.rd (t := yT1) j2v1 j2v0).2.2.2.2.1 : Int) then
(if (!(Ty.rd (t := .bool) (Ty.rd (t := yT1) j2v1 j2v0).2.2.2.2.1 p2.1.2.1)) = true then
(if 0 ≤ p2.1.2.1 ∧ p2.1.2.1 < (List.length (Ty.rd (t := yT1) j2v1 j2v0).2.2.2.2.1 : Int) then
(jn (List.set j2v1 (Int.toNat j2v0) ((Ty.rd (t := yT1) j2v1 j2v0).1, ((Ty.rd (t := yT1) j2v1 j2v0).2.1, ((Ty.rd (t := yT1) j2v1 j2v0).2.2.1, ((Ty.rd (t := yT1) j2v1 j2v0).2.2.2.1, ((List.set (Ty.rd (t := yT1) j2v1 j2v0).2.2.2.2.1 (Int.toNat p2.1.2.1) true), (Ty.rd (t := yT1) j2v1 j2v0).2.2.2.2.2)))))) (fun (q34 : List (Int × Int × Int × List (ByteArray) × List (Bool) × Int)) =>
(if 0 ≤ p2.1.2.1 ∧ p2.1.2.1 < (List.length (Ty.rd (t := yT1) q34 j2v0).2.2.2.1 : Int) then
(jn (List.set q34 (Int.toNat j2v0) ((Ty.rd (t := yT1) q34 j2v0).1, ((Ty.rd (t := yT1) q34 j2v0).2.1, ((Ty.rd (t := yT1) q34 j2v0).2.2.1, ((List.set (Ty.rd (t := yT1) q34 j2v0).2.2.2.1 (Int.toNat p2.1.2.1) p2.1.2.2.2.1), (Ty.rd (t := yT1) q34 j2v0).2.2.2.2))))) (fun (q35 : List (Int × Int × Int × List (ByteArray) × List (Bool) × Int)) =>
(j3 q35)))
else none)))
else none)
else
(j3 j2v1))
else none)))
else none)) (fun (j2 : Int → (List (Int × Int × Int × List (ByteArray) × List (Bool) × Int)) → Option _) =>
(if (decide ((-1 : Int) < (0 : Int))) = true then
(if (decide ((List.length p7.1 : Int) = (3 : Int))) = true then
(if 0 ≤ (1 : Int) ∧ (1 : Int) ≤ (List.length p7.1 : Int) then
(if p2.1.2.2.1 = p2.1.2.2.1 then
(if 0 ≤ p2.1.2.2.1 ∧ p2.1.2.2.1 ≤ (capMax : Int) then
(if p2.1.2.2.1 = p2.1.2.2.1 then
(if 0 ≤ p2.1.2.2.1 ∧ p2.1.2.2.1 ≤ (capMax : Int) then
(if (List.length p7.1 : Int) = (List.length p7.1 : Int) ∧ List.length p7.1 + List.length ([(x.2.1, (p2.1.1, (p2.1.2.2.1, ((List.replicate (Int.toNat p2.1.2.2.1) (⟨#[]⟩ : ByteArray)), ((List.replicate (Int.toNat p2.1.2.2.1) false), (wi64 (x.2.2.2.1 + (8 : Int))))))))] : List (Int × Int × Int × List (ByteArray) × List (Bool) × Int)) ≤ capMax then
(j2 ((List.length p7.1 : Int) - (1 : Int)) ((List.drop (Int.toNat (1 : Int)) p7.1) ++ ([(x.2.1, (p2.1.1, (p2.1.2.2.1, ((List.replicate (Int.toNat p2.1.2.2.1) (⟨#[]⟩ : ByteArray)), ((List.replicate (Int.toNat p2.1.2.2.1) false), (wi64 (x.2.2.2.1 + (8 : Int))))))))] : List (Int × Int × Int × List (ByteArray) × List (Bool) × Int))))
else none)
else none)
else none)
else none)
else none)
else none)
else
(if p2.1.2.2.1 = p2.1.2.2.1 then
(if 0 ≤ p2.1.2.2.1 ∧ p2.1.2.2.1 ≤ (capMax : Int) then
(if p2.1.2.2.1 = p2.1.2.2.1 then
(if 0 ≤ p2.1.2.2.1 ∧ p2.1.2.2.1 ≤ (capMax : Int) then
(if List.length p7.1 + List.length ([(x.2.1, (p2.1.1, (p2.1.2.2.1, ((List.replicate (Int.toNat p2.1.2.2.1) (⟨#[]⟩ : ByteArray)), ((List.replicate (Int.toNat p2.1.2.2.1) false), (wi64 (x.2.2.2.1 + (8 : Int))))))))] : List (Int × Int × Int × List (ByteArray) × List (Bool) × Int)) ≤ capMax then
(j2 (List.length p7.1 : Int) (p7.1 ++ ([(x.2.1, (p2.1.1, (p2.1.2.2.1, ((List.replicate (Int.toNat p2.1.2.2.1) (⟨#[]⟩ : ByteArray)), ((List.replicate (Int.toNat p2.1.2.2.1) false), (wi64 (x.2.2.2.1 + (8 : Int))))))))] : List (Int × Int × Int × List (ByteArray) × List (Bool) × Int))))
else none)
else none)
else none)
else none)
else none))
else
(if 0 ≤ (-1 : Int) ∧ (-1 : Int) < (List.length p7.1 : Int) then
(jn (fun (j4v0 : List (Int × Int × Int × List (ByteArray) × List (Bool) × Int)) =>
((qAM k ((Ty.rd (t := yT1) j4v0 (-1 : Int)).2.2.2.2.1, (false, ()))).bind fun p23 =>
(if p23.1 = true then
some (((j4v0, ()), ((⟨#[]⟩ : ByteArray), (false, ()))), ((), ((), ((), ((), ())))))
else
((qA9 k ((Ty.rd (t := yT1) j4v0 (-1 : Int)).2.2.2.1, ((⟨#[]⟩ : ByteArray), ()))).bind fun p24 =>
((qAJ k (j4v0, ((-1 : Int), ((wi64 ((-1 : Int) + (1 : Int))), ())))).bind fun p25 =>
some (((p25.1, ()), (p24.1, (true, ()))), ((), ((), ((), ((), ())))))))))) (fun (j4 : (List (Int × Int × Int × List (ByteArray) × List (Bool) × Int)) → Option _) =>
(if 0 ≤ p2.1.2.1 ∧ p2.1.2.1 < (List.length (Ty.rd (t := yT1) p7.1 (-1 : Int)).2.2.2.2.1 : Int) then
(if (!(Ty.rd (t := .bool) (Ty.rd (t := yT1) p7.1 (-1 : Int)).2.2.2.2.1 p2.1.2.1)) = true then
(if 0 ≤ p2.1.2.1 ∧ p2.1.2.1 < (List.length (Ty.rd (t := yT1) p7.1 (-1 : Int)).2.2.2.2.1 : Int) then
(jn (List.set p7.1 (Int.toNat (-1 : Int)) ((Ty.rd (t := yT1) p7.1 (-1 : Int)).1, ((Ty.rd (t := yT1) p7.1 (-1 : Int)).2.1, ((Ty.rd (t := yT1) p7.1 (-1 : Int)).2.2.1, ((Ty.rd (t := yT1) p7.1 (-1 : Int)).2.2.2.1, ((List.set (Ty.rd (t := yT1) p7.1 (-1 : Int)).2.2.2.2.1 (Int.toNat p2.1.2.1) true), (Ty.rd (t := yT1) p7.1 (-1 : Int)).2.2.2.2.2)))))) (fun (q36 : List (Int × Int × Int × List (ByteArray) × List (Bool) × Int)) =>
(if 0 ≤ p2.1.2.1 ∧ p2.1.2.1 < (List.length (Ty.rd (t := yT1) q36 (-1 : Int)).2.2.2.1 : Int) then
(jn (List.set q36 (Int.toNat (-1 : Int)) ((Ty.rd (t := yT1) q36 (-1 : Int)).1, ((Ty.rd (t := yT1) q36 (-1 : Int)).2.1, ((Ty.rd (t := yT1) q36 (-1 : Int)).2.2.1, ((List.set (Ty.rd (t := yT1) q36 (-1 : Int)).2.2.2.1 (Int.toNat p2.1.2.1) p2.1.2.2.2.1), (Ty.rd (t := yT1) q36 (-1 : Int)).2.2.2.2))))) (fun (q37 : List (Int × Int × Int × List (ByteArray) × List (Bool) × Int)) =>
(j4 q37)))
else none)))
else none)
else
(j4 p7.1))
else none)))
else none)))))
else
j9)
else none)
else
j9)))))))
else
some (((p1.1.1, ()), ((⟨#[]⟩ : ByteArray), (false, ()))), ((), ((), ((), ((), ()))))))
else
some (((p1.1.1, ()), ((⟨#[]⟩ : ByteArray), (false, ()))), ((), ((), ((), ((), ()))))))
else
some (((p1.1.1, ()), ((⟨#[]⟩ : ByteArray), (false, ()))), ((), ((), ((), ((), ())))))))
else
some (((p1.1.1, ()), ((⟨#[]⟩ : ByteArray), (false, ()))), ((), ((), ((), ((), ())))))))))
abbrev E_i_AddPart (k : Nat) : qAI := ⟨117, 0, (.cons (.agg yP13) (.cons (.int .i64) (.cons .str yP2))), (.tup (.cons (.agg yP20) yP14)), qB5 k⟩
theorem t_i_AddPart (k : Nat) (x) : evF qCs k [qBB k, E_i_isId k, qEm k, E_i_ReadPart k, E_i_ShelfOk k, E_i_heldAt k, qA5 k, qBc k, qE7 k] [] Tryz.f117 (.cons (.agg yP13) (.cons (.int .i64) (.cons .str yP2))) (.tup (.cons (.agg yP20) yP14)) x = qB5 k x := by kernel_rfl
theorem e_i_AddPart [Names] (k : Nat) : qAD Tryz.prog (E_i_AddPart k) := qAC tokO (qAB (qBG k) (qAB (e_i_isId k) (qAB (qHW k) (qAB (e_i_ReadPart k) (qAB (e_i_ShelfOk k) (qAB (e_i_heldAt k) (qAB (qB0 k) (qAB (qCy k) (qAB (e_x_strings_Join k) qAF))))))))) (by kernel_rfl) (by kernel_rfl) (by kernel_rfl) fun x r h => (t_i_AddPart k x).trans h
def qDc (k : Nat) (x : ByteArray × Unit) : Option (((Int × Int × ByteArray × Unit) × Bool × Unit) × Unit × Unit) :=
((qAn k ((ByteArray.size x.1 : Int), ((8 : Int), ((108 : Int), ())))).bind fun p1 =>
(if (!p1.1) = true then
some ((((0 : Int), ((0 : Int), ((⟨#[]⟩ : ByteArray), ()))), (false, ())), ((), ()))
else
(if 0 ≤ (8 : Int) ∧ (8 : Int) ≤ (ByteArray.size x.1 : Int) then
(if 0 ≤ (4 : Int) ∧ (4 : Int) ≤ (ByteArray.size x.1 : Int) then
((qBp k ((ByteArray.extract x.1 (Int.toNat (0 : Int)) (Int.toNat (4 : Int))), ())).bind fun p2 =>
(if 0 ≤ (8 : Int) ∧ (8 : Int) ≤ (ByteArray.size x.1 : Int) then
(if 0 ≤ (4 : Int) ∧ (4 : Int) ≤ (8 : Int) then
((qBp k ((ByteArray.extract x.1 (Int.toNat (4 : Int)) (Int.toNat (8 : Int))), ())).bind fun p3 =>
some (((p2.1.1, (p3.1.1, ((ByteArray.extract x.1 (Int.toNat (8 : Int)) (Int.toNat (ByteArray.size x.1 : Int))), ()))), (true, ())), ((), ())))
else none)
else none))
else none)
else none)))
abbrev qH0 (k : Nat) : qAI := ⟨118, 0, (.cons .str .nil), (.tup (.cons (.agg (.cons (.int .i64) yP15)) (.cons .bool .nil))), qDc k⟩
theorem t_i_ReadInner (k : Nat) (x) : evF TTab k [qBB k, qD1 k] [] Tryz.f118 (.cons .str .nil) (.tup (.cons (.agg (.cons (.int .i64) yP15)) (.cons .bool .nil))) x = qDc k x := by kernel_rfl
theorem e_i_ReadInner [Names] (k : Nat) : qAD Tryz.prog (qH0 k) := qAC tok (qAB (qBG k) (qAB (qGh k) qAF)) (by kernel_rfl) (by kernel_rfl) (by kernel_rfl) fun x r h => (t_i_ReadInner k x).trans h
def qCi (k : Nat) (x : (Int × Int × Int × ByteArray × ByteArray × Int × List (Int) × Int × Int × ByteArray × ByteArray × Int × List (Int) × Int × (List (Int × Int × Int × List (ByteArray) × List (Bool) × Int)) × Int × Unit) × (Int × Int × Int × Int × Int × List (Int) × ByteArray × Unit) × Int × Unit) : Option (((Int × Int × Int × ByteArray × ByteArray × Int × List (Int) × Int × Int × ByteArray × ByteArray × Int × List (Int) × Int × (List (Int × Int × Int × List (ByteArray) × List (Bool) × Int)) × Int × Unit) × (Int × Int × ByteArray × Unit) × Bool × Unit) × Unit × Unit × Unit × Unit) :=
((qEC k (x.1, ())).bind fun p1 =>
((qEX k ((x.1.2.2.1, (x.1.2.2.2.1, (x.1.2.2.2.2.1, (x.1.2.2.2.2.2.1, (x.1.2.2.2.2.2.2.1, (x.1.2.2.2.2.2.2.2.1, (x.1.2.2.2.2.2.2.2.2.1, (x.1.2.2.2.2.2.2.2.2.2.1, (x.1.2.2.2.2.2.2.2.2.2.2.1, (x.1.2.2.2.2.2.2.2.2.2.2.2.1, (x.1.2.2.2.2.2.2.2.2.2.2.2.2.1, (x.1.2.2.2.2.2.2.2.2.2.2.2.2.2.1, ())))))))))))), ((x.2.1.1, (x.2.1.2.1, (x.2.1.2.2.1, (x.2.1.2.2.2.1, (x.2.1.2.2.2.2.1, (x.2.1.2.2.2.2.2.1, (x.2.1.2.2.2.2.2.2.1, ()))))))), (x.2.2.1, ())))).bind fun p2 =>
(if (!p2.1.2.2.1) = true then
some ((p1.1, (((0 : Int), ((0 : Int), ((⟨#[]⟩ : ByteArray), ()))), (false, ()))), ((), ((), ((), ()))))
else
((qB5 k ((x.1.2.2.2.2.2.2.2.2.2.2.2.2.2.2.1, ()), (x.2.1.2.2.1, (p2.1.2.1, (x.2.2.1, ()))))).bind fun p3 =>
((qDc k (p3.1.2.1, ())).bind fun p4 =>
(if (!p3.1.2.2.1) = false then
(if (!p4.1.2.1) = true then
some (((p1.1.1, (p1.1.2.1, (p2.1.1.1, (p2.1.1.2.1, (p2.1.1.2.2.1, (p2.1.1.2.2.2.1, (p2.1.1.2.2.2.2.1, (p2.1.1.2.2.2.2.2.1, (p2.1.1.2.2.2.2.2.2.1, (p2.1.1.2.2.2.2.2.2.2.1, (p2.1.1.2.2.2.2.2.2.2.2.1, (p2.1.1.2.2.2.2.2.2.2.2.2.1, (p2.1.1.2.2.2.2.2.2.2.2.2.2.1, (p2.1.1.2.2.2.2.2.2.2.2.2.2.2.1, (p3.1.1.1, (p1.1.2.2.2.2.2.2.2.2.2.2.2.2.2.2.2.1, ())))))))))))))))), (((0 : Int), ((0 : Int), ((⟨#[]⟩ : ByteArray), ()))), (false, ()))), ((), ((), ((), ()))))
else
some (((p1.1.1, (p1.1.2.1, (p2.1.1.1, (p2.1.1.2.1, (p2.1.1.2.2.1, (p2.1.1.2.2.2.1, (p2.1.1.2.2.2.2.1, (p2.1.1.2.2.2.2.2.1, (p2.1.1.2.2.2.2.2.2.1, (p2.1.1.2.2.2.2.2.2.2.1, (p2.1.1.2.2.2.2.2.2.2.2.1, (p2.1.1.2.2.2.2.2.2.2.2.2.1, (p2.1.1.2.2.2.2.2.2.2.2.2.2.1, (p2.1.1.2.2.2.2.2.2.2.2.2.2.2.1, (p3.1.1.1, (p1.1.2.2.2.2.2.2.2.2.2.2.2.2.2.2.2.1, ())))))))))))))))), ((p4.1.1.1, (p4.1.1.2.1, (p4.1.1.2.2.1, ()))), (true, ()))), ((), ((), ((), ())))))
else
some (((p1.1.1, (p1.1.2.1, (p2.1.1.1, (p2.1.1.2.1, (p2.1.1.2.2.1, (p2.1.1.2.2.2.1, (p2.1.1.2.2.2.2.1, (p2.1.1.2.2.2.2.2.1, (p2.1.1.2.2.2.2.2.2.1, (p2.1.1.2.2.2.2.2.2.2.1, (p2.1.1.2.2.2.2.2.2.2.2.1, (p2.1.1.2.2.2.2.2.2.2.2.2.1, (p2.1.1.2.2.2.2.2.2.2.2.2.2.1, (p2.1.1.2.2.2.2.2.2.2.2.2.2.2.1, (p3.1.1.1, (p1.1.2.2.2.2.2.2.2.2.2.2.2.2.2.2.2.1, ())))))))))))))))), (((0 : Int), ((0 : Int), ((⟨#[]⟩ : ByteArray), ()))), (false, ()))), ((), ((), ((), ()))))))))))
abbrev E_i_TakeData (k : Nat) : qAI := ⟨43, 0, (.cons yP3 (.cons (.agg yP5) yP2)), (.tup (.cons yP11 (.cons (.agg (.cons (.int .i64) yP15)) (.cons .bool .nil)))), qCi k⟩
theorem t_i_TakeData (k : Nat) (x) : evF qCs k [E_i_copyUser k, E_i_OpenData k, E_i_AddPart k, qH0 k] [] Tryz.f43 (.cons yP3 (.cons (.agg yP5) yP2)) (.tup (.cons yP11 (.cons (.agg (.cons (.int .i64) yP15)) (.cons .bool .nil)))) x = qCi k x := by kernel_rfl
theorem e_i_TakeData [Names] (k : Nat) : qAD Tryz.prog (E_i_TakeData k) := qAC tokO (qAB (e_i_copyUser k) (qAB (e_i_OpenData k) (qAB (e_i_AddPart k) (qAB (e_i_ReadInner k) qAF)))) (by kernel_rfl) (by kernel_rfl) (by kernel_rfl) fun x r h => (t_i_TakeData k x).trans h
def qDd (k : Nat) (x : (Int × Int × ByteArray × Unit) × (Int × Int × ByteArray × Unit) × Unit) : Option (Bool × Unit × Unit × Unit) :=
(if (!decide (x.1.1 = x.2.1.1)) = true then
some (false, ((), ((), ())))
else
(if (!decide (x.1.2.1 = x.2.1.2.1)) = true then
some (false, ((), ((), ())))
else
(if (!decide (x.1.2.2.1 = x.2.1.2.2.1)) = true then
some (false, ((), ((), ())))
else
some (true, ((), ((), ()))))))
abbrev E_w_eqInner (k : Nat) : qAI := ⟨44, 0, (.cons (.agg (.cons (.int .i64) yP15)) (.cons (.agg (.cons (.int .i64) yP15)) .nil)), .bool, qDd k⟩
theorem t_w_eqInner (k : Nat) (x) : evF TTab k [] [] Tryz.f44 (.cons (.agg (.cons (.int .i64) yP15)) (.cons (.agg (.cons (.int .i64) yP15)) .nil)) .bool x = qDd k x := by kernel_rfl
theorem e_w_eqInner [Names] (k : Nat) : qAD Tryz.prog (E_w_eqInner k) := qAC tok qAF (by kernel_rfl) (by kernel_rfl) (by kernel_rfl) fun x r h => (t_w_eqInner k x).trans h
def qDt (k : Nat) (x : (Int × Int × Int × Int × Int × List (Int) × ByteArray × Unit) × Int × Unit) : Option (Int × (Unit × Unit × Unit × Unit × Unit × List (Int) × Unit × Unit) × Unit × Unit) :=
((qC8 k (x.1.2.2.2.2.2.1, (x.2.1, ()))).bind fun p1 =>
some (p1.1, (((), ((), ((), ((), ((), (p1.2.1, ((), ()))))))), ((), ()))))
abbrev qGn (k : Nat) : qAI := ⟨46, 0, (.cons (.mag (.cons (.int .i64) (.cons (.int .i64) (.cons (.int .i64) (.cons (.int .i64) (.cons (.int .i64) (.cons yP23 (.cons .str .nil)))))))) yP2), (.int .i64), qDt k⟩
theorem t_w_markPacket (k : Nat) (x) : evF TTab k [qFp k] [] Tryz.f46 (.cons (.mag (.cons (.int .i64) (.cons (.int .i64) (.cons (.int .i64) (.cons (.int .i64) (.cons (.int .i64) (.cons yP23 (.cons .str .nil)))))))) yP2) (.int .i64) x = qDt k x := by kernel_rfl
theorem e_w_markPacket [Names] (k : Nat) : qAD Tryz.prog (qGn k) := qAC tok (qAB (e_w_markIntS k) qAF) (by kernel_rfl) (by kernel_rfl) (by kernel_rfl) fun x r h => (t_w_markPacket k x).trans h
def w_FnExactTakeData (k : Nat) (x : (Int × Int × Int × ByteArray × ByteArray × Int × List (Int) × Int × Int × ByteArray × ByteArray × Int × List (Int) × Int × (List (Int × Int × Int × List (ByteArray) × List (Bool) × Int)) × Int × Unit) × (Int × Int × Int × Int × Int × List (Int) × ByteArray × Unit) × Int × Unit) : Option (Bool × Unit × Unit × Unit × Unit) :=
((qHc k (x.1, ((1048576 : Int), ()))).bind fun p1 =>
(if (decide (p1.1 < (0 : Int))) = true then
some (true, ((), ((), ((), ()))))
else
((qEN k ((x.2.1.1, (x.2.1.2.1, (x.2.1.2.2.1, (x.2.1.2.2.2.1, (x.2.1.2.2.2.2.1, (x.2.1.2.2.2.2.2.1, (x.2.1.2.2.2.2.2.2.1, ()))))))), (p1.1, ()))).bind fun p2 =>
(if (decide (p2.1 < (0 : Int))) = true then
some (true, ((), ((), ((), ()))))
else
((qDq k (x.1, ())).bind fun p3 =>
((qCK k ((x.2.1.1, (x.2.1.2.1, (x.2.1.2.2.1, (x.2.1.2.2.2.1, (x.2.1.2.2.2.2.1, (x.2.1.2.2.2.2.2.1, (x.2.1.2.2.2.2.2.2.1, ()))))))), ())).bind fun p4 =>
((qDD k (p3.1, ((p4.1.1, (p4.1.2.1, (p4.1.2.2.1, (p4.1.2.2.2.1, (p4.1.2.2.2.2.1, (p4.1.2.2.2.2.2.1, (p4.1.2.2.2.2.2.2.1, ()))))))), (x.2.2.1, ())))).bind fun p5 =>
((qDq k (x.1, ())).bind fun p6 =>
((qCK k ((x.2.1.1, (x.2.1.2.1, (x.2.1.2.2.1, (x.2.1.2.2.2.1, (x.2.1.2.2.2.2.1, (x.2.1.2.2.2.2.2.1, (x.2.1.2.2.2.2.2.2.1, ()))))))), ())).bind fun p7 =>
((qCi k (p6.1, ((p7.1.1, (p7.1.2.1, (p7.1.2.2.1, (p7.1.2.2.2.1, (p7.1.2.2.2.2.1, (p7.1.2.2.2.2.2.1, (p7.1.2.2.2.2.2.2.1, ()))))))), (x.2.2.1, ())))).bind fun p8 =>
((qDr k (p8.1.1, (p5.1.1, ()))).bind fun p9 =>
(if (!p9.1) = false then
((qDd k ((p8.1.2.1.1, (p8.1.2.1.2.1, (p8.1.2.1.2.2.1, ()))), ((p5.1.2.1.1, (p5.1.2.1.2.1, (p5.1.2.1.2.2.1, ()))), ()))).bind fun p10 =>
(if (!p10.1) = false then
(if (!decide (p8.1.2.2.1 = p5.1.2.2.1)) = true then
some (false, ((), ((), ((), ()))))
else
((qDq k (x.1, ())).bind fun p11 =>
((qDr k (p6.1, (p11.1, ()))).bind fun p12 =>
(if (!p12.1) = true then
some (false, ((), ((), ((), ()))))
else
((qCK k ((x.2.1.1, (x.2.1.2.1, (x.2.1.2.2.1, (x.2.1.2.2.2.1, (x.2.1.2.2.2.2.1, (x.2.1.2.2.2.2.2.1, (x.2.1.2.2.2.2.2.2.1, ()))))))), ())).bind fun p13 =>
((qEK k ((p7.1.1, (p7.1.2.1, (p7.1.2.2.1, (p7.1.2.2.2.1, (p7.1.2.2.2.2.1, (p7.1.2.2.2.2.2.1, (p7.1.2.2.2.2.2.2.1, ()))))))), ((p13.1.1, (p13.1.2.1, (p13.1.2.2.1, (p13.1.2.2.2.1, (p13.1.2.2.2.2.1, (p13.1.2.2.2.2.2.1, (p13.1.2.2.2.2.2.2.1, ()))))))), ()))).bind fun p14 =>
(if (!p14.1) = true then
some (false, ((), ((), ((), ()))))
else
((qDA k (p6.1, ((1 : Int), ()))).bind fun p15 =>
((qDt k ((p7.1.1, (p7.1.2.1, (p7.1.2.2.1, (p7.1.2.2.2.1, (p7.1.2.2.2.2.1, (p7.1.2.2.2.2.2.1, (p7.1.2.2.2.2.2.2.1, ()))))))), (p15.1, ()))).bind fun p16 =>
(if (decide (p16.1 < (0 : Int))) = false then
((qDr k (p8.1.1, (p5.1.1, ()))).bind fun p17 =>
(if (!p17.1) = false then
((qDd k ((p8.1.2.1.1, (p8.1.2.1.2.1, (p8.1.2.1.2.2.1, ()))), ((p5.1.2.1.1, (p5.1.2.1.2.1, (p5.1.2.1.2.2.1, ()))), ()))).bind fun p18 =>
(if (!p18.1) = false then
(if (!decide (p8.1.2.2.1 = p5.1.2.2.1)) = true then
some (false, ((), ((), ((), ()))))
else
((qDA k (p8.1.1, ((1 : Int), ()))).bind fun p19 =>
((qDB k ((p8.1.1.1, (p8.1.1.2.1, (p8.1.1.2.2.1, (p8.1.1.2.2.2.1, (p8.1.1.2.2.2.2.1, (p8.1.1.2.2.2.2.2.1, (p19.2.1.2.2.2.2.2.2.1, (p8.1.1.2.2.2.2.2.2.2.1, (p8.1.1.2.2.2.2.2.2.2.2.1, (p8.1.1.2.2.2.2.2.2.2.2.2.1, (p8.1.1.2.2.2.2.2.2.2.2.2.2.1, (p8.1.1.2.2.2.2.2.2.2.2.2.2.2.1, (p19.2.1.2.2.2.2.2.2.2.2.2.2.2.2.1, (p8.1.1.2.2.2.2.2.2.2.2.2.2.2.2.2.1, (p19.2.1.2.2.2.2.2.2.2.2.2.2.2.2.2.2.1, (p8.1.1.2.2.2.2.2.2.2.2.2.2.2.2.2.2.2.1, ())))))))))))))))), ((1 : Int), ()))).bind fun p20 =>
(if (decide (p20.1 < (0 : Int))) = true then
some (false, ((), ((), ((), ()))))
else
(if (!decide (p20.1 = p19.1)) = true then
some (false, ((), ((), ((), ()))))
else
((qDq k (x.1, ())).bind fun p21 =>
((qCK k ((x.2.1.1, (x.2.1.2.1, (x.2.1.2.2.1, (x.2.1.2.2.2.1, (x.2.1.2.2.2.2.1, (x.2.1.2.2.2.2.2.1, (x.2.1.2.2.2.2.2.2.1, ()))))))), ())).bind fun p22 =>
((qCi k (p21.1, ((p22.1.1, (p22.1.2.1, (p22.1.2.2.1, (p22.1.2.2.2.1, (p22.1.2.2.2.2.1, (p22.1.2.2.2.2.2.1, (p22.1.2.2.2.2.2.2.1, ()))))))), (x.2.2.1, ())))).bind fun p23 =>
((qDr k (p23.1.1, (p5.1.1, ()))).bind fun p24 =>
(if (!p24.1) = false then
((qDd k ((p23.1.2.1.1, (p23.1.2.1.2.1, (p23.1.2.1.2.2.1, ()))), ((p5.1.2.1.1, (p5.1.2.1.2.1, (p5.1.2.1.2.2.1, ()))), ()))).bind fun p25 =>
(if (!p25.1) = false then
(if (!decide (p23.1.2.2.1 = p5.1.2.2.1)) = true then
some (false, ((), ((), ((), ()))))
else
((qDB k ((p8.1.1.1, (p8.1.1.2.1, (p8.1.1.2.2.1, (p8.1.1.2.2.2.1, (p8.1.1.2.2.2.2.1, (p8.1.1.2.2.2.2.2.1, (p19.2.1.2.2.2.2.2.2.1, (p8.1.1.2.2.2.2.2.2.2.1, (p8.1.1.2.2.2.2.2.2.2.2.1, (p8.1.1.2.2.2.2.2.2.2.2.2.1, (p8.1.1.2.2.2.2.2.2.2.2.2.2.1, (p8.1.1.2.2.2.2.2.2.2.2.2.2.2.1, (p19.2.1.2.2.2.2.2.2.2.2.2.2.2.2.1, (p8.1.1.2.2.2.2.2.2.2.2.2.2.2.2.2.1, (p19.2.1.2.2.2.2.2.2.2.2.2.2.2.2.2.2.1, (p8.1.1.2.2.2.2.2.2.2.2.2.2.2.2.2.2.2.1, ())))))))))))))))), ((1 : Int), ()))).bind fun p26 =>
(if (decide (p26.1 < (0 : Int))) = true then
some (false, ((), ((), ((), ()))))
else
(if (!decide (p26.1 = p19.1)) = true then
some (false, ((), ((), ((), ()))))
else
some (true, ((), ((), ((), ()))))))))
else
some (false, ((), ((), ((), ()))))))
else
some (false, ((), ((), ((), ()))))))))))))))
else
some (false, ((), ((), ((), ()))))))
else
some (false, ((), ((), ((), ()))))))
else
some (false, ((), ((), ((), ()))))))))))))))
else
some (false, ((), ((), ((), ()))))))
else
some (false, ((), ((), ((), ()))))))))))))))))
abbrev qG4 (k : Nat) : qAI := ⟨7, 0, (.cons yP3 (.cons (.agg yP5) yP2)), .bool, w_FnExactTakeData k⟩
theorem qG5 (k : Nat) (x) : evF qCs k [E_w_szUser k, E_w_toUser k, E_w_eqUser k, E_w_markUser k, E_w_heldUser k, E_w_szPacket k, E_s_TakeData k, E_w_toPacket k, E_i_TakeData k, E_w_eqInner k, E_w_eqPacket k, qGn k] [] Tryz.f7 (.cons yP3 (.cons (.agg yP5) yP2)) .bool x = w_FnExactTakeData k x := by kernel_rfl
theorem e_w_FnExactTakeData [Names] (k : Nat) : qAD Tryz.prog (qG4 k) := qAC tokO (qAB (e_w_szUser k) (qAB (e_w_toUser k) (qAB (e_w_eqUser k) (qAB (e_w_markUser k) (qAB (e_w_heldUser k) (qAB (e_w_szPacket k) (qAB (e_s_TakeData k) (qAB (e_w_toPacket k) (qAB (e_i_TakeData k) (qAB (e_w_eqInner k) (qAB (e_w_eqPacket k) (qAB (e_w_markPacket k) qAF)))))))))))) (by kernel_rfl) (by kernel_rfl) (by kernel_rfl) fun x r h => (qG5 k x).trans h
end Go.Proofs.YtnfllchbpechlaaGreat
