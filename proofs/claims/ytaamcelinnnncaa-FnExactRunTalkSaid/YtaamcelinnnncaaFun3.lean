import Derived.Test.YtaamcelinnnncaaFun2
/- What functions of the program compute, as plain functions, and that their calls do so (part 3). Conditions: the plain function answers. -/
set_option linter.unusedVariables false
namespace Go.Proofs.Ytaamcelinnnncaa
open Go Go.Eng Go.Proofs
def w_markChanS (k : Nat) (x : (List (Int × Int × Int × List (ByteArray) × List (Int × ByteArray × Int × Int) × Int × List (Int × ByteArray) × List (Int) × List (ByteArray))) × Int × Unit) : Option (Int × (List (Int × Int × Int × List (ByteArray) × List (Int × ByteArray × Int × Int) × Int × List (Int × ByteArray) × List (Int) × List (ByteArray))) × Unit × Unit) :=
(whileK (fun (rec0 : ((List (Int × Int × Int × List (ByteArray) × List (Int × ByteArray × Int × Int) × Int × List (Int × ByteArray) × List (Int) × List (ByteArray))) × Int × Int × Unit) → Option _) (y0 : (List (Int × Int × Int × List (ByteArray) × List (Int × ByteArray × Int × Int) × Int × List (Int × ByteArray) × List (Int) × List (ByteArray))) × Int × Int × Unit) =>
(if (decide (y0.2.2.1 < (List.length y0.1 : Int))) = true then
(if 0 ≤ y0.2.2.1 ∧ y0.2.2.1 < (List.length y0.1 : Int) then
(if 0 ≤ y0.2.2.1 ∧ y0.2.2.1 < (List.length (List.set y0.1 (Int.toNat y0.2.2.1) (y0.2.1, (Ty.rd (t := yT0) y0.1 y0.2.2.1).2)) : Int) then
(jn (List.set (List.set y0.1 (Int.toNat y0.2.2.1) (y0.2.1, (Ty.rd (t := yT0) y0.1 y0.2.2.1).2)) (Int.toNat y0.2.2.1) ((Ty.rd (t := yT0) (List.set y0.1 (Int.toNat y0.2.2.1) (y0.2.1, (Ty.rd (t := yT0) y0.1 y0.2.2.1).2)) y0.2.2.1).1, ((wi64 (y0.2.1 + (1 : Int))), (Ty.rd (t := yT0) (List.set y0.1 (Int.toNat y0.2.2.1) (y0.2.1, (Ty.rd (t := yT0) y0.1 y0.2.2.1).2)) y0.2.2.1).2.2))) (fun (q36 : List (Int × Int × Int × List (ByteArray) × List (Int × ByteArray × Int × Int) × Int × List (Int × ByteArray) × List (Int) × List (ByteArray))) =>
(if 0 ≤ y0.2.2.1 ∧ y0.2.2.1 < (List.length q36 : Int) then
(jn (List.set q36 (Int.toNat y0.2.2.1) ((Ty.rd (t := yT0) q36 y0.2.2.1).1, ((Ty.rd (t := yT0) q36 y0.2.2.1).2.1, ((wi64 ((wi64 (y0.2.1 + (1 : Int))) + (1 : Int))), (Ty.rd (t := yT0) q36 y0.2.2.1).2.2.2)))) (fun (q37 : List (Int × Int × Int × List (ByteArray) × List (Int × ByteArray × Int × Int) × Int × List (Int × ByteArray) × List (Int) × List (ByteArray))) =>
(if 0 ≤ y0.2.2.1 ∧ y0.2.2.1 < (List.length q37 : Int) then
((w_markStringS k ((Ty.rd (t := yT0) q37 y0.2.2.1).2.2.2.1, ((wi64 ((wi64 ((wi64 (y0.2.1 + (1 : Int))) + (1 : Int))) + (1 : Int))), ()))).bind fun p1 =>
(jn (List.set q37 (Int.toNat y0.2.2.1) ((Ty.rd (t := yT0) q37 y0.2.2.1).1, ((Ty.rd (t := yT0) q37 y0.2.2.1).2.1, ((Ty.rd (t := yT0) q37 y0.2.2.1).2.2.1, (p1.2.1, (Ty.rd (t := yT0) q37 y0.2.2.1).2.2.2.2))))) (fun (q38 : List (Int × Int × Int × List (ByteArray) × List (Int × ByteArray × Int × Int) × Int × List (Int × ByteArray) × List (Int) × List (ByteArray))) =>
(if 0 ≤ y0.2.2.1 ∧ y0.2.2.1 < (List.length q38 : Int) then
((w_markPendingS k ((Ty.rd (t := yT0) q38 y0.2.2.1).2.2.2.2.1, (p1.1, ()))).bind fun p2 =>
(jn (List.set q38 (Int.toNat y0.2.2.1) ((Ty.rd (t := yT0) q38 y0.2.2.1).1, ((Ty.rd (t := yT0) q38 y0.2.2.1).2.1, ((Ty.rd (t := yT0) q38 y0.2.2.1).2.2.1, ((Ty.rd (t := yT0) q38 y0.2.2.1).2.2.2.1, (p2.2.1, (Ty.rd (t := yT0) q38 y0.2.2.1).2.2.2.2.2)))))) (fun (q39 : List (Int × Int × Int × List (ByteArray) × List (Int × ByteArray × Int × Int) × Int × List (Int × ByteArray) × List (Int) × List (ByteArray))) =>
(if 0 ≤ y0.2.2.1 ∧ y0.2.2.1 < (List.length q39 : Int) then
(jn (List.set q39 (Int.toNat y0.2.2.1) ((Ty.rd (t := yT0) q39 y0.2.2.1).1, ((Ty.rd (t := yT0) q39 y0.2.2.1).2.1, ((Ty.rd (t := yT0) q39 y0.2.2.1).2.2.1, ((Ty.rd (t := yT0) q39 y0.2.2.1).2.2.2.1, ((Ty.rd (t := yT0) q39 y0.2.2.1).2.2.2.2.1, (p2.1, (Ty.rd (t := yT0) q39 y0.2.2.1).2.2.2.2.2.2))))))) (fun (q40 : List (Int × Int × Int × List (ByteArray) × List (Int × ByteArray × Int × Int) × Int × List (Int × ByteArray) × List (Int) × List (ByteArray))) =>
(if 0 ≤ y0.2.2.1 ∧ y0.2.2.1 < (List.length q40 : Int) then
((w_markEarlyS k ((Ty.rd (t := yT0) q40 y0.2.2.1).2.2.2.2.2.2.1, ((wi64 (p2.1 + (1 : Int))), ()))).bind fun p3 =>
(jn (List.set q40 (Int.toNat y0.2.2.1) ((Ty.rd (t := yT0) q40 y0.2.2.1).1, ((Ty.rd (t := yT0) q40 y0.2.2.1).2.1, ((Ty.rd (t := yT0) q40 y0.2.2.1).2.2.1, ((Ty.rd (t := yT0) q40 y0.2.2.1).2.2.2.1, ((Ty.rd (t := yT0) q40 y0.2.2.1).2.2.2.2.1, ((Ty.rd (t := yT0) q40 y0.2.2.1).2.2.2.2.2.1, (p3.2.1, (Ty.rd (t := yT0) q40 y0.2.2.1).2.2.2.2.2.2.2)))))))) (fun (q41 : List (Int × Int × Int × List (ByteArray) × List (Int × ByteArray × Int × Int) × Int × List (Int × ByteArray) × List (Int) × List (ByteArray))) =>
(if 0 ≤ y0.2.2.1 ∧ y0.2.2.1 < (List.length q41 : Int) then
((w_markIntS k ((Ty.rd (t := yT0) q41 y0.2.2.1).2.2.2.2.2.2.2.1, (p3.1, ()))).bind fun p4 =>
(jn (List.set q41 (Int.toNat y0.2.2.1) ((Ty.rd (t := yT0) q41 y0.2.2.1).1, ((Ty.rd (t := yT0) q41 y0.2.2.1).2.1, ((Ty.rd (t := yT0) q41 y0.2.2.1).2.2.1, ((Ty.rd (t := yT0) q41 y0.2.2.1).2.2.2.1, ((Ty.rd (t := yT0) q41 y0.2.2.1).2.2.2.2.1, ((Ty.rd (t := yT0) q41 y0.2.2.1).2.2.2.2.2.1, ((Ty.rd (t := yT0) q41 y0.2.2.1).2.2.2.2.2.2.1, (p4.2.1, (Ty.rd (t := yT0) q41 y0.2.2.1).2.2.2.2.2.2.2.2))))))))) (fun (q42 : List (Int × Int × Int × List (ByteArray) × List (Int × ByteArray × Int × Int) × Int × List (Int × ByteArray) × List (Int) × List (ByteArray))) =>
(if 0 ≤ y0.2.2.1 ∧ y0.2.2.1 < (List.length q42 : Int) then
((w_markStringS k ((Ty.rd (t := yT0) q42 y0.2.2.1).2.2.2.2.2.2.2.2, (p4.1, ()))).bind fun p5 =>
(jn (List.set q42 (Int.toNat y0.2.2.1) ((Ty.rd (t := yT0) q42 y0.2.2.1).1, ((Ty.rd (t := yT0) q42 y0.2.2.1).2.1, ((Ty.rd (t := yT0) q42 y0.2.2.1).2.2.1, ((Ty.rd (t := yT0) q42 y0.2.2.1).2.2.2.1, ((Ty.rd (t := yT0) q42 y0.2.2.1).2.2.2.2.1, ((Ty.rd (t := yT0) q42 y0.2.2.1).2.2.2.2.2.1, ((Ty.rd (t := yT0) q42 y0.2.2.1).2.2.2.2.2.2.1, ((Ty.rd (t := yT0) q42 y0.2.2.1).2.2.2.2.2.2.2.1, p5.2.1))))))))) (fun (q43 : List (Int × Int × Int × List (ByteArray) × List (Int × ByteArray × Int × Int) × Int × List (Int × ByteArray) × List (Int) × List (ByteArray))) =>
(rec0 (q43, (p5.1, ((wi64 (y0.2.2.1 + (1 : Int))), ())))))))
else none))))
else none))))
else none)))
else none))))
else none))))
else none)))
else none)))
else none)
else none)
else
((fun (z1 : (List (Int × Int × Int × List (ByteArray) × List (Int × ByteArray × Int × Int) × Int × List (Int × ByteArray) × List (Int) × List (ByteArray))) × Int × Unit) =>
some (z1.2.1, (z1.1, ((), ())))) (y0.1, (y0.2.1, ()))))) k (x.1, (x.2.1, ((0 : Int), ()))))
abbrev E_w_markChanS (k : Nat) : Entry := ⟨101, 0, (.cons (.mut false 68 yT0) yP9), (.int .i64), w_markChanS k⟩
theorem t_w_markChanS (k : Nat) (x) : evF TTabO k [E_w_markStringS k, E_w_markPendingS k, E_w_markEarlyS k, E_w_markIntS k] [(0, ⟨[0, 1, 5], (.cons (.own false 68 yT0) (.cons (.int .i64) yP9))⟩, ⟨[0, 1], (.cons (.own false 68 yT0) yP9)⟩)] Try.f101 (.cons (.mut false 68 yT0) yP9) (.int .i64) x = w_markChanS k x := by kernel_rfl
theorem e_w_markChanS [Names] (k : Nat) : EntryOk Try.prog (E_w_markChanS k) := entry_ok tokO (es_cons (e_w_markStringS k) (es_cons (e_w_markPendingS k) (es_cons (e_w_markEarlyS k) (es_cons (e_w_markIntS k) es_nil)))) (by kernel_rfl) (by kernel_rfl) (by kernel_rfl) fun x r h => (t_w_markChanS k x).trans h
def w_markPacketS (k : Nat) (x : (List (Int × Int × Int × Int × Int × List (Int) × ByteArray)) × Int × Unit) : Option (Int × (List (Int × Int × Int × Int × Int × List (Int) × ByteArray)) × Unit × Unit) :=
(whileK (fun (rec0 : ((List (Int × Int × Int × Int × Int × List (Int) × ByteArray)) × Int × Int × Unit) → Option _) (y0 : (List (Int × Int × Int × Int × Int × List (Int) × ByteArray)) × Int × Int × Unit) =>
(if (decide (y0.2.2.1 < (List.length y0.1 : Int))) = true then
(if 0 ≤ y0.2.2.1 ∧ y0.2.2.1 < (List.length y0.1 : Int) then
(if 0 ≤ y0.2.2.1 ∧ y0.2.2.1 < (List.length (List.set y0.1 (Int.toNat y0.2.2.1) (y0.2.1, (Ty.rd (t := yT5) y0.1 y0.2.2.1).2)) : Int) then
(jn (List.set (List.set y0.1 (Int.toNat y0.2.2.1) (y0.2.1, (Ty.rd (t := yT5) y0.1 y0.2.2.1).2)) (Int.toNat y0.2.2.1) ((Ty.rd (t := yT5) (List.set y0.1 (Int.toNat y0.2.2.1) (y0.2.1, (Ty.rd (t := yT5) y0.1 y0.2.2.1).2)) y0.2.2.1).1, ((wi64 (y0.2.1 + (1 : Int))), (Ty.rd (t := yT5) (List.set y0.1 (Int.toNat y0.2.2.1) (y0.2.1, (Ty.rd (t := yT5) y0.1 y0.2.2.1).2)) y0.2.2.1).2.2))) (fun (q44 : List (Int × Int × Int × Int × Int × List (Int) × ByteArray)) =>
(if 0 ≤ y0.2.2.1 ∧ y0.2.2.1 < (List.length q44 : Int) then
(jn (List.set q44 (Int.toNat y0.2.2.1) ((Ty.rd (t := yT5) q44 y0.2.2.1).1, ((Ty.rd (t := yT5) q44 y0.2.2.1).2.1, ((wi64 ((wi64 (y0.2.1 + (1 : Int))) + (1 : Int))), (Ty.rd (t := yT5) q44 y0.2.2.1).2.2.2)))) (fun (q45 : List (Int × Int × Int × Int × Int × List (Int) × ByteArray)) =>
(if 0 ≤ y0.2.2.1 ∧ y0.2.2.1 < (List.length q45 : Int) then
(jn (List.set q45 (Int.toNat y0.2.2.1) ((Ty.rd (t := yT5) q45 y0.2.2.1).1, ((Ty.rd (t := yT5) q45 y0.2.2.1).2.1, ((Ty.rd (t := yT5) q45 y0.2.2.1).2.2.1, ((wi64 ((wi64 ((wi64 (y0.2.1 + (1 : Int))) + (1 : Int))) + (1 : Int))), (Ty.rd (t := yT5) q45 y0.2.2.1).2.2.2.2))))) (fun (q46 : List (Int × Int × Int × Int × Int × List (Int) × ByteArray)) =>
(if 0 ≤ y0.2.2.1 ∧ y0.2.2.1 < (List.length q46 : Int) then
(jn (List.set q46 (Int.toNat y0.2.2.1) ((Ty.rd (t := yT5) q46 y0.2.2.1).1, ((Ty.rd (t := yT5) q46 y0.2.2.1).2.1, ((Ty.rd (t := yT5) q46 y0.2.2.1).2.2.1, ((Ty.rd (t := yT5) q46 y0.2.2.1).2.2.2.1, ((wi64 ((wi64 ((wi64 ((wi64 (y0.2.1 + (1 : Int))) + (1 : Int))) + (1 : Int))) + (1 : Int))), (Ty.rd (t := yT5) q46 y0.2.2.1).2.2.2.2.2)))))) (fun (q47 : List (Int × Int × Int × Int × Int × List (Int) × ByteArray)) =>
(if 0 ≤ y0.2.2.1 ∧ y0.2.2.1 < (List.length q47 : Int) then
((w_markIntS k ((Ty.rd (t := yT5) q47 y0.2.2.1).2.2.2.2.2.1, ((wi64 ((wi64 ((wi64 ((wi64 ((wi64 (y0.2.1 + (1 : Int))) + (1 : Int))) + (1 : Int))) + (1 : Int))) + (1 : Int))), ()))).bind fun p1 =>
(jn (List.set q47 (Int.toNat y0.2.2.1) ((Ty.rd (t := yT5) q47 y0.2.2.1).1, ((Ty.rd (t := yT5) q47 y0.2.2.1).2.1, ((Ty.rd (t := yT5) q47 y0.2.2.1).2.2.1, ((Ty.rd (t := yT5) q47 y0.2.2.1).2.2.2.1, ((Ty.rd (t := yT5) q47 y0.2.2.1).2.2.2.2.1, (p1.2.1, (Ty.rd (t := yT5) q47 y0.2.2.1).2.2.2.2.2.2))))))) (fun (q48 : List (Int × Int × Int × Int × Int × List (Int) × ByteArray)) =>
((w_markText k (p1.1, ())).bind fun p2 =>
(if 0 ≤ y0.2.2.1 ∧ y0.2.2.1 < (List.length q48 : Int) then
(jn (List.set q48 (Int.toNat y0.2.2.1) ((Ty.rd (t := yT5) q48 y0.2.2.1).1, ((Ty.rd (t := yT5) q48 y0.2.2.1).2.1, ((Ty.rd (t := yT5) q48 y0.2.2.1).2.2.1, ((Ty.rd (t := yT5) q48 y0.2.2.1).2.2.2.1, ((Ty.rd (t := yT5) q48 y0.2.2.1).2.2.2.2.1, ((Ty.rd (t := yT5) q48 y0.2.2.1).2.2.2.2.2.1, p2.1))))))) (fun (q49 : List (Int × Int × Int × Int × Int × List (Int) × ByteArray)) =>
(rec0 (q49, ((wi64 (p1.1 + (1 : Int))), ((wi64 (y0.2.2.1 + (1 : Int))), ()))))))
else none)))))
else none)))
else none)))
else none)))
else none)))
else none)
else none)
else
((fun (z1 : (List (Int × Int × Int × Int × Int × List (Int) × ByteArray)) × Int × Unit) =>
some (z1.2.1, (z1.1, ((), ())))) (y0.1, (y0.2.1, ()))))) k (x.1, (x.2.1, ((0 : Int), ()))))
abbrev E_w_markPacketS (k : Nat) : Entry := ⟨102, 0, (.cons (.mut false 122 yT5) yP9), (.int .i64), w_markPacketS k⟩
theorem t_w_markPacketS (k : Nat) (x) : evF TTabO k [E_w_markText k, E_w_markIntS k] [(0, ⟨[0, 1, 5], (.cons (.own false 122 yT5) (.cons (.int .i64) yP9))⟩, ⟨[0, 1], (.cons (.own false 122 yT5) yP9)⟩)] Try.f102 (.cons (.mut false 122 yT5) yP9) (.int .i64) x = w_markPacketS k x := by kernel_rfl
theorem e_w_markPacketS [Names] (k : Nat) : EntryOk Try.prog (E_w_markPacketS k) := entry_ok tokO (es_cons (e_w_markText k) (es_cons (e_w_markIntS k) es_nil)) (by kernel_rfl) (by kernel_rfl) (by kernel_rfl) fun x r h => (t_w_markPacketS k x).trans h
def w_markTalk (k : Nat) (x : ((List (Int × Int × Int × List (ByteArray) × List (Int × ByteArray × Int × Int) × Int × List (Int × ByteArray) × List (Int) × List (ByteArray))) × Int × (List (Int × Int × Int × Int × Int × List (Int) × ByteArray)) × Unit) × Int × Unit) : Option (Int × ((List (Int × Int × Int × List (ByteArray) × List (Int × ByteArray × Int × Int) × Int × List (Int × ByteArray) × List (Int) × List (ByteArray))) × Unit × (List (Int × Int × Int × Int × Int × List (Int) × ByteArray)) × Unit) × Unit × Unit) :=
((w_markChanS k (x.1.1, (x.2.1, ()))).bind fun p1 =>
((w_markPacketS k (x.1.2.2.1, (p1.1, ()))).bind fun p2 =>
some (p2.1, ((p1.2.1, ((), (p2.2.1, ()))), ((), ())))))
abbrev E_w_markTalk (k : Nat) : Entry := ⟨46, 0, (.cons (.mag (.cons (.mut false 68 yT0) (.cons (.int .i64) (.cons (.mut false 122 yT5) .nil)))) yP9), (.int .i64), w_markTalk k⟩
theorem t_w_markTalk (k : Nat) (x) : evF TTabO k [E_w_markChanS k, E_w_markPacketS k] [] Try.f46 (.cons (.mag (.cons (.mut false 68 yT0) (.cons (.int .i64) (.cons (.mut false 122 yT5) .nil)))) yP9) (.int .i64) x = w_markTalk k x := by kernel_rfl
theorem e_w_markTalk [Names] (k : Nat) : EntryOk Try.prog (E_w_markTalk k) := entry_ok tokO (es_cons (e_w_markChanS k) (es_cons (e_w_markPacketS k) es_nil)) (by kernel_rfl) (by kernel_rfl) (by kernel_rfl) fun x r h => (t_w_markTalk k x).trans h
def w_heldPendingS (k : Nat) (x : (List (Int × ByteArray × Int × Int)) × Int × Unit) : Option (Int × Unit × Unit × Unit) :=
(whileK (fun (rec0 : ((List (Int × ByteArray × Int × Int)) × Int × Int × Unit) → Option _) (y0 : (List (Int × ByteArray × Int × Int)) × Int × Int × Unit) =>
(if (decide (y0.2.2.1 < (List.length y0.1 : Int))) = true then
(if 0 ≤ y0.2.2.1 ∧ y0.2.2.1 < (List.length y0.1 : Int) then
(if (!decide ((Ty.rd (t := yT4) y0.1 y0.2.2.1).1 = y0.2.1)) = true then
some ((-1 : Int), ((), ((), ())))
else
(if 0 ≤ y0.2.2.1 ∧ y0.2.2.1 < (List.length y0.1 : Int) then
((w_markText k ((wi64 (y0.2.1 + (1 : Int))), ())).bind fun p1 =>
(if (!decide ((Ty.rd (t := yT4) y0.1 y0.2.2.1).2.1 = p1.1)) = true then
some ((-1 : Int), ((), ((), ())))
else
(if 0 ≤ y0.2.2.1 ∧ y0.2.2.1 < (List.length y0.1 : Int) then
(if (!decide ((Ty.rd (t := yT4) y0.1 y0.2.2.1).2.2.1 = (wi64 ((wi64 (y0.2.1 + (1 : Int))) + (1 : Int))))) = true then
some ((-1 : Int), ((), ((), ())))
else
(if 0 ≤ y0.2.2.1 ∧ y0.2.2.1 < (List.length y0.1 : Int) then
(if (!decide ((Ty.rd (t := yT4) y0.1 y0.2.2.1).2.2.2 = (wi64 ((wi64 ((wi64 (y0.2.1 + (1 : Int))) + (1 : Int))) + (1 : Int))))) = true then
some ((-1 : Int), ((), ((), ())))
else
(rec0 (y0.1, ((wi64 ((wi64 ((wi64 ((wi64 (y0.2.1 + (1 : Int))) + (1 : Int))) + (1 : Int))) + (1 : Int))), ((wi64 (y0.2.2.1 + (1 : Int))), ())))))
else none))
else none)))
else none))
else none)
else
((fun (z1 : Int × Unit) =>
some (z1.1, ((), ((), ())))) (y0.2.1, ())))) k (x.1, (x.2.1, ((0 : Int), ()))))
abbrev E_w_heldPendingS (k : Nat) : Entry := ⟨141, 0, (.cons (.il true yT4) yP9), (.int .i64), w_heldPendingS k⟩
theorem t_w_heldPendingS (k : Nat) (x) : evF TTab k [E_w_markText k] [(0, ⟨[0, 1, 5], (.cons (.il true yT4) (.cons (.int .i64) yP9))⟩, ⟨[1], yP9⟩)] Try.f141 (.cons (.il true yT4) yP9) (.int .i64) x = w_heldPendingS k x := by kernel_rfl
theorem e_w_heldPendingS [Names] (k : Nat) : EntryOk Try.prog (E_w_heldPendingS k) := entry_ok tok (es_cons (e_w_markText k) es_nil) (by kernel_rfl) (by kernel_rfl) (by kernel_rfl) fun x r h => (t_w_heldPendingS k x).trans h
def w_heldEarlyS (k : Nat) (x : (List (Int × ByteArray)) × Int × Unit) : Option (Int × Unit × Unit × Unit) :=
(whileK (fun (rec0 : ((List (Int × ByteArray)) × Int × Int × Unit) → Option _) (y0 : (List (Int × ByteArray)) × Int × Int × Unit) =>
(if (decide (y0.2.2.1 < (List.length y0.1 : Int))) = true then
(if 0 ≤ y0.2.2.1 ∧ y0.2.2.1 < (List.length y0.1 : Int) then
(if (!decide ((Ty.rd (t := yT14) y0.1 y0.2.2.1).1 = y0.2.1)) = true then
some ((-1 : Int), ((), ((), ())))
else
(if 0 ≤ y0.2.2.1 ∧ y0.2.2.1 < (List.length y0.1 : Int) then
((w_markText k ((wi64 (y0.2.1 + (1 : Int))), ())).bind fun p1 =>
(if (!decide ((Ty.rd (t := yT14) y0.1 y0.2.2.1).2 = p1.1)) = true then
some ((-1 : Int), ((), ((), ())))
else
(rec0 (y0.1, ((wi64 ((wi64 (y0.2.1 + (1 : Int))) + (1 : Int))), ((wi64 (y0.2.2.1 + (1 : Int))), ()))))))
else none))
else none)
else
((fun (z1 : Int × Unit) =>
some (z1.1, ((), ((), ())))) (y0.2.1, ())))) k (x.1, (x.2.1, ((0 : Int), ()))))
abbrev E_w_heldEarlyS (k : Nat) : Entry := ⟨142, 0, (.cons (.il true yT14) yP9), (.int .i64), w_heldEarlyS k⟩
theorem t_w_heldEarlyS (k : Nat) (x) : evF TTab k [E_w_markText k] [(0, ⟨[0, 1, 5], (.cons (.il true yT14) (.cons (.int .i64) yP9))⟩, ⟨[1], yP9⟩)] Try.f142 (.cons (.il true yT14) yP9) (.int .i64) x = w_heldEarlyS k x := by kernel_rfl
theorem e_w_heldEarlyS [Names] (k : Nat) : EntryOk Try.prog (E_w_heldEarlyS k) := entry_ok tok (es_cons (e_w_markText k) es_nil) (by kernel_rfl) (by kernel_rfl) (by kernel_rfl) fun x r h => (t_w_heldEarlyS k x).trans h
def w_heldIntS (k : Nat) (x : List (Int) × Int × Unit) : Option (Int × Unit × Unit × Unit) :=
(whileK (fun (rec0 : (List (Int) × Int × Int × Unit) → Option _) (y0 : List (Int) × Int × Int × Unit) =>
(if (decide (y0.2.2.1 < (List.length y0.1 : Int))) = true then
(if 0 ≤ y0.2.2.1 ∧ y0.2.2.1 < (List.length y0.1 : Int) then
(if (!decide ((Ty.rd (t := (.int .i64)) y0.1 y0.2.2.1) = y0.2.1)) = true then
some ((-1 : Int), ((), ((), ())))
else
(rec0 (y0.1, ((wi64 (y0.2.1 + (1 : Int))), ((wi64 (y0.2.2.1 + (1 : Int))), ())))))
else none)
else
((fun (z1 : Int × Unit) =>
some (z1.1, ((), ((), ())))) (y0.2.1, ())))) k (x.1, (x.2.1, ((0 : Int), ()))))
abbrev E_w_heldIntS (k : Nat) : Entry := ⟨143, 0, (.cons (.il true (.int .i64)) yP9), (.int .i64), w_heldIntS k⟩
theorem t_w_heldIntS (k : Nat) (x) : evF TTab k [] [(0, ⟨[0, 1, 5], (.cons (.il true (.int .i64)) (.cons (.int .i64) yP9))⟩, ⟨[1], yP9⟩)] Try.f143 (.cons (.il true (.int .i64)) yP9) (.int .i64) x = w_heldIntS k x := by kernel_rfl
theorem e_w_heldIntS [Names] (k : Nat) : EntryOk Try.prog (E_w_heldIntS k) := entry_ok tok es_nil (by kernel_rfl) (by kernel_rfl) (by kernel_rfl) fun x r h => (t_w_heldIntS k x).trans h
def w_heldChanS (k : Nat) (x : (List (Int × Int × Int × List (ByteArray) × List (Int × ByteArray × Int × Int) × Int × List (Int × ByteArray) × List (Int) × List (ByteArray))) × Int × Unit) : Option (Int × Unit × Unit × Unit) :=
(whileK (fun (rec0 : ((List (Int × Int × Int × List (ByteArray) × List (Int × ByteArray × Int × Int) × Int × List (Int × ByteArray) × List (Int) × List (ByteArray))) × Int × Int × Unit) → Option _) (y0 : (List (Int × Int × Int × List (ByteArray) × List (Int × ByteArray × Int × Int) × Int × List (Int × ByteArray) × List (Int) × List (ByteArray))) × Int × Int × Unit) =>
(if (decide (y0.2.2.1 < (List.length y0.1 : Int))) = true then
(if 0 ≤ y0.2.2.1 ∧ y0.2.2.1 < (List.length y0.1 : Int) then
(if (!decide ((Ty.rd (t := yT1) y0.1 y0.2.2.1).1 = y0.2.1)) = true then
some ((-1 : Int), ((), ((), ())))
else
(if 0 ≤ y0.2.2.1 ∧ y0.2.2.1 < (List.length y0.1 : Int) then
(if (!decide ((Ty.rd (t := yT1) y0.1 y0.2.2.1).2.1 = (wi64 (y0.2.1 + (1 : Int))))) = true then
some ((-1 : Int), ((), ((), ())))
else
(if 0 ≤ y0.2.2.1 ∧ y0.2.2.1 < (List.length y0.1 : Int) then
(if (!decide ((Ty.rd (t := yT1) y0.1 y0.2.2.1).2.2.1 = (wi64 ((wi64 (y0.2.1 + (1 : Int))) + (1 : Int))))) = true then
some ((-1 : Int), ((), ((), ())))
else
(if 0 ≤ y0.2.2.1 ∧ y0.2.2.1 < (List.length y0.1 : Int) then
((w_heldStringS k ((Ty.rd (t := yT1) y0.1 y0.2.2.1).2.2.2.1, ((wi64 ((wi64 ((wi64 (y0.2.1 + (1 : Int))) + (1 : Int))) + (1 : Int))), ()))).bind fun p1 =>
(if (decide (p1.1 < (0 : Int))) = true then
some ((-1 : Int), ((), ((), ())))
else
(if 0 ≤ y0.2.2.1 ∧ y0.2.2.1 < (List.length y0.1 : Int) then
((w_heldPendingS k ((Ty.rd (t := yT1) y0.1 y0.2.2.1).2.2.2.2.1, (p1.1, ()))).bind fun p2 =>
(if (decide (p2.1 < (0 : Int))) = true then
some ((-1 : Int), ((), ((), ())))
else
(if 0 ≤ y0.2.2.1 ∧ y0.2.2.1 < (List.length y0.1 : Int) then
(if (!decide ((Ty.rd (t := yT1) y0.1 y0.2.2.1).2.2.2.2.2.1 = p2.1)) = true then
some ((-1 : Int), ((), ((), ())))
else
(if 0 ≤ y0.2.2.1 ∧ y0.2.2.1 < (List.length y0.1 : Int) then
((w_heldEarlyS k ((Ty.rd (t := yT1) y0.1 y0.2.2.1).2.2.2.2.2.2.1, ((wi64 (p2.1 + (1 : Int))), ()))).bind fun p3 =>
(if (decide (p3.1 < (0 : Int))) = true then
some ((-1 : Int), ((), ((), ())))
else
(if 0 ≤ y0.2.2.1 ∧ y0.2.2.1 < (List.length y0.1 : Int) then
((w_heldIntS k ((Ty.rd (t := yT1) y0.1 y0.2.2.1).2.2.2.2.2.2.2.1, (p3.1, ()))).bind fun p4 =>
(if (decide (p4.1 < (0 : Int))) = true then
some ((-1 : Int), ((), ((), ())))
else
(if 0 ≤ y0.2.2.1 ∧ y0.2.2.1 < (List.length y0.1 : Int) then
((w_heldStringS k ((Ty.rd (t := yT1) y0.1 y0.2.2.1).2.2.2.2.2.2.2.2, (p4.1, ()))).bind fun p5 =>
(if (decide (p5.1 < (0 : Int))) = true then
some ((-1 : Int), ((), ((), ())))
else
(rec0 (y0.1, (p5.1, ((wi64 (y0.2.2.1 + (1 : Int))), ()))))))
else none)))
else none)))
else none))
else none)))
else none)))
else none))
else none))
else none))
else none)
else
((fun (z1 : Int × Unit) =>
some (z1.1, ((), ((), ())))) (y0.2.1, ())))) k (x.1, (x.2.1, ((0 : Int), ()))))
abbrev E_w_heldChanS (k : Nat) : Entry := ⟨103, 0, (.cons (.il true yT1) yP9), (.int .i64), w_heldChanS k⟩
theorem t_w_heldChanS (k : Nat) (x) : evF TTabO k [E_w_heldStringS k, E_w_heldPendingS k, E_w_heldEarlyS k, E_w_heldIntS k] [(0, ⟨[0, 1, 5], (.cons (.il true yT1) (.cons (.int .i64) yP9))⟩, ⟨[1], yP9⟩)] Try.f103 (.cons (.il true yT1) yP9) (.int .i64) x = w_heldChanS k x := by kernel_rfl
theorem e_w_heldChanS [Names] (k : Nat) : EntryOk Try.prog (E_w_heldChanS k) := entry_ok tokO (es_cons (e_w_heldStringS k) (es_cons (e_w_heldPendingS k) (es_cons (e_w_heldEarlyS k) (es_cons (e_w_heldIntS k) es_nil)))) (by kernel_rfl) (by kernel_rfl) (by kernel_rfl) fun x r h => (t_w_heldChanS k x).trans h
def w_heldPacketS (k : Nat) (x : (List (Int × Int × Int × Int × Int × List (Int) × ByteArray)) × Int × Unit) : Option (Int × Unit × Unit × Unit) :=
(whileK (fun (rec0 : ((List (Int × Int × Int × Int × Int × List (Int) × ByteArray)) × Int × Int × Unit) → Option _) (y0 : (List (Int × Int × Int × Int × Int × List (Int) × ByteArray)) × Int × Int × Unit) =>
(if (decide (y0.2.2.1 < (List.length y0.1 : Int))) = true then
(if 0 ≤ y0.2.2.1 ∧ y0.2.2.1 < (List.length y0.1 : Int) then
(if (!decide ((Ty.rd (t := yT3) y0.1 y0.2.2.1).1 = y0.2.1)) = true then
some ((-1 : Int), ((), ((), ())))
else
(if 0 ≤ y0.2.2.1 ∧ y0.2.2.1 < (List.length y0.1 : Int) then
(if (!decide ((Ty.rd (t := yT3) y0.1 y0.2.2.1).2.1 = (wi64 (y0.2.1 + (1 : Int))))) = true then
some ((-1 : Int), ((), ((), ())))
else
(if 0 ≤ y0.2.2.1 ∧ y0.2.2.1 < (List.length y0.1 : Int) then
(if (!decide ((Ty.rd (t := yT3) y0.1 y0.2.2.1).2.2.1 = (wi64 ((wi64 (y0.2.1 + (1 : Int))) + (1 : Int))))) = true then
some ((-1 : Int), ((), ((), ())))
else
(if 0 ≤ y0.2.2.1 ∧ y0.2.2.1 < (List.length y0.1 : Int) then
(if (!decide ((Ty.rd (t := yT3) y0.1 y0.2.2.1).2.2.2.1 = (wi64 ((wi64 ((wi64 (y0.2.1 + (1 : Int))) + (1 : Int))) + (1 : Int))))) = true then
some ((-1 : Int), ((), ((), ())))
else
(if 0 ≤ y0.2.2.1 ∧ y0.2.2.1 < (List.length y0.1 : Int) then
(if (!decide ((Ty.rd (t := yT3) y0.1 y0.2.2.1).2.2.2.2.1 = (wi64 ((wi64 ((wi64 ((wi64 (y0.2.1 + (1 : Int))) + (1 : Int))) + (1 : Int))) + (1 : Int))))) = true then
some ((-1 : Int), ((), ((), ())))
else
(if 0 ≤ y0.2.2.1 ∧ y0.2.2.1 < (List.length y0.1 : Int) then
((w_heldIntS k ((Ty.rd (t := yT3) y0.1 y0.2.2.1).2.2.2.2.2.1, ((wi64 ((wi64 ((wi64 ((wi64 ((wi64 (y0.2.1 + (1 : Int))) + (1 : Int))) + (1 : Int))) + (1 : Int))) + (1 : Int))), ()))).bind fun p1 =>
(if (decide (p1.1 < (0 : Int))) = true then
some ((-1 : Int), ((), ((), ())))
else
(if 0 ≤ y0.2.2.1 ∧ y0.2.2.1 < (List.length y0.1 : Int) then
((w_markText k (p1.1, ())).bind fun p2 =>
(if (!decide ((Ty.rd (t := yT3) y0.1 y0.2.2.1).2.2.2.2.2.2 = p2.1)) = true then
some ((-1 : Int), ((), ((), ())))
else
(rec0 (y0.1, ((wi64 (p1.1 + (1 : Int))), ((wi64 (y0.2.2.1 + (1 : Int))), ()))))))
else none)))
else none))
else none))
else none))
else none))
else none))
else none)
else
((fun (z1 : Int × Unit) =>
some (z1.1, ((), ((), ())))) (y0.2.1, ())))) k (x.1, (x.2.1, ((0 : Int), ()))))
abbrev E_w_heldPacketS (k : Nat) : Entry := ⟨104, 0, (.cons (.il true yT3) yP9), (.int .i64), w_heldPacketS k⟩
theorem t_w_heldPacketS (k : Nat) (x) : evF TTabO k [E_w_markText k, E_w_heldIntS k] [(0, ⟨[0, 1, 5], (.cons (.il true yT3) (.cons (.int .i64) yP9))⟩, ⟨[1], yP9⟩)] Try.f104 (.cons (.il true yT3) yP9) (.int .i64) x = w_heldPacketS k x := by kernel_rfl
theorem e_w_heldPacketS [Names] (k : Nat) : EntryOk Try.prog (E_w_heldPacketS k) := entry_ok tokO (es_cons (e_w_markText k) (es_cons (e_w_heldIntS k) es_nil)) (by kernel_rfl) (by kernel_rfl) (by kernel_rfl) fun x r h => (t_w_heldPacketS k x).trans h
def w_heldTalk (k : Nat) (x : ((List (Int × Int × Int × List (ByteArray) × List (Int × ByteArray × Int × Int) × Int × List (Int × ByteArray) × List (Int) × List (ByteArray))) × Int × (List (Int × Int × Int × Int × Int × List (Int) × ByteArray)) × Unit) × Int × Unit) : Option (Int × Unit × Unit × Unit) :=
((w_heldChanS k (x.1.1, (x.2.1, ()))).bind fun p1 =>
(if (decide (p1.1 < (0 : Int))) = true then
some ((-1 : Int), ((), ((), ())))
else
((w_heldPacketS k (x.1.2.2.1, (p1.1, ()))).bind fun p2 =>
(if (decide (p2.1 < (0 : Int))) = true then
some ((-1 : Int), ((), ((), ())))
else
some (p2.1, ((), ((), ())))))))
abbrev E_w_heldTalk (k : Nat) : Entry := ⟨47, 0, (.cons (.agg yP18) yP9), (.int .i64), w_heldTalk k⟩
theorem t_w_heldTalk (k : Nat) (x) : evF TTabO k [E_w_heldChanS k, E_w_heldPacketS k] [] Try.f47 (.cons (.agg yP18) yP9) (.int .i64) x = w_heldTalk k x := by kernel_rfl
theorem e_w_heldTalk [Names] (k : Nat) : EntryOk Try.prog (E_w_heldTalk k) := entry_ok tokO (es_cons (e_w_heldChanS k) (es_cons (e_w_heldPacketS k) es_nil)) (by kernel_rfl) (by kernel_rfl) (by kernel_rfl) fun x r h => (t_w_heldTalk k x).trans h
def w_FnExactRunTalk (k : Nat) (x : List (ByteArray) × List (ByteArray) × (List (Int × Int × Int)) × Unit) : Option (Bool × Unit × Unit × Unit × Unit) :=
((w_szStringS k (x.1, ((1048576 : Int), ()))).bind fun p1 =>
(if (decide (p1.1 < (0 : Int))) = true then
some (true, ((), ((), ((), ()))))
else
((w_szStringS k (x.2.1, (p1.1, ()))).bind fun p2 =>
(if (decide (p2.1 < (0 : Int))) = true then
some (true, ((), ((), ((), ()))))
else
((w_szTurnS k (x.2.2.1, (p2.1, ()))).bind fun p3 =>
(if (decide (p3.1 < (0 : Int))) = true then
some (true, ((), ((), ((), ()))))
else
((w_toStringS k (x.1, ())).bind fun p4 =>
((w_toStringS k (x.2.1, ())).bind fun p5 =>
((w_toTurnS k (x.2.2.1, ())).bind fun p6 =>
((s_RunTalk k (p4.1, (p5.1, (p6.1, ())))).bind fun p7 =>
((w_toStringS k (x.1, ())).bind fun p8 =>
((w_toStringS k (x.2.1, ())).bind fun p9 =>
((w_toTurnS k (x.2.2.1, ())).bind fun p10 =>
((i_RunTalk k (p8.1, (p9.1, (p10.1, ())))).bind fun p11 =>
((w_eqTalk k ((p11.1.1.1, (p11.1.1.2.1, (p11.1.1.2.2.1, ()))), ((p7.1.1.1, (p7.1.1.2.1, (p7.1.1.2.2.1, ()))), ()))).bind fun p12 =>
(if (!p12.1) = false then
(if (!decide (p11.1.2.1 = p7.1.2.1)) = true then
some (false, ((), ((), ((), ()))))
else
((w_toStringS k (x.1, ())).bind fun p13 =>
((w_eqStringS k (p8.1, (p13.1, ()))).bind fun p14 =>
(if (!p14.1) = true then
some (false, ((), ((), ((), ()))))
else
((w_toStringS k (x.2.1, ())).bind fun p15 =>
((w_eqStringS k (p9.1, (p15.1, ()))).bind fun p16 =>
(if (!p16.1) = true then
some (false, ((), ((), ((), ()))))
else
((w_toTurnS k (x.2.2.1, ())).bind fun p17 =>
((w_eqTurnS k (p10.1, (p17.1, ()))).bind fun p18 =>
(if (!p18.1) = true then
some (false, ((), ((), ((), ()))))
else
((w_markStringS k (p8.1, ((1 : Int), ()))).bind fun p19 =>
((w_markStringS k (p9.1, (p19.1, ()))).bind fun p20 =>
((w_markTurnS k (p10.1, (p20.1, ()))).bind fun p21 =>
(if (decide (p21.1 < (0 : Int))) = false then
((w_eqTalk k ((p11.1.1.1, (p11.1.1.2.1, (p11.1.1.2.2.1, ()))), ((p7.1.1.1, (p7.1.1.2.1, (p7.1.1.2.2.1, ()))), ()))).bind fun p22 =>
(if (!p22.1) = false then
(if (!decide (p11.1.2.1 = p7.1.2.1)) = true then
some (false, ((), ((), ((), ()))))
else
((w_markTalk k ((p11.1.1.1, (p11.1.1.2.1, (p11.1.1.2.2.1, ()))), ((1 : Int), ()))).bind fun p23 =>
((w_heldTalk k ((p23.2.1.1, (p11.1.1.2.1, (p23.2.1.2.2.1, ()))), ((1 : Int), ()))).bind fun p24 =>
(if (decide (p24.1 < (0 : Int))) = true then
some (false, ((), ((), ((), ()))))
else
(if (!decide (p24.1 = p23.1)) = true then
some (false, ((), ((), ((), ()))))
else
((w_toStringS k (x.1, ())).bind fun p25 =>
((w_toStringS k (x.2.1, ())).bind fun p26 =>
((w_toTurnS k (x.2.2.1, ())).bind fun p27 =>
((i_RunTalk k (p25.1, (p26.1, (p27.1, ())))).bind fun p28 =>
((w_eqTalk k ((p28.1.1.1, (p28.1.1.2.1, (p28.1.1.2.2.1, ()))), ((p7.1.1.1, (p7.1.1.2.1, (p7.1.1.2.2.1, ()))), ()))).bind fun p29 =>
(if (!p29.1) = false then
(if (!decide (p28.1.2.1 = p7.1.2.1)) = true then
some (false, ((), ((), ((), ()))))
else
((w_heldTalk k ((p23.2.1.1, (p11.1.1.2.1, (p23.2.1.2.2.1, ()))), ((1 : Int), ()))).bind fun p30 =>
(if (decide (p30.1 < (0 : Int))) = true then
some (false, ((), ((), ((), ()))))
else
(if (!decide (p30.1 = p23.1)) = true then
some (false, ((), ((), ((), ()))))
else
some (true, ((), ((), ((), ()))))))))
else
some (false, ((), ((), ((), ())))))))))))))))
else
some (false, ((), ((), ((), ()))))))
else
some (false, ((), ((), ((), ()))))))))))))))))))
else
some (false, ((), ((), ((), ()))))))))))))))))))))
abbrev E_w_FnExactRunTalk (k : Nat) : Entry := ⟨9, 0, (.cons (.il true .str) (.cons (.il true .str) (.cons (.il true yT7) .nil))), .bool, w_FnExactRunTalk k⟩
theorem t_w_FnExactRunTalk (k : Nat) (x) : evF TTab k [E_i_RunTalk k, E_s_RunTalk k, E_w_szStringS k, E_w_szTurnS k, E_w_toStringS k, E_w_toTurnS k, E_w_eqTalk k, E_w_eqStringS k, E_w_eqTurnS k, E_w_markStringS k, E_w_markTurnS k, E_w_markTalk k, E_w_heldTalk k] [] Try.f9 (.cons (.il true .str) (.cons (.il true .str) (.cons (.il true yT7) .nil))) .bool x = w_FnExactRunTalk k x := by kernel_rfl
theorem e_w_FnExactRunTalk [Names] (k : Nat) : EntryOk Try.prog (E_w_FnExactRunTalk k) := entry_ok tok (es_cons (e_i_RunTalk k) (es_cons (e_s_RunTalk k) (es_cons (e_w_szStringS k) (es_cons (e_w_szTurnS k) (es_cons (e_w_toStringS k) (es_cons (e_w_toTurnS k) (es_cons (e_w_eqTalk k) (es_cons (e_w_eqStringS k) (es_cons (e_w_eqTurnS k) (es_cons (e_w_markStringS k) (es_cons (e_w_markTurnS k) (es_cons (e_w_markTalk k) (es_cons (e_w_heldTalk k) es_nil))))))))))))) (by kernel_rfl) (by kernel_rfl) (by kernel_rfl) fun x r h => (t_w_FnExactRunTalk k x).trans h
end Go.Proofs.Ytaamcelinnnncaa
