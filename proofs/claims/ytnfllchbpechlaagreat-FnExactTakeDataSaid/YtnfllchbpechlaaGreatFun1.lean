import Derived.Test.YtnfllchbpechlaaGreatFun0
/- What functions of the program compute, as plain functions, and that their calls do so (part 1). Conditions: the plain function answers. -/
set_option linter.unusedVariables false
namespace Go.Proofs.YtnfllchbpechlaaGreat
open Go Go.Eng Go.Proofs
/- Names of types and patterns that come often. -/
abbrev yT0 : Ty := (.pair (.int .i64) (.pair (.int .i64) (.pair (.int .i64) (.pair (.list .str) (.pair (.list .bool) (.int .i64))))))
abbrev yT1 : Ty := (.pair (.int .i64) (.pair (.int .i64) (.pair (.int .i64) (.pair (.ols 9 .str) (.pair (.ols 4 .bool) (.int .i64))))))
abbrev yP2 : Pat := (.cons (.int .i64) .nil)
abbrev yP3 : Pat := (.agg (.cons (.int .i64) (.cons (.int .i64) (.cons (.int .i64) (.cons .str (.cons .str (.cons (.int .i64) (.cons (.il true (.int .i64)) (.cons (.int .i64) (.cons (.int .i64) (.cons .str (.cons .str (.cons (.int .i64) (.cons (.il true (.int .i64)) (.cons (.int .i64) (.cons (.il true yT0) yP2))))))))))))))))
abbrev yP18 : Pat := (.cons (.il true (.int .i64)) yP2)
abbrev yP4 : Pat := (.agg (.cons (.int .i64) (.cons .str (.cons .str (.cons (.int .i64) (.cons (.il true (.int .i64)) (.cons (.int .i64) (.cons (.int .i64) (.cons .str (.cons .str (.cons (.int .i64) yP18)))))))))))
abbrev yP5 : Pat := (.cons (.int .i64) (.cons (.int .i64) (.cons (.int .i64) (.cons (.int .i64) (.cons (.int .i64) (.cons (.il true (.int .i64)) (.cons .str .nil)))))))
abbrev yT6 : Ty := (.pair (.int .i64) (.pair (.int .i64) (.pair (.int .i64) (.pair (.olq 9 .str) (.pair (.olq 4 .bool) (.int .i64))))))
abbrev yP19 : Pat := (.cons (.int .i64) (.cons (.int .i64) yP2))
abbrev yP7 : Pat := (.cons (.int .i64) (.cons (.int .i64) (.cons (.int .i64) (.cons (.int .i64) (.cons (.int .i64) (.cons (.int .i64) (.cons (.int .i64) (.cons (.int .i64) (.cons (.int .i64) (.cons (.int .i64) (.cons (.int .i64) (.cons (.int .i64) (.cons (.int .i64) (.cons (.int .i64) (.cons (.int .i64) (.cons (.int .i64) (.cons (.int .i64) (.cons (.int .i64) (.cons (.int .i64) (.cons (.int .i64) (.cons (.int .i64) (.cons (.int .i64) (.cons (.int .i64) (.cons (.int .i64) (.cons (.int .i64) (.cons (.int .i64) (.cons (.int .i64) (.cons (.int .i64) (.cons (.int .i64) (.cons (.int .i64) (.cons (.int .i64) (.cons (.int .i64) (.cons (.int .i64) (.cons (.int .i64) (.cons (.int .i64) (.cons (.int .i64) (.cons (.int .i64) (.cons (.int .i64) (.cons (.int .i64) (.cons (.int .i64) (.cons (.int .i64) (.cons (.int .i64) (.cons (.int .i64) (.cons (.int .i64) (.cons (.int .i64) (.cons (.int .i64) (.cons (.int .i64) (.cons (.int .i64) (.cons (.int .i64) (.cons (.int .i64) (.cons (.int .i64) (.cons (.int .i64) (.cons (.int .i64) (.cons (.int .i64) (.cons (.int .i64) (.cons (.int .i64) (.cons (.int .i64) (.cons (.int .i64) (.cons (.int .i64) (.cons (.int .i64) (.cons (.int .i64) yP19)))))))))))))))))))))))))))))))))))))))))))))))))))))))))))))
abbrev yP12 : Pat := (.own false 3 (.int .i64))
abbrev yP8 : Pat := (.cons (.int .i64) (.cons .str (.cons .str (.cons (.int .i64) (.cons yP12 (.cons (.int .i64) (.cons (.int .i64) (.cons .str (.cons .str (.cons (.int .i64) (.cons yP12 yP2)))))))))))
abbrev yP9 : Pat := (.cons (.int .i64) (.cons (.int .i64) (.cons (.int .i64) (.cons (.il true .str) (.cons (.il true .bool) yP2)))))
abbrev yP10 : Pat := (.agg (.cons (.int .i64) (.cons .str (.cons .str (.cons (.int .i64) yP18)))))
abbrev yP11 : Pat := (.agg (.cons (.int .i64) (.cons (.int .i64) (.cons (.int .i64) (.cons .str (.cons .str (.cons (.int .i64) (.cons yP12 (.cons (.int .i64) (.cons (.int .i64) (.cons .str (.cons .str (.cons (.int .i64) (.cons yP12 (.cons (.int .i64) (.cons (.own false 229 yT1) yP2))))))))))))))))
abbrev yP13 : Pat := (.cons (.il true yT0) .nil)
abbrev yP14 : Pat := (.cons .str (.cons .bool .nil))
abbrev yP15 : Pat := (.cons (.int .i64) (.cons .str .nil))
abbrev yP16 : Pat := (.cons (.int .i64) (.cons .str (.cons .str (.cons (.int .i64) (.cons (.il false (.int .i64)) yP2)))))
abbrev yP17 : Pat := (.own false 311 (.int .u32))
abbrev yP20 : Pat := (.cons (.own false 229 yT1) .nil)
abbrev yP21 : Pat := (.cons (.int .i64) (.cons (.int .i64) (.cons (.int .i64) (.cons (.own false 9 .str) (.cons (.own false 4 .bool) yP2)))))
abbrev yP22 : Pat := (.cons .str (.cons .str yP2))
abbrev yP23 : Pat := (.mut false 3 (.int .i64))
abbrev yP24 : Pat := (.cons .str (.cons .str .nil))

def qAy (k : Nat) (x : Int × Int × Int × Unit) : Option (Bool × Unit × Unit × Unit × Unit) :=
(if (decide (x.2.1 ≤ x.1)) = true then
some ((decide (x.1 ≤ x.2.2.1)), ((), ((), ((), ()))))
else
some (false, ((), ((), ((), ())))))
abbrev qBl (k : Nat) : qAI := ⟨62, 0, yP19, .bool, qAy k⟩
theorem t_s_l01In (k : Nat) (x) : evF TTab k [] [] Tryz.f62 yP19 .bool x = qAy k x := by kernel_rfl
theorem qB3 [Names] (k : Nat) : qAD Tryz.prog (qBl k) := qAC tok qAF (by kernel_rfl) (by kernel_rfl) (by kernel_rfl) fun x r h => (t_s_l01In k x).trans h
def qC5 (k : Nat) (x : (ByteArray × ByteArray × Int × Unit) × Unit) : Option (Bool × Unit × Unit) :=
(if (decide ((ByteArray.size x.1.1 : Int) = (32 : Int))) = true then
(if (decide ((ByteArray.size x.1.2.1 : Int) < (64 : Int))) = true then
((qAy k (x.1.2.2.1, ((0 : Int), ((1000000000 : Int), ())))).bind fun p1 =>
(if p1.1 = true then
some ((decide ((Int.tmod x.1.2.2.1 (64 : Int)) = (ByteArray.size x.1.2.1 : Int))), ((), ()))
else
some (false, ((), ()))))
else
some (false, ((), ())))
else
some (false, ((), ())))
abbrev qFO (k : Nat) : qAI := ⟨275, 0, (.cons (.agg yP22) .nil), .bool, qC5 k⟩
theorem t_s_HasherOk (k : Nat) (x) : evF TTab k [qBl k] [] Tryz.f275 (.cons (.agg yP22) .nil) .bool x = qC5 k x := by kernel_rfl
theorem e_s_HasherOk [Names] (k : Nat) : qAD Tryz.prog (qFO k) := qAC tok (qAB (qB3 k) qAF) (by kernel_rfl) (by kernel_rfl) (by kernel_rfl) fun x r h => (t_s_HasherOk k x).trans h
def qFP (k : Nat) (x : ByteArray × Int × Unit) : Option (Int × Unit × Unit × Unit) :=
(if 0 ≤ x.2.1 ∧ x.2.1 < (ByteArray.size x.1 : Int) then
(if 0 ≤ (wi64 (x.2.1 + (1 : Int))) ∧ (wi64 (x.2.1 + (1 : Int))) < (ByteArray.size x.1 : Int) then
(if 0 ≤ (wi64 (x.2.1 + (2 : Int))) ∧ (wi64 (x.2.1 + (2 : Int))) < (ByteArray.size x.1 : Int) then
(if 0 ≤ (wi64 (x.2.1 + (3 : Int))) ∧ (wi64 (x.2.1 + (3 : Int))) < (ByteArray.size x.1 : Int) then
some ((wu32 ((wu32 ((wu32 ((wu32 ((wu32 ((bt x.1 x.2.1))) * (16777216 : Int))) + (wu32 ((wu32 ((bt x.1 (wi64 (x.2.1 + (1 : Int)))))) * (65536 : Int))))) + (wu32 ((wu32 ((bt x.1 (wi64 (x.2.1 + (2 : Int)))))) * (256 : Int))))) + (wu32 ((bt x.1 (wi64 (x.2.1 + (3 : Int)))))))), ((), ((), ())))
else none)
else none)
else none)
else none)
abbrev E_s_l04Word (k : Nat) : qAI := ⟨311, 0, (.cons .str yP2), (.int .u32), qFP k⟩
theorem t_s_l04Word (k : Nat) (x) : evF TTab k [] [] Tryz.f311 (.cons .str yP2) (.int .u32) x = qFP k x := by kernel_rfl
theorem e_s_l04Word [Names] (k : Nat) : qAD Tryz.prog (E_s_l04Word k) := qAC tok qAF (by kernel_rfl) (by kernel_rfl) (by kernel_rfl) fun x r h => (t_s_l04Word k x).trans h
def qCb (k : Nat) (x : ByteArray × Unit) : Option (List (Int) × Unit × Unit) :=
(qAG (fun (rec0 : (ByteArray × List (Int) × Int × Unit) → Option _) (y0 : ByteArray × List (Int) × Int × Unit) =>
(if (decide ((wi64 (y0.2.2.1 + (4 : Int))) ≤ (ByteArray.size y0.1 : Int))) = true then
((qFP k (y0.1, (y0.2.2.1, ()))).bind fun p1 =>
(if List.length y0.2.1 + List.length ([p1.1] : List (Int)) ≤ capMax then
(rec0 (y0.1, ((y0.2.1 ++ ([p1.1] : List (Int))), ((wi64 (y0.2.2.1 + (4 : Int))), ()))))
else none))
else
((fun (z1 : List (Int) × Unit) =>
some (z1.1, ((), ()))) (y0.2.1, ())))) k (x.1, (([] : List (Int)), ((0 : Int), ()))))
abbrev qDn (k : Nat) : qAI := ⟨276, 0, (.cons .str .nil), yP17, qCb k⟩
theorem t_s_l04Words (k : Nat) (x) : evF TTab k [E_s_l04Word k] [(0, ⟨[0, 3, 4], (.cons .str (.cons yP17 yP2))⟩, ⟨[3], (.cons yP17 .nil)⟩)] Tryz.f276 (.cons .str .nil) yP17 x = qCb k x := by kernel_rfl
theorem qFQ [Names] (k : Nat) : qAD Tryz.prog (qDn k) := qAC tok (qAB (e_s_l04Word k) qAF) (by kernel_rfl) (by kernel_rfl) (by kernel_rfl) fun x r h => (t_s_l04Words k x).trans h
def s_l04K (k : Nat) (x : Unit) : Option (List (Int) × Unit) :=
some (([(1116352408 : Int), (1899447441 : Int), (3049323471 : Int), (3921009573 : Int), (961987163 : Int), (1508970993 : Int), (2453635748 : Int), (2870763221 : Int), (3624381080 : Int), (310598401 : Int), (607225278 : Int), (1426881987 : Int), (1925078388 : Int), (2162078206 : Int), (2614888103 : Int), (3248222580 : Int), (3835390401 : Int), (4022224774 : Int), (264347078 : Int), (604807628 : Int), (770255983 : Int), (1249150122 : Int), (1555081692 : Int), (1996064986 : Int), (2554220882 : Int), (2821834349 : Int), (2952996808 : Int), (3210313671 : Int), (3336571891 : Int), (3584528711 : Int), (113926993 : Int), (338241895 : Int), (666307205 : Int), (773529912 : Int), (1294757372 : Int), (1396182291 : Int), (1695183700 : Int), (1986661051 : Int), (2177026350 : Int), (2456956037 : Int), (2730485921 : Int), (2820302411 : Int), (3259730800 : Int), (3345764771 : Int), (3516065817 : Int), (3600352804 : Int), (4094571909 : Int), (275423344 : Int), (430227734 : Int), (506948616 : Int), (659060556 : Int), (883997877 : Int), (958139571 : Int), (1322822218 : Int), (1537002063 : Int), (1747873779 : Int), (1955562222 : Int), (2024104815 : Int), (2227730452 : Int), (2361852424 : Int), (2428436474 : Int), (2756734187 : Int), (3204031479 : Int), (3329325298 : Int)] : List (Int)), ())
abbrev E_s_l04K (k : Nat) : qAI := ⟨277, 0, .nil, yP17, s_l04K k⟩
theorem t_s_l04K (k : Nat) (x) : evF TTab k [] [] Tryz.f277 .nil yP17 x = s_l04K k x := by kernel_rfl
theorem e_s_l04K [Names] (k : Nat) : qAD Tryz.prog (E_s_l04K k) := qAC tok qAF (by kernel_rfl) (by kernel_rfl) (by kernel_rfl) fun x r h => (t_s_l04K k x).trans h
def qCc (k : Nat) (x : Int × Int × Int × Unit) : Option (Int × Unit × Unit × Unit × Unit) :=
(if x.2.1 = 0 then
none
else
(if x.2.1 = 0 then
none
else
some ((wu32 ((wu32 (Int.tdiv x.1 x.2.1)) + (wu32 ((Int.tmod x.1 x.2.1) * x.2.2.1)))), ((), ((), ((), ()))))))
abbrev E_s_l04Right (k : Nat) : qAI := ⟨330, 0, (.cons (.int .u32) (.cons (.int .u32) (.cons (.int .u32) .nil))), (.int .u32), qCc k⟩
theorem t_s_l04Right (k : Nat) (x) : evF TTab k [] [] Tryz.f330 (.cons (.int .u32) (.cons (.int .u32) (.cons (.int .u32) .nil))) (.int .u32) x = qCc k x := by kernel_rfl
theorem e_s_l04Right [Names] (k : Nat) : qAD Tryz.prog (E_s_l04Right k) := qAC tok qAF (by kernel_rfl) (by kernel_rfl) (by kernel_rfl) fun x r h => (t_s_l04Right k x).trans h
def qGf (k : Nat) (x : Int × Int × Int × Int × Bool × Unit) : Option (Int × Unit × Unit × Unit × Unit × Unit × Unit) :=
(if x.2.1 = 0 then
none
else
((qCc k (x.1, (x.2.1, ((wu32 ((wu32 (Int.tdiv (2147483648 : Int) x.2.1)) * (2 : Int))), ())))).bind fun p1 =>
(if x.2.2.1 = 0 then
none
else
((qCc k (x.1, (x.2.2.1, ((wu32 ((wu32 (Int.tdiv (2147483648 : Int) x.2.2.1)) * (2 : Int))), ())))).bind fun p2 =>
(if x.2.2.2.1 = 0 then
none
else
(if (!x.2.2.2.2.1) = true then
(if x.2.2.2.1 = 0 then
none
else
((qCc k (x.1, (x.2.2.2.1, ((wu32 ((wu32 (Int.tdiv (2147483648 : Int) x.2.2.2.1)) * (2 : Int))), ())))).bind fun p3 =>
some ((qAR .xor .u32 (qAR .xor .u32 p1.1 p2.1) p3.1), ((), ((), ((), ((), ((), ()))))))))
else
some ((qAR .xor .u32 (qAR .xor .u32 p1.1 p2.1) (wu32 (Int.tdiv x.1 x.2.2.2.1))), ((), ((), ((), ((), ((), ()))))))))))))
abbrev E_s_l04S (k : Nat) : qAI := ⟨312, 0, (.cons (.int .u32) (.cons (.int .u32) (.cons (.int .u32) (.cons (.int .u32) (.cons .bool .nil))))), (.int .u32), qGf k⟩
theorem t_s_l04S (k : Nat) (x) : evF TTab k [E_s_l04Right k] [] Tryz.f312 (.cons (.int .u32) (.cons (.int .u32) (.cons (.int .u32) (.cons (.int .u32) (.cons .bool .nil))))) (.int .u32) x = qGf k x := by kernel_rfl
theorem e_s_l04S [Names] (k : Nat) : qAD Tryz.prog (E_s_l04S k) := qAC tok (qAB (e_s_l04Right k) qAF) (by kernel_rfl) (by kernel_rfl) (by kernel_rfl) fun x r h => (t_s_l04S k x).trans h
def qC6 (k : Nat) (x : List (Int) × List (Int) × ByteArray × Unit) : Option (List (Int) × Unit × Unit × Unit × Unit) :=
((qCb k (x.2.2.1, ())).bind fun p1 =>
(qAG (fun (rec0 : (List (Int) × List (Int) × List (Int) × Int × Unit) → Option _) (y0 : List (Int) × List (Int) × List (Int) × Int × Unit) =>
(if (decide (y0.2.2.2.1 < (64 : Int))) = true then
(if 0 ≤ (wi64 (y0.2.2.2.1 - (2 : Int))) ∧ (wi64 (y0.2.2.2.1 - (2 : Int))) < (List.length y0.2.2.1 : Int) then
((qGf k ((Ty.rd (t := (.int .u32)) y0.2.2.1 (wi64 (y0.2.2.2.1 - (2 : Int)))), ((131072 : Int), ((524288 : Int), ((1024 : Int), (true, ())))))).bind fun p2 =>
(if 0 ≤ (wi64 (y0.2.2.2.1 - (7 : Int))) ∧ (wi64 (y0.2.2.2.1 - (7 : Int))) < (List.length y0.2.2.1 : Int) then
(if 0 ≤ (wi64 (y0.2.2.2.1 - (15 : Int))) ∧ (wi64 (y0.2.2.2.1 - (15 : Int))) < (List.length y0.2.2.1 : Int) then
((qGf k ((Ty.rd (t := (.int .u32)) y0.2.2.1 (wi64 (y0.2.2.2.1 - (15 : Int)))), ((128 : Int), ((262144 : Int), ((8 : Int), (true, ())))))).bind fun p3 =>
(if 0 ≤ (wi64 (y0.2.2.2.1 - (16 : Int))) ∧ (wi64 (y0.2.2.2.1 - (16 : Int))) < (List.length y0.2.2.1 : Int) then
(if List.length y0.2.2.1 + List.length ([(wu32 ((wu32 ((wu32 (p2.1 + (Ty.rd (t := (.int .u32)) y0.2.2.1 (wi64 (y0.2.2.2.1 - (7 : Int)))))) + p3.1)) + (Ty.rd (t := (.int .u32)) y0.2.2.1 (wi64 (y0.2.2.2.1 - (16 : Int))))))] : List (Int)) ≤ capMax then
(rec0 (y0.1, (y0.2.1, ((y0.2.2.1 ++ ([(wu32 ((wu32 ((wu32 (p2.1 + (Ty.rd (t := (.int .u32)) y0.2.2.1 (wi64 (y0.2.2.2.1 - (7 : Int)))))) + p3.1)) + (Ty.rd (t := (.int .u32)) y0.2.2.1 (wi64 (y0.2.2.2.1 - (16 : Int))))))] : List (Int))), ((wi64 (y0.2.2.2.1 + (1 : Int))), ())))))
else none)
else none))
else none)
else none))
else none)
else
((fun (z1 : List (Int) × List (Int) × List (Int) × Unit) =>
(if List.length ([] : List (Int)) + List.length z1.1 ≤ capMax then
(qAG (fun (rec2 : (List (Int) × List (Int) × List (Int) × List (Int) × Int × Unit) → Option _) (y2 : List (Int) × List (Int) × List (Int) × List (Int) × Int × Unit) =>
(if (decide (y2.2.2.2.2.1 < (64 : Int))) = true then
(if 0 ≤ (4 : Int) ∧ (4 : Int) < (List.length y2.2.2.2.1 : Int) then
(if 0 ≤ (5 : Int) ∧ (5 : Int) < (List.length y2.2.2.2.1 : Int) then
(if 0 ≤ (6 : Int) ∧ (6 : Int) < (List.length y2.2.2.2.1 : Int) then
(if 0 ≤ (7 : Int) ∧ (7 : Int) < (List.length y2.2.2.2.1 : Int) then
((qGf k ((Ty.rd (t := (.int .u32)) y2.2.2.2.1 (4 : Int)), ((64 : Int), ((2048 : Int), ((33554432 : Int), (false, ())))))).bind fun p4 =>
(if 0 ≤ y2.2.2.2.2.1 ∧ y2.2.2.2.2.1 < (List.length y2.2.1 : Int) then
(if 0 ≤ y2.2.2.2.2.1 ∧ y2.2.2.2.2.1 < (List.length y2.2.2.1 : Int) then
(if 0 ≤ (0 : Int) ∧ (0 : Int) < (List.length y2.2.2.2.1 : Int) then
(if 0 ≤ (1 : Int) ∧ (1 : Int) < (List.length y2.2.2.2.1 : Int) then
(if 0 ≤ (0 : Int) ∧ (0 : Int) < (List.length y2.2.2.2.1 : Int) then
(if 0 ≤ (2 : Int) ∧ (2 : Int) < (List.length y2.2.2.2.1 : Int) then
(if 0 ≤ (1 : Int) ∧ (1 : Int) < (List.length y2.2.2.2.1 : Int) then
(if 0 ≤ (2 : Int) ∧ (2 : Int) < (List.length y2.2.2.2.1 : Int) then
(if 0 ≤ (0 : Int) ∧ (0 : Int) < (List.length y2.2.2.2.1 : Int) then
((qGf k ((Ty.rd (t := (.int .u32)) y2.2.2.2.1 (0 : Int)), ((4 : Int), ((8192 : Int), ((4194304 : Int), (false, ())))))).bind fun p5 =>
(qAG (fun (rec4 : (List (Int) × List (Int) × List (Int) × List (Int) × Int × Int × Int × Int × Unit) → Option _) (y4 : List (Int) × List (Int) × List (Int) × List (Int) × Int × Int × Int × Int × Unit) =>
(if (decide ((0 : Int) < y4.2.2.2.2.2.2.2.1)) = true then
(if 0 ≤ (wi64 (y4.2.2.2.2.2.2.2.1 - (1 : Int))) ∧ (wi64 (y4.2.2.2.2.2.2.2.1 - (1 : Int))) < (List.length y4.2.2.2.1 : Int) then
(if 0 ≤ y4.2.2.2.2.2.2.2.1 ∧ y4.2.2.2.2.2.2.2.1 < (List.length y4.2.2.2.1 : Int) then
(rec4 (y4.1, (y4.2.1, (y4.2.2.1, ((List.set y4.2.2.2.1 (Int.toNat y4.2.2.2.2.2.2.2.1) (Ty.rd (t := (.int .u32)) y4.2.2.2.1 (wi64 (y4.2.2.2.2.2.2.2.1 - (1 : Int))))), (y4.2.2.2.2.1, (y4.2.2.2.2.2.1, (y4.2.2.2.2.2.2.1, ((wi64 (y4.2.2.2.2.2.2.2.1 - (1 : Int))), ())))))))))
else none)
else none)
else
((fun (z2 : List (Int) × List (Int) × List (Int) × List (Int) × Int × Int × Int × Unit) =>
(if 0 ≤ (4 : Int) ∧ (4 : Int) < (List.length z2.2.2.2.1 : Int) then
(if 0 ≤ (4 : Int) ∧ (4 : Int) < (List.length z2.2.2.2.1 : Int) then
(if 0 ≤ (0 : Int) ∧ (0 : Int) < (List.length (List.set z2.2.2.2.1 (Int.toNat (4 : Int)) (wu32 ((Ty.rd (t := (.int .u32)) z2.2.2.2.1 (4 : Int)) + z2.2.2.2.2.2.1))) : Int) then
(rec2 (z2.1, (z2.2.1, (z2.2.2.1, ((List.set (List.set z2.2.2.2.1 (Int.toNat (4 : Int)) (wu32 ((Ty.rd (t := (.int .u32)) z2.2.2.2.1 (4 : Int)) + z2.2.2.2.2.2.1))) (Int.toNat (0 : Int)) (wu32 (z2.2.2.2.2.2.1 + z2.2.2.2.2.2.2.1))), ((wi64 (z2.2.2.2.2.1 + (1 : Int))), ()))))))
else none)
else none)
else none)) (y4.1, (y4.2.1, (y4.2.2.1, (y4.2.2.2.1, (y4.2.2.2.2.1, (y4.2.2.2.2.2.1, (y4.2.2.2.2.2.2.1, ())))))))))) k (y2.1, (y2.2.1, (y2.2.2.1, (y2.2.2.2.1, (y2.2.2.2.2.1, ((wu32 ((wu32 ((wu32 ((wu32 ((Ty.rd (t := (.int .u32)) y2.2.2.2.1 (7 : Int)) + p4.1)) + (qAR .xor .u32 (qAR .and .u32 (Ty.rd (t := (.int .u32)) y2.2.2.2.1 (4 : Int)) (Ty.rd (t := (.int .u32)) y2.2.2.2.1 (5 : Int))) (qAR .and .u32 (wu32 ((4294967295 : Int) - (Ty.rd (t := (.int .u32)) y2.2.2.2.1 (4 : Int)))) (Ty.rd (t := (.int .u32)) y2.2.2.2.1 (6 : Int)))))) + (Ty.rd (t := (.int .u32)) y2.2.1 y2.2.2.2.2.1))) + (Ty.rd (t := (.int .u32)) y2.2.2.1 y2.2.2.2.2.1))), ((wu32 (p5.1 + (qAR .xor .u32 (qAR .xor .u32 (qAR .and .u32 (Ty.rd (t := (.int .u32)) y2.2.2.2.1 (0 : Int)) (Ty.rd (t := (.int .u32)) y2.2.2.2.1 (1 : Int))) (qAR .and .u32 (Ty.rd (t := (.int .u32)) y2.2.2.2.1 (0 : Int)) (Ty.rd (t := (.int .u32)) y2.2.2.2.1 (2 : Int)))) (qAR .and .u32 (Ty.rd (t := (.int .u32)) y2.2.2.2.1 (1 : Int)) (Ty.rd (t := (.int .u32)) y2.2.2.2.1 (2 : Int)))))), ((7 : Int), ()))))))))))
else none)
else none)
else none)
else none)
else none)
else none)
else none)
else none)
else none))
else none)
else none)
else none)
else none)
else
((fun (z3 : List (Int) × List (Int) × Unit) =>
(qAG (fun (rec6 : (List (Int) × List (Int) × List (Int) × Int × Unit) → Option _) (y6 : List (Int) × List (Int) × List (Int) × Int × Unit) =>
(if (decide (y6.2.2.2.1 < (8 : Int))) = true then
(if 0 ≤ y6.2.2.2.1 ∧ y6.2.2.2.1 < (List.length y6.1 : Int) then
(if 0 ≤ y6.2.2.2.1 ∧ y6.2.2.2.1 < (List.length y6.2.1 : Int) then
(if List.length y6.2.2.1 + List.length ([(wu32 ((Ty.rd (t := (.int .u32)) y6.1 y6.2.2.2.1) + (Ty.rd (t := (.int .u32)) y6.2.1 y6.2.2.2.1)))] : List (Int)) ≤ capMax then
(rec6 (y6.1, (y6.2.1, ((y6.2.2.1 ++ ([(wu32 ((Ty.rd (t := (.int .u32)) y6.1 y6.2.2.2.1) + (Ty.rd (t := (.int .u32)) y6.2.1 y6.2.2.2.1)))] : List (Int))), ((wi64 (y6.2.2.2.1 + (1 : Int))), ())))))
else none)
else none)
else none)
else
((fun (z4 : List (Int) × Unit) =>
some (z4.1, ((), ((), ((), ()))))) (y6.2.2.1, ())))) k (z3.1, (z3.2.1, (([] : List (Int)), ((0 : Int), ())))))) (y2.1, (y2.2.2.2.1, ()))))) k (z1.1, (z1.2.1, (z1.2.2.1, ((([] : List (Int)) ++ z1.1), ((0 : Int), ()))))))
else none)) (y0.1, (y0.2.1, (y0.2.2.1, ())))))) k (x.1, (x.2.1, (p1.1, ((16 : Int), ()))))))
abbrev qFR (k : Nat) : qAI := ⟨278, 0, (.cons (.il true (.int .u32)) (.cons (.il true (.int .u32)) (.cons .str .nil))), yP17, qC6 k⟩
theorem t_s_l04Round (k : Nat) (x) : evF TTab k [qDn k, E_s_l04S k] [(0, ⟨[0, 1, 7, 8], (.cons (.il true (.int .u32)) (.cons (.il true (.int .u32)) (.cons yP17 yP2)))⟩, ⟨[0, 1, 7], (.cons (.il true (.int .u32)) (.cons (.il true (.int .u32)) (.cons yP17 .nil)))⟩), (2, ⟨[0, 1, 7, 9, 10], (.cons (.il true (.int .u32)) (.cons (.il true (.int .u32)) (.cons yP17 (.cons yP17 yP2))))⟩, ⟨[0, 9], (.cons (.il true (.int .u32)) (.cons yP17 .nil))⟩), (4, ⟨[0, 1, 7, 9, 10, 13, 15, 16], (.cons (.il true (.int .u32)) (.cons (.il true (.int .u32)) (.cons yP17 (.cons yP17 (.cons (.int .i64) (.cons (.int .u32) (.cons (.int .u32) yP2)))))))⟩, ⟨[0, 1, 7, 9, 10, 13, 15], (.cons (.il true (.int .u32)) (.cons (.il true (.int .u32)) (.cons yP17 (.cons yP17 (.cons (.int .i64) (.cons (.int .u32) (.cons (.int .u32) .nil)))))))⟩), (6, ⟨[0, 9, 17, 18], (.cons (.il true (.int .u32)) (.cons yP17 (.cons yP17 yP2)))⟩, ⟨[17], (.cons yP17 .nil)⟩)] Tryz.f278 (.cons (.il true (.int .u32)) (.cons (.il true (.int .u32)) (.cons .str .nil))) yP17 x = qC6 k x := by kernel_rfl
theorem e_s_l04Round [Names] (k : Nat) : qAD Tryz.prog (qFR k) := qAC tok (qAB (qFQ k) (qAB (e_s_l04S k) qAF)) (by kernel_rfl) (by kernel_rfl) (by kernel_rfl) fun x r h => (t_s_l04Round k x).trans h
def qCd (k : Nat) (x : List (Int) × Unit) : Option (ByteArray × Unit × Unit) :=
(qAG (fun (rec0 : (List (Int) × List (Int) × Int × Unit) → Option _) (y0 : List (Int) × List (Int) × Int × Unit) =>
(if (decide (y0.2.2.1 < (List.length y0.1 : Int))) = true then
(if 0 ≤ y0.2.2.1 ∧ y0.2.2.1 < (List.length y0.1 : Int) then
(if List.length y0.2.1 + List.length ([(wu8 ((wu32 (Int.tdiv (Ty.rd (t := (.int .u32)) y0.1 y0.2.2.1) (16777216 : Int))))), (wu8 ((Int.tmod (wu32 (Int.tdiv (Ty.rd (t := (.int .u32)) y0.1 y0.2.2.1) (65536 : Int))) (256 : Int)))), (wu8 ((Int.tmod (wu32 (Int.tdiv (Ty.rd (t := (.int .u32)) y0.1 y0.2.2.1) (256 : Int))) (256 : Int)))), (wu8 ((Int.tmod (Ty.rd (t := (.int .u32)) y0.1 y0.2.2.1) (256 : Int))))] : List (Int)) ≤ capMax then
(rec0 (y0.1, ((y0.2.1 ++ ([(wu8 ((wu32 (Int.tdiv (Ty.rd (t := (.int .u32)) y0.1 y0.2.2.1) (16777216 : Int))))), (wu8 ((Int.tmod (wu32 (Int.tdiv (Ty.rd (t := (.int .u32)) y0.1 y0.2.2.1) (65536 : Int))) (256 : Int)))), (wu8 ((Int.tmod (wu32 (Int.tdiv (Ty.rd (t := (.int .u32)) y0.1 y0.2.2.1) (256 : Int))) (256 : Int)))), (wu8 ((Int.tmod (Ty.rd (t := (.int .u32)) y0.1 y0.2.2.1) (256 : Int))))] : List (Int))), ((wi64 (y0.2.2.1 + (1 : Int))), ()))))
else none)
else none)
else
((fun (z1 : List (Int) × Unit) =>
some ((qAK z1.1), ((), ()))) (y0.2.1, ())))) k (x.1, (([] : List (Int)), ((0 : Int), ()))))
abbrev qDo (k : Nat) : qAI := ⟨279, 0, (.cons (.il true (.int .u32)) .nil), .str, qCd k⟩
theorem t_s_l04Bytes (k : Nat) (x) : evF TTab k [] [(0, ⟨[0, 3, 4], (.cons (.il true (.int .u32)) (.cons (.own false 5 (.int .u8)) yP2))⟩, ⟨[3], (.cons (.own false 5 (.int .u8)) .nil)⟩)] Tryz.f279 (.cons (.il true (.int .u32)) .nil) .str x = qCd k x := by kernel_rfl
theorem qFS [Names] (k : Nat) : qAD Tryz.prog (qDo k) := qAC tok qAF (by kernel_rfl) (by kernel_rfl) (by kernel_rfl) fun x r h => (t_s_l04Bytes k x).trans h
def qFT (k : Nat) (x : (ByteArray × ByteArray × Int × Unit) × Unit) : Option (ByteArray × Unit × Unit) :=
((qC5 k ((x.1.1, (x.1.2.1, (x.1.2.2.1, ()))), ())).bind fun p1 =>
(if (!p1.1) = true then
some ((⟨#[]⟩ : ByteArray), ((), ()))
else
(if ByteArray.size x.1.2.1 ≤ maxStr then
(if List.length (qAE x.1.2.1) + List.length ([(128 : Int)] : List (Int)) ≤ capMax then
(qAG (fun (rec0 : ((ByteArray × ByteArray × Int × Unit) × List (Int) × Unit) → Option _) (y0 : (ByteArray × ByteArray × Int × Unit) × List (Int) × Unit) =>
(if (!decide ((Int.tmod (List.length y0.2.1 : Int) (64 : Int)) = (56 : Int))) = true then
(if List.length y0.2.1 + List.length ([(0 : Int)] : List (Int)) ≤ capMax then
(rec0 ((y0.1.1, (y0.1.2.1, (y0.1.2.2.1, ()))), ((y0.2.1 ++ ([(0 : Int)] : List (Int))), ())))
else none)
else
((fun (z1 : (ByteArray × ByteArray × Int × Unit) × List (Int) × Unit) =>
(qAG (fun (rec2 : ((ByteArray × ByteArray × Int × Unit) × List (Int) × Int × Int × Unit) → Option _) (y2 : (ByteArray × ByteArray × Int × Unit) × List (Int) × Int × Int × Unit) =>
(if (decide ((0 : Int) ≤ y2.2.2.2.1)) = true then
(qAG (fun (rec4 : ((ByteArray × ByteArray × Int × Unit) × List (Int) × Int × Int × Int × Int × Unit) → Option _) (y4 : (ByteArray × ByteArray × Int × Unit) × List (Int) × Int × Int × Int × Int × Unit) =>
(if (decide (y4.2.2.2.2.2.1 < y4.2.2.2.1)) = true then
(rec4 ((y4.1.1, (y4.1.2.1, (y4.1.2.2.1, ()))), (y4.2.1, (y4.2.2.1, (y4.2.2.2.1, ((wi64 (Int.tdiv y4.2.2.2.2.1 (256 : Int))), ((wi64 (y4.2.2.2.2.2.1 + (1 : Int))), ())))))))
else
((fun (z2 : (ByteArray × ByteArray × Int × Unit) × List (Int) × Int × Int × Int × Unit) =>
(if List.length z2.2.1 + List.length ([(wu8 ((Int.tmod z2.2.2.2.2.1 (256 : Int))))] : List (Int)) ≤ capMax then
(rec2 ((z2.1.1, (z2.1.2.1, (z2.1.2.2.1, ()))), ((z2.2.1 ++ ([(wu8 ((Int.tmod z2.2.2.2.2.1 (256 : Int))))] : List (Int))), (z2.2.2.1, ((wi64 (z2.2.2.2.1 - (1 : Int))), ())))))
else none)) ((y4.1.1, (y4.1.2.1, (y4.1.2.2.1, ()))), (y4.2.1, (y4.2.2.1, (y4.2.2.2.1, (y4.2.2.2.2.1, ())))))))) k ((y2.1.1, (y2.1.2.1, (y2.1.2.2.1, ()))), (y2.2.1, (y2.2.2.1, (y2.2.2.2.1, (y2.2.2.1, ((0 : Int), ())))))))
else
((fun (z3 : (ByteArray × ByteArray × Int × Unit) × List (Int) × Unit) =>
((qCb k (z3.1.1, ())).bind fun p2 =>
((s_l04K k ()).bind fun p3 =>
(qAG (fun (rec6 : (List (Int) × List (Int) × List (Int) × Int × Unit) → Option _) (y6 : List (Int) × List (Int) × List (Int) × Int × Unit) =>
(if (decide (y6.2.2.2.1 < (List.length y6.1 : Int))) = true then
(if 0 ≤ (wi64 (y6.2.2.2.1 + (64 : Int))) ∧ (wi64 (y6.2.2.2.1 + (64 : Int))) ≤ (List.length y6.1 : Int) then
(if 0 ≤ y6.2.2.2.1 ∧ y6.2.2.2.1 ≤ (wi64 (y6.2.2.2.1 + (64 : Int))) then
((qC6 k (y6.2.1, (y6.2.2.1, ((qAK (List.drop (Int.toNat y6.2.2.2.1) (List.take (Int.toNat (wi64 (y6.2.2.2.1 + (64 : Int)))) y6.1))), ())))).bind fun p4 =>
(rec6 (y6.1, (p4.1, (y6.2.2.1, ((wi64 (y6.2.2.2.1 + (64 : Int))), ()))))))
else none)
else none)
else
((fun (z4 : List (Int) × Unit) =>
((qCd k (z4.1, ())).bind fun p5 =>
some (p5.1, ((), ())))) (y6.2.1, ())))) k (z3.2.1, (p2.1, (p3.1, ((0 : Int), ())))))))) ((y2.1.1, (y2.1.2.1, (y2.1.2.2.1, ()))), (y2.2.1, ()))))) k ((z1.1.1, (z1.1.2.1, (z1.1.2.2.1, ()))), (z1.2.1, ((wi64 ((8 : Int) * z1.1.2.2.1)), ((7 : Int), ())))))) ((y0.1.1, (y0.1.2.1, (y0.1.2.2.1, ()))), (y0.2.1, ()))))) k ((x.1.1, (x.1.2.1, (x.1.2.2.1, ()))), (((qAE x.1.2.1) ++ ([(128 : Int)] : List (Int))), ())))
else none)
else none)))
abbrev E_s_HashEnd (k : Nat) : qAI := ⟨208, 0, (.cons (.agg yP22) .nil), .str, qFT k⟩
theorem t_s_HashEnd (k : Nat) (x) : evF TTab k [qFO k, qDn k, E_s_l04K k, qFR k, qDo k] [(0, ⟨[1, 3], (.cons (.ptr 0 yP22) (.cons (.own true 5 (.int .u8)) .nil))⟩, ⟨[1, 3], (.cons (.ptr 0 yP22) (.cons (.own true 5 (.int .u8)) .nil))⟩), (2, ⟨[1, 3, 4, 5], (.cons (.ptr 0 yP22) (.cons (.own true 5 (.int .u8)) (.cons (.int .i64) yP2)))⟩, ⟨[1, 3], (.cons (.ptr 0 yP22) (.cons (.own true 5 (.int .u8)) .nil))⟩), (4, ⟨[1, 3, 4, 5, 6, 7], (.cons (.ptr 0 yP22) (.cons (.own true 5 (.int .u8)) (.cons (.int .i64) yP19)))⟩, ⟨[1, 3, 4, 5, 6], (.cons (.ptr 0 yP22) (.cons (.own true 5 (.int .u8)) yP19))⟩), (6, ⟨[3, 8, 9, 10], (.cons (.own true 5 (.int .u8)) (.cons yP17 (.cons yP17 yP2)))⟩, ⟨[8], (.cons yP17 .nil)⟩)] Tryz.f208 (.cons (.agg yP22) .nil) .str x = qFT k x := by kernel_rfl
theorem e_s_HashEnd [Names] (k : Nat) : qAD Tryz.prog (E_s_HashEnd k) := qAC tok (qAB (e_s_HasherOk k) (qAB (qFQ k) (qAB (e_s_l04K k) (qAB (e_s_l04Round k) (qAB (qFS k) qAF))))) (by kernel_rfl) (by kernel_rfl) (by kernel_rfl) fun x r h => (t_s_HashEnd k x).trans h
def qC7 (k : Nat) (x : (ByteArray × ByteArray × Int × Unit) × ByteArray × Unit) : Option ((ByteArray × ByteArray × Int × Unit) × Unit × Unit × Unit) :=
((qC5 k ((x.1.1, (x.1.2.1, (x.1.2.2.1, ()))), ())).bind fun p1 =>
(if (!p1.1) = false then
(if (decide ((1000000000 : Int) < (wi64 (x.1.2.2.1 + (ByteArray.size x.2.1 : Int))))) = true then
some ((x.1.1, (x.1.2.1, (x.1.2.2.1, ()))), ((), ((), ())))
else
((qCb k (x.1.1, ())).bind fun p2 =>
((s_l04K k ()).bind fun p3 =>
(if ByteArray.size x.1.2.1 + ByteArray.size x.2.1 ≤ maxStr then
(qAG (fun (rec0 : (ByteArray × (ByteArray × ByteArray × Int × Unit) × (ByteArray × ByteArray × Int × Unit) × List (Int) × List (Int) × ByteArray × Int × Unit) → Option _) (y0 : ByteArray × (ByteArray × ByteArray × Int × Unit) × (ByteArray × ByteArray × Int × Unit) × List (Int) × List (Int) × ByteArray × Int × Unit) =>
(if (decide ((wi64 (y0.2.2.2.2.2.2.1 + (64 : Int))) ≤ (ByteArray.size y0.2.2.2.2.2.1 : Int))) = true then
(if 0 ≤ (wi64 (y0.2.2.2.2.2.2.1 + (64 : Int))) ∧ (wi64 (y0.2.2.2.2.2.2.1 + (64 : Int))) ≤ (ByteArray.size y0.2.2.2.2.2.1 : Int) then
(if 0 ≤ y0.2.2.2.2.2.2.1 ∧ y0.2.2.2.2.2.2.1 ≤ (wi64 (y0.2.2.2.2.2.2.1 + (64 : Int))) then
((qC6 k (y0.2.2.2.1, (y0.2.2.2.2.1, ((ByteArray.extract y0.2.2.2.2.2.1 (Int.toNat y0.2.2.2.2.2.2.1) (Int.toNat (wi64 (y0.2.2.2.2.2.2.1 + (64 : Int))))), ())))).bind fun p4 =>
(rec0 (y0.1, ((y0.2.1.1, (y0.2.1.2.1, (y0.2.1.2.2.1, ()))), ((y0.2.2.1.1, (y0.2.2.1.2.1, (y0.2.2.1.2.2.1, ()))), (p4.1, (y0.2.2.2.2.1, (y0.2.2.2.2.2.1, ((wi64 (y0.2.2.2.2.2.2.1 + (64 : Int))), ())))))))))
else none)
else none)
else
((fun (z1 : ByteArray × (ByteArray × ByteArray × Int × Unit) × (ByteArray × ByteArray × Int × Unit) × List (Int) × ByteArray × Int × Unit) =>
((qCd k (z1.2.2.2.1, ())).bind fun p5 =>
(if 0 ≤ z1.2.2.2.2.2.1 ∧ z1.2.2.2.2.2.1 ≤ (ByteArray.size z1.2.2.2.2.1 : Int) then
some ((p5.1, ((ByteArray.extract z1.2.2.2.2.1 (Int.toNat z1.2.2.2.2.2.1) (Int.toNat (ByteArray.size z1.2.2.2.2.1 : Int))), ((wi64 (z1.2.1.2.2.1 + (ByteArray.size z1.1 : Int))), ()))), ((), ((), ())))
else none))) (y0.1, ((y0.2.1.1, (y0.2.1.2.1, (y0.2.1.2.2.1, ()))), ((y0.2.2.1.1, (y0.2.2.1.2.1, (y0.2.2.1.2.2.1, ()))), (y0.2.2.2.1, (y0.2.2.2.2.2.1, (y0.2.2.2.2.2.2.1, ()))))))))) k (x.2.1, ((x.1.1, (x.1.2.1, (x.1.2.2.1, ()))), (((⟨#[]⟩ : ByteArray), ((⟨#[]⟩ : ByteArray), ((0 : Int), ()))), (p2.1, (p3.1, ((x.1.2.1 ++ x.2.1), ((0 : Int), ()))))))))
else none))))
else
some ((x.1.1, (x.1.2.1, (x.1.2.2.1, ()))), ((), ((), ())))))
abbrev E_s_HashMore (k : Nat) : qAI := ⟨209, 0, (.cons (.agg yP22) (.cons .str .nil)), (.agg yP22), qC7 k⟩
theorem t_s_HashMore (k : Nat) (x) : evF TTab k [qFO k, qDn k, E_s_l04K k, qFR k, qDo k] [(0, ⟨[1, 2, 4, 5, 6, 7, 8], (.cons .str (.cons (.ptr 0 yP22) (.cons (.ptr 0 yP22) (.cons yP17 (.cons yP17 (.cons .str yP2))))))⟩, ⟨[1, 2, 4, 5, 7, 8], (.cons .str (.cons (.ptr 0 yP22) (.cons (.ptr 0 yP22) (.cons yP17 (.cons .str yP2)))))⟩)] Tryz.f209 (.cons (.agg yP22) (.cons .str .nil)) (.agg yP22) x = qC7 k x := by kernel_rfl
theorem e_s_HashMore [Names] (k : Nat) : qAD Tryz.prog (E_s_HashMore k) := qAC tok (qAB (e_s_HasherOk k) (qAB (qFQ k) (qAB (e_s_l04K k) (qAB (e_s_l04Round k) (qAB (qFS k) qAF))))) (by kernel_rfl) (by kernel_rfl) (by kernel_rfl) fun x r h => (t_s_HashMore k x).trans h
def qGH (k : Nat) (x : Unit) : Option (List (Int) × Unit) :=
some (([(1779033703 : Int), (3144134277 : Int), (1013904242 : Int), (2773480762 : Int), (1359893119 : Int), (2600822924 : Int), (528734635 : Int), (1541459225 : Int)] : List (Int)), ())
abbrev E_s_l04First (k : Nat) : qAI := ⟨280, 0, .nil, yP17, qGH k⟩
theorem t_s_l04First (k : Nat) (x) : evF TTab k [] [] Tryz.f280 .nil yP17 x = qGH k x := by kernel_rfl
theorem e_s_l04First [Names] (k : Nat) : qAD Tryz.prog (E_s_l04First k) := qAC tok qAF (by kernel_rfl) (by kernel_rfl) (by kernel_rfl) fun x r h => (t_s_l04First k x).trans h
def qEj (k : Nat) (x : Unit) : Option ((ByteArray × ByteArray × Int × Unit) × Unit) :=
((qGH k ()).bind fun p1 =>
((qCd k (p1.1, ())).bind fun p2 =>
some ((p2.1, ((⟨#[]⟩ : ByteArray), ((0 : Int), ()))), ())))
abbrev qHT (k : Nat) : qAI := ⟨210, 0, .nil, (.agg yP22), qEj k⟩
theorem t_s_HasherNew (k : Nat) (x) : evF TTab k [qDo k, E_s_l04First k] [] Tryz.f210 .nil (.agg yP22) x = qEj k x := by kernel_rfl
theorem e_s_HasherNew [Names] (k : Nat) : qAD Tryz.prog (qHT k) := qAC tok (qAB (qFS k) (qAB (e_s_l04First k) qAF)) (by kernel_rfl) (by kernel_rfl) (by kernel_rfl) fun x r h => (t_s_HasherNew k x).trans h
def qCe (k : Nat) (x : ByteArray × Unit) : Option (ByteArray × Unit × Unit) :=
((qEj k ()).bind fun p1 =>
((qC7 k ((p1.1.1, (p1.1.2.1, (p1.1.2.2.1, ()))), (x.1, ()))).bind fun p2 =>
((qFT k ((p2.1.1, (p2.1.2.1, (p2.1.2.2.1, ()))), ())).bind fun p3 =>
some (p3.1, ((), ())))))
abbrev qFU (k : Nat) : qAI := ⟨122, 0, (.cons .str .nil), .str, qCe k⟩
theorem t_s_DigestOf (k : Nat) (x) : evF TTab k [E_s_HashEnd k, E_s_HashMore k, qHT k] [] Tryz.f122 (.cons .str .nil) .str x = qCe k x := by kernel_rfl
theorem e_s_DigestOf [Names] (k : Nat) : qAD Tryz.prog (qFU k) := qAC tok (qAB (e_s_HashEnd k) (qAB (e_s_HashMore k) (qAB (e_s_HasherNew k) qAF))) (by kernel_rfl) (by kernel_rfl) (by kernel_rfl) fun x r h => (t_s_DigestOf k x).trans h
def qBY (k : Nat) (x : (Int × ByteArray × ByteArray × Int × List (Int) × Int × Unit) × Unit) : Option ((Int × ByteArray × ByteArray × Int × List (Int) × Int × Unit) × Unit × Unit) :=
(if List.length ([] : List (Int)) + List.length x.1.2.2.2.2.1 ≤ capMax then
some ((x.1.1, (x.1.2.1, (x.1.2.2.1, (x.1.2.2.2.1, ((([] : List (Int)) ++ x.1.2.2.2.2.1), (x.1.2.2.2.2.2.1, ())))))), ((), ()))
else none)
abbrev qDP (k : Nat) : qAI := ⟨247, 0, (.cons yP10 .nil), (.agg (.cons (.int .i64) (.cons .str (.cons .str (.cons (.int .i64) (.cons yP12 yP2)))))), qBY k⟩
theorem t_s_l17CopySlot (k : Nat) (x) : evF TTab k [] [] Tryz.f247 (.cons yP10 .nil) (.agg (.cons (.int .i64) (.cons .str (.cons .str (.cons (.int .i64) (.cons yP12 yP2)))))) x = qBY k x := by kernel_rfl
theorem qFV [Names] (k : Nat) : qAD Tryz.prog (qDP k) := qAC tok qAF (by kernel_rfl) (by kernel_rfl) (by kernel_rfl) fun x r h => (t_s_l17CopySlot k x).trans h
def qFW (k : Nat) (x : (Int × ByteArray × ByteArray × Int × List (Int) × Int × Int × ByteArray × ByteArray × Int × List (Int) × Int × Unit) × Unit) : Option ((Int × ByteArray × ByteArray × Int × List (Int) × Int × Int × ByteArray × ByteArray × Int × List (Int) × Int × Unit) × Unit × Unit) :=
((qBY k ((x.1.1, (x.1.2.1, (x.1.2.2.1, (x.1.2.2.2.1, (x.1.2.2.2.2.1, (x.1.2.2.2.2.2.1, ())))))), ())).bind fun p1 =>
((qBY k ((x.1.2.2.2.2.2.2.1, (x.1.2.2.2.2.2.2.2.1, (x.1.2.2.2.2.2.2.2.2.1, (x.1.2.2.2.2.2.2.2.2.2.1, (x.1.2.2.2.2.2.2.2.2.2.2.1, (x.1.2.2.2.2.2.2.2.2.2.2.2.1, ())))))), ())).bind fun p2 =>
some ((p1.1.1, (p1.1.2.1, (p1.1.2.2.1, (p1.1.2.2.2.1, (p1.1.2.2.2.2.1, (p1.1.2.2.2.2.2.1, (p2.1.1, (p2.1.2.1, (p2.1.2.2.1, (p2.1.2.2.2.1, (p2.1.2.2.2.2.1, (p2.1.2.2.2.2.2.1, ())))))))))))), ((), ()))))
abbrev E_s_l17Copy (k : Nat) : qAI := ⟨170, 0, (.cons yP4 .nil), (.agg yP8), qFW k⟩
theorem t_s_l17Copy (k : Nat) (x) : evF TTab k [qDP k] [] Tryz.f170 (.cons yP4 .nil) (.agg yP8) x = qFW k x := by kernel_rfl
theorem e_s_l17Copy [Names] (k : Nat) : qAD Tryz.prog (E_s_l17Copy k) := qAC tok (qAB (qFV k) qAF) (by kernel_rfl) (by kernel_rfl) (by kernel_rfl) fun x r h => (t_s_l17Copy k x).trans h
def qBm (k : Nat) (x : (Int × ByteArray × ByteArray × Int × List (Int) × Int × Unit) × Unit) : Option (Bool × Unit × Unit) :=
(if (decide (x.1.1 = (0 : Int))) = true then
(if (decide (x.1.2.1 = (⟨#[]⟩ : ByteArray))) = true then
(if (decide (x.1.2.2.1 = (⟨#[]⟩ : ByteArray))) = true then
(if (decide (x.1.2.2.2.1 = (0 : Int))) = true then
(if (decide ((List.length x.1.2.2.2.2.1 : Int) = (0 : Int))) = true then
some ((decide (x.1.2.2.2.2.2.1 = (0 : Int))), ((), ()))
else
some (false, ((), ())))
else
some (false, ((), ())))
else
some (false, ((), ())))
else
some (false, ((), ())))
else
some (false, ((), ())))
abbrev qEk (k : Nat) : qAI := ⟨193, 0, (.cons yP10 .nil), .bool, qBm k⟩
theorem t_s_l17None (k : Nat) (x) : evF TTab k [] [] Tryz.f193 (.cons yP10 .nil) .bool x = qBm k x := by kernel_rfl
theorem qGz [Names] (k : Nat) : qAD Tryz.prog (qEk k) := qAC tok qAF (by kernel_rfl) (by kernel_rfl) (by kernel_rfl) fun x r h => (t_s_l17None k x).trans h
def qGI (k : Nat) (x : List (Int) × Unit) : Option (Bool × Unit × Unit) :=
(qAG (fun (rec0 : (List (Int) × Int × Unit) → Option _) (y0 : List (Int) × Int × Unit) =>
(if (decide (y0.2.1 < (List.length y0.1 : Int))) = true then
(if 0 ≤ y0.2.1 ∧ y0.2.1 < (List.length y0.1 : Int) then
((qAy k ((Ty.rd (t := (.int .i64)) y0.1 y0.2.1), ((1 : Int), ((1000000000 : Int), ())))).bind fun p1 =>
(if (!p1.1) = false then
(if (decide ((0 : Int) < y0.2.1)) = true then
(if 0 ≤ (wi64 (y0.2.1 - (1 : Int))) ∧ (wi64 (y0.2.1 - (1 : Int))) < (List.length y0.1 : Int) then
(if 0 ≤ y0.2.1 ∧ y0.2.1 < (List.length y0.1 : Int) then
(if (decide ((Ty.rd (t := (.int .i64)) y0.1 (wi64 (y0.2.1 - (1 : Int)))) ≤ (Ty.rd (t := (.int .i64)) y0.1 y0.2.1))) = false then
(if 0 ≤ y0.2.1 ∧ y0.2.1 < (List.length y0.1 : Int) then
(if 0 ≤ (0 : Int) ∧ (0 : Int) < (List.length y0.1 : Int) then
(if (decide ((Ty.rd (t := (.int .i64)) y0.1 y0.2.1) ≤ (wi64 ((Ty.rd (t := (.int .i64)) y0.1 (0 : Int)) - (6 : Int))))) = true then
some (false, ((), ()))
else
(rec0 (y0.1, ((wi64 (y0.2.1 + (1 : Int))), ()))))
else none)
else none)
else
some (false, ((), ())))
else none)
else none)
else
(if 0 ≤ y0.2.1 ∧ y0.2.1 < (List.length y0.1 : Int) then
(if 0 ≤ (0 : Int) ∧ (0 : Int) < (List.length y0.1 : Int) then
(if (decide ((Ty.rd (t := (.int .i64)) y0.1 y0.2.1) ≤ (wi64 ((Ty.rd (t := (.int .i64)) y0.1 (0 : Int)) - (6 : Int))))) = true then
some (false, ((), ()))
else
(rec0 (y0.1, ((wi64 (y0.2.1 + (1 : Int))), ()))))
else none)
else none))
else
some (false, ((), ()))))
else none)
else
((fun (z1 : List (Int) × Unit) =>
some ((decide ((List.length z1.1 : Int) ≤ (6 : Int))), ((), ()))) (y0.1, ())))) k (x.1, ((0 : Int), ())))
abbrev E_s_SeenOk (k : Nat) : qAI := ⟨290, 0, (.cons (.il true (.int .i64)) .nil), .bool, qGI k⟩
theorem t_s_SeenOk (k : Nat) (x) : evF TTab k [qBl k] [(0, ⟨[0, 3], yP18⟩, ⟨[0], (.cons (.il true (.int .i64)) .nil)⟩)] Tryz.f290 (.cons (.il true (.int .i64)) .nil) .bool x = qGI k x := by kernel_rfl
theorem e_s_SeenOk [Names] (k : Nat) : qAD Tryz.prog (E_s_SeenOk k) := qAC tok (qAB (qB3 k) qAF) (by kernel_rfl) (by kernel_rfl) (by kernel_rfl) fun x r h => (t_s_SeenOk k x).trans h
def qGJ (k : Nat) (x : (Int × ByteArray × ByteArray × Int × List (Int) × Int × Unit) × Unit) : Option (Bool × Unit × Unit) :=
((qBm k ((x.1.1, (x.1.2.1, (x.1.2.2.1, (x.1.2.2.2.1, (x.1.2.2.2.2.1, (x.1.2.2.2.2.2.1, ())))))), ())).bind fun p1 =>
(if p1.1 = true then
some (true, ((), ()))
else
((qAy k (x.1.1, ((1 : Int), ((1000000000 : Int), ())))).bind fun p2 =>
(if p2.1 = true then
(if (decide ((ByteArray.size x.1.2.1 : Int) = (32 : Int))) = true then
(if (decide ((ByteArray.size x.1.2.2.1 : Int) = (32 : Int))) = true then
((qAy k (x.1.2.2.2.1, ((0 : Int), ((12 : Int), ())))).bind fun p3 =>
(if p3.1 = true then
((qGI k (x.1.2.2.2.2.1, ())).bind fun p4 =>
(if p4.1 = true then
((qAy k (x.1.2.2.2.2.2.1, ((0 : Int), ((1000000000 : Int), ())))).bind fun p5 =>
some (p5.1, ((), ())))
else
some (false, ((), ()))))
else
some (false, ((), ()))))
else
some (false, ((), ())))
else
some (false, ((), ())))
else
some (false, ((), ()))))))
abbrev E_s_SlotOk (k : Nat) : qAI := ⟨249, 0, (.cons yP10 .nil), .bool, qGJ k⟩
theorem t_s_SlotOk (k : Nat) (x) : evF TTab k [qBl k, qEk k, E_s_SeenOk k] [] Tryz.f249 (.cons yP10 .nil) .bool x = qGJ k x := by kernel_rfl
theorem e_s_SlotOk [Names] (k : Nat) : qAD Tryz.prog (E_s_SlotOk k) := qAC tok (qAB (qB3 k) (qAB (qGz k) (qAB (e_s_SeenOk k) qAF))) (by kernel_rfl) (by kernel_rfl) (by kernel_rfl) fun x r h => (t_s_SlotOk k x).trans h
def qFX (k : Nat) (x : (Int × ByteArray × ByteArray × Int × List (Int) × Int × Int × ByteArray × ByteArray × Int × List (Int) × Int × Unit) × Unit) : Option (Bool × Unit × Unit) :=
((qGJ k ((x.1.1, (x.1.2.1, (x.1.2.2.1, (x.1.2.2.2.1, (x.1.2.2.2.2.1, (x.1.2.2.2.2.2.1, ())))))), ())).bind fun p1 =>
(if (!p1.1) = false then
((qGJ k ((x.1.2.2.2.2.2.2.1, (x.1.2.2.2.2.2.2.2.1, (x.1.2.2.2.2.2.2.2.2.1, (x.1.2.2.2.2.2.2.2.2.2.1, (x.1.2.2.2.2.2.2.2.2.2.2.1, (x.1.2.2.2.2.2.2.2.2.2.2.2.1, ())))))), ())).bind fun p2 =>
(if (!p2.1) = true then
some (false, ((), ()))
else
((qBm k ((x.1.2.2.2.2.2.2.1, (x.1.2.2.2.2.2.2.2.1, (x.1.2.2.2.2.2.2.2.2.1, (x.1.2.2.2.2.2.2.2.2.2.1, (x.1.2.2.2.2.2.2.2.2.2.2.1, (x.1.2.2.2.2.2.2.2.2.2.2.2.1, ())))))), ())).bind fun p3 =>
(if p3.1 = false then
some ((decide (x.1.2.2.2.2.2.2.1 < x.1.1)), ((), ()))
else
some (true, ((), ()))))))
else
some (false, ((), ()))))
abbrev E_s_SlotsOk (k : Nat) : qAI := ⟨175, 0, (.cons yP4 .nil), .bool, qFX k⟩
theorem t_s_SlotsOk (k : Nat) (x) : evF TTab k [qEk k, E_s_SlotOk k] [] Tryz.f175 (.cons yP4 .nil) .bool x = qFX k x := by kernel_rfl
theorem e_s_SlotsOk [Names] (k : Nat) : qAD Tryz.prog (E_s_SlotsOk k) := qAC tok (qAB (qGz k) (qAB (e_s_SlotOk k) qAF)) (by kernel_rfl) (by kernel_rfl) (by kernel_rfl) fun x r h => (t_s_SlotsOk k x).trans h
def qFY (k : Nat) (x : ((List (Int × Int × Int × List (ByteArray) × List (Bool) × Int)) × Unit) × Unit) : Option (((List (Int × Int × Int × List (ByteArray) × List (Bool) × Int)) × Unit) × Unit × Unit) :=
(qAG (fun (rec0 : (((List (Int × Int × Int × List (ByteArray) × List (Bool) × Int)) × Unit) × ((List (Int × Int × Int × List (ByteArray) × List (Bool) × Int)) × Unit) × ((List (Int × Int × Int × List (ByteArray) × List (Bool) × Int)) × Unit) × Int × Unit) → Option _) (y0 : ((List (Int × Int × Int × List (ByteArray) × List (Bool) × Int)) × Unit) × ((List (Int × Int × Int × List (ByteArray) × List (Bool) × Int)) × Unit) × ((List (Int × Int × Int × List (ByteArray) × List (Bool) × Int)) × Unit) × Int × Unit) =>
(if (decide (y0.2.2.2.1 < (List.length y0.1.1 : Int))) = true then
(if 0 ≤ y0.2.2.2.1 ∧ y0.2.2.2.1 < (List.length y0.1.1 : Int) then
(if List.length ([] : List (ByteArray)) + List.length (Ty.rd (t := yT0) y0.1.1 y0.2.2.2.1).2.2.2.1 ≤ capMax then
(if List.length ([] : List (Bool)) + List.length (Ty.rd (t := yT0) y0.1.1 y0.2.2.2.1).2.2.2.2.1 ≤ capMax then
(if List.length y0.2.2.1.1 + List.length ([((Ty.rd (t := yT0) y0.1.1 y0.2.2.2.1).1, ((Ty.rd (t := yT0) y0.1.1 y0.2.2.2.1).2.1, ((Ty.rd (t := yT0) y0.1.1 y0.2.2.2.1).2.2.1, ((([] : List (ByteArray)) ++ (Ty.rd (t := yT0) y0.1.1 y0.2.2.2.1).2.2.2.1), ((([] : List (Bool)) ++ (Ty.rd (t := yT0) y0.1.1 y0.2.2.2.1).2.2.2.2.1), (Ty.rd (t := yT0) y0.1.1 y0.2.2.2.1).2.2.2.2.2)))))] : List (Int × Int × Int × List (ByteArray) × List (Bool) × Int)) ≤ capMax then
(rec0 ((y0.1.1, ()), ((y0.2.1.1, ()), (((y0.2.2.1.1 ++ ([((Ty.rd (t := yT0) y0.1.1 y0.2.2.2.1).1, ((Ty.rd (t := yT0) y0.1.1 y0.2.2.2.1).2.1, ((Ty.rd (t := yT0) y0.1.1 y0.2.2.2.1).2.2.1, ((([] : List (ByteArray)) ++ (Ty.rd (t := yT0) y0.1.1 y0.2.2.2.1).2.2.2.1), ((([] : List (Bool)) ++ (Ty.rd (t := yT0) y0.1.1 y0.2.2.2.1).2.2.2.2.1), (Ty.rd (t := yT0) y0.1.1 y0.2.2.2.1).2.2.2.2.2)))))] : List (Int × Int × Int × List (ByteArray) × List (Bool) × Int))), ()), ((wi64 (y0.2.2.2.1 + (1 : Int))), ())))))
else none)
else none)
else none)
else none)
else
((fun (z1 : ((List (Int × Int × Int × List (ByteArray) × List (Bool) × Int)) × Unit) × ((List (Int × Int × Int × List (ByteArray) × List (Bool) × Int)) × Unit) × Unit) =>
some ((z1.2.1.1, ()), ((), ()))) ((y0.2.1.1, ()), ((y0.2.2.1.1, ()), ()))))) k ((x.1.1, ()), (([], ()), (([], ()), ((0 : Int), ())))))
abbrev E_s_l20Copy (k : Nat) : qAI := ⟨171, 0, (.cons (.agg yP13) .nil), (.agg (.cons (.own false 229 yT0) .nil)), qFY k⟩
theorem t_s_l20Copy (k : Nat) (x) : evF TTab k [] [(0, ⟨[1, 2, 3, 4], (.cons (.ptr 0 yP13) (.cons (.ptr 0 (.cons (.own false 229 yT0) .nil)) (.cons (.ptr 0 (.cons (.own false 229 yT0) .nil)) yP2)))⟩, ⟨[2, 3], (.cons (.ptr 0 (.cons (.own false 229 yT0) .nil)) (.cons (.ptr 0 (.cons (.own false 229 yT0) .nil)) .nil))⟩)] Tryz.f171 (.cons (.agg yP13) .nil) (.agg (.cons (.own false 229 yT0) .nil)) x = qFY k x := by kernel_rfl
theorem e_s_l20Copy [Names] (k : Nat) : qAD Tryz.prog (E_s_l20Copy k) := qAC tok qAF (by kernel_rfl) (by kernel_rfl) (by kernel_rfl) fun x r h => (t_s_l20Copy k x).trans h
def qCS (k : Nat) (x : (Int × Int × Int × ByteArray × ByteArray × Int × List (Int) × Int × Int × ByteArray × ByteArray × Int × List (Int) × Int × (List (Int × Int × Int × List (ByteArray) × List (Bool) × Int)) × Int × Unit) × Unit) : Option ((Int × Int × Int × ByteArray × ByteArray × Int × List (Int) × Int × Int × ByteArray × ByteArray × Int × List (Int) × Int × (List (Int × Int × Int × List (ByteArray) × List (Bool) × Int)) × Int × Unit) × Unit × Unit) :=
((qFW k ((x.1.2.2.1, (x.1.2.2.2.1, (x.1.2.2.2.2.1, (x.1.2.2.2.2.2.1, (x.1.2.2.2.2.2.2.1, (x.1.2.2.2.2.2.2.2.1, (x.1.2.2.2.2.2.2.2.2.1, (x.1.2.2.2.2.2.2.2.2.2.1, (x.1.2.2.2.2.2.2.2.2.2.2.1, (x.1.2.2.2.2.2.2.2.2.2.2.2.1, (x.1.2.2.2.2.2.2.2.2.2.2.2.2.1, (x.1.2.2.2.2.2.2.2.2.2.2.2.2.2.1, ())))))))))))), ())).bind fun p1 =>
((qFY k ((x.1.2.2.2.2.2.2.2.2.2.2.2.2.2.2.1, ()), ())).bind fun p2 =>
some ((x.1.1, (x.1.2.1, (p1.1.1, (p1.1.2.1, (p1.1.2.2.1, (p1.1.2.2.2.1, (p1.1.2.2.2.2.1, (p1.1.2.2.2.2.2.1, (p1.1.2.2.2.2.2.2.1, (p1.1.2.2.2.2.2.2.2.1, (p1.1.2.2.2.2.2.2.2.2.1, (p1.1.2.2.2.2.2.2.2.2.2.1, (p1.1.2.2.2.2.2.2.2.2.2.2.1, (p1.1.2.2.2.2.2.2.2.2.2.2.2.1, (p2.1.1, (x.1.2.2.2.2.2.2.2.2.2.2.2.2.2.2.2.1, ())))))))))))))))), ((), ()))))
abbrev qFZ (k : Nat) : qAI := ⟨92, 0, (.cons yP3 .nil), (.agg (.cons (.int .i64) (.cons (.int .i64) (.cons (.int .i64) (.cons .str (.cons .str (.cons (.int .i64) (.cons yP12 (.cons (.int .i64) (.cons (.int .i64) (.cons .str (.cons .str (.cons (.int .i64) (.cons yP12 (.cons (.int .i64) (.cons (.own false 229 yT0) yP2)))))))))))))))), qCS k⟩
theorem t_s_l22CopyUser (k : Nat) (x) : evF TTab k [E_s_l17Copy k, E_s_l20Copy k] [] Tryz.f92 (.cons yP3 .nil) (.agg (.cons (.int .i64) (.cons (.int .i64) (.cons (.int .i64) (.cons .str (.cons .str (.cons (.int .i64) (.cons yP12 (.cons (.int .i64) (.cons (.int .i64) (.cons .str (.cons .str (.cons (.int .i64) (.cons yP12 (.cons (.int .i64) (.cons (.own false 229 yT0) yP2)))))))))))))))) x = qCS k x := by kernel_rfl
theorem e_s_l22CopyUser [Names] (k : Nat) : qAD Tryz.prog (qFZ k) := qAC tok (qAB (e_s_l17Copy k) (qAB (e_s_l20Copy k) qAF)) (by kernel_rfl) (by kernel_rfl) (by kernel_rfl) fun x r h => (t_s_l22CopyUser k x).trans h
def qCH (k : Nat) (x : List (Int) × Unit) : Option (List (Int) × Unit × Unit) :=
(if List.length ([] : List (Int)) + List.length x.1 ≤ capMax then
some ((([] : List (Int)) ++ x.1), ((), ()))
else none)
abbrev qFa (k : Nat) : qAI := ⟨254, 0, (.cons (.il true (.int .i64)) .nil), yP12, qCH k⟩
theorem t_i_copyInts (k : Nat) (x) : evF TTab k [] [] Tryz.f254 (.cons (.il true (.int .i64)) .nil) yP12 x = qCH k x := by kernel_rfl
theorem e_i_copyInts [Names] (k : Nat) : qAD Tryz.prog (qFa k) := qAC tok qAF (by kernel_rfl) (by kernel_rfl) (by kernel_rfl) fun x r h => (t_i_copyInts k x).trans h
def qCf (k : Nat) (x : (Int × ByteArray × ByteArray × Int × List (Int) × Int × Int × ByteArray × ByteArray × Int × List (Int) × Int × Unit) × Unit) : Option ((Int × ByteArray × ByteArray × Int × List (Int) × Int × Int × ByteArray × ByteArray × Int × List (Int) × Int × Unit) × Unit × Unit) :=
((qCH k (x.1.2.2.2.2.1, ())).bind fun p1 =>
((qCH k (x.1.2.2.2.2.2.2.2.2.2.2.1, ())).bind fun p2 =>
some ((x.1.1, (x.1.2.1, (x.1.2.2.1, (x.1.2.2.2.1, (p1.1, (x.1.2.2.2.2.2.1, (x.1.2.2.2.2.2.2.1, (x.1.2.2.2.2.2.2.2.1, (x.1.2.2.2.2.2.2.2.2.1, (x.1.2.2.2.2.2.2.2.2.2.1, (p2.1, (x.1.2.2.2.2.2.2.2.2.2.2.2.1, ())))))))))))), ((), ()))))
abbrev qEl (k : Nat) : qAI := ⟨183, 0, (.cons yP4 .nil), (.agg yP8), qCf k⟩
theorem t_i_copySlots (k : Nat) (x) : evF TTab k [qFa k] [] Tryz.f183 (.cons yP4 .nil) (.agg yP8) x = qCf k x := by kernel_rfl
theorem qHU [Names] (k : Nat) : qAD Tryz.prog (qEl k) := qAC tok (qAB (e_i_copyInts k) qAF) (by kernel_rfl) (by kernel_rfl) (by kernel_rfl) fun x r h => (t_i_copySlots k x).trans h
def qDQ (k : Nat) (x : List (ByteArray) × Unit) : Option (List (ByteArray) × Unit × Unit) :=
(if List.length ([] : List (ByteArray)) + List.length x.1 ≤ capMax then
some ((([] : List (ByteArray)) ++ x.1), ((), ()))
else none)
abbrev qHV (k : Nat) : qAI := ⟨255, 0, (.cons (.il true .str) .nil), (.own false 9 .str), qDQ k⟩
theorem t_i_copyTexts (k : Nat) (x) : evF TTab k [] [] Tryz.f255 (.cons (.il true .str) .nil) (.own false 9 .str) x = qDQ k x := by kernel_rfl
theorem e_i_copyTexts [Names] (k : Nat) : qAD Tryz.prog (qHV k) := qAC tok qAF (by kernel_rfl) (by kernel_rfl) (by kernel_rfl) fun x r h => (t_i_copyTexts k x).trans h
def qCg (k : Nat) (x : ((List (Int × Int × Int × List (ByteArray) × List (Bool) × Int)) × Unit) × Unit) : Option (((List (Int × Int × Int × List (ByteArray) × List (Bool) × Int)) × Unit) × Unit × Unit) :=
(qAG (fun (rec0 : (((List (Int × Int × Int × List (ByteArray) × List (Bool) × Int)) × Unit) × ((List (Int × Int × Int × List (ByteArray) × List (Bool) × Int)) × Unit) × (List (Int × Int × Int × List (ByteArray) × List (Bool) × Int)) × Int × Int × Unit) → Option _) (y0 : ((List (Int × Int × Int × List (ByteArray) × List (Bool) × Int)) × Unit) × ((List (Int × Int × Int × List (ByteArray) × List (Bool) × Int)) × Unit) × (List (Int × Int × Int × List (ByteArray) × List (Bool) × Int)) × Int × Int × Unit) =>
(if (decide (y0.2.2.2.2.1 < y0.2.2.2.1)) = true then
(if 0 ≤ y0.2.2.2.2.1 ∧ y0.2.2.2.2.1 < (List.length y0.2.2.1 : Int) then
((qDQ k ((Ty.rd (t := yT0) y0.2.2.1 y0.2.2.2.2.1).2.2.2.1, ())).bind fun p1 =>
(if List.length ([] : List (Bool)) + List.length (Ty.rd (t := yT0) y0.2.2.1 y0.2.2.2.2.1).2.2.2.2.1 ≤ capMax then
(if List.length y0.2.1.1 + List.length ([((Ty.rd (t := yT0) y0.2.2.1 y0.2.2.2.2.1).1, ((Ty.rd (t := yT0) y0.2.2.1 y0.2.2.2.2.1).2.1, ((Ty.rd (t := yT0) y0.2.2.1 y0.2.2.2.2.1).2.2.1, (p1.1, ((([] : List (Bool)) ++ (Ty.rd (t := yT0) y0.2.2.1 y0.2.2.2.2.1).2.2.2.2.1), (Ty.rd (t := yT0) y0.2.2.1 y0.2.2.2.2.1).2.2.2.2.2)))))] : List (Int × Int × Int × List (ByteArray) × List (Bool) × Int)) ≤ capMax then
(rec0 ((y0.1.1, ()), (((y0.2.1.1 ++ ([((Ty.rd (t := yT0) y0.2.2.1 y0.2.2.2.2.1).1, ((Ty.rd (t := yT0) y0.2.2.1 y0.2.2.2.2.1).2.1, ((Ty.rd (t := yT0) y0.2.2.1 y0.2.2.2.2.1).2.2.1, (p1.1, ((([] : List (Bool)) ++ (Ty.rd (t := yT0) y0.2.2.1 y0.2.2.2.2.1).2.2.2.2.1), (Ty.rd (t := yT0) y0.2.2.1 y0.2.2.2.2.1).2.2.2.2.2)))))] : List (Int × Int × Int × List (ByteArray) × List (Bool) × Int))), ()), (y0.2.2.1, (y0.2.2.2.1, ((wi64 (y0.2.2.2.2.1 + (1 : Int))), ()))))))
else none)
else none))
else none)
else
((fun (z1 : ((List (Int × Int × Int × List (ByteArray) × List (Bool) × Int)) × Unit) × ((List (Int × Int × Int × List (ByteArray) × List (Bool) × Int)) × Unit) × Unit) =>
some ((z1.2.1.1, ()), ((), ()))) ((y0.1.1, ()), ((y0.2.1.1, ()), ()))))) k (([], ()), (([], ()), (x.1.1, ((List.length x.1.1 : Int), ((0 : Int), ()))))))
abbrev qEm (k : Nat) : qAI := ⟨184, 0, (.cons (.agg yP13) .nil), (.agg yP20), qCg k⟩
theorem t_i_copyShelf (k : Nat) (x) : evF qCs k [qHV k] [(0, ⟨[2, 3, 8, 9, 10], (.cons (.ptr 0 yP20) (.cons (.ptr 0 yP20) (.cons (.il true yT0) (.cons (.int .i64) yP2))))⟩, ⟨[2, 3], (.cons (.ptr 0 yP20) (.cons (.ptr 0 yP20) .nil))⟩)] Tryz.f184 (.cons (.agg yP13) .nil) (.agg yP20) x = qCg k x := by kernel_rfl
theorem qHW [Names] (k : Nat) : qAD Tryz.prog (qEm k) := qAC tokO (qAB (e_i_copyTexts k) qAF) (by kernel_rfl) (by kernel_rfl) (by kernel_rfl) fun x r h => (t_i_copyShelf k x).trans h
def qEC (k : Nat) (x : (Int × Int × Int × ByteArray × ByteArray × Int × List (Int) × Int × Int × ByteArray × ByteArray × Int × List (Int) × Int × (List (Int × Int × Int × List (ByteArray) × List (Bool) × Int)) × Int × Unit) × Unit) : Option ((Int × Int × Int × ByteArray × ByteArray × Int × List (Int) × Int × Int × ByteArray × ByteArray × Int × List (Int) × Int × (List (Int × Int × Int × List (ByteArray) × List (Bool) × Int)) × Int × Unit) × Unit × Unit) :=
((qCf k ((x.1.2.2.1, (x.1.2.2.2.1, (x.1.2.2.2.2.1, (x.1.2.2.2.2.2.1, (x.1.2.2.2.2.2.2.1, (x.1.2.2.2.2.2.2.2.1, (x.1.2.2.2.2.2.2.2.2.1, (x.1.2.2.2.2.2.2.2.2.2.1, (x.1.2.2.2.2.2.2.2.2.2.2.1, (x.1.2.2.2.2.2.2.2.2.2.2.2.1, (x.1.2.2.2.2.2.2.2.2.2.2.2.2.1, (x.1.2.2.2.2.2.2.2.2.2.2.2.2.2.1, ())))))))))))), ())).bind fun p1 =>
((qCg k ((x.1.2.2.2.2.2.2.2.2.2.2.2.2.2.2.1, ()), ())).bind fun p2 =>
some ((x.1.1, (x.1.2.1, (p1.1.1, (p1.1.2.1, (p1.1.2.2.1, (p1.1.2.2.2.1, (p1.1.2.2.2.2.1, (p1.1.2.2.2.2.2.1, (p1.1.2.2.2.2.2.2.1, (p1.1.2.2.2.2.2.2.2.1, (p1.1.2.2.2.2.2.2.2.2.1, (p1.1.2.2.2.2.2.2.2.2.2.1, (p1.1.2.2.2.2.2.2.2.2.2.2.1, (p1.1.2.2.2.2.2.2.2.2.2.2.2.1, (p2.1.1, (x.1.2.2.2.2.2.2.2.2.2.2.2.2.2.2.2.1, ())))))))))))))))), ((), ()))))
abbrev E_i_copyUser (k : Nat) : qAI := ⟨100, 0, (.cons yP3 .nil), yP11, qEC k⟩
theorem t_i_copyUser (k : Nat) (x) : evF qCs k [qEl k, qEm k] [] Tryz.f100 (.cons yP3 .nil) yP11 x = qEC k x := by kernel_rfl
theorem e_i_copyUser [Names] (k : Nat) : qAD Tryz.prog (E_i_copyUser k) := qAC tokO (qAB (qHU k) (qAB (qHW k) qAF)) (by kernel_rfl) (by kernel_rfl) (by kernel_rfl) fun x r h => (t_i_copyUser k x).trans h
def qAn (k : Nat) (x : Int × Int × Int × Unit) : Option (Bool × Unit × Unit × Unit × Unit) :=
(if (decide (x.2.1 ≤ x.1)) = true then
some ((decide (x.1 ≤ x.2.2.1)), ((), ((), ((), ()))))
else
some (false, ((), ((), ((), ())))))
abbrev qBB (k : Nat) : qAI := ⟨55, 0, yP19, .bool, qAn k⟩
theorem t_i_within (k : Nat) (x) : evF TTab k [] [] Tryz.f55 yP19 .bool x = qAn k x := by kernel_rfl
theorem qBG [Names] (k : Nat) : qAD Tryz.prog (qBB k) := qAC tok qAF (by kernel_rfl) (by kernel_rfl) (by kernel_rfl) fun x r h => (t_i_within k x).trans h
def i_isId (k : Nat) (x : Int × Unit) : Option (Bool × Unit × Unit) :=
((qAn k (x.1, ((1 : Int), ((99 : Int), ())))).bind fun p1 =>
some (p1.1, ((), ())))
abbrev E_i_isId (k : Nat) : qAI := ⟨133, 0, yP2, .bool, i_isId k⟩
theorem t_i_isId (k : Nat) (x) : evF TTab k [qBB k] [] Tryz.f133 yP2 .bool x = i_isId k x := by kernel_rfl
theorem e_i_isId [Names] (k : Nat) : qAD Tryz.prog (E_i_isId k) := qAC tok (qAB (qBG k) qAF) (by kernel_rfl) (by kernel_rfl) (by kernel_rfl) fun x r h => (t_i_isId k x).trans h
def qBn (k : Nat) (x : Int × Unit) : Option (Bool × Unit × Unit) :=
some ((!decide (x.1 = x.1)), ((), ()))
abbrev qED (k : Nat) : qAI := ⟨282, 0, yP2, .bool, qBn k⟩
theorem t_x_cmp_isNaN_int (k : Nat) (x) : evF TTab k [] [] Tryz.f282 yP2 .bool x = qBn k x := by kernel_rfl
theorem e_x_cmp_isNaN_int [Names] (k : Nat) : qAD Tryz.prog (qED k) := qAC tok qAF (by kernel_rfl) (by kernel_rfl) (by kernel_rfl) fun x r h => (t_x_cmp_isNaN_int k x).trans h
def qBo (k : Nat) (x : Int × Unit) : Option (ByteArray × Unit × Unit) :=
((qAn k (x.1, ((0 : Int), ((4294967295 : Int), ())))).bind fun p1 =>
(if (!p1.1) = true then
some ((⟨#[]⟩ : ByteArray), ((), ()))
else
some ((qAK ([(wu8 ((qAR .and .i64 (Int.fdiv x.1 (2 ^ (min (Int.toNat (24 : Int)) (IntKind.bits .i64)))) (255 : Int)))), (wu8 ((qAR .and .i64 (Int.fdiv x.1 (2 ^ (min (Int.toNat (16 : Int)) (IntKind.bits .i64)))) (255 : Int)))), (wu8 ((qAR .and .i64 (Int.fdiv x.1 (2 ^ (min (Int.toNat (8 : Int)) (IntKind.bits .i64)))) (255 : Int)))), (wu8 ((qAR .and .i64 x.1 (255 : Int))))] : List (Int))), ((), ()))))
abbrev qD0 (k : Nat) : qAI := ⟨181, 0, yP2, .str, qBo k⟩
theorem t_i_NumberText (k : Nat) (x) : evF TTab k [qBB k] [] Tryz.f181 yP2 .str x = qBo k x := by kernel_rfl
theorem qGg [Names] (k : Nat) : qAD Tryz.prog (qD0 k) := qAC tok (qAB (qBG k) qAF) (by kernel_rfl) (by kernel_rfl) (by kernel_rfl) fun x r h => (t_i_NumberText k x).trans h
def qCh (k : Nat) (x : List (Int) × Unit) : Option (ByteArray × Unit × Unit) :=
(qAG (fun (rec0 : (ByteArray × List (Int) × Int × Int × Unit) → Option _) (y0 : ByteArray × List (Int) × Int × Int × Unit) =>
(if (decide (y0.2.2.2.1 < y0.2.2.1)) = true then
(if 0 ≤ y0.2.2.2.1 ∧ y0.2.2.2.1 < (List.length y0.2.1 : Int) then
((qBo k ((Ty.rd (t := (.int .i64)) y0.2.1 y0.2.2.2.1), ())).bind fun p1 =>
(if ByteArray.size y0.1 + ByteArray.size p1.1 ≤ maxStr then
(rec0 ((y0.1 ++ p1.1), (y0.2.1, (y0.2.2.1, ((wi64 (y0.2.2.2.1 + (1 : Int))), ())))))
else none))
else none)
else
((fun (z1 : ByteArray × Unit) =>
some (z1.1, ((), ()))) (y0.1, ())))) k ((⟨#[]⟩ : ByteArray), (x.1, ((List.length x.1 : Int), ((0 : Int), ())))))
abbrev qEn (k : Nat) : qAI := ⟨285, 0, (.cons (.il true (.int .i64)) .nil), .str, qCh k⟩
theorem t_i_wordsText (k : Nat) (x) : evF TTab k [qD0 k] [(0, ⟨[3, 6, 7, 8], (.cons .str (.cons (.il true (.int .i64)) (.cons (.int .i64) yP2)))⟩, ⟨[3], (.cons .str .nil)⟩)] Tryz.f285 (.cons (.il true (.int .i64)) .nil) .str x = qCh k x := by kernel_rfl
theorem qHX [Names] (k : Nat) : qAD Tryz.prog (qEn k) := qAC tok (qAB (qGg k) qAF) (by kernel_rfl) (by kernel_rfl) (by kernel_rfl) fun x r h => (t_i_wordsText k x).trans h
def qEo (k : Nat) (x : Unit) : Option ((Int × Int × Int × Int × Int × Int × Int × Int × Int × Int × Int × Int × Int × Int × Int × Int × Int × Int × Int × Int × Int × Int × Int × Int × Int × Int × Int × Int × Int × Int × Int × Int × Int × Int × Int × Int × Int × Int × Int × Int × Int × Int × Int × Int × Int × Int × Int × Int × Int × Int × Int × Int × Int × Int × Int × Int × Int × Int × Int × Int × Int × Int × Int × Int × Unit) × Unit) :=
some (((1116352408 : Int), ((1899447441 : Int), ((3049323471 : Int), ((3921009573 : Int), ((961987163 : Int), ((1508970993 : Int), ((2453635748 : Int), ((2870763221 : Int), ((3624381080 : Int), ((310598401 : Int), ((607225278 : Int), ((1426881987 : Int), ((1925078388 : Int), ((2162078206 : Int), ((2614888103 : Int), ((3248222580 : Int), ((3835390401 : Int), ((4022224774 : Int), ((264347078 : Int), ((604807628 : Int), ((770255983 : Int), ((1249150122 : Int), ((1555081692 : Int), ((1996064986 : Int), ((2554220882 : Int), ((2821834349 : Int), ((2952996808 : Int), ((3210313671 : Int), ((3336571891 : Int), ((3584528711 : Int), ((113926993 : Int), ((338241895 : Int), ((666307205 : Int), ((773529912 : Int), ((1294757372 : Int), ((1396182291 : Int), ((1695183700 : Int), ((1986661051 : Int), ((2177026350 : Int), ((2456956037 : Int), ((2730485921 : Int), ((2820302411 : Int), ((3259730800 : Int), ((3345764771 : Int), ((3516065817 : Int), ((3600352804 : Int), ((4094571909 : Int), ((275423344 : Int), ((430227734 : Int), ((506948616 : Int), ((659060556 : Int), ((883997877 : Int), ((958139571 : Int), ((1322822218 : Int), ((1537002063 : Int), ((1747873779 : Int), ((1955562222 : Int), ((2024104815 : Int), ((2227730452 : Int), ((2361852424 : Int), ((2428436474 : Int), ((2756734187 : Int), ((3204031479 : Int), ((3329325298 : Int), ())))))))))))))))))))))))))))))))))))))))))))))))))))))))))))))))), ())
abbrev qHY (k : Nat) : qAI := ⟨315, 0, .nil, (.agg yP7), qEo k⟩
theorem t_i_constants (k : Nat) (x) : evF TTab k [] [] Tryz.f315 .nil (.agg yP7) x = qEo k x := by kernel_rfl
theorem e_i_constants [Names] (k : Nat) : qAD Tryz.prog (qHY k) := qAC tok qAF (by kernel_rfl) (by kernel_rfl) (by kernel_rfl) fun x r h => (t_i_constants k x).trans h
def qBp (k : Nat) (x : ByteArray × Unit) : Option ((Int × Bool × Unit) × Unit × Unit) :=
(if (!decide ((ByteArray.size x.1 : Int) = (4 : Int))) = true then
some (((0 : Int), (false, ())), ((), ()))
else
(if 0 ≤ (0 : Int) ∧ (0 : Int) < (ByteArray.size x.1 : Int) then
(if 0 ≤ (1 : Int) ∧ (1 : Int) < (ByteArray.size x.1 : Int) then
(if 0 ≤ (2 : Int) ∧ (2 : Int) < (ByteArray.size x.1 : Int) then
(if 0 ≤ (3 : Int) ∧ (3 : Int) < (ByteArray.size x.1 : Int) then
some (((qAR .or .i64 (qAR .or .i64 (qAR .or .i64 (wi64 ((wi64 ((bt x.1 (0 : Int)))) * 2 ^ (min (Int.toNat (24 : Int)) (IntKind.bits .i64)))) (wi64 ((wi64 ((bt x.1 (1 : Int)))) * 2 ^ (min (Int.toNat (16 : Int)) (IntKind.bits .i64))))) (wi64 ((wi64 ((bt x.1 (2 : Int)))) * 2 ^ (min (Int.toNat (8 : Int)) (IntKind.bits .i64))))) (wi64 ((bt x.1 (3 : Int))))), (true, ())), ((), ()))
else none)
else none)
else none)
else none))
abbrev qD1 (k : Nat) : qAI := ⟨207, 0, (.cons .str .nil), (.tup (.cons (.int .i64) (.cons .bool .nil))), qBp k⟩
theorem t_i_ReadNumber (k : Nat) (x) : evF TTab k [] [] Tryz.f207 (.cons .str .nil) (.tup (.cons (.int .i64) (.cons .bool .nil))) x = qBp k x := by kernel_rfl
theorem qGh [Names] (k : Nat) : qAD Tryz.prog (qD1 k) := qAC tok qAF (by kernel_rfl) (by kernel_rfl) (by kernel_rfl) fun x r h => (t_i_ReadNumber k x).trans h
def qEE (k : Nat) (x : ByteArray × Unit) : Option (List (Int) × Unit × Unit) :=
(qAG (fun (rec0 : (ByteArray × List (Int) × Int × Unit) → Option _) (y0 : ByteArray × List (Int) × Int × Unit) =>
(if (decide ((wi64 (y0.2.2.1 + (4 : Int))) ≤ (ByteArray.size y0.1 : Int))) = true then
(if 0 ≤ (wi64 (y0.2.2.1 + (4 : Int))) ∧ (wi64 (y0.2.2.1 + (4 : Int))) ≤ (ByteArray.size y0.1 : Int) then
(if 0 ≤ y0.2.2.1 ∧ y0.2.2.1 ≤ (wi64 (y0.2.2.1 + (4 : Int))) then
((qBp k ((ByteArray.extract y0.1 (Int.toNat y0.2.2.1) (Int.toNat (wi64 (y0.2.2.1 + (4 : Int))))), ())).bind fun p1 =>
(if List.length y0.2.1 + List.length ([p1.1.1] : List (Int)) ≤ capMax then
(rec0 (y0.1, ((y0.2.1 ++ ([p1.1.1] : List (Int))), ((wi64 (y0.2.2.1 + (4 : Int))), ()))))
else none))
else none)
else none)
else
((fun (z1 : List (Int) × Unit) =>
some (z1.1, ((), ()))) (y0.2.1, ())))) k (x.1, (([] : List (Int)), ((0 : Int), ()))))
abbrev qG0 (k : Nat) : qAI := ⟨317, 0, (.cons .str .nil), yP12, qEE k⟩
theorem t_i_wordsOf (k : Nat) (x) : evF TTab k [qD1 k] [(0, ⟨[0, 3, 4], (.cons .str (.cons yP12 yP2))⟩, ⟨[3], (.cons yP12 .nil)⟩)] Tryz.f317 (.cons .str .nil) yP12 x = qEE k x := by kernel_rfl
theorem e_i_wordsOf [Names] (k : Nat) : qAD Tryz.prog (qG0 k) := qAC tok (qAB (qGh k) qAF) (by kernel_rfl) (by kernel_rfl) (by kernel_rfl) fun x r h => (t_i_wordsOf k x).trans h
def qAZ (k : Nat) (x : Int × Int × Unit) : Option (Int × Unit × Unit × Unit) :=
(if x.2.1 < 0 then
none
else
(if (wi64 ((32 : Int) - x.2.1)) < 0 then
none
else
some ((qAR .and .i64 (qAR .or .i64 (Int.fdiv x.1 (2 ^ (min (Int.toNat x.2.1) (IntKind.bits .i64)))) (wi64 (x.1 * 2 ^ (min (Int.toNat (wi64 ((32 : Int) - x.2.1))) (IntKind.bits .i64))))) (4294967295 : Int)), ((), ((), ())))))
abbrev qEp (k : Nat) : qAI := ⟨318, 0, (.cons (.int .i64) yP2), (.int .i64), qAZ k⟩
theorem t_i_turnRight (k : Nat) (x) : evF TTab k [] [] Tryz.f318 (.cons (.int .i64) yP2) (.int .i64) x = qAZ k x := by kernel_rfl
theorem qHZ [Names] (k : Nat) : qAD Tryz.prog (qEp k) := qAC tok qAF (by kernel_rfl) (by kernel_rfl) (by kernel_rfl) fun x r h => (t_i_turnRight k x).trans h
def qEF (k : Nat) (x : ByteArray × Unit) : Option (List (Int) × Unit × Unit) :=
((qEE k (x.1, ())).bind fun p1 =>
(qAG (fun (rec0 : (List (Int) × Int × Unit) → Option _) (y0 : List (Int) × Int × Unit) =>
(if (decide (y0.2.1 < (64 : Int))) = true then
(if 0 ≤ (wi64 (y0.2.1 - (15 : Int))) ∧ (wi64 (y0.2.1 - (15 : Int))) < (List.length y0.1 : Int) then
(if 0 ≤ (wi64 (y0.2.1 - (2 : Int))) ∧ (wi64 (y0.2.1 - (2 : Int))) < (List.length y0.1 : Int) then
((qAZ k ((Ty.rd (t := (.int .i64)) y0.1 (wi64 (y0.2.1 - (15 : Int)))), ((7 : Int), ()))).bind fun p2 =>
((qAZ k ((Ty.rd (t := (.int .i64)) y0.1 (wi64 (y0.2.1 - (15 : Int)))), ((18 : Int), ()))).bind fun p3 =>
((qAZ k ((Ty.rd (t := (.int .i64)) y0.1 (wi64 (y0.2.1 - (2 : Int)))), ((17 : Int), ()))).bind fun p4 =>
((qAZ k ((Ty.rd (t := (.int .i64)) y0.1 (wi64 (y0.2.1 - (2 : Int)))), ((19 : Int), ()))).bind fun p5 =>
(if 0 ≤ (wi64 (y0.2.1 - (7 : Int))) ∧ (wi64 (y0.2.1 - (7 : Int))) < (List.length y0.1 : Int) then
(if 0 ≤ (wi64 (y0.2.1 - (16 : Int))) ∧ (wi64 (y0.2.1 - (16 : Int))) < (List.length y0.1 : Int) then
(if List.length y0.1 + List.length ([(qAR .and .i64 (wi64 ((wi64 ((wi64 ((qAR .xor .i64 (qAR .xor .i64 p4.1 p5.1) (Int.fdiv (Ty.rd (t := (.int .i64)) y0.1 (wi64 (y0.2.1 - (2 : Int)))) (2 ^ (min (Int.toNat (10 : Int)) (IntKind.bits .i64))))) + (Ty.rd (t := (.int .i64)) y0.1 (wi64 (y0.2.1 - (7 : Int)))))) + (qAR .xor .i64 (qAR .xor .i64 p2.1 p3.1) (Int.fdiv (Ty.rd (t := (.int .i64)) y0.1 (wi64 (y0.2.1 - (15 : Int)))) (2 ^ (min (Int.toNat (3 : Int)) (IntKind.bits .i64))))))) + (Ty.rd (t := (.int .i64)) y0.1 (wi64 (y0.2.1 - (16 : Int)))))) (4294967295 : Int))] : List (Int)) ≤ capMax then
(rec0 ((y0.1 ++ ([(qAR .and .i64 (wi64 ((wi64 ((wi64 ((qAR .xor .i64 (qAR .xor .i64 p4.1 p5.1) (Int.fdiv (Ty.rd (t := (.int .i64)) y0.1 (wi64 (y0.2.1 - (2 : Int)))) (2 ^ (min (Int.toNat (10 : Int)) (IntKind.bits .i64))))) + (Ty.rd (t := (.int .i64)) y0.1 (wi64 (y0.2.1 - (7 : Int)))))) + (qAR .xor .i64 (qAR .xor .i64 p2.1 p3.1) (Int.fdiv (Ty.rd (t := (.int .i64)) y0.1 (wi64 (y0.2.1 - (15 : Int)))) (2 ^ (min (Int.toNat (3 : Int)) (IntKind.bits .i64))))))) + (Ty.rd (t := (.int .i64)) y0.1 (wi64 (y0.2.1 - (16 : Int)))))) (4294967295 : Int))] : List (Int))), ((wi64 (y0.2.1 + (1 : Int))), ())))
else none)
else none)
else none)))))
else none)
else none)
else
((fun (z1 : List (Int) × Unit) =>
some (z1.1, ((), ()))) (y0.1, ())))) k (p1.1, ((16 : Int), ()))))
abbrev E_i_expanded (k : Nat) : qAI := ⟨316, 0, (.cons .str .nil), yP12, qEF k⟩
theorem t_i_expanded (k : Nat) (x) : evF TTab k [qG0 k, qEp k] [(0, ⟨[3, 4], (.cons yP12 yP2)⟩, ⟨[3], (.cons yP12 .nil)⟩)] Tryz.f316 (.cons .str .nil) yP12 x = qEF k x := by kernel_rfl
theorem e_i_expanded [Names] (k : Nat) : qAD Tryz.prog (E_i_expanded k) := qAC tok (qAB (e_i_wordsOf k) (qAB (qHZ k) qAF)) (by kernel_rfl) (by kernel_rfl) (by kernel_rfl) fun x r h => (t_i_expanded k x).trans h
def i_round (k : Nat) (x : ByteArray × ByteArray × Unit) : Option (ByteArray × Unit × Unit × Unit) :=
((qEo k ()).bind fun p1 =>
((qEF k (x.2.1, ())).bind fun p2 =>
((qEE k (x.1, ())).bind fun p3 =>
(if 0 ≤ (0 : Int) ∧ (0 : Int) < (List.length p3.1 : Int) then
(if 0 ≤ (1 : Int) ∧ (1 : Int) < (List.length p3.1 : Int) then
(if 0 ≤ (2 : Int) ∧ (2 : Int) < (List.length p3.1 : Int) then
(if 0 ≤ (3 : Int) ∧ (3 : Int) < (List.length p3.1 : Int) then
(if 0 ≤ (4 : Int) ∧ (4 : Int) < (List.length p3.1 : Int) then
(if 0 ≤ (5 : Int) ∧ (5 : Int) < (List.length p3.1 : Int) then
(if 0 ≤ (6 : Int) ∧ (6 : Int) < (List.length p3.1 : Int) then
(if 0 ≤ (7 : Int) ∧ (7 : Int) < (List.length p3.1 : Int) then
(qAG (fun (rec0 : ((Int × Int × Int × Int × Int × Int × Int × Int × Int × Int × Int × Int × Int × Int × Int × Int × Int × Int × Int × Int × Int × Int × Int × Int × Int × Int × Int × Int × Int × Int × Int × Int × Int × Int × Int × Int × Int × Int × Int × Int × Int × Int × Int × Int × Int × Int × Int × Int × Int × Int × Int × Int × Int × Int × Int × Int × Int × Int × Int × Int × Int × Int × Int × Int × Unit) × List (Int) × List (Int) × Int × Int × Int × Int × Int × Int × Int × Int × Int × Unit) → Option _) (y0 : (Int × Int × Int × Int × Int × Int × Int × Int × Int × Int × Int × Int × Int × Int × Int × Int × Int × Int × Int × Int × Int × Int × Int × Int × Int × Int × Int × Int × Int × Int × Int × Int × Int × Int × Int × Int × Int × Int × Int × Int × Int × Int × Int × Int × Int × Int × Int × Int × Int × Int × Int × Int × Int × Int × Int × Int × Int × Int × Int × Int × Int × Int × Int × Int × Unit) × List (Int) × List (Int) × Int × Int × Int × Int × Int × Int × Int × Int × Int × Unit) =>
(if (decide (y0.2.2.2.2.2.2.2.2.2.2.2.1 < (64 : Int))) = true then
((qAZ k (y0.2.2.2.2.2.2.2.1, ((6 : Int), ()))).bind fun p4 =>
((qAZ k (y0.2.2.2.2.2.2.2.1, ((11 : Int), ()))).bind fun p5 =>
((qAZ k (y0.2.2.2.2.2.2.2.1, ((25 : Int), ()))).bind fun p6 =>
(if 0 ≤ y0.2.2.2.2.2.2.2.2.2.2.2.1 ∧ y0.2.2.2.2.2.2.2.2.2.2.2.1 < (64 : Int) then
(if y0.2.2.2.2.2.2.2.2.2.2.2.1 < (List.length ([y0.1.1, y0.1.2.1, y0.1.2.2.1, y0.1.2.2.2.1, y0.1.2.2.2.2.1, y0.1.2.2.2.2.2.1, y0.1.2.2.2.2.2.2.1, y0.1.2.2.2.2.2.2.2.1, y0.1.2.2.2.2.2.2.2.2.1, y0.1.2.2.2.2.2.2.2.2.2.1, y0.1.2.2.2.2.2.2.2.2.2.2.1, y0.1.2.2.2.2.2.2.2.2.2.2.2.1, y0.1.2.2.2.2.2.2.2.2.2.2.2.2.1, y0.1.2.2.2.2.2.2.2.2.2.2.2.2.2.1, y0.1.2.2.2.2.2.2.2.2.2.2.2.2.2.2.1, y0.1.2.2.2.2.2.2.2.2.2.2.2.2.2.2.2.1, y0.1.2.2.2.2.2.2.2.2.2.2.2.2.2.2.2.2.1, y0.1.2.2.2.2.2.2.2.2.2.2.2.2.2.2.2.2.2.1, y0.1.2.2.2.2.2.2.2.2.2.2.2.2.2.2.2.2.2.2.1, y0.1.2.2.2.2.2.2.2.2.2.2.2.2.2.2.2.2.2.2.2.1, y0.1.2.2.2.2.2.2.2.2.2.2.2.2.2.2.2.2.2.2.2.2.1, y0.1.2.2.2.2.2.2.2.2.2.2.2.2.2.2.2.2.2.2.2.2.2.1, y0.1.2.2.2.2.2.2.2.2.2.2.2.2.2.2.2.2.2.2.2.2.2.2.1, y0.1.2.2.2.2.2.2.2.2.2.2.2.2.2.2.2.2.2.2.2.2.2.2.2.1, y0.1.2.2.2.2.2.2.2.2.2.2.2.2.2.2.2.2.2.2.2.2.2.2.2.2.1, y0.1.2.2.2.2.2.2.2.2.2.2.2.2.2.2.2.2.2.2.2.2.2.2.2.2.2.1, y0.1.2.2.2.2.2.2.2.2.2.2.2.2.2.2.2.2.2.2.2.2.2.2.2.2.2.2.1, y0.1.2.2.2.2.2.2.2.2.2.2.2.2.2.2.2.2.2.2.2.2.2.2.2.2.2.2.2.1, y0.1.2.2.2.2.2.2.2.2.2.2.2.2.2.2.2.2.2.2.2.2.2.2.2.2.2.2.2.2.1, y0.1.2.2.2.2.2.2.2.2.2.2.2.2.2.2.2.2.2.2.2.2.2.2.2.2.2.2.2.2.2.1, y0.1.2.2.2.2.2.2.2.2.2.2.2.2.2.2.2.2.2.2.2.2.2.2.2.2.2.2.2.2.2.2.1, y0.1.2.2.2.2.2.2.2.2.2.2.2.2.2.2.2.2.2.2.2.2.2.2.2.2.2.2.2.2.2.2.2.1, y0.1.2.2.2.2.2.2.2.2.2.2.2.2.2.2.2.2.2.2.2.2.2.2.2.2.2.2.2.2.2.2.2.2.1, y0.1.2.2.2.2.2.2.2.2.2.2.2.2.2.2.2.2.2.2.2.2.2.2.2.2.2.2.2.2.2.2.2.2.2.1, y0.1.2.2.2.2.2.2.2.2.2.2.2.2.2.2.2.2.2.2.2.2.2.2.2.2.2.2.2.2.2.2.2.2.2.2.1, y0.1.2.2.2.2.2.2.2.2.2.2.2.2.2.2.2.2.2.2.2.2.2.2.2.2.2.2.2.2.2.2.2.2.2.2.2.1, y0.1.2.2.2.2.2.2.2.2.2.2.2.2.2.2.2.2.2.2.2.2.2.2.2.2.2.2.2.2.2.2.2.2.2.2.2.2.1, y0.1.2.2.2.2.2.2.2.2.2.2.2.2.2.2.2.2.2.2.2.2.2.2.2.2.2.2.2.2.2.2.2.2.2.2.2.2.2.1, y0.1.2.2.2.2.2.2.2.2.2.2.2.2.2.2.2.2.2.2.2.2.2.2.2.2.2.2.2.2.2.2.2.2.2.2.2.2.2.2.1, y0.1.2.2.2.2.2.2.2.2.2.2.2.2.2.2.2.2.2.2.2.2.2.2.2.2.2.2.2.2.2.2.2.2.2.2.2.2.2.2.2.1, y0.1.2.2.2.2.2.2.2.2.2.2.2.2.2.2.2.2.2.2.2.2.2.2.2.2.2.2.2.2.2.2.2.2.2.2.2.2.2.2.2.2.1, y0.1.2.2.2.2.2.2.2.2.2.2.2.2.2.2.2.2.2.2.2.2.2.2.2.2.2.2.2.2.2.2.2.2.2.2.2.2.2.2.2.2.2.1, y0.1.2.2.2.2.2.2.2.2.2.2.2.2.2.2.2.2.2.2.2.2.2.2.2.2.2.2.2.2.2.2.2.2.2.2.2.2.2.2.2.2.2.2.1, y0.1.2.2.2.2.2.2.2.2.2.2.2.2.2.2.2.2.2.2.2.2.2.2.2.2.2.2.2.2.2.2.2.2.2.2.2.2.2.2.2.2.2.2.2.1, y0.1.2.2.2.2.2.2.2.2.2.2.2.2.2.2.2.2.2.2.2.2.2.2.2.2.2.2.2.2.2.2.2.2.2.2.2.2.2.2.2.2.2.2.2.2.1, y0.1.2.2.2.2.2.2.2.2.2.2.2.2.2.2.2.2.2.2.2.2.2.2.2.2.2.2.2.2.2.2.2.2.2.2.2.2.2.2.2.2.2.2.2.2.2.1, y0.1.2.2.2.2.2.2.2.2.2.2.2.2.2.2.2.2.2.2.2.2.2.2.2.2.2.2.2.2.2.2.2.2.2.2.2.2.2.2.2.2.2.2.2.2.2.2.1, y0.1.2.2.2.2.2.2.2.2.2.2.2.2.2.2.2.2.2.2.2.2.2.2.2.2.2.2.2.2.2.2.2.2.2.2.2.2.2.2.2.2.2.2.2.2.2.2.2.1, y0.1.2.2.2.2.2.2.2.2.2.2.2.2.2.2.2.2.2.2.2.2.2.2.2.2.2.2.2.2.2.2.2.2.2.2.2.2.2.2.2.2.2.2.2.2.2.2.2.2.1, y0.1.2.2.2.2.2.2.2.2.2.2.2.2.2.2.2.2.2.2.2.2.2.2.2.2.2.2.2.2.2.2.2.2.2.2.2.2.2.2.2.2.2.2.2.2.2.2.2.2.2.1, y0.1.2.2.2.2.2.2.2.2.2.2.2.2.2.2.2.2.2.2.2.2.2.2.2.2.2.2.2.2.2.2.2.2.2.2.2.2.2.2.2.2.2.2.2.2.2.2.2.2.2.2.1, y0.1.2.2.2.2.2.2.2.2.2.2.2.2.2.2.2.2.2.2.2.2.2.2.2.2.2.2.2.2.2.2.2.2.2.2.2.2.2.2.2.2.2.2.2.2.2.2.2.2.2.2.2.1, y0.1.2.2.2.2.2.2.2.2.2.2.2.2.2.2.2.2.2.2.2.2.2.2.2.2.2.2.2.2.2.2.2.2.2.2.2.2.2.2.2.2.2.2.2.2.2.2.2.2.2.2.2.2.1, y0.1.2.2.2.2.2.2.2.2.2.2.2.2.2.2.2.2.2.2.2.2.2.2.2.2.2.2.2.2.2.2.2.2.2.2.2.2.2.2.2.2.2.2.2.2.2.2.2.2.2.2.2.2.2.1, y0.1.2.2.2.2.2.2.2.2.2.2.2.2.2.2.2.2.2.2.2.2.2.2.2.2.2.2.2.2.2.2.2.2.2.2.2.2.2.2.2.2.2.2.2.2.2.2.2.2.2.2.2.2.2.2.1, y0.1.2.2.2.2.2.2.2.2.2.2.2.2.2.2.2.2.2.2.2.2.2.2.2.2.2.2.2.2.2.2.2.2.2.2.2.2.2.2.2.2.2.2.2.2.2.2.2.2.2.2.2.2.2.2.2.1, y0.1.2.2.2.2.2.2.2.2.2.2.2.2.2.2.2.2.2.2.2.2.2.2.2.2.2.2.2.2.2.2.2.2.2.2.2.2.2.2.2.2.2.2.2.2.2.2.2.2.2.2.2.2.2.2.2.2.1, y0.1.2.2.2.2.2.2.2.2.2.2.2.2.2.2.2.2.2.2.2.2.2.2.2.2.2.2.2.2.2.2.2.2.2.2.2.2.2.2.2.2.2.2.2.2.2.2.2.2.2.2.2.2.2.2.2.2.2.1, y0.1.2.2.2.2.2.2.2.2.2.2.2.2.2.2.2.2.2.2.2.2.2.2.2.2.2.2.2.2.2.2.2.2.2.2.2.2.2.2.2.2.2.2.2.2.2.2.2.2.2.2.2.2.2.2.2.2.2.2.1, y0.1.2.2.2.2.2.2.2.2.2.2.2.2.2.2.2.2.2.2.2.2.2.2.2.2.2.2.2.2.2.2.2.2.2.2.2.2.2.2.2.2.2.2.2.2.2.2.2.2.2.2.2.2.2.2.2.2.2.2.2.1, y0.1.2.2.2.2.2.2.2.2.2.2.2.2.2.2.2.2.2.2.2.2.2.2.2.2.2.2.2.2.2.2.2.2.2.2.2.2.2.2.2.2.2.2.2.2.2.2.2.2.2.2.2.2.2.2.2.2.2.2.2.2.1, y0.1.2.2.2.2.2.2.2.2.2.2.2.2.2.2.2.2.2.2.2.2.2.2.2.2.2.2.2.2.2.2.2.2.2.2.2.2.2.2.2.2.2.2.2.2.2.2.2.2.2.2.2.2.2.2.2.2.2.2.2.2.2.1, y0.1.2.2.2.2.2.2.2.2.2.2.2.2.2.2.2.2.2.2.2.2.2.2.2.2.2.2.2.2.2.2.2.2.2.2.2.2.2.2.2.2.2.2.2.2.2.2.2.2.2.2.2.2.2.2.2.2.2.2.2.2.2.2.1, y0.1.2.2.2.2.2.2.2.2.2.2.2.2.2.2.2.2.2.2.2.2.2.2.2.2.2.2.2.2.2.2.2.2.2.2.2.2.2.2.2.2.2.2.2.2.2.2.2.2.2.2.2.2.2.2.2.2.2.2.2.2.2.2.2.1] : List Int) : Int) then
(if 0 ≤ y0.2.2.2.2.2.2.2.2.2.2.2.1 ∧ y0.2.2.2.2.2.2.2.2.2.2.2.1 < (List.length y0.2.1 : Int) then
((qAZ k (y0.2.2.2.1, ((2 : Int), ()))).bind fun p7 =>
((qAZ k (y0.2.2.2.1, ((13 : Int), ()))).bind fun p8 =>
((qAZ k (y0.2.2.2.1, ((22 : Int), ()))).bind fun p9 =>
(rec0 (y0.1, (y0.2.1, (y0.2.2.1, ((qAR .and .i64 (wi64 ((wi64 ((wi64 ((wi64 ((wi64 (y0.2.2.2.2.2.2.2.2.2.2.1 + (qAR .xor .i64 (qAR .xor .i64 p4.1 p5.1) p6.1))) + (qAR .xor .i64 (qAR .and .i64 y0.2.2.2.2.2.2.2.1 y0.2.2.2.2.2.2.2.2.1) (qAR .and .i64 (qAR .xor .i64 (4294967295 : Int) y0.2.2.2.2.2.2.2.1) y0.2.2.2.2.2.2.2.2.2.1)))) + (Ty.rd (t := .int .i64) ([y0.1.1, y0.1.2.1, y0.1.2.2.1, y0.1.2.2.2.1, y0.1.2.2.2.2.1, y0.1.2.2.2.2.2.1, y0.1.2.2.2.2.2.2.1, y0.1.2.2.2.2.2.2.2.1, y0.1.2.2.2.2.2.2.2.2.1, y0.1.2.2.2.2.2.2.2.2.2.1, y0.1.2.2.2.2.2.2.2.2.2.2.1, y0.1.2.2.2.2.2.2.2.2.2.2.2.1, y0.1.2.2.2.2.2.2.2.2.2.2.2.2.1, y0.1.2.2.2.2.2.2.2.2.2.2.2.2.2.1, y0.1.2.2.2.2.2.2.2.2.2.2.2.2.2.2.1, y0.1.2.2.2.2.2.2.2.2.2.2.2.2.2.2.2.1, y0.1.2.2.2.2.2.2.2.2.2.2.2.2.2.2.2.2.1, y0.1.2.2.2.2.2.2.2.2.2.2.2.2.2.2.2.2.2.1, y0.1.2.2.2.2.2.2.2.2.2.2.2.2.2.2.2.2.2.2.1, y0.1.2.2.2.2.2.2.2.2.2.2.2.2.2.2.2.2.2.2.2.1, y0.1.2.2.2.2.2.2.2.2.2.2.2.2.2.2.2.2.2.2.2.2.1, y0.1.2.2.2.2.2.2.2.2.2.2.2.2.2.2.2.2.2.2.2.2.2.1, y0.1.2.2.2.2.2.2.2.2.2.2.2.2.2.2.2.2.2.2.2.2.2.2.1, y0.1.2.2.2.2.2.2.2.2.2.2.2.2.2.2.2.2.2.2.2.2.2.2.2.1, y0.1.2.2.2.2.2.2.2.2.2.2.2.2.2.2.2.2.2.2.2.2.2.2.2.2.1, y0.1.2.2.2.2.2.2.2.2.2.2.2.2.2.2.2.2.2.2.2.2.2.2.2.2.2.1, y0.1.2.2.2.2.2.2.2.2.2.2.2.2.2.2.2.2.2.2.2.2.2.2.2.2.2.2.1, y0.1.2.2.2.2.2.2.2.2.2.2.2.2.2.2.2.2.2.2.2.2.2.2.2.2.2.2.2.1, y0.1.2.2.2.2.2.2.2.2.2.2.2.2.2.2.2.2.2.2.2.2.2.2.2.2.2.2.2.2.1, y0.1.2.2.2.2.2.2.2.2.2.2.2.2.2.2.2.2.2.2.2.2.2.2.2.2.2.2.2.2.2.1, y0.1.2.2.2.2.2.2.2.2.2.2.2.2.2.2.2.2.2.2.2.2.2.2.2.2.2.2.2.2.2.2.1, y0.1.2.2.2.2.2.2.2.2.2.2.2.2.2.2.2.2.2.2.2.2.2.2.2.2.2.2.2.2.2.2.2.1, y0.1.2.2.2.2.2.2.2.2.2.2.2.2.2.2.2.2.2.2.2.2.2.2.2.2.2.2.2.2.2.2.2.2.1, y0.1.2.2.2.2.2.2.2.2.2.2.2.2.2.2.2.2.2.2.2.2.2.2.2.2.2.2.2.2.2.2.2.2.2.1, y0.1.2.2.2.2.2.2.2.2.2.2.2.2.2.2.2.2.2.2.2.2.2.2.2.2.2.2.2.2.2.2.2.2.2.2.1, y0.1.2.2.2.2.2.2.2.2.2.2.2.2.2.2.2.2.2.2.2.2.2.2.2.2.2.2.2.2.2.2.2.2.2.2.2.1, y0.1.2.2.2.2.2.2.2.2.2.2.2.2.2.2.2.2.2.2.2.2.2.2.2.2.2.2.2.2.2.2.2.2.2.2.2.2.1, y0.1.2.2.2.2.2.2.2.2.2.2.2.2.2.2.2.2.2.2.2.2.2.2.2.2.2.2.2.2.2.2.2.2.2.2.2.2.2.1, y0.1.2.2.2.2.2.2.2.2.2.2.2.2.2.2.2.2.2.2.2.2.2.2.2.2.2.2.2.2.2.2.2.2.2.2.2.2.2.2.1, y0.1.2.2.2.2.2.2.2.2.2.2.2.2.2.2.2.2.2.2.2.2.2.2.2.2.2.2.2.2.2.2.2.2.2.2.2.2.2.2.2.1, y0.1.2.2.2.2.2.2.2.2.2.2.2.2.2.2.2.2.2.2.2.2.2.2.2.2.2.2.2.2.2.2.2.2.2.2.2.2.2.2.2.2.1, y0.1.2.2.2.2.2.2.2.2.2.2.2.2.2.2.2.2.2.2.2.2.2.2.2.2.2.2.2.2.2.2.2.2.2.2.2.2.2.2.2.2.2.1, y0.1.2.2.2.2.2.2.2.2.2.2.2.2.2.2.2.2.2.2.2.2.2.2.2.2.2.2.2.2.2.2.2.2.2.2.2.2.2.2.2.2.2.2.1, y0.1.2.2.2.2.2.2.2.2.2.2.2.2.2.2.2.2.2.2.2.2.2.2.2.2.2.2.2.2.2.2.2.2.2.2.2.2.2.2.2.2.2.2.2.1, y0.1.2.2.2.2.2.2.2.2.2.2.2.2.2.2.2.2.2.2.2.2.2.2.2.2.2.2.2.2.2.2.2.2.2.2.2.2.2.2.2.2.2.2.2.2.1, y0.1.2.2.2.2.2.2.2.2.2.2.2.2.2.2.2.2.2.2.2.2.2.2.2.2.2.2.2.2.2.2.2.2.2.2.2.2.2.2.2.2.2.2.2.2.2.1, y0.1.2.2.2.2.2.2.2.2.2.2.2.2.2.2.2.2.2.2.2.2.2.2.2.2.2.2.2.2.2.2.2.2.2.2.2.2.2.2.2.2.2.2.2.2.2.2.1, y0.1.2.2.2.2.2.2.2.2.2.2.2.2.2.2.2.2.2.2.2.2.2.2.2.2.2.2.2.2.2.2.2.2.2.2.2.2.2.2.2.2.2.2.2.2.2.2.2.1, y0.1.2.2.2.2.2.2.2.2.2.2.2.2.2.2.2.2.2.2.2.2.2.2.2.2.2.2.2.2.2.2.2.2.2.2.2.2.2.2.2.2.2.2.2.2.2.2.2.2.1, y0.1.2.2.2.2.2.2.2.2.2.2.2.2.2.2.2.2.2.2.2.2.2.2.2.2.2.2.2.2.2.2.2.2.2.2.2.2.2.2.2.2.2.2.2.2.2.2.2.2.2.1, y0.1.2.2.2.2.2.2.2.2.2.2.2.2.2.2.2.2.2.2.2.2.2.2.2.2.2.2.2.2.2.2.2.2.2.2.2.2.2.2.2.2.2.2.2.2.2.2.2.2.2.2.1, y0.1.2.2.2.2.2.2.2.2.2.2.2.2.2.2.2.2.2.2.2.2.2.2.2.2.2.2.2.2.2.2.2.2.2.2.2.2.2.2.2.2.2.2.2.2.2.2.2.2.2.2.2.1, y0.1.2.2.2.2.2.2.2.2.2.2.2.2.2.2.2.2.2.2.2.2.2.2.2.2.2.2.2.2.2.2.2.2.2.2.2.2.2.2.2.2.2.2.2.2.2.2.2.2.2.2.2.2.1, y0.1.2.2.2.2.2.2.2.2.2.2.2.2.2.2.2.2.2.2.2.2.2.2.2.2.2.2.2.2.2.2.2.2.2.2.2.2.2.2.2.2.2.2.2.2.2.2.2.2.2.2.2.2.2.1, y0.1.2.2.2.2.2.2.2.2.2.2.2.2.2.2.2.2.2.2.2.2.2.2.2.2.2.2.2.2.2.2.2.2.2.2.2.2.2.2.2.2.2.2.2.2.2.2.2.2.2.2.2.2.2.2.1, y0.1.2.2.2.2.2.2.2.2.2.2.2.2.2.2.2.2.2.2.2.2.2.2.2.2.2.2.2.2.2.2.2.2.2.2.2.2.2.2.2.2.2.2.2.2.2.2.2.2.2.2.2.2.2.2.2.1, y0.1.2.2.2.2.2.2.2.2.2.2.2.2.2.2.2.2.2.2.2.2.2.2.2.2.2.2.2.2.2.2.2.2.2.2.2.2.2.2.2.2.2.2.2.2.2.2.2.2.2.2.2.2.2.2.2.2.1, y0.1.2.2.2.2.2.2.2.2.2.2.2.2.2.2.2.2.2.2.2.2.2.2.2.2.2.2.2.2.2.2.2.2.2.2.2.2.2.2.2.2.2.2.2.2.2.2.2.2.2.2.2.2.2.2.2.2.2.1, y0.1.2.2.2.2.2.2.2.2.2.2.2.2.2.2.2.2.2.2.2.2.2.2.2.2.2.2.2.2.2.2.2.2.2.2.2.2.2.2.2.2.2.2.2.2.2.2.2.2.2.2.2.2.2.2.2.2.2.2.1, y0.1.2.2.2.2.2.2.2.2.2.2.2.2.2.2.2.2.2.2.2.2.2.2.2.2.2.2.2.2.2.2.2.2.2.2.2.2.2.2.2.2.2.2.2.2.2.2.2.2.2.2.2.2.2.2.2.2.2.2.2.1, y0.1.2.2.2.2.2.2.2.2.2.2.2.2.2.2.2.2.2.2.2.2.2.2.2.2.2.2.2.2.2.2.2.2.2.2.2.2.2.2.2.2.2.2.2.2.2.2.2.2.2.2.2.2.2.2.2.2.2.2.2.2.1, y0.1.2.2.2.2.2.2.2.2.2.2.2.2.2.2.2.2.2.2.2.2.2.2.2.2.2.2.2.2.2.2.2.2.2.2.2.2.2.2.2.2.2.2.2.2.2.2.2.2.2.2.2.2.2.2.2.2.2.2.2.2.2.1, y0.1.2.2.2.2.2.2.2.2.2.2.2.2.2.2.2.2.2.2.2.2.2.2.2.2.2.2.2.2.2.2.2.2.2.2.2.2.2.2.2.2.2.2.2.2.2.2.2.2.2.2.2.2.2.2.2.2.2.2.2.2.2.2.1, y0.1.2.2.2.2.2.2.2.2.2.2.2.2.2.2.2.2.2.2.2.2.2.2.2.2.2.2.2.2.2.2.2.2.2.2.2.2.2.2.2.2.2.2.2.2.2.2.2.2.2.2.2.2.2.2.2.2.2.2.2.2.2.2.2.1] : List Int) y0.2.2.2.2.2.2.2.2.2.2.2.1))) + (Ty.rd (t := (.int .i64)) y0.2.1 y0.2.2.2.2.2.2.2.2.2.2.2.1))) + (wi64 ((qAR .xor .i64 (qAR .xor .i64 p7.1 p8.1) p9.1) + (qAR .xor .i64 (qAR .xor .i64 (qAR .and .i64 y0.2.2.2.1 y0.2.2.2.2.1) (qAR .and .i64 y0.2.2.2.1 y0.2.2.2.2.2.1)) (qAR .and .i64 y0.2.2.2.2.1 y0.2.2.2.2.2.1)))))) (4294967295 : Int)), (y0.2.2.2.1, (y0.2.2.2.2.1, (y0.2.2.2.2.2.1, ((qAR .and .i64 (wi64 (y0.2.2.2.2.2.2.1 + (wi64 ((wi64 ((wi64 ((wi64 (y0.2.2.2.2.2.2.2.2.2.2.1 + (qAR .xor .i64 (qAR .xor .i64 p4.1 p5.1) p6.1))) + (qAR .xor .i64 (qAR .and .i64 y0.2.2.2.2.2.2.2.1 y0.2.2.2.2.2.2.2.2.1) (qAR .and .i64 (qAR .xor .i64 (4294967295 : Int) y0.2.2.2.2.2.2.2.1) y0.2.2.2.2.2.2.2.2.2.1)))) + (Ty.rd (t := .int .i64) ([y0.1.1, y0.1.2.1, y0.1.2.2.1, y0.1.2.2.2.1, y0.1.2.2.2.2.1, y0.1.2.2.2.2.2.1, y0.1.2.2.2.2.2.2.1, y0.1.2.2.2.2.2.2.2.1, y0.1.2.2.2.2.2.2.2.2.1, y0.1.2.2.2.2.2.2.2.2.2.1, y0.1.2.2.2.2.2.2.2.2.2.2.1, y0.1.2.2.2.2.2.2.2.2.2.2.2.1, y0.1.2.2.2.2.2.2.2.2.2.2.2.2.1, y0.1.2.2.2.2.2.2.2.2.2.2.2.2.2.1, y0.1.2.2.2.2.2.2.2.2.2.2.2.2.2.2.1, y0.1.2.2.2.2.2.2.2.2.2.2.2.2.2.2.2.1, y0.1.2.2.2.2.2.2.2.2.2.2.2.2.2.2.2.2.1, y0.1.2.2.2.2.2.2.2.2.2.2.2.2.2.2.2.2.2.1, y0.1.2.2.2.2.2.2.2.2.2.2.2.2.2.2.2.2.2.2.1, y0.1.2.2.2.2.2.2.2.2.2.2.2.2.2.2.2.2.2.2.2.1, y0.1.2.2.2.2.2.2.2.2.2.2.2.2.2.2.2.2.2.2.2.2.1, y0.1.2.2.2.2.2.2.2.2.2.2.2.2.2.2.2.2.2.2.2.2.2.1, y0.1.2.2.2.2.2.2.2.2.2.2.2.2.2.2.2.2.2.2.2.2.2.2.1, y0.1.2.2.2.2.2.2.2.2.2.2.2.2.2.2.2.2.2.2.2.2.2.2.2.1, y0.1.2.2.2.2.2.2.2.2.2.2.2.2.2.2.2.2.2.2.2.2.2.2.2.2.1, y0.1.2.2.2.2.2.2.2.2.2.2.2.2.2.2.2.2.2.2.2.2.2.2.2.2.2.1, y0.1.2.2.2.2.2.2.2.2.2.2.2.2.2.2.2.2.2.2.2.2.2.2.2.2.2.2.1, y0.1.2.2.2.2.2.2.2.2.2.2.2.2.2.2.2.2.2.2.2.2.2.2.2.2.2.2.2.1, y0.1.2.2.2.2.2.2.2.2.2.2.2.2.2.2.2.2.2.2.2.2.2.2.2.2.2.2.2.2.1, y0.1.2.2.2.2.2.2.2.2.2.2.2.2.2.2.2.2.2.2.2.2.2.2.2.2.2.2.2.2.2.1, y0.1.2.2.2.2.2.2.2.2.2.2.2.2.2.2.2.2.2.2.2.2.2.2.2.2.2.2.2.2.2.2.1, y0.1.2.2.2.2.2.2.2.2.2.2.2.2.2.2.2.2.2.2.2.2.2.2.2.2.2.2.2.2.2.2.2.1, y0.1.2.2.2.2.2.2.2.2.2.2.2.2.2.2.2.2.2.2.2.2.2.2.2.2.2.2.2.2.2.2.2.2.1, y0.1.2.2.2.2.2.2.2.2.2.2.2.2.2.2.2.2.2.2.2.2.2.2.2.2.2.2.2.2.2.2.2.2.2.1, y0.1.2.2.2.2.2.2.2.2.2.2.2.2.2.2.2.2.2.2.2.2.2.2.2.2.2.2.2.2.2.2.2.2.2.2.1, y0.1.2.2.2.2.2.2.2.2.2.2.2.2.2.2.2.2.2.2.2.2.2.2.2.2.2.2.2.2.2.2.2.2.2.2.2.1, y0.1.2.2.2.2.2.2.2.2.2.2.2.2.2.2.2.2.2.2.2.2.2.2.2.2.2.2.2.2.2.2.2.2.2.2.2.2.1, y0.1.2.2.2.2.2.2.2.2.2.2.2.2.2.2.2.2.2.2.2.2.2.2.2.2.2.2.2.2.2.2.2.2.2.2.2.2.2.1, y0.1.2.2.2.2.2.2.2.2.2.2.2.2.2.2.2.2.2.2.2.2.2.2.2.2.2.2.2.2.2.2.2.2.2.2.2.2.2.2.1, y0.1.2.2.2.2.2.2.2.2.2.2.2.2.2.2.2.2.2.2.2.2.2.2.2.2.2.2.2.2.2.2.2.2.2.2.2.2.2.2.2.1, y0.1.2.2.2.2.2.2.2.2.2.2.2.2.2.2.2.2.2.2.2.2.2.2.2.2.2.2.2.2.2.2.2.2.2.2.2.2.2.2.2.2.1, y0.1.2.2.2.2.2.2.2.2.2.2.2.2.2.2.2.2.2.2.2.2.2.2.2.2.2.2.2.2.2.2.2.2.2.2.2.2.2.2.2.2.2.1, y0.1.2.2.2.2.2.2.2.2.2.2.2.2.2.2.2.2.2.2.2.2.2.2.2.2.2.2.2.2.2.2.2.2.2.2.2.2.2.2.2.2.2.2.1, y0.1.2.2.2.2.2.2.2.2.2.2.2.2.2.2.2.2.2.2.2.2.2.2.2.2.2.2.2.2.2.2.2.2.2.2.2.2.2.2.2.2.2.2.2.1, y0.1.2.2.2.2.2.2.2.2.2.2.2.2.2.2.2.2.2.2.2.2.2.2.2.2.2.2.2.2.2.2.2.2.2.2.2.2.2.2.2.2.2.2.2.2.1, y0.1.2.2.2.2.2.2.2.2.2.2.2.2.2.2.2.2.2.2.2.2.2.2.2.2.2.2.2.2.2.2.2.2.2.2.2.2.2.2.2.2.2.2.2.2.2.1, y0.1.2.2.2.2.2.2.2.2.2.2.2.2.2.2.2.2.2.2.2.2.2.2.2.2.2.2.2.2.2.2.2.2.2.2.2.2.2.2.2.2.2.2.2.2.2.2.1, y0.1.2.2.2.2.2.2.2.2.2.2.2.2.2.2.2.2.2.2.2.2.2.2.2.2.2.2.2.2.2.2.2.2.2.2.2.2.2.2.2.2.2.2.2.2.2.2.2.1, y0.1.2.2.2.2.2.2.2.2.2.2.2.2.2.2.2.2.2.2.2.2.2.2.2.2.2.2.2.2.2.2.2.2.2.2.2.2.2.2.2.2.2.2.2.2.2.2.2.2.1, y0.1.2.2.2.2.2.2.2.2.2.2.2.2.2.2.2.2.2.2.2.2.2.2.2.2.2.2.2.2.2.2.2.2.2.2.2.2.2.2.2.2.2.2.2.2.2.2.2.2.2.1, y0.1.2.2.2.2.2.2.2.2.2.2.2.2.2.2.2.2.2.2.2.2.2.2.2.2.2.2.2.2.2.2.2.2.2.2.2.2.2.2.2.2.2.2.2.2.2.2.2.2.2.2.1, y0.1.2.2.2.2.2.2.2.2.2.2.2.2.2.2.2.2.2.2.2.2.2.2.2.2.2.2.2.2.2.2.2.2.2.2.2.2.2.2.2.2.2.2.2.2.2.2.2.2.2.2.2.1, y0.1.2.2.2.2.2.2.2.2.2.2.2.2.2.2.2.2.2.2.2.2.2.2.2.2.2.2.2.2.2.2.2.2.2.2.2.2.2.2.2.2.2.2.2.2.2.2.2.2.2.2.2.2.1, y0.1.2.2.2.2.2.2.2.2.2.2.2.2.2.2.2.2.2.2.2.2.2.2.2.2.2.2.2.2.2.2.2.2.2.2.2.2.2.2.2.2.2.2.2.2.2.2.2.2.2.2.2.2.2.1, y0.1.2.2.2.2.2.2.2.2.2.2.2.2.2.2.2.2.2.2.2.2.2.2.2.2.2.2.2.2.2.2.2.2.2.2.2.2.2.2.2.2.2.2.2.2.2.2.2.2.2.2.2.2.2.2.1, y0.1.2.2.2.2.2.2.2.2.2.2.2.2.2.2.2.2.2.2.2.2.2.2.2.2.2.2.2.2.2.2.2.2.2.2.2.2.2.2.2.2.2.2.2.2.2.2.2.2.2.2.2.2.2.2.2.1, y0.1.2.2.2.2.2.2.2.2.2.2.2.2.2.2.2.2.2.2.2.2.2.2.2.2.2.2.2.2.2.2.2.2.2.2.2.2.2.2.2.2.2.2.2.2.2.2.2.2.2.2.2.2.2.2.2.2.1, y0.1.2.2.2.2.2.2.2.2.2.2.2.2.2.2.2.2.2.2.2.2.2.2.2.2.2.2.2.2.2.2.2.2.2.2.2.2.2.2.2.2.2.2.2.2.2.2.2.2.2.2.2.2.2.2.2.2.2.1, y0.1.2.2.2.2.2.2.2.2.2.2.2.2.2.2.2.2.2.2.2.2.2.2.2.2.2.2.2.2.2.2.2.2.2.2.2.2.2.2.2.2.2.2.2.2.2.2.2.2.2.2.2.2.2.2.2.2.2.2.1, y0.1.2.2.2.2.2.2.2.2.2.2.2.2.2.2.2.2.2.2.2.2.2.2.2.2.2.2.2.2.2.2.2.2.2.2.2.2.2.2.2.2.2.2.2.2.2.2.2.2.2.2.2.2.2.2.2.2.2.2.2.1, y0.1.2.2.2.2.2.2.2.2.2.2.2.2.2.2.2.2.2.2.2.2.2.2.2.2.2.2.2.2.2.2.2.2.2.2.2.2.2.2.2.2.2.2.2.2.2.2.2.2.2.2.2.2.2.2.2.2.2.2.2.2.1, y0.1.2.2.2.2.2.2.2.2.2.2.2.2.2.2.2.2.2.2.2.2.2.2.2.2.2.2.2.2.2.2.2.2.2.2.2.2.2.2.2.2.2.2.2.2.2.2.2.2.2.2.2.2.2.2.2.2.2.2.2.2.2.1, y0.1.2.2.2.2.2.2.2.2.2.2.2.2.2.2.2.2.2.2.2.2.2.2.2.2.2.2.2.2.2.2.2.2.2.2.2.2.2.2.2.2.2.2.2.2.2.2.2.2.2.2.2.2.2.2.2.2.2.2.2.2.2.2.1, y0.1.2.2.2.2.2.2.2.2.2.2.2.2.2.2.2.2.2.2.2.2.2.2.2.2.2.2.2.2.2.2.2.2.2.2.2.2.2.2.2.2.2.2.2.2.2.2.2.2.2.2.2.2.2.2.2.2.2.2.2.2.2.2.2.1] : List Int) y0.2.2.2.2.2.2.2.2.2.2.2.1))) + (Ty.rd (t := (.int .i64)) y0.2.1 y0.2.2.2.2.2.2.2.2.2.2.2.1))))) (4294967295 : Int)), (y0.2.2.2.2.2.2.2.1, (y0.2.2.2.2.2.2.2.2.1, (y0.2.2.2.2.2.2.2.2.2.1, ((wi64 (y0.2.2.2.2.2.2.2.2.2.2.2.1 + (1 : Int))), ()))))))))))))))))
else none)
else none)
else none))))
else
((fun (z1 : List (Int) × Int × Int × Int × Int × Int × Int × Int × Int × Unit) =>
(qAG (fun (rec2 : (List (Int) × List (Int) × Int × Int × Unit) → Option _) (y2 : List (Int) × List (Int) × Int × Int × Unit) =>
(if (decide (y2.2.2.2.1 < y2.2.2.1)) = true then
(if 0 ≤ y2.2.2.2.1 ∧ y2.2.2.2.1 < (List.length y2.2.1 : Int) then
(if 0 ≤ y2.2.2.2.1 ∧ y2.2.2.2.1 < (List.length y2.1 : Int) then
(if 0 ≤ y2.2.2.2.1 ∧ y2.2.2.2.1 < (List.length y2.1 : Int) then
(rec2 ((List.set y2.1 (Int.toNat y2.2.2.2.1) (qAR .and .i64 (wi64 ((Ty.rd (t := (.int .i64)) y2.1 y2.2.2.2.1) + (Ty.rd (t := (.int .i64)) y2.2.1 y2.2.2.2.1))) (4294967295 : Int))), (y2.2.1, (y2.2.2.1, ((wi64 (y2.2.2.2.1 + (1 : Int))), ())))))
else none)
else none)
else none)
else
((fun (z2 : List (Int) × Unit) =>
((qCh k (z2.1, ())).bind fun p10 =>
some (p10.1, ((), ((), ()))))) (y2.1, ())))) k (z1.1, (([z1.2.1, z1.2.2.1, z1.2.2.2.1, z1.2.2.2.2.1, z1.2.2.2.2.2.1, z1.2.2.2.2.2.2.1, z1.2.2.2.2.2.2.2.1, z1.2.2.2.2.2.2.2.2.1] : List (Int)), ((List.length ([z1.2.1, z1.2.2.1, z1.2.2.2.1, z1.2.2.2.2.1, z1.2.2.2.2.2.1, z1.2.2.2.2.2.2.1, z1.2.2.2.2.2.2.2.1, z1.2.2.2.2.2.2.2.2.1] : List (Int)) : Int), ((0 : Int), ())))))) (y0.2.2.1, (y0.2.2.2.1, (y0.2.2.2.2.1, (y0.2.2.2.2.2.1, (y0.2.2.2.2.2.2.1, (y0.2.2.2.2.2.2.2.1, (y0.2.2.2.2.2.2.2.2.1, (y0.2.2.2.2.2.2.2.2.2.1, (y0.2.2.2.2.2.2.2.2.2.2.1, ())))))))))))) k (p1.1, (p2.1, (p3.1, ((Ty.rd (t := (.int .i64)) p3.1 (0 : Int)), ((Ty.rd (t := (.int .i64)) p3.1 (1 : Int)), ((Ty.rd (t := (.int .i64)) p3.1 (2 : Int)), ((Ty.rd (t := (.int .i64)) p3.1 (3 : Int)), ((Ty.rd (t := (.int .i64)) p3.1 (4 : Int)), ((Ty.rd (t := (.int .i64)) p3.1 (5 : Int)), ((Ty.rd (t := (.int .i64)) p3.1 (6 : Int)), ((Ty.rd (t := (.int .i64)) p3.1 (7 : Int)), ((0 : Int), ())))))))))))))
else none)
else none)
else none)
else none)
else none)
else none)
else none)
else none))))
abbrev E_i_round (k : Nat) : qAI := ⟨284, 0, yP24, .str, i_round k⟩
theorem t_i_round (k : Nat) (x) : evF TTab k [qEn k, qHY k, E_i_expanded k, qG0 k, qEp k] [(0, ⟨[5, 6, 7, 8, 9, 10, 11, 12, 13, 14, 15, 52], (.cons (.ptr 0 yP7) (.cons yP12 (.cons yP12 (.cons (.int .i64) (.cons (.int .i64) (.cons (.int .i64) (.cons (.int .i64) (.cons (.int .i64) (.cons (.int .i64) yP19)))))))))⟩, ⟨[7, 8, 9, 10, 11, 12, 13, 14, 15], (.cons yP12 (.cons (.int .i64) (.cons (.int .i64) (.cons (.int .i64) (.cons (.int .i64) (.cons (.int .i64) yP19))))))⟩), (2, ⟨[7, 128, 129, 130], (.cons yP12 (.cons yP12 (.cons (.int .i64) yP2)))⟩, ⟨[7], (.cons yP12 .nil)⟩)] Tryz.f284 yP24 .str x = i_round k x := by kernel_rfl
theorem e_i_round [Names] (k : Nat) : qAD Tryz.prog (E_i_round k) := qAC tok (qAB (qHX k) (qAB (e_i_constants k) (qAB (e_i_expanded k) (qAB (e_i_wordsOf k) (qAB (qHZ k) qAF))))) (by kernel_rfl) (by kernel_rfl) (by kernel_rfl) fun x r h => (t_i_round k x).trans h
def i_rounds (k : Nat) (x : ByteArray × ByteArray × Unit) : Option ((ByteArray × ByteArray × Unit) × Unit × Unit × Unit) :=
(qAG (fun (rec0 : (ByteArray × ByteArray × Unit) → Option _) (y0 : ByteArray × ByteArray × Unit) =>
(if (decide ((64 : Int) ≤ (ByteArray.size y0.2.1 : Int))) = true then
(if 0 ≤ (64 : Int) ∧ (64 : Int) ≤ (ByteArray.size y0.2.1 : Int) then
((i_round k (y0.1, ((ByteArray.extract y0.2.1 (Int.toNat (0 : Int)) (Int.toNat (64 : Int))), ()))).bind fun p1 =>
(if 0 ≤ (64 : Int) ∧ (64 : Int) ≤ (ByteArray.size y0.2.1 : Int) then
(rec0 (p1.1, ((ByteArray.extract y0.2.1 (Int.toNat (64 : Int)) (Int.toNat (ByteArray.size y0.2.1 : Int))), ())))
else none))
else none)
else
((fun (z1 : ByteArray × ByteArray × Unit) =>
some ((z1.1, (z1.2.1, ())), ((), ((), ())))) (y0.1, (y0.2.1, ()))))) k (x.1, (x.2.1, ())))
abbrev E_i_rounds (k : Nat) : qAI := ⟨227, 0, yP24, (.tup yP24), i_rounds k⟩
theorem t_i_rounds (k : Nat) (x) : evF TTab k [E_i_round k] [(0, ⟨[0, 1], yP24⟩, ⟨[0, 1], yP24⟩)] Tryz.f227 yP24 (.tup yP24) x = i_rounds k x := by kernel_rfl
theorem e_i_rounds [Names] (k : Nat) : qAD Tryz.prog (E_i_rounds k) := qAC tok (qAB (e_i_round k) qAF) (by kernel_rfl) (by kernel_rfl) (by kernel_rfl) fun x r h => (t_i_rounds k x).trans h
def qCt (k : Nat) (x : Unit) : Option (ByteArray × Unit) :=
((qCh k (([(1779033703 : Int), (3144134277 : Int), (1013904242 : Int), (2773480762 : Int), (1359893119 : Int), (2600822924 : Int), (528734635 : Int), (1541459225 : Int)] : List (Int)), ())).bind fun p1 =>
some (p1.1, ()))
abbrev qGi (k : Nat) : qAI := ⟨228, 0, .nil, .str, qCt k⟩
theorem t_i_firstState (k : Nat) (x) : evF TTab k [qEn k] [] Tryz.f228 .nil .str x = qCt k x := by kernel_rfl
theorem e_i_firstState [Names] (k : Nat) : qAD Tryz.prog (qGi k) := qAC tok (qAB (qHX k) qAF) (by kernel_rfl) (by kernel_rfl) (by kernel_rfl) fun x r h => (t_i_firstState k x).trans h
def qAs (k : Nat) (x : ByteArray × Int × Unit) : Option (ByteArray × Unit × Unit × Unit) := repF x
abbrev qCT (k : Nat) : qAI := ⟨286, 0, (.cons .str yP2), .str, qAs k⟩
theorem qDp [Names] (k : Nat) : qAD Tryz.prog (qCT k) := entry_repeat Tryz.func286 (by kernel_rfl) Tryz.strings_Repeat
def qFb (k : Nat) (x : Int × Unit) : Option (ByteArray × Unit × Unit) :=
((qAs k ((⟨#[0]⟩ : ByteArray), ((Int.tmod (wi64 ((119 : Int) - (Int.tmod x.1 (64 : Int)))) (64 : Int)), ()))).bind fun p1 =>
(if ByteArray.size (⟨#[128]⟩ : ByteArray) + ByteArray.size p1.1 ≤ maxStr then
((qBo k ((Int.fdiv (wi64 ((8 : Int) * x.1)) (2 ^ (min (Int.toNat (32 : Int)) (IntKind.bits .i64)))), ())).bind fun p2 =>
(if ByteArray.size ((⟨#[128]⟩ : ByteArray) ++ p1.1) + ByteArray.size p2.1 ≤ maxStr then
((qBo k ((qAR .and .i64 (wi64 ((8 : Int) * x.1)) (4294967295 : Int)), ())).bind fun p3 =>
(if ByteArray.size (((⟨#[128]⟩ : ByteArray) ++ p1.1) ++ p2.1) + ByteArray.size p3.1 ≤ maxStr then
some (((((⟨#[128]⟩ : ByteArray) ++ p1.1) ++ p2.1) ++ p3.1), ((), ()))
else none))
else none))
else none))
abbrev E_i_padding (k : Nat) : qAI := ⟨229, 0, yP2, .str, qFb k⟩
theorem t_i_padding (k : Nat) (x) : evF TTab k [qD0 k, qCT k] [] Tryz.f229 yP2 .str x = qFb k x := by kernel_rfl
theorem e_i_padding [Names] (k : Nat) : qAD Tryz.prog (E_i_padding k) := qAC tok (qAB (qGg k) (qAB (qDp k) qAF)) (by kernel_rfl) (by kernel_rfl) (by kernel_rfl) fun x r h => (t_i_padding k x).trans h
def qBO (k : Nat) (x : ByteArray × Unit) : Option (ByteArray × Unit × Unit) :=
((qCt k ()).bind fun p1 =>
((qFb k ((ByteArray.size x.1 : Int), ())).bind fun p2 =>
(if ByteArray.size x.1 + ByteArray.size p2.1 ≤ maxStr then
((i_rounds k (p1.1, ((x.1 ++ p2.1), ()))).bind fun p3 =>
some (p3.1.1, ((), ())))
else none)))
abbrev E_i_DigestOf (k : Nat) : qAI := ⟨141, 0, (.cons .str .nil), .str, qBO k⟩
theorem t_i_DigestOf (k : Nat) (x) : evF TTab k [E_i_rounds k, qGi k, E_i_padding k] [] Tryz.f141 (.cons .str .nil) .str x = qBO k x := by kernel_rfl
theorem e_i_DigestOf [Names] (k : Nat) : qAD Tryz.prog (E_i_DigestOf k) := qAC tok (qAB (e_i_rounds k) (qAB (e_i_firstState k) (qAB (e_i_padding k) qAF))) (by kernel_rfl) (by kernel_rfl) (by kernel_rfl) fun x r h => (t_i_DigestOf k x).trans h
def qGK (k : Nat) (x : List (Int) × Unit) : Option (Bool × Unit × Unit) :=
(qAG (fun (rec0 : (List (Int) × List (Int) × Int × Int × Unit) → Option _) (y0 : List (Int) × List (Int) × Int × Int × Unit) =>
(if (decide (y0.2.2.2.1 < y0.2.2.1)) = true then
(if 0 ≤ y0.2.2.2.1 ∧ y0.2.2.2.1 < (List.length y0.2.1 : Int) then
((qAn k ((Ty.rd (t := (.int .i64)) y0.2.1 y0.2.2.2.1), ((1 : Int), ((1000000000 : Int), ())))).bind fun p1 =>
(if (!p1.1) = false then
(if (decide ((0 : Int) < y0.2.2.2.1)) = true then
(if 0 ≤ (wi64 (y0.2.2.2.1 - (1 : Int))) ∧ (wi64 (y0.2.2.2.1 - (1 : Int))) < (List.length y0.1 : Int) then
(if (decide ((Ty.rd (t := (.int .i64)) y0.1 (wi64 (y0.2.2.2.1 - (1 : Int)))) ≤ (Ty.rd (t := (.int .i64)) y0.2.1 y0.2.2.2.1))) = false then
(if 0 ≤ (0 : Int) ∧ (0 : Int) < (List.length y0.1 : Int) then
(if (decide ((Ty.rd (t := (.int .i64)) y0.2.1 y0.2.2.2.1) ≤ (wi64 ((Ty.rd (t := (.int .i64)) y0.1 (0 : Int)) - (6 : Int))))) = true then
some (false, ((), ()))
else
(rec0 (y0.1, (y0.2.1, (y0.2.2.1, ((wi64 (y0.2.2.2.1 + (1 : Int))), ()))))))
else none)
else
some (false, ((), ())))
else none)
else
(if 0 ≤ (0 : Int) ∧ (0 : Int) < (List.length y0.1 : Int) then
(if (decide ((Ty.rd (t := (.int .i64)) y0.2.1 y0.2.2.2.1) ≤ (wi64 ((Ty.rd (t := (.int .i64)) y0.1 (0 : Int)) - (6 : Int))))) = true then
some (false, ((), ()))
else
(rec0 (y0.1, (y0.2.1, (y0.2.2.1, ((wi64 (y0.2.2.2.1 + (1 : Int))), ()))))))
else none))
else
some (false, ((), ()))))
else none)
else
((fun (z1 : List (Int) × Unit) =>
some ((decide ((List.length z1.1 : Int) ≤ (6 : Int))), ((), ()))) (y0.1, ())))) k (x.1, (x.1, ((List.length x.1 : Int), ((0 : Int), ())))))
abbrev E_i_SeenOk (k : Nat) : qAI := ⟨295, 0, (.cons (.il true (.int .i64)) .nil), .bool, qGK k⟩
theorem t_i_SeenOk (k : Nat) (x) : evF TTab k [qBB k] [(0, ⟨[0, 5, 6, 7], (.cons (.il true (.int .i64)) (.cons (.il true (.int .i64)) (.cons (.int .i64) yP2)))⟩, ⟨[0], (.cons (.il true (.int .i64)) .nil)⟩)] Tryz.f295 (.cons (.il true (.int .i64)) .nil) .bool x = qGK k x := by kernel_rfl
theorem e_i_SeenOk [Names] (k : Nat) : qAD Tryz.prog (E_i_SeenOk k) := qAC tok (qAB (qBG k) qAF) (by kernel_rfl) (by kernel_rfl) (by kernel_rfl) fun x r h => (t_i_SeenOk k x).trans h
def qGL (k : Nat) (x : (Int × ByteArray × ByteArray × Int × List (Int) × Int × Unit) × Unit) : Option (Bool × Unit × Unit) :=
(if (decide (x.1.1 = (0 : Int))) = true then
(if (decide (x.1.2.1 = (⟨#[]⟩ : ByteArray))) = true then
(if (decide (x.1.2.2.1 = (⟨#[]⟩ : ByteArray))) = true then
(if (decide (x.1.2.2.2.1 = (0 : Int))) = true then
(if (decide ((List.length x.1.2.2.2.2.1 : Int) = (0 : Int))) = true then
some ((decide (x.1.2.2.2.2.2.1 = (0 : Int))), ((), ()))
else
some (false, ((), ())))
else
some (false, ((), ())))
else
some (false, ((), ())))
else
some (false, ((), ())))
else
(if (decide ((ByteArray.size x.1.2.1 : Int) = (32 : Int))) = true then
((qAn k (x.1.1, ((1 : Int), ((1000000000 : Int), ())))).bind fun p1 =>
(if p1.1 = true then
(if (decide ((ByteArray.size x.1.2.2.1 : Int) = (32 : Int))) = true then
((qAn k (x.1.2.2.2.1, ((0 : Int), ((12 : Int), ())))).bind fun p2 =>
(if p2.1 = true then
((qGK k (x.1.2.2.2.2.1, ())).bind fun p3 =>
(if p3.1 = true then
((qAn k (x.1.2.2.2.2.2.1, ((0 : Int), ((1000000000 : Int), ())))).bind fun p4 =>
some (p4.1, ((), ())))
else
some (false, ((), ()))))
else
some (false, ((), ()))))
else
some (false, ((), ())))
else
some (false, ((), ()))))
else
((qAn k (x.1.1, ((1 : Int), ((1000000000 : Int), ())))).bind fun p5 =>
(if p5.1 = true then
some (false, ((), ()))
else
some (false, ((), ()))))))
abbrev E_i_SlotOk (k : Nat) : qAI := ⟨256, 0, (.cons yP10 .nil), .bool, qGL k⟩
theorem t_i_SlotOk (k : Nat) (x) : evF TTab k [qBB k, E_i_SeenOk k] [] Tryz.f256 (.cons yP10 .nil) .bool x = qGL k x := by kernel_rfl
theorem e_i_SlotOk [Names] (k : Nat) : qAD Tryz.prog (E_i_SlotOk k) := qAC tok (qAB (qBG k) (qAB (e_i_SeenOk k) qAF)) (by kernel_rfl) (by kernel_rfl) (by kernel_rfl) fun x r h => (t_i_SlotOk k x).trans h
def qFc (k : Nat) (x : (Int × ByteArray × ByteArray × Int × List (Int) × Int × Int × ByteArray × ByteArray × Int × List (Int) × Int × Unit) × Unit) : Option (Bool × Unit × Unit) :=
((qGL k ((x.1.1, (x.1.2.1, (x.1.2.2.1, (x.1.2.2.2.1, (x.1.2.2.2.2.1, (x.1.2.2.2.2.2.1, ())))))), ())).bind fun p1 =>
(if p1.1 = true then
((qGL k ((x.1.2.2.2.2.2.2.1, (x.1.2.2.2.2.2.2.2.1, (x.1.2.2.2.2.2.2.2.2.1, (x.1.2.2.2.2.2.2.2.2.2.1, (x.1.2.2.2.2.2.2.2.2.2.2.1, (x.1.2.2.2.2.2.2.2.2.2.2.2.1, ())))))), ())).bind fun p2 =>
(if p2.1 = true then
(if (decide (x.1.2.2.2.2.2.2.1 = (0 : Int))) = false then
some ((decide (x.1.2.2.2.2.2.2.1 < x.1.1)), ((), ()))
else
some (true, ((), ())))
else
some (false, ((), ()))))
else
some (false, ((), ()))))
abbrev E_i_SlotsOk (k : Nat) : qAI := ⟨185, 0, (.cons yP4 .nil), .bool, qFc k⟩
theorem t_i_SlotsOk (k : Nat) (x) : evF TTab k [E_i_SlotOk k] [] Tryz.f185 (.cons yP4 .nil) .bool x = qFc k x := by kernel_rfl
theorem e_i_SlotsOk [Names] (k : Nat) : qAD Tryz.prog (E_i_SlotsOk k) := qAC tok (qAB (e_i_SlotOk k) qAF) (by kernel_rfl) (by kernel_rfl) (by kernel_rfl) fun x r h => (t_i_SlotsOk k x).trans h
def qGM (k : Nat) (x : List (Int) × Int × Unit) : Option (Int × Unit × Unit × Unit) :=
(if (decide ((wi64 (x.2.1 - (List.length x.1 : Int))) < (0 : Int))) = true then
some ((-1 : Int), ((), ((), ())))
else
some ((wi64 (x.2.1 - (List.length x.1 : Int))), ((), ((), ()))))
abbrev E_w_szIntS (k : Nat) : qAI := ⟨111, 0, yP18, (.int .i64), qGM k⟩
theorem t_w_szIntS (k : Nat) (x) : evF TTab k [] [] Tryz.f111 yP18 (.int .i64) x = qGM k x := by kernel_rfl
theorem e_w_szIntS [Names] (k : Nat) : qAD Tryz.prog (E_w_szIntS k) := qAC tok qAF (by kernel_rfl) (by kernel_rfl) (by kernel_rfl) fun x r h => (t_w_szIntS k x).trans h
def qGN (k : Nat) (x : (Int × ByteArray × ByteArray × Int × List (Int) × Int × Unit) × Int × Unit) : Option (Int × Unit × Unit × Unit) :=
(if (decide ((wi64 (x.2.1 - (ByteArray.size x.1.2.1 : Int))) < (0 : Int))) = true then
some ((-1 : Int), ((), ((), ())))
else
(if (decide ((wi64 ((wi64 (x.2.1 - (ByteArray.size x.1.2.1 : Int))) - (ByteArray.size x.1.2.2.1 : Int))) < (0 : Int))) = true then
some ((-1 : Int), ((), ((), ())))
else
((qGM k (x.1.2.2.2.2.1, ((wi64 ((wi64 (x.2.1 - (ByteArray.size x.1.2.1 : Int))) - (ByteArray.size x.1.2.2.1 : Int))), ()))).bind fun p1 =>
(if (decide (p1.1 < (0 : Int))) = true then
some ((-1 : Int), ((), ((), ())))
else
some (p1.1, ((), ((), ())))))))
abbrev E_w_szSlot (k : Nat) : qAI := ⟨168, 0, (.cons yP10 yP2), (.int .i64), qGN k⟩
theorem t_w_szSlot (k : Nat) (x) : evF TTab k [E_w_szIntS k] [] Tryz.f168 (.cons yP10 yP2) (.int .i64) x = qGN k x := by kernel_rfl
theorem e_w_szSlot [Names] (k : Nat) : qAD Tryz.prog (E_w_szSlot k) := qAC tok (qAB (e_w_szIntS k) qAF) (by kernel_rfl) (by kernel_rfl) (by kernel_rfl) fun x r h => (t_w_szSlot k x).trans h
def qFd (k : Nat) (x : (Int × ByteArray × ByteArray × Int × List (Int) × Int × Int × ByteArray × ByteArray × Int × List (Int) × Int × Unit) × Int × Unit) : Option (Int × Unit × Unit × Unit) :=
((qGN k ((x.1.1, (x.1.2.1, (x.1.2.2.1, (x.1.2.2.2.1, (x.1.2.2.2.2.1, (x.1.2.2.2.2.2.1, ())))))), (x.2.1, ()))).bind fun p1 =>
(if (decide (p1.1 < (0 : Int))) = true then
some ((-1 : Int), ((), ((), ())))
else
((qGN k ((x.1.2.2.2.2.2.2.1, (x.1.2.2.2.2.2.2.2.1, (x.1.2.2.2.2.2.2.2.2.1, (x.1.2.2.2.2.2.2.2.2.2.1, (x.1.2.2.2.2.2.2.2.2.2.2.1, (x.1.2.2.2.2.2.2.2.2.2.2.2.1, ())))))), (p1.1, ()))).bind fun p2 =>
(if (decide (p2.1 < (0 : Int))) = true then
some ((-1 : Int), ((), ((), ())))
else
some (p2.1, ((), ((), ())))))))
abbrev E_w_szSlots (k : Nat) : qAI := ⟨90, 0, (.cons yP4 yP2), (.int .i64), qFd k⟩
theorem t_w_szSlots (k : Nat) (x) : evF TTab k [E_w_szSlot k] [] Tryz.f90 (.cons yP4 yP2) (.int .i64) x = qFd k x := by kernel_rfl
theorem e_w_szSlots [Names] (k : Nat) : qAD Tryz.prog (E_w_szSlots k) := qAC tok (qAB (e_w_szSlot k) qAF) (by kernel_rfl) (by kernel_rfl) (by kernel_rfl) fun x r h => (t_w_szSlots k x).trans h
def qDR (k : Nat) (x : List (ByteArray) × Int × Unit) : Option (Int × Unit × Unit × Unit) :=
(if (decide ((wi64 (x.2.1 - (List.length x.1 : Int))) < (0 : Int))) = true then
some ((-1 : Int), ((), ((), ())))
else
(qAG (fun (rec0 : (List (ByteArray) × Int × Int × Unit) → Option _) (y0 : List (ByteArray) × Int × Int × Unit) =>
(if (decide (y0.2.2.1 < (List.length y0.1 : Int))) = true then
(if 0 ≤ y0.2.2.1 ∧ y0.2.2.1 < (List.length y0.1 : Int) then
(if (decide ((wi64 (y0.2.1 - (ByteArray.size (Ty.rd (t := .str) y0.1 y0.2.2.1) : Int))) < (0 : Int))) = true then
some ((-1 : Int), ((), ((), ())))
else
(rec0 (y0.1, ((wi64 (y0.2.1 - (ByteArray.size (Ty.rd (t := .str) y0.1 y0.2.2.1) : Int))), ((wi64 (y0.2.2.1 + (1 : Int))), ())))))
else none)
else
((fun (z1 : Int × Unit) =>
some (z1.1, ((), ((), ())))) (y0.2.1, ())))) k (x.1, ((wi64 (x.2.1 - (List.length x.1 : Int))), ((0 : Int), ())))))
abbrev qHa (k : Nat) : qAI := ⟨288, 0, (.cons (.il true .str) yP2), (.int .i64), qDR k⟩
theorem t_w_szStringS (k : Nat) (x) : evF TTab k [] [(0, ⟨[0, 1, 5], (.cons (.il true .str) (.cons (.int .i64) yP2))⟩, ⟨[1], yP2⟩)] Tryz.f288 (.cons (.il true .str) yP2) (.int .i64) x = qDR k x := by kernel_rfl
theorem e_w_szStringS [Names] (k : Nat) : qAD Tryz.prog (qHa k) := qAC tok qAF (by kernel_rfl) (by kernel_rfl) (by kernel_rfl) fun x r h => (t_w_szStringS k x).trans h
def qFe (k : Nat) (x : List (Bool) × Int × Unit) : Option (Int × Unit × Unit × Unit) :=
(if (decide ((wi64 (x.2.1 - (List.length x.1 : Int))) < (0 : Int))) = true then
some ((-1 : Int), ((), ((), ())))
else
some ((wi64 (x.2.1 - (List.length x.1 : Int))), ((), ((), ()))))
abbrev E_w_szBoolS (k : Nat) : qAI := ⟨289, 0, (.cons (.il true .bool) yP2), (.int .i64), qFe k⟩
theorem t_w_szBoolS (k : Nat) (x) : evF TTab k [] [] Tryz.f289 (.cons (.il true .bool) yP2) (.int .i64) x = qFe k x := by kernel_rfl
theorem e_w_szBoolS [Names] (k : Nat) : qAD Tryz.prog (E_w_szBoolS k) := qAC tok qAF (by kernel_rfl) (by kernel_rfl) (by kernel_rfl) fun x r h => (t_w_szBoolS k x).trans h
def qHb (k : Nat) (x : (Int × Int × Int × List (ByteArray) × List (Bool) × Int × Unit) × Int × Unit) : Option (Int × Unit × Unit × Unit) :=
((qDR k (x.1.2.2.2.1, (x.2.1, ()))).bind fun p1 =>
(if (decide (p1.1 < (0 : Int))) = true then
some ((-1 : Int), ((), ((), ())))
else
((qFe k (x.1.2.2.2.2.1, (p1.1, ()))).bind fun p2 =>
(if (decide (p2.1 < (0 : Int))) = true then
some ((-1 : Int), ((), ((), ())))
else
some (p2.1, ((), ((), ())))))))
abbrev E_w_szHeld (k : Nat) : qAI := ⟨246, 0, (.cons (.agg yP9) yP2), (.int .i64), qHb k⟩
theorem t_w_szHeld (k : Nat) (x) : evF TTab k [qHa k, E_w_szBoolS k] [] Tryz.f246 (.cons (.agg yP9) yP2) (.int .i64) x = qHb k x := by kernel_rfl
theorem e_w_szHeld [Names] (k : Nat) : qAD Tryz.prog (E_w_szHeld k) := qAC tok (qAB (e_w_szStringS k) (qAB (e_w_szBoolS k) qAF)) (by kernel_rfl) (by kernel_rfl) (by kernel_rfl) fun x r h => (t_w_szHeld k x).trans h
def qFf (k : Nat) (x : (List (Int × Int × Int × List (ByteArray) × List (Bool) × Int)) × Int × Unit) : Option (Int × Unit × Unit × Unit) :=
(if (decide ((wi64 (x.2.1 - (List.length x.1 : Int))) < (0 : Int))) = true then
some ((-1 : Int), ((), ((), ())))
else
(qAG (fun (rec0 : ((List (Int × Int × Int × List (ByteArray) × List (Bool) × Int)) × Int × Int × Unit) → Option _) (y0 : (List (Int × Int × Int × List (ByteArray) × List (Bool) × Int)) × Int × Int × Unit) =>
(if (decide (y0.2.2.1 < (List.length y0.1 : Int))) = true then
(if 0 ≤ y0.2.2.1 ∧ y0.2.2.1 < (List.length y0.1 : Int) then
((qHb k (((Ty.rd (t := yT0) y0.1 y0.2.2.1).1, ((Ty.rd (t := yT0) y0.1 y0.2.2.1).2.1, ((Ty.rd (t := yT0) y0.1 y0.2.2.1).2.2.1, ((Ty.rd (t := yT0) y0.1 y0.2.2.1).2.2.2.1, ((Ty.rd (t := yT0) y0.1 y0.2.2.1).2.2.2.2.1, ((Ty.rd (t := yT0) y0.1 y0.2.2.1).2.2.2.2.2, ())))))), (y0.2.1, ()))).bind fun p1 =>
(if (decide (p1.1 < (0 : Int))) = true then
some ((-1 : Int), ((), ((), ())))
else
(rec0 (y0.1, (p1.1, ((wi64 (y0.2.2.1 + (1 : Int))), ()))))))
else none)
else
((fun (z1 : Int × Unit) =>
some (z1.1, ((), ((), ())))) (y0.2.1, ())))) k (x.1, ((wi64 (x.2.1 - (List.length x.1 : Int))), ((0 : Int), ())))))
abbrev E_w_szHeldS (k : Nat) : qAI := ⟨169, 0, (.cons (.il true yT0) yP2), (.int .i64), qFf k⟩
theorem t_w_szHeldS (k : Nat) (x) : evF qCs k [E_w_szHeld k] [(0, ⟨[0, 1, 5], (.cons (.il true yT0) (.cons (.int .i64) yP2))⟩, ⟨[1], yP2⟩)] Tryz.f169 (.cons (.il true yT0) yP2) (.int .i64) x = qFf k x := by kernel_rfl
theorem e_w_szHeldS [Names] (k : Nat) : qAD Tryz.prog (E_w_szHeldS k) := qAC tokO (qAB (e_w_szHeld k) qAF) (by kernel_rfl) (by kernel_rfl) (by kernel_rfl) fun x r h => (t_w_szHeldS k x).trans h
def qFg (k : Nat) (x : ((List (Int × Int × Int × List (ByteArray) × List (Bool) × Int)) × Unit) × Int × Unit) : Option (Int × Unit × Unit × Unit) :=
((qFf k (x.1.1, (x.2.1, ()))).bind fun p1 =>
(if (decide (p1.1 < (0 : Int))) = true then
some ((-1 : Int), ((), ((), ())))
else
some (p1.1, ((), ((), ())))))
abbrev E_w_szShelf (k : Nat) : qAI := ⟨91, 0, (.cons (.agg yP13) yP2), (.int .i64), qFg k⟩
theorem t_w_szShelf (k : Nat) (x) : evF qCs k [E_w_szHeldS k] [] Tryz.f91 (.cons (.agg yP13) yP2) (.int .i64) x = qFg k x := by kernel_rfl
theorem e_w_szShelf [Names] (k : Nat) : qAD Tryz.prog (E_w_szShelf k) := qAC tokO (qAB (e_w_szHeldS k) qAF) (by kernel_rfl) (by kernel_rfl) (by kernel_rfl) fun x r h => (t_w_szShelf k x).trans h
def qHc (k : Nat) (x : (Int × Int × Int × ByteArray × ByteArray × Int × List (Int) × Int × Int × ByteArray × ByteArray × Int × List (Int) × Int × (List (Int × Int × Int × List (ByteArray) × List (Bool) × Int)) × Int × Unit) × Int × Unit) : Option (Int × Unit × Unit × Unit) :=
((qFd k ((x.1.2.2.1, (x.1.2.2.2.1, (x.1.2.2.2.2.1, (x.1.2.2.2.2.2.1, (x.1.2.2.2.2.2.2.1, (x.1.2.2.2.2.2.2.2.1, (x.1.2.2.2.2.2.2.2.2.1, (x.1.2.2.2.2.2.2.2.2.2.1, (x.1.2.2.2.2.2.2.2.2.2.2.1, (x.1.2.2.2.2.2.2.2.2.2.2.2.1, (x.1.2.2.2.2.2.2.2.2.2.2.2.2.1, (x.1.2.2.2.2.2.2.2.2.2.2.2.2.2.1, ())))))))))))), (x.2.1, ()))).bind fun p1 =>
(if (decide (p1.1 < (0 : Int))) = true then
some ((-1 : Int), ((), ((), ())))
else
((qFg k ((x.1.2.2.2.2.2.2.2.2.2.2.2.2.2.2.1, ()), (p1.1, ()))).bind fun p2 =>
(if (decide (p2.1 < (0 : Int))) = true then
some ((-1 : Int), ((), ((), ())))
else
some (p2.1, ((), ((), ())))))))
abbrev E_w_szUser (k : Nat) : qAI := ⟨28, 0, (.cons yP3 yP2), (.int .i64), qHc k⟩
theorem t_w_szUser (k : Nat) (x) : evF qCs k [E_w_szSlots k, E_w_szShelf k] [] Tryz.f28 (.cons yP3 yP2) (.int .i64) x = qHc k x := by kernel_rfl
theorem e_w_szUser [Names] (k : Nat) : qAD Tryz.prog (E_w_szUser k) := qAC tokO (qAB (e_w_szSlots k) (qAB (e_w_szShelf k) qAF)) (by kernel_rfl) (by kernel_rfl) (by kernel_rfl) fun x r h => (t_w_szUser k x).trans h
def qGO (k : Nat) (x : List (Int) × Unit) : Option (List (Int) × Unit × Unit) :=
(if (List.length x.1 : Int) = (List.length x.1 : Int) then
(if 0 ≤ (List.length x.1 : Int) ∧ (List.length x.1 : Int) ≤ (capMax : Int) then
(qAG (fun (rec0 : (List (Int) × List (Int) × Int × Unit) → Option _) (y0 : List (Int) × List (Int) × Int × Unit) =>
(if (decide (y0.2.2.1 < (List.length y0.1 : Int))) = true then
(if 0 ≤ y0.2.2.1 ∧ y0.2.2.1 < (List.length y0.1 : Int) then
(if 0 ≤ y0.2.2.1 ∧ y0.2.2.1 < (List.length y0.2.1 : Int) then
(rec0 (y0.1, ((List.set y0.2.1 (Int.toNat y0.2.2.1) (Ty.rd (t := (.int .i64)) y0.1 y0.2.2.1)), ((wi64 (y0.2.2.1 + (1 : Int))), ()))))
else none)
else none)
else
((fun (z1 : List (Int) × Unit) =>
some (z1.1, ((), ()))) (y0.2.1, ())))) k (x.1, ((List.replicate (Int.toNat (List.length x.1 : Int)) (0 : Int)), ((0 : Int), ()))))
else none)
else none)
abbrev E_w_toIntS (k : Nat) : qAI := ⟨115, 0, (.cons (.il true (.int .i64)) .nil), yP12, qGO k⟩
theorem t_w_toIntS (k : Nat) (x) : evF TTab k [] [(0, ⟨[0, 3, 4], (.cons (.il true (.int .i64)) (.cons yP12 yP2))⟩, ⟨[3], (.cons yP12 .nil)⟩)] Tryz.f115 (.cons (.il true (.int .i64)) .nil) yP12 x = qGO k x := by kernel_rfl
theorem e_w_toIntS [Names] (k : Nat) : qAD Tryz.prog (E_w_toIntS k) := qAC tok qAF (by kernel_rfl) (by kernel_rfl) (by kernel_rfl) fun x r h => (t_w_toIntS k x).trans h
def qGP (k : Nat) (x : (Int × ByteArray × ByteArray × Int × List (Int) × Int × Unit) × Unit) : Option ((Int × ByteArray × ByteArray × Int × List (Int) × Int × Unit) × Unit × Unit) :=
((qGO k (x.1.2.2.2.2.1, ())).bind fun p1 =>
some ((x.1.1, (x.1.2.1, (x.1.2.2.1, (x.1.2.2.2.1, (p1.1, (x.1.2.2.2.2.2.1, ())))))), ((), ())))
abbrev E_w_toSlot (k : Nat) : qAI := ⟨178, 0, (.cons yP10 .nil), (.agg (.cons (.int .i64) (.cons .str (.cons .str (.cons (.int .i64) (.cons yP12 yP2)))))), qGP k⟩
theorem t_w_toSlot (k : Nat) (x) : evF TTab k [E_w_toIntS k] [] Tryz.f178 (.cons yP10 .nil) (.agg (.cons (.int .i64) (.cons .str (.cons .str (.cons (.int .i64) (.cons yP12 yP2)))))) x = qGP k x := by kernel_rfl
theorem e_w_toSlot [Names] (k : Nat) : qAD Tryz.prog (E_w_toSlot k) := qAC tok (qAB (e_w_toIntS k) qAF) (by kernel_rfl) (by kernel_rfl) (by kernel_rfl) fun x r h => (t_w_toSlot k x).trans h
def qFh (k : Nat) (x : (Int × ByteArray × ByteArray × Int × List (Int) × Int × Int × ByteArray × ByteArray × Int × List (Int) × Int × Unit) × Unit) : Option ((Int × ByteArray × ByteArray × Int × List (Int) × Int × Int × ByteArray × ByteArray × Int × List (Int) × Int × Unit) × Unit × Unit) :=
((qGP k ((x.1.1, (x.1.2.1, (x.1.2.2.1, (x.1.2.2.2.1, (x.1.2.2.2.2.1, (x.1.2.2.2.2.2.1, ())))))), ())).bind fun p1 =>
((qGP k ((x.1.2.2.2.2.2.2.1, (x.1.2.2.2.2.2.2.2.1, (x.1.2.2.2.2.2.2.2.2.1, (x.1.2.2.2.2.2.2.2.2.2.1, (x.1.2.2.2.2.2.2.2.2.2.2.1, (x.1.2.2.2.2.2.2.2.2.2.2.2.1, ())))))), ())).bind fun p2 =>
some ((p1.1.1, (p1.1.2.1, (p1.1.2.2.1, (p1.1.2.2.2.1, (p1.1.2.2.2.2.1, (p1.1.2.2.2.2.2.1, (p2.1.1, (p2.1.2.1, (p2.1.2.2.1, (p2.1.2.2.2.1, (p2.1.2.2.2.2.1, (p2.1.2.2.2.2.2.1, ())))))))))))), ((), ()))))
abbrev E_w_toSlots (k : Nat) : qAI := ⟨96, 0, (.cons yP4 .nil), (.agg yP8), qFh k⟩
theorem t_w_toSlots (k : Nat) (x) : evF TTab k [E_w_toSlot k] [] Tryz.f96 (.cons yP4 .nil) (.agg yP8) x = qFh k x := by kernel_rfl
theorem e_w_toSlots [Names] (k : Nat) : qAD Tryz.prog (E_w_toSlots k) := qAC tok (qAB (e_w_toSlot k) qAF) (by kernel_rfl) (by kernel_rfl) (by kernel_rfl) fun x r h => (t_w_toSlots k x).trans h
def qDS (k : Nat) (x : List (ByteArray) × Unit) : Option (List (ByteArray) × Unit × Unit) :=
(if (List.length x.1 : Int) = (List.length x.1 : Int) then
(if 0 ≤ (List.length x.1 : Int) ∧ (List.length x.1 : Int) ≤ (capMax : Int) then
(qAG (fun (rec0 : (List (ByteArray) × List (ByteArray) × Int × Unit) → Option _) (y0 : List (ByteArray) × List (ByteArray) × Int × Unit) =>
(if (decide (y0.2.2.1 < (List.length y0.1 : Int))) = true then
(if 0 ≤ y0.2.2.1 ∧ y0.2.2.1 < (List.length y0.1 : Int) then
(if 0 ≤ y0.2.2.1 ∧ y0.2.2.1 < (List.length y0.2.1 : Int) then
(rec0 (y0.1, ((List.set y0.2.1 (Int.toNat y0.2.2.1) (Ty.rd (t := .str) y0.1 y0.2.2.1)), ((wi64 (y0.2.2.1 + (1 : Int))), ()))))
else none)
else none)
else
((fun (z1 : List (ByteArray) × Unit) =>
some (z1.1, ((), ()))) (y0.2.1, ())))) k (x.1, ((List.replicate (Int.toNat (List.length x.1 : Int)) (⟨#[]⟩ : ByteArray)), ((0 : Int), ()))))
else none)
else none)
abbrev qHd (k : Nat) : qAI := ⟨293, 0, (.cons (.il true .str) .nil), (.own false 9 .str), qDS k⟩
theorem t_w_toStringS (k : Nat) (x) : evF TTab k [] [(0, ⟨[0, 3, 4], (.cons (.il true .str) (.cons (.own false 9 .str) yP2))⟩, ⟨[3], (.cons (.own false 9 .str) .nil)⟩)] Tryz.f293 (.cons (.il true .str) .nil) (.own false 9 .str) x = qDS k x := by kernel_rfl
theorem e_w_toStringS [Names] (k : Nat) : qAD Tryz.prog (qHd k) := qAC tok qAF (by kernel_rfl) (by kernel_rfl) (by kernel_rfl) fun x r h => (t_w_toStringS k x).trans h
def qFi (k : Nat) (x : List (Bool) × Unit) : Option (List (Bool) × Unit × Unit) :=
(if (List.length x.1 : Int) = (List.length x.1 : Int) then
(if 0 ≤ (List.length x.1 : Int) ∧ (List.length x.1 : Int) ≤ (capMax : Int) then
(qAG (fun (rec0 : (List (Bool) × List (Bool) × Int × Unit) → Option _) (y0 : List (Bool) × List (Bool) × Int × Unit) =>
(if (decide (y0.2.2.1 < (List.length y0.1 : Int))) = true then
(if 0 ≤ y0.2.2.1 ∧ y0.2.2.1 < (List.length y0.1 : Int) then
(if 0 ≤ y0.2.2.1 ∧ y0.2.2.1 < (List.length y0.2.1 : Int) then
(rec0 (y0.1, ((List.set y0.2.1 (Int.toNat y0.2.2.1) (Ty.rd (t := .bool) y0.1 y0.2.2.1)), ((wi64 (y0.2.2.1 + (1 : Int))), ()))))
else none)
else none)
else
((fun (z1 : List (Bool) × Unit) =>
some (z1.1, ((), ()))) (y0.2.1, ())))) k (x.1, ((List.replicate (Int.toNat (List.length x.1 : Int)) false), ((0 : Int), ()))))
else none)
else none)
abbrev E_w_toBoolS (k : Nat) : qAI := ⟨294, 0, (.cons (.il true .bool) .nil), (.own false 4 .bool), qFi k⟩
theorem t_w_toBoolS (k : Nat) (x) : evF TTab k [] [(0, ⟨[0, 3, 4], (.cons (.il true .bool) (.cons (.own false 4 .bool) yP2))⟩, ⟨[3], (.cons (.own false 4 .bool) .nil)⟩)] Tryz.f294 (.cons (.il true .bool) .nil) (.own false 4 .bool) x = qFi k x := by kernel_rfl
theorem e_w_toBoolS [Names] (k : Nat) : qAD Tryz.prog (E_w_toBoolS k) := qAC tok qAF (by kernel_rfl) (by kernel_rfl) (by kernel_rfl) fun x r h => (t_w_toBoolS k x).trans h
def qHe (k : Nat) (x : (Int × Int × Int × List (ByteArray) × List (Bool) × Int × Unit) × Unit) : Option ((Int × Int × Int × List (ByteArray) × List (Bool) × Int × Unit) × Unit × Unit) :=
((qDS k (x.1.2.2.2.1, ())).bind fun p1 =>
((qFi k (x.1.2.2.2.2.1, ())).bind fun p2 =>
some ((x.1.1, (x.1.2.1, (x.1.2.2.1, (p1.1, (p2.1, (x.1.2.2.2.2.2.1, ())))))), ((), ()))))
abbrev E_w_toHeld (k : Nat) : qAI := ⟨253, 0, (.cons (.agg yP9) .nil), (.agg yP21), qHe k⟩
theorem t_w_toHeld (k : Nat) (x) : evF TTab k [qHd k, E_w_toBoolS k] [] Tryz.f253 (.cons (.agg yP9) .nil) (.agg yP21) x = qHe k x := by kernel_rfl
theorem e_w_toHeld [Names] (k : Nat) : qAD Tryz.prog (E_w_toHeld k) := qAC tok (qAB (e_w_toStringS k) (qAB (e_w_toBoolS k) qAF)) (by kernel_rfl) (by kernel_rfl) (by kernel_rfl) fun x r h => (t_w_toHeld k x).trans h
def qFj (k : Nat) (x : (List (Int × Int × Int × List (ByteArray) × List (Bool) × Int)) × Unit) : Option ((List (Int × Int × Int × List (ByteArray) × List (Bool) × Int)) × Unit × Unit) :=
(if (List.length x.1 : Int) = (List.length x.1 : Int) then
(if 0 ≤ (List.length x.1 : Int) ∧ (List.length x.1 : Int) ≤ (capMax : Int) then
(qAG (fun (rec0 : ((List (Int × Int × Int × List (ByteArray) × List (Bool) × Int)) × (List (Int × Int × Int × List (ByteArray) × List (Bool) × Int)) × Int × Unit) → Option _) (y0 : (List (Int × Int × Int × List (ByteArray) × List (Bool) × Int)) × (List (Int × Int × Int × List (ByteArray) × List (Bool) × Int)) × Int × Unit) =>
(if (decide (y0.2.2.1 < (List.length y0.1 : Int))) = true then
(if 0 ≤ y0.2.2.1 ∧ y0.2.2.1 < (List.length y0.1 : Int) then
((qHe k (((Ty.rd (t := yT0) y0.1 y0.2.2.1).1, ((Ty.rd (t := yT0) y0.1 y0.2.2.1).2.1, ((Ty.rd (t := yT0) y0.1 y0.2.2.1).2.2.1, ((Ty.rd (t := yT0) y0.1 y0.2.2.1).2.2.2.1, ((Ty.rd (t := yT0) y0.1 y0.2.2.1).2.2.2.2.1, ((Ty.rd (t := yT0) y0.1 y0.2.2.1).2.2.2.2.2, ())))))), ())).bind fun p1 =>
(if 0 ≤ y0.2.2.1 ∧ y0.2.2.1 < (List.length y0.2.1 : Int) then
(rec0 (y0.1, ((List.set y0.2.1 (Int.toNat y0.2.2.1) (p1.1.1, (p1.1.2.1, (p1.1.2.2.1, (p1.1.2.2.2.1, (p1.1.2.2.2.2.1, p1.1.2.2.2.2.2.1)))))), ((wi64 (y0.2.2.1 + (1 : Int))), ()))))
else none))
else none)
else
((fun (z1 : (List (Int × Int × Int × List (ByteArray) × List (Bool) × Int)) × Unit) =>
some (z1.1, ((), ()))) (y0.2.1, ())))) k (x.1, ((List.replicate (Int.toNat (List.length x.1 : Int)) ((0 : Int), ((0 : Int), ((0 : Int), ([], ([], (0 : Int))))))), ((0 : Int), ()))))
else none)
else none)
abbrev E_w_toHeldS (k : Nat) : qAI := ⟨179, 0, yP13, (.own false 229 yT1), qFj k⟩
theorem t_w_toHeldS (k : Nat) (x) : evF qCs k [E_w_toHeld k] [(0, ⟨[0, 3, 4], (.cons (.il true yT0) (.cons (.own false 229 yT1) yP2))⟩, ⟨[3], yP20⟩)] Tryz.f179 yP13 (.own false 229 yT1) x = qFj k x := by kernel_rfl
theorem e_w_toHeldS [Names] (k : Nat) : qAD Tryz.prog (E_w_toHeldS k) := qAC tokO (qAB (e_w_toHeld k) qAF) (by kernel_rfl) (by kernel_rfl) (by kernel_rfl) fun x r h => (t_w_toHeldS k x).trans h
def qFk (k : Nat) (x : ((List (Int × Int × Int × List (ByteArray) × List (Bool) × Int)) × Unit) × Unit) : Option (((List (Int × Int × Int × List (ByteArray) × List (Bool) × Int)) × Unit) × Unit × Unit) :=
((qFj k (x.1.1, ())).bind fun p1 =>
some ((p1.1, ()), ((), ())))
abbrev E_w_toShelf (k : Nat) : qAI := ⟨97, 0, (.cons (.agg yP13) .nil), (.agg yP20), qFk k⟩
theorem t_w_toShelf (k : Nat) (x) : evF qCs k [E_w_toHeldS k] [] Tryz.f97 (.cons (.agg yP13) .nil) (.agg yP20) x = qFk k x := by kernel_rfl
theorem e_w_toShelf [Names] (k : Nat) : qAD Tryz.prog (E_w_toShelf k) := qAC tokO (qAB (e_w_toHeldS k) qAF) (by kernel_rfl) (by kernel_rfl) (by kernel_rfl) fun x r h => (t_w_toShelf k x).trans h
def qDq (k : Nat) (x : (Int × Int × Int × ByteArray × ByteArray × Int × List (Int) × Int × Int × ByteArray × ByteArray × Int × List (Int) × Int × (List (Int × Int × Int × List (ByteArray) × List (Bool) × Int)) × Int × Unit) × Unit) : Option ((Int × Int × Int × ByteArray × ByteArray × Int × List (Int) × Int × Int × ByteArray × ByteArray × Int × List (Int) × Int × (List (Int × Int × Int × List (ByteArray) × List (Bool) × Int)) × Int × Unit) × Unit × Unit) :=
((qFh k ((x.1.2.2.1, (x.1.2.2.2.1, (x.1.2.2.2.2.1, (x.1.2.2.2.2.2.1, (x.1.2.2.2.2.2.2.1, (x.1.2.2.2.2.2.2.2.1, (x.1.2.2.2.2.2.2.2.2.1, (x.1.2.2.2.2.2.2.2.2.2.1, (x.1.2.2.2.2.2.2.2.2.2.2.1, (x.1.2.2.2.2.2.2.2.2.2.2.2.1, (x.1.2.2.2.2.2.2.2.2.2.2.2.2.1, (x.1.2.2.2.2.2.2.2.2.2.2.2.2.2.1, ())))))))))))), ())).bind fun p1 =>
((qFk k ((x.1.2.2.2.2.2.2.2.2.2.2.2.2.2.2.1, ()), ())).bind fun p2 =>
some ((x.1.1, (x.1.2.1, (p1.1.1, (p1.1.2.1, (p1.1.2.2.1, (p1.1.2.2.2.1, (p1.1.2.2.2.2.1, (p1.1.2.2.2.2.2.1, (p1.1.2.2.2.2.2.2.1, (p1.1.2.2.2.2.2.2.2.1, (p1.1.2.2.2.2.2.2.2.2.1, (p1.1.2.2.2.2.2.2.2.2.2.1, (p1.1.2.2.2.2.2.2.2.2.2.2.1, (p1.1.2.2.2.2.2.2.2.2.2.2.2.1, (p2.1.1, (x.1.2.2.2.2.2.2.2.2.2.2.2.2.2.2.2.1, ())))))))))))))))), ((), ()))))
abbrev E_w_toUser (k : Nat) : qAI := ⟨31, 0, (.cons yP3 .nil), yP11, qDq k⟩
theorem t_w_toUser (k : Nat) (x) : evF qCs k [E_w_toSlots k, E_w_toShelf k] [] Tryz.f31 (.cons yP3 .nil) yP11 x = qDq k x := by kernel_rfl
theorem e_w_toUser [Names] (k : Nat) : qAD Tryz.prog (E_w_toUser k) := qAC tokO (qAB (e_w_toSlots k) (qAB (e_w_toShelf k) qAF)) (by kernel_rfl) (by kernel_rfl) (by kernel_rfl) fun x r h => (t_w_toUser k x).trans h
def qGQ (k : Nat) (x : List (Int) × List (Int) × Unit) : Option (Bool × Unit × Unit × Unit) :=
(if (!decide ((List.length x.1 : Int) = (List.length x.2.1 : Int))) = true then
some (false, ((), ((), ())))
else
(qAG (fun (rec0 : (List (Int) × List (Int) × Int × Unit) → Option _) (y0 : List (Int) × List (Int) × Int × Unit) =>
(if (decide (y0.2.2.1 < (List.length y0.1 : Int))) = true then
(if 0 ≤ y0.2.2.1 ∧ y0.2.2.1 < (List.length y0.1 : Int) then
(if 0 ≤ y0.2.2.1 ∧ y0.2.2.1 < (List.length y0.2.1 : Int) then
(if (!decide ((Ty.rd (t := (.int .i64)) y0.1 y0.2.2.1) = (Ty.rd (t := (.int .i64)) y0.2.1 y0.2.2.1))) = true then
some (false, ((), ((), ())))
else
(rec0 (y0.1, (y0.2.1, ((wi64 (y0.2.2.1 + (1 : Int))), ())))))
else none)
else none)
else
((fun (z1 : Unit) =>
some (true, ((), ((), ())))) ()))) k (x.1, (x.2.1, ((0 : Int), ())))))
abbrev E_w_eqIntS (k : Nat) : qAI := ⟨119, 0, (.cons (.il true (.int .i64)) (.cons (.il true (.int .i64)) .nil)), .bool, qGQ k⟩
theorem t_w_eqIntS (k : Nat) (x) : evF TTab k [] [(0, ⟨[0, 1, 5], (.cons (.il true (.int .i64)) yP18)⟩, ⟨[], .nil⟩)] Tryz.f119 (.cons (.il true (.int .i64)) (.cons (.il true (.int .i64)) .nil)) .bool x = qGQ k x := by kernel_rfl
theorem e_w_eqIntS [Names] (k : Nat) : qAD Tryz.prog (E_w_eqIntS k) := qAC tok qAF (by kernel_rfl) (by kernel_rfl) (by kernel_rfl) fun x r h => (t_w_eqIntS k x).trans h
def qGR (k : Nat) (x : (Int × ByteArray × ByteArray × Int × List (Int) × Int × Unit) × (Int × ByteArray × ByteArray × Int × List (Int) × Int × Unit) × Unit) : Option (Bool × Unit × Unit × Unit) :=
(if (!decide (x.1.1 = x.2.1.1)) = true then
some (false, ((), ((), ())))
else
(if (!decide (x.1.2.1 = x.2.1.2.1)) = true then
some (false, ((), ((), ())))
else
(if (!decide (x.1.2.2.1 = x.2.1.2.2.1)) = true then
some (false, ((), ((), ())))
else
(if (!decide (x.1.2.2.2.1 = x.2.1.2.2.2.1)) = true then
some (false, ((), ((), ())))
else
((qGQ k (x.1.2.2.2.2.1, (x.2.1.2.2.2.2.1, ()))).bind fun p1 =>
(if (!p1.1) = true then
some (false, ((), ((), ())))
else
(if (!decide (x.1.2.2.2.2.2.1 = x.2.1.2.2.2.2.2.1)) = true then
some (false, ((), ((), ())))
else
some (true, ((), ((), ()))))))))))
abbrev E_w_eqSlot (k : Nat) : qAI := ⟨188, 0, (.cons yP10 (.cons yP10 .nil)), .bool, qGR k⟩
theorem t_w_eqSlot (k : Nat) (x) : evF TTab k [E_w_eqIntS k] [] Tryz.f188 (.cons yP10 (.cons yP10 .nil)) .bool x = qGR k x := by kernel_rfl
theorem e_w_eqSlot [Names] (k : Nat) : qAD Tryz.prog (E_w_eqSlot k) := qAC tok (qAB (e_w_eqIntS k) qAF) (by kernel_rfl) (by kernel_rfl) (by kernel_rfl) fun x r h => (t_w_eqSlot k x).trans h
def qFl (k : Nat) (x : (Int × ByteArray × ByteArray × Int × List (Int) × Int × Int × ByteArray × ByteArray × Int × List (Int) × Int × Unit) × (Int × ByteArray × ByteArray × Int × List (Int) × Int × Int × ByteArray × ByteArray × Int × List (Int) × Int × Unit) × Unit) : Option (Bool × Unit × Unit × Unit) :=
((qGR k ((x.1.1, (x.1.2.1, (x.1.2.2.1, (x.1.2.2.2.1, (x.1.2.2.2.2.1, (x.1.2.2.2.2.2.1, ())))))), ((x.2.1.1, (x.2.1.2.1, (x.2.1.2.2.1, (x.2.1.2.2.2.1, (x.2.1.2.2.2.2.1, (x.2.1.2.2.2.2.2.1, ())))))), ()))).bind fun p1 =>
(if (!p1.1) = true then
some (false, ((), ((), ())))
else
((qGR k ((x.1.2.2.2.2.2.2.1, (x.1.2.2.2.2.2.2.2.1, (x.1.2.2.2.2.2.2.2.2.1, (x.1.2.2.2.2.2.2.2.2.2.1, (x.1.2.2.2.2.2.2.2.2.2.2.1, (x.1.2.2.2.2.2.2.2.2.2.2.2.1, ())))))), ((x.2.1.2.2.2.2.2.2.1, (x.2.1.2.2.2.2.2.2.2.1, (x.2.1.2.2.2.2.2.2.2.2.1, (x.2.1.2.2.2.2.2.2.2.2.2.1, (x.2.1.2.2.2.2.2.2.2.2.2.2.1, (x.2.1.2.2.2.2.2.2.2.2.2.2.2.1, ())))))), ()))).bind fun p2 =>
(if (!p2.1) = true then
some (false, ((), ((), ())))
else
some (true, ((), ((), ())))))))
abbrev E_w_eqSlots (k : Nat) : qAI := ⟨102, 0, (.cons yP4 (.cons yP4 .nil)), .bool, qFl k⟩
theorem t_w_eqSlots (k : Nat) (x) : evF TTab k [E_w_eqSlot k] [] Tryz.f102 (.cons yP4 (.cons yP4 .nil)) .bool x = qFl k x := by kernel_rfl
theorem e_w_eqSlots [Names] (k : Nat) : qAD Tryz.prog (E_w_eqSlots k) := qAC tok (qAB (e_w_eqSlot k) qAF) (by kernel_rfl) (by kernel_rfl) (by kernel_rfl) fun x r h => (t_w_eqSlots k x).trans h
def qDT (k : Nat) (x : List (ByteArray) × List (ByteArray) × Unit) : Option (Bool × Unit × Unit × Unit) :=
(if (!decide ((List.length x.1 : Int) = (List.length x.2.1 : Int))) = true then
some (false, ((), ((), ())))
else
(qAG (fun (rec0 : (List (ByteArray) × List (ByteArray) × Int × Unit) → Option _) (y0 : List (ByteArray) × List (ByteArray) × Int × Unit) =>
(if (decide (y0.2.2.1 < (List.length y0.1 : Int))) = true then
(if 0 ≤ y0.2.2.1 ∧ y0.2.2.1 < (List.length y0.1 : Int) then
(if 0 ≤ y0.2.2.1 ∧ y0.2.2.1 < (List.length y0.2.1 : Int) then
(if (!decide ((Ty.rd (t := .str) y0.1 y0.2.2.1) = (Ty.rd (t := .str) y0.2.1 y0.2.2.1))) = true then
some (false, ((), ((), ())))
else
(rec0 (y0.1, (y0.2.1, ((wi64 (y0.2.2.1 + (1 : Int))), ())))))
else none)
else none)
else
((fun (z1 : Unit) =>
some (true, ((), ((), ())))) ()))) k (x.1, (x.2.1, ((0 : Int), ())))))
abbrev qHf (k : Nat) : qAI := ⟨299, 0, (.cons (.il true .str) (.cons (.il true .str) .nil)), .bool, qDT k⟩
theorem t_w_eqStringS (k : Nat) (x) : evF TTab k [] [(0, ⟨[0, 1, 5], (.cons (.il true .str) (.cons (.il true .str) yP2))⟩, ⟨[], .nil⟩)] Tryz.f299 (.cons (.il true .str) (.cons (.il true .str) .nil)) .bool x = qDT k x := by kernel_rfl
theorem e_w_eqStringS [Names] (k : Nat) : qAD Tryz.prog (qHf k) := qAC tok qAF (by kernel_rfl) (by kernel_rfl) (by kernel_rfl) fun x r h => (t_w_eqStringS k x).trans h
def qFm (k : Nat) (x : List (Bool) × List (Bool) × Unit) : Option (Bool × Unit × Unit × Unit) :=
(if (!decide ((List.length x.1 : Int) = (List.length x.2.1 : Int))) = true then
some (false, ((), ((), ())))
else
(qAG (fun (rec0 : (List (Bool) × List (Bool) × Int × Unit) → Option _) (y0 : List (Bool) × List (Bool) × Int × Unit) =>
(if (decide (y0.2.2.1 < (List.length y0.1 : Int))) = true then
(if 0 ≤ y0.2.2.1 ∧ y0.2.2.1 < (List.length y0.1 : Int) then
(if 0 ≤ y0.2.2.1 ∧ y0.2.2.1 < (List.length y0.2.1 : Int) then
(if (!decide ((Ty.rd (t := .bool) y0.1 y0.2.2.1) = (Ty.rd (t := .bool) y0.2.1 y0.2.2.1))) = true then
some (false, ((), ((), ())))
else
(rec0 (y0.1, (y0.2.1, ((wi64 (y0.2.2.1 + (1 : Int))), ())))))
else none)
else none)
else
((fun (z1 : Unit) =>
some (true, ((), ((), ())))) ()))) k (x.1, (x.2.1, ((0 : Int), ())))))
abbrev E_w_eqBoolS (k : Nat) : qAI := ⟨300, 0, (.cons (.il true .bool) (.cons (.il true .bool) .nil)), .bool, qFm k⟩
theorem t_w_eqBoolS (k : Nat) (x) : evF TTab k [] [(0, ⟨[0, 1, 5], (.cons (.il true .bool) (.cons (.il true .bool) yP2))⟩, ⟨[], .nil⟩)] Tryz.f300 (.cons (.il true .bool) (.cons (.il true .bool) .nil)) .bool x = qFm k x := by kernel_rfl
theorem e_w_eqBoolS [Names] (k : Nat) : qAD Tryz.prog (E_w_eqBoolS k) := qAC tok qAF (by kernel_rfl) (by kernel_rfl) (by kernel_rfl) fun x r h => (t_w_eqBoolS k x).trans h
def qHg (k : Nat) (x : (Int × Int × Int × List (ByteArray) × List (Bool) × Int × Unit) × (Int × Int × Int × List (ByteArray) × List (Bool) × Int × Unit) × Unit) : Option (Bool × Unit × Unit × Unit) :=
(if (!decide (x.1.1 = x.2.1.1)) = true then
some (false, ((), ((), ())))
else
(if (!decide (x.1.2.1 = x.2.1.2.1)) = true then
some (false, ((), ((), ())))
else
(if (!decide (x.1.2.2.1 = x.2.1.2.2.1)) = true then
some (false, ((), ((), ())))
else
((qDT k (x.1.2.2.2.1, (x.2.1.2.2.2.1, ()))).bind fun p1 =>
(if (!p1.1) = true then
some (false, ((), ((), ())))
else
((qFm k (x.1.2.2.2.2.1, (x.2.1.2.2.2.2.1, ()))).bind fun p2 =>
(if (!p2.1) = true then
some (false, ((), ((), ())))
else
(if (!decide (x.1.2.2.2.2.2.1 = x.2.1.2.2.2.2.2.1)) = true then
some (false, ((), ((), ())))
else
some (true, ((), ((), ())))))))))))
abbrev E_w_eqHeld (k : Nat) : qAI := ⟨260, 0, (.cons (.agg yP9) (.cons (.agg yP9) .nil)), .bool, qHg k⟩
theorem t_w_eqHeld (k : Nat) (x) : evF TTab k [qHf k, E_w_eqBoolS k] [] Tryz.f260 (.cons (.agg yP9) (.cons (.agg yP9) .nil)) .bool x = qHg k x := by kernel_rfl
theorem e_w_eqHeld [Names] (k : Nat) : qAD Tryz.prog (E_w_eqHeld k) := qAC tok (qAB (e_w_eqStringS k) (qAB (e_w_eqBoolS k) qAF)) (by kernel_rfl) (by kernel_rfl) (by kernel_rfl) fun x r h => (t_w_eqHeld k x).trans h
def qFn (k : Nat) (x : (List (Int × Int × Int × List (ByteArray) × List (Bool) × Int)) × (List (Int × Int × Int × List (ByteArray) × List (Bool) × Int)) × Unit) : Option (Bool × Unit × Unit × Unit) :=
(if (!decide ((List.length x.1 : Int) = (List.length x.2.1 : Int))) = true then
some (false, ((), ((), ())))
else
(qAG (fun (rec0 : ((List (Int × Int × Int × List (ByteArray) × List (Bool) × Int)) × (List (Int × Int × Int × List (ByteArray) × List (Bool) × Int)) × Int × Unit) → Option _) (y0 : (List (Int × Int × Int × List (ByteArray) × List (Bool) × Int)) × (List (Int × Int × Int × List (ByteArray) × List (Bool) × Int)) × Int × Unit) =>
(if (decide (y0.2.2.1 < (List.length y0.1 : Int))) = true then
(if 0 ≤ y0.2.2.1 ∧ y0.2.2.1 < (List.length y0.1 : Int) then
(if 0 ≤ y0.2.2.1 ∧ y0.2.2.1 < (List.length y0.2.1 : Int) then
((qHg k (((Ty.rd (t := yT0) y0.1 y0.2.2.1).1, ((Ty.rd (t := yT0) y0.1 y0.2.2.1).2.1, ((Ty.rd (t := yT0) y0.1 y0.2.2.1).2.2.1, ((Ty.rd (t := yT0) y0.1 y0.2.2.1).2.2.2.1, ((Ty.rd (t := yT0) y0.1 y0.2.2.1).2.2.2.2.1, ((Ty.rd (t := yT0) y0.1 y0.2.2.1).2.2.2.2.2, ())))))), (((Ty.rd (t := yT0) y0.2.1 y0.2.2.1).1, ((Ty.rd (t := yT0) y0.2.1 y0.2.2.1).2.1, ((Ty.rd (t := yT0) y0.2.1 y0.2.2.1).2.2.1, ((Ty.rd (t := yT0) y0.2.1 y0.2.2.1).2.2.2.1, ((Ty.rd (t := yT0) y0.2.1 y0.2.2.1).2.2.2.2.1, ((Ty.rd (t := yT0) y0.2.1 y0.2.2.1).2.2.2.2.2, ())))))), ()))).bind fun p1 =>
(if (!p1.1) = true then
some (false, ((), ((), ())))
else
(rec0 (y0.1, (y0.2.1, ((wi64 (y0.2.2.1 + (1 : Int))), ()))))))
else none)
else none)
else
((fun (z1 : Unit) =>
some (true, ((), ((), ())))) ()))) k (x.1, (x.2.1, ((0 : Int), ())))))
abbrev E_w_eqHeldS (k : Nat) : qAI := ⟨189, 0, (.cons (.il true yT0) yP13), .bool, qFn k⟩
theorem t_w_eqHeldS (k : Nat) (x) : evF qCs k [E_w_eqHeld k] [(0, ⟨[0, 1, 5], (.cons (.il true yT0) (.cons (.il true yT0) yP2))⟩, ⟨[], .nil⟩)] Tryz.f189 (.cons (.il true yT0) yP13) .bool x = qFn k x := by kernel_rfl
theorem e_w_eqHeldS [Names] (k : Nat) : qAD Tryz.prog (E_w_eqHeldS k) := qAC tokO (qAB (e_w_eqHeld k) qAF) (by kernel_rfl) (by kernel_rfl) (by kernel_rfl) fun x r h => (t_w_eqHeldS k x).trans h
def qFo (k : Nat) (x : ((List (Int × Int × Int × List (ByteArray) × List (Bool) × Int)) × Unit) × ((List (Int × Int × Int × List (ByteArray) × List (Bool) × Int)) × Unit) × Unit) : Option (Bool × Unit × Unit × Unit) :=
((qFn k (x.1.1, (x.2.1.1, ()))).bind fun p1 =>
(if (!p1.1) = true then
some (false, ((), ((), ())))
else
some (true, ((), ((), ())))))
abbrev E_w_eqShelf (k : Nat) : qAI := ⟨103, 0, (.cons (.agg yP13) (.cons (.agg yP13) .nil)), .bool, qFo k⟩
theorem t_w_eqShelf (k : Nat) (x) : evF qCs k [E_w_eqHeldS k] [] Tryz.f103 (.cons (.agg yP13) (.cons (.agg yP13) .nil)) .bool x = qFo k x := by kernel_rfl
theorem e_w_eqShelf [Names] (k : Nat) : qAD Tryz.prog (E_w_eqShelf k) := qAC tokO (qAB (e_w_eqHeldS k) qAF) (by kernel_rfl) (by kernel_rfl) (by kernel_rfl) fun x r h => (t_w_eqShelf k x).trans h
def qDr (k : Nat) (x : (Int × Int × Int × ByteArray × ByteArray × Int × List (Int) × Int × Int × ByteArray × ByteArray × Int × List (Int) × Int × (List (Int × Int × Int × List (ByteArray) × List (Bool) × Int)) × Int × Unit) × (Int × Int × Int × ByteArray × ByteArray × Int × List (Int) × Int × Int × ByteArray × ByteArray × Int × List (Int) × Int × (List (Int × Int × Int × List (ByteArray) × List (Bool) × Int)) × Int × Unit) × Unit) : Option (Bool × Unit × Unit × Unit) :=
(if (!decide (x.1.1 = x.2.1.1)) = true then
some (false, ((), ((), ())))
else
(if (!decide (x.1.2.1 = x.2.1.2.1)) = true then
some (false, ((), ((), ())))
else
((qFl k ((x.1.2.2.1, (x.1.2.2.2.1, (x.1.2.2.2.2.1, (x.1.2.2.2.2.2.1, (x.1.2.2.2.2.2.2.1, (x.1.2.2.2.2.2.2.2.1, (x.1.2.2.2.2.2.2.2.2.1, (x.1.2.2.2.2.2.2.2.2.2.1, (x.1.2.2.2.2.2.2.2.2.2.2.1, (x.1.2.2.2.2.2.2.2.2.2.2.2.1, (x.1.2.2.2.2.2.2.2.2.2.2.2.2.1, (x.1.2.2.2.2.2.2.2.2.2.2.2.2.2.1, ())))))))))))), ((x.2.1.2.2.1, (x.2.1.2.2.2.1, (x.2.1.2.2.2.2.1, (x.2.1.2.2.2.2.2.1, (x.2.1.2.2.2.2.2.2.1, (x.2.1.2.2.2.2.2.2.2.1, (x.2.1.2.2.2.2.2.2.2.2.1, (x.2.1.2.2.2.2.2.2.2.2.2.1, (x.2.1.2.2.2.2.2.2.2.2.2.2.1, (x.2.1.2.2.2.2.2.2.2.2.2.2.2.1, (x.2.1.2.2.2.2.2.2.2.2.2.2.2.2.1, (x.2.1.2.2.2.2.2.2.2.2.2.2.2.2.2.1, ())))))))))))), ()))).bind fun p1 =>
(if (!p1.1) = true then
some (false, ((), ((), ())))
else
((qFo k ((x.1.2.2.2.2.2.2.2.2.2.2.2.2.2.2.1, ()), ((x.2.1.2.2.2.2.2.2.2.2.2.2.2.2.2.2.1, ()), ()))).bind fun p2 =>
(if (!p2.1) = true then
some (false, ((), ((), ())))
else
(if (!decide (x.1.2.2.2.2.2.2.2.2.2.2.2.2.2.2.2.1 = x.2.1.2.2.2.2.2.2.2.2.2.2.2.2.2.2.2.1)) = true then
some (false, ((), ((), ())))
else
some (true, ((), ((), ()))))))))))
abbrev E_w_eqUser (k : Nat) : qAI := ⟨34, 0, (.cons yP3 (.cons yP3 .nil)), .bool, qDr k⟩
theorem t_w_eqUser (k : Nat) (x) : evF qCs k [E_w_eqSlots k, E_w_eqShelf k] [] Tryz.f34 (.cons yP3 (.cons yP3 .nil)) .bool x = qDr k x := by kernel_rfl
theorem e_w_eqUser [Names] (k : Nat) : qAD Tryz.prog (E_w_eqUser k) := qAC tokO (qAB (e_w_eqSlots k) (qAB (e_w_eqShelf k) qAF)) (by kernel_rfl) (by kernel_rfl) (by kernel_rfl) fun x r h => (t_w_eqUser k x).trans h
def qC8 (k : Nat) (x : List (Int) × Int × Unit) : Option (Int × List (Int) × Unit × Unit) :=
(qAG (fun (rec0 : (List (Int) × Int × Int × Unit) → Option _) (y0 : List (Int) × Int × Int × Unit) =>
(if (decide (y0.2.2.1 < (List.length y0.1 : Int))) = true then
(if 0 ≤ y0.2.2.1 ∧ y0.2.2.1 < (List.length y0.1 : Int) then
(rec0 ((List.set y0.1 (Int.toNat y0.2.2.1) y0.2.1), ((wi64 (y0.2.1 + (1 : Int))), ((wi64 (y0.2.2.1 + (1 : Int))), ()))))
else none)
else
((fun (z1 : List (Int) × Int × Unit) =>
some (z1.2.1, (z1.1, ((), ())))) (y0.1, (y0.2.1, ()))))) k (x.1, (x.2.1, ((0 : Int), ()))))
abbrev qFp (k : Nat) : qAI := ⟨106, 0, (.cons yP23 yP2), (.int .i64), qC8 k⟩
theorem t_w_markIntS (k : Nat) (x) : evF TTab k [] [(0, ⟨[0, 1, 5], (.cons yP12 (.cons (.int .i64) yP2))⟩, ⟨[0, 1], (.cons yP12 yP2)⟩)] Tryz.f106 (.cons yP23 yP2) (.int .i64) x = qC8 k x := by kernel_rfl
theorem e_w_markIntS [Names] (k : Nat) : qAD Tryz.prog (qFp k) := qAC tok qAF (by kernel_rfl) (by kernel_rfl) (by kernel_rfl) fun x r h => (t_w_markIntS k x).trans h
def qC9 (k : Nat) (x : Int × Unit) : Option (ByteArray × Unit × Unit) :=
(if (decide (x.1 ≤ (0 : Int))) = true then
some ((⟨#[109, 48]⟩ : ByteArray), ((), ()))
else
(qAG (fun (rec0 : (Int × ByteArray × Unit) → Option _) (y0 : Int × ByteArray × Unit) =>
(if (decide ((0 : Int) < y0.1)) = true then
(if ByteArray.size (qAK ([(wu8 ((wi64 ((48 : Int) + (Int.tmod y0.1 (10 : Int))))))] : List (Int))) + ByteArray.size y0.2.1 ≤ maxStr then
(rec0 ((wi64 (Int.tdiv y0.1 (10 : Int))), (((qAK ([(wu8 ((wi64 ((48 : Int) + (Int.tmod y0.1 (10 : Int))))))] : List (Int))) ++ y0.2.1), ())))
else none)
else
((fun (z1 : ByteArray × Unit) =>
(if ByteArray.size (⟨#[109]⟩ : ByteArray) + ByteArray.size z1.1 ≤ maxStr then
some (((⟨#[109]⟩ : ByteArray) ++ z1.1), ((), ()))
else none)) (y0.2.1, ())))) k (x.1, ((⟨#[]⟩ : ByteArray), ()))))
abbrev qFq (k : Nat) : qAI := ⟨107, 0, yP2, .str, qC9 k⟩
theorem t_w_markText (k : Nat) (x) : evF TTab k [] [(0, ⟨[0, 3], yP15⟩, ⟨[3], (.cons .str .nil)⟩)] Tryz.f107 yP2 .str x = qC9 k x := by kernel_rfl
theorem e_w_markText [Names] (k : Nat) : qAD Tryz.prog (qFq k) := qAC tok qAF (by kernel_rfl) (by kernel_rfl) (by kernel_rfl) fun x r h => (t_w_markText k x).trans h
def qCU (k : Nat) (x : List (ByteArray) × Int × Unit) : Option (Int × List (ByteArray) × Unit × Unit) :=
(qAG (fun (rec0 : (List (ByteArray) × Int × Int × Unit) → Option _) (y0 : List (ByteArray) × Int × Int × Unit) =>
(if (decide (y0.2.2.1 < (List.length y0.1 : Int))) = true then
((qC9 k (y0.2.1, ())).bind fun p1 =>
(if 0 ≤ y0.2.2.1 ∧ y0.2.2.1 < (List.length y0.1 : Int) then
(rec0 ((List.set y0.1 (Int.toNat y0.2.2.1) p1.1), ((wi64 (y0.2.1 + (1 : Int))), ((wi64 (y0.2.2.1 + (1 : Int))), ()))))
else none))
else
((fun (z1 : List (ByteArray) × Int × Unit) =>
some (z1.2.1, (z1.1, ((), ())))) (y0.1, (y0.2.1, ()))))) k (x.1, (x.2.1, ((0 : Int), ()))))
abbrev qFr (k : Nat) : qAI := ⟨242, 0, (.cons (.mut false 9 .str) yP2), (.int .i64), qCU k⟩
theorem t_w_markStringS (k : Nat) (x) : evF TTab k [qFq k] [(0, ⟨[0, 1, 5], (.cons (.own false 9 .str) (.cons (.int .i64) yP2))⟩, ⟨[0, 1], (.cons (.own false 9 .str) yP2)⟩)] Tryz.f242 (.cons (.mut false 9 .str) yP2) (.int .i64) x = qCU k x := by kernel_rfl
theorem e_w_markStringS [Names] (k : Nat) : qAD Tryz.prog (qFr k) := qAC tok (qAB (e_w_markText k) qAF) (by kernel_rfl) (by kernel_rfl) (by kernel_rfl) fun x r h => (t_w_markStringS k x).trans h
def qDU (k : Nat) (x : List (Bool) × Int × Unit) : Option (Int × List (Bool) × Unit × Unit) :=
(qAG (fun (rec0 : (List (Bool) × Int × Int × Unit) → Option _) (y0 : List (Bool) × Int × Int × Unit) =>
(if (decide (y0.2.2.1 < (List.length y0.1 : Int))) = true then
(if 0 ≤ y0.2.2.1 ∧ y0.2.2.1 < (List.length y0.1 : Int) then
(rec0 ((List.set y0.1 (Int.toNat y0.2.2.1) (decide ((Int.tmod y0.2.1 (3 : Int)) = (0 : Int)))), ((wi64 (y0.2.1 + (1 : Int))), ((wi64 (y0.2.2.1 + (1 : Int))), ()))))
else none)
else
((fun (z1 : List (Bool) × Int × Unit) =>
some (z1.2.1, (z1.1, ((), ())))) (y0.1, (y0.2.1, ()))))) k (x.1, (x.2.1, ((0 : Int), ()))))
abbrev qHh (k : Nat) : qAI := ⟨243, 0, (.cons (.mut false 4 .bool) yP2), (.int .i64), qDU k⟩
theorem t_w_markBoolS (k : Nat) (x) : evF TTab k [] [(0, ⟨[0, 1, 5], (.cons (.own false 4 .bool) (.cons (.int .i64) yP2))⟩, ⟨[0, 1], (.cons (.own false 4 .bool) yP2)⟩)] Tryz.f243 (.cons (.mut false 4 .bool) yP2) (.int .i64) x = qDU k x := by kernel_rfl
theorem e_w_markBoolS [Names] (k : Nat) : qAD Tryz.prog (qHh k) := qAC tok qAF (by kernel_rfl) (by kernel_rfl) (by kernel_rfl) fun x r h => (t_w_markBoolS k x).trans h
def qDV (k : Nat) (x : (List (Int × Int × Int × List (ByteArray) × List (Bool) × Int)) × Int × Unit) : Option (Int × (List (Int × Int × Int × List (ByteArray) × List (Bool) × Int)) × Unit × Unit) :=
(qAG (fun (rec0 : ((List (Int × Int × Int × List (ByteArray) × List (Bool) × Int)) × Int × Int × Unit) → Option _) (y0 : (List (Int × Int × Int × List (ByteArray) × List (Bool) × Int)) × Int × Int × Unit) =>
(if (decide (y0.2.2.1 < (List.length y0.1 : Int))) = true then
(if 0 ≤ y0.2.2.1 ∧ y0.2.2.1 < (List.length y0.1 : Int) then
(if 0 ≤ y0.2.2.1 ∧ y0.2.2.1 < (List.length (List.set y0.1 (Int.toNat y0.2.2.1) (y0.2.1, (Ty.rd (t := yT1) y0.1 y0.2.2.1).2)) : Int) then
(jn (List.set (List.set y0.1 (Int.toNat y0.2.2.1) (y0.2.1, (Ty.rd (t := yT1) y0.1 y0.2.2.1).2)) (Int.toNat y0.2.2.1) ((Ty.rd (t := yT1) (List.set y0.1 (Int.toNat y0.2.2.1) (y0.2.1, (Ty.rd (t := yT1) y0.1 y0.2.2.1).2)) y0.2.2.1).1, ((wi64 (y0.2.1 + (1 : Int))), (Ty.rd (t := yT1) (List.set y0.1 (Int.toNat y0.2.2.1) (y0.2.1, (Ty.rd (t := yT1) y0.1 y0.2.2.1).2)) y0.2.2.1).2.2))) (fun (q6 : List (Int × Int × Int × List (ByteArray) × List (Bool) × Int)) =>
(if 0 ≤ y0.2.2.1 ∧ y0.2.2.1 < (List.length q6 : Int) then
(jn (List.set q6 (Int.toNat y0.2.2.1) ((Ty.rd (t := yT1) q6 y0.2.2.1).1, ((Ty.rd (t := yT1) q6 y0.2.2.1).2.1, ((wi64 ((wi64 (y0.2.1 + (1 : Int))) + (1 : Int))), (Ty.rd (t := yT1) q6 y0.2.2.1).2.2.2)))) (fun (q7 : List (Int × Int × Int × List (ByteArray) × List (Bool) × Int)) =>
(if 0 ≤ y0.2.2.1 ∧ y0.2.2.1 < (List.length q7 : Int) then
((qCU k ((Ty.rd (t := yT1) q7 y0.2.2.1).2.2.2.1, ((wi64 ((wi64 ((wi64 (y0.2.1 + (1 : Int))) + (1 : Int))) + (1 : Int))), ()))).bind fun p1 =>
(jn (List.set q7 (Int.toNat y0.2.2.1) ((Ty.rd (t := yT1) q7 y0.2.2.1).1, ((Ty.rd (t := yT1) q7 y0.2.2.1).2.1, ((Ty.rd (t := yT1) q7 y0.2.2.1).2.2.1, (p1.2.1, (Ty.rd (t := yT1) q7 y0.2.2.1).2.2.2.2))))) (fun (q8 : List (Int × Int × Int × List (ByteArray) × List (Bool) × Int)) =>
(if 0 ≤ y0.2.2.1 ∧ y0.2.2.1 < (List.length q8 : Int) then
((qDU k ((Ty.rd (t := yT1) q8 y0.2.2.1).2.2.2.2.1, (p1.1, ()))).bind fun p2 =>
(jn (List.set q8 (Int.toNat y0.2.2.1) ((Ty.rd (t := yT1) q8 y0.2.2.1).1, ((Ty.rd (t := yT1) q8 y0.2.2.1).2.1, ((Ty.rd (t := yT1) q8 y0.2.2.1).2.2.1, ((Ty.rd (t := yT1) q8 y0.2.2.1).2.2.2.1, (p2.2.1, (Ty.rd (t := yT1) q8 y0.2.2.1).2.2.2.2.2)))))) (fun (q9 : List (Int × Int × Int × List (ByteArray) × List (Bool) × Int)) =>
(if 0 ≤ y0.2.2.1 ∧ y0.2.2.1 < (List.length q9 : Int) then
(jn (List.set q9 (Int.toNat y0.2.2.1) ((Ty.rd (t := yT1) q9 y0.2.2.1).1, ((Ty.rd (t := yT1) q9 y0.2.2.1).2.1, ((Ty.rd (t := yT1) q9 y0.2.2.1).2.2.1, ((Ty.rd (t := yT1) q9 y0.2.2.1).2.2.2.1, ((Ty.rd (t := yT1) q9 y0.2.2.1).2.2.2.2.1, p2.1)))))) (fun (q10 : List (Int × Int × Int × List (ByteArray) × List (Bool) × Int)) =>
(rec0 (q10, ((wi64 (p2.1 + (1 : Int))), ((wi64 (y0.2.2.1 + (1 : Int))), ()))))))
else none))))
else none))))
else none)))
else none)))
else none)
else none)
else
((fun (z1 : (List (Int × Int × Int × List (ByteArray) × List (Bool) × Int)) × Int × Unit) =>
some (z1.2.1, (z1.1, ((), ())))) (y0.1, (y0.2.1, ()))))) k (x.1, (x.2.1, ((0 : Int), ()))))
abbrev qHi (k : Nat) : qAI := ⟨164, 0, (.cons (.mut false 229 yT1) yP2), (.int .i64), qDV k⟩
theorem t_w_markHeldS (k : Nat) (x) : evF qCs k [qFr k, qHh k] [(0, ⟨[0, 1, 5], (.cons (.own false 229 yT1) (.cons (.int .i64) yP2))⟩, ⟨[0, 1], (.cons (.own false 229 yT1) yP2)⟩)] Tryz.f164 (.cons (.mut false 229 yT1) yP2) (.int .i64) x = qDV k x := by kernel_rfl
theorem e_w_markHeldS [Names] (k : Nat) : qAD Tryz.prog (qHi k) := qAC tokO (qAB (e_w_markStringS k) (qAB (e_w_markBoolS k) qAF)) (by kernel_rfl) (by kernel_rfl) (by kernel_rfl) fun x r h => (t_w_markHeldS k x).trans h
def qEG (k : Nat) (x : List (Int) × Int × Unit) : Option (Int × Unit × Unit × Unit) :=
(qAG (fun (rec0 : (List (Int) × Int × Int × Unit) → Option _) (y0 : List (Int) × Int × Int × Unit) =>
(if (decide (y0.2.2.1 < (List.length y0.1 : Int))) = true then
(if 0 ≤ y0.2.2.1 ∧ y0.2.2.1 < (List.length y0.1 : Int) then
(if (!decide ((Ty.rd (t := (.int .i64)) y0.1 y0.2.2.1) = y0.2.1)) = true then
some ((-1 : Int), ((), ((), ())))
else
(rec0 (y0.1, ((wi64 (y0.2.1 + (1 : Int))), ((wi64 (y0.2.2.1 + (1 : Int))), ())))))
else none)
else
((fun (z1 : Int × Unit) =>
some (z1.1, ((), ((), ())))) (y0.2.1, ())))) k (x.1, (x.2.1, ((0 : Int), ()))))
abbrev E_w_heldIntS (k : Nat) : qAI := ⟨110, 0, yP18, (.int .i64), qEG k⟩
theorem t_w_heldIntS (k : Nat) (x) : evF TTab k [] [(0, ⟨[0, 1, 5], (.cons (.il true (.int .i64)) (.cons (.int .i64) yP2))⟩, ⟨[1], yP2⟩)] Tryz.f110 yP18 (.int .i64) x = qEG k x := by kernel_rfl
theorem e_w_heldIntS [Names] (k : Nat) : qAD Tryz.prog (E_w_heldIntS k) := qAC tok qAF (by kernel_rfl) (by kernel_rfl) (by kernel_rfl) fun x r h => (t_w_heldIntS k x).trans h
def qCV (k : Nat) (x : List (ByteArray) × Int × Unit) : Option (Int × Unit × Unit × Unit) :=
(qAG (fun (rec0 : (List (ByteArray) × Int × Int × Unit) → Option _) (y0 : List (ByteArray) × Int × Int × Unit) =>
(if (decide (y0.2.2.1 < (List.length y0.1 : Int))) = true then
(if 0 ≤ y0.2.2.1 ∧ y0.2.2.1 < (List.length y0.1 : Int) then
((qC9 k (y0.2.1, ())).bind fun p1 =>
(if (!decide ((Ty.rd (t := .str) y0.1 y0.2.2.1) = p1.1)) = true then
some ((-1 : Int), ((), ((), ())))
else
(rec0 (y0.1, ((wi64 (y0.2.1 + (1 : Int))), ((wi64 (y0.2.2.1 + (1 : Int))), ()))))))
else none)
else
((fun (z1 : Int × Unit) =>
some (z1.1, ((), ((), ())))) (y0.2.1, ())))) k (x.1, (x.2.1, ((0 : Int), ()))))
abbrev qFs (k : Nat) : qAI := ⟨244, 0, (.cons (.il true .str) yP2), (.int .i64), qCV k⟩
theorem t_w_heldStringS (k : Nat) (x) : evF TTab k [qFq k] [(0, ⟨[0, 1, 5], (.cons (.il true .str) (.cons (.int .i64) yP2))⟩, ⟨[1], yP2⟩)] Tryz.f244 (.cons (.il true .str) yP2) (.int .i64) x = qCV k x := by kernel_rfl
theorem e_w_heldStringS [Names] (k : Nat) : qAD Tryz.prog (qFs k) := qAC tok (qAB (e_w_markText k) qAF) (by kernel_rfl) (by kernel_rfl) (by kernel_rfl) fun x r h => (t_w_heldStringS k x).trans h
def qDW (k : Nat) (x : List (Bool) × Int × Unit) : Option (Int × Unit × Unit × Unit) :=
(qAG (fun (rec0 : (List (Bool) × Int × Int × Unit) → Option _) (y0 : List (Bool) × Int × Int × Unit) =>
(if (decide (y0.2.2.1 < (List.length y0.1 : Int))) = true then
(if 0 ≤ y0.2.2.1 ∧ y0.2.2.1 < (List.length y0.1 : Int) then
(if (!decide ((Ty.rd (t := .bool) y0.1 y0.2.2.1) = (decide ((Int.tmod y0.2.1 (3 : Int)) = (0 : Int))))) = true then
some ((-1 : Int), ((), ((), ())))
else
(rec0 (y0.1, ((wi64 (y0.2.1 + (1 : Int))), ((wi64 (y0.2.2.1 + (1 : Int))), ())))))
else none)
else
((fun (z1 : Int × Unit) =>
some (z1.1, ((), ((), ())))) (y0.2.1, ())))) k (x.1, (x.2.1, ((0 : Int), ()))))
abbrev qHj (k : Nat) : qAI := ⟨245, 0, (.cons (.il true .bool) yP2), (.int .i64), qDW k⟩
theorem t_w_heldBoolS (k : Nat) (x) : evF TTab k [] [(0, ⟨[0, 1, 5], (.cons (.il true .bool) (.cons (.int .i64) yP2))⟩, ⟨[1], yP2⟩)] Tryz.f245 (.cons (.il true .bool) yP2) (.int .i64) x = qDW k x := by kernel_rfl
theorem e_w_heldBoolS [Names] (k : Nat) : qAD Tryz.prog (qHj k) := qAC tok qAF (by kernel_rfl) (by kernel_rfl) (by kernel_rfl) fun x r h => (t_w_heldBoolS k x).trans h
def qDX (k : Nat) (x : (List (Int × Int × Int × List (ByteArray) × List (Bool) × Int)) × Int × Unit) : Option (Int × Unit × Unit × Unit) :=
(qAG (fun (rec0 : ((List (Int × Int × Int × List (ByteArray) × List (Bool) × Int)) × Int × Int × Unit) → Option _) (y0 : (List (Int × Int × Int × List (ByteArray) × List (Bool) × Int)) × Int × Int × Unit) =>
(if (decide (y0.2.2.1 < (List.length y0.1 : Int))) = true then
(if 0 ≤ y0.2.2.1 ∧ y0.2.2.1 < (List.length y0.1 : Int) then
(if (!decide ((Ty.rd (t := yT0) y0.1 y0.2.2.1).1 = y0.2.1)) = true then
some ((-1 : Int), ((), ((), ())))
else
(if 0 ≤ y0.2.2.1 ∧ y0.2.2.1 < (List.length y0.1 : Int) then
(if (!decide ((Ty.rd (t := yT0) y0.1 y0.2.2.1).2.1 = (wi64 (y0.2.1 + (1 : Int))))) = true then
some ((-1 : Int), ((), ((), ())))
else
(if 0 ≤ y0.2.2.1 ∧ y0.2.2.1 < (List.length y0.1 : Int) then
(if (!decide ((Ty.rd (t := yT0) y0.1 y0.2.2.1).2.2.1 = (wi64 ((wi64 (y0.2.1 + (1 : Int))) + (1 : Int))))) = true then
some ((-1 : Int), ((), ((), ())))
else
(if 0 ≤ y0.2.2.1 ∧ y0.2.2.1 < (List.length y0.1 : Int) then
((qCV k ((Ty.rd (t := yT0) y0.1 y0.2.2.1).2.2.2.1, ((wi64 ((wi64 ((wi64 (y0.2.1 + (1 : Int))) + (1 : Int))) + (1 : Int))), ()))).bind fun p1 =>
(if (decide (p1.1 < (0 : Int))) = true then
some ((-1 : Int), ((), ((), ())))
else
(if 0 ≤ y0.2.2.1 ∧ y0.2.2.1 < (List.length y0.1 : Int) then
((qDW k ((Ty.rd (t := yT0) y0.1 y0.2.2.1).2.2.2.2.1, (p1.1, ()))).bind fun p2 =>
(if (decide (p2.1 < (0 : Int))) = true then
some ((-1 : Int), ((), ((), ())))
else
(if 0 ≤ y0.2.2.1 ∧ y0.2.2.1 < (List.length y0.1 : Int) then
(if (!decide ((Ty.rd (t := yT0) y0.1 y0.2.2.1).2.2.2.2.2 = p2.1)) = true then
some ((-1 : Int), ((), ((), ())))
else
(rec0 (y0.1, ((wi64 (p2.1 + (1 : Int))), ((wi64 (y0.2.2.1 + (1 : Int))), ())))))
else none)))
else none)))
else none))
else none))
else none))
else none)
else
((fun (z1 : Int × Unit) =>
some (z1.1, ((), ((), ())))) (y0.2.1, ())))) k (x.1, (x.2.1, ((0 : Int), ()))))
abbrev qHk (k : Nat) : qAI := ⟨167, 0, (.cons (.il true yT0) yP2), (.int .i64), qDX k⟩
theorem t_w_heldHeldS (k : Nat) (x) : evF qCs k [qFs k, qHj k] [(0, ⟨[0, 1, 5], (.cons (.il true yT0) (.cons (.int .i64) yP2))⟩, ⟨[1], yP2⟩)] Tryz.f167 (.cons (.il true yT0) yP2) (.int .i64) x = qDX k x := by kernel_rfl
theorem e_w_heldHeldS [Names] (k : Nat) : qAD Tryz.prog (qHk k) := qAC tokO (qAB (e_w_heldStringS k) (qAB (e_w_heldBoolS k) qAF)) (by kernel_rfl) (by kernel_rfl) (by kernel_rfl) fun x r h => (t_w_heldHeldS k x).trans h
end Go.Proofs.YtnfllchbpechlaaGreat
