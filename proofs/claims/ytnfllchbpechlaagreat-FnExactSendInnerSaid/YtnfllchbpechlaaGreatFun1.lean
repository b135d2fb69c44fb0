import Derived.Test.YtnfllchbpechlaaGreatFun0
/- What functions of the program compute, as plain functions, and that their calls do so (part 1). Conditions: the plain function answers. -/
set_option linter.unusedVariables false
namespace Go.Proofs.YtnfllchbpechlaaGreat
open Go Go.Eng Go.Proofs
def s_l01In (k : Nat) (x : Int × Int × Int × Unit) : Option (Bool × Unit × Unit × Unit × Unit) :=
(if (decide (x.2.1 ≤ x.1)) = true then
some ((decide (x.1 ≤ x.2.2.1)), ((), ((), ((), ()))))
else
some (false, ((), ((), ((), ())))))
theorem t_s_l01In (k : Nat) (x) : evF TTab k [] [] Tryz.f62 (.cons (.int .i64) (.cons (.int .i64) (.cons (.int .i64) .nil))) .bool x = s_l01In k x := by kernel_rfl
theorem e_s_l01In (k : Nat) : EntryOk Tryz.prog ⟨62, 0, (.cons (.int .i64) (.cons (.int .i64) (.cons (.int .i64) .nil))), .bool, s_l01In k⟩ := entry_ok tok (by simp) (by kernel_rfl) (fn := Tryz.f62) (k := k) (es := []) (loops := []) (by kernel_rfl) (by kernel_rfl) (fun x r h => (t_s_l01In k x).trans h)
def s_HasherOk (k : Nat) (x : (ByteArray × ByteArray × Int × Unit) × Unit) : Option (Bool × Unit × Unit) :=
(if (decide ((ByteArray.size x.1.1 : Int) = (32 : Int))) = true then
(if (decide ((ByteArray.size x.1.2.1 : Int) < (64 : Int))) = true then
((s_l01In k (x.1.2.2.1, ((0 : Int), ((1000000000 : Int), ())))).bind fun p1 =>
(if p1.1 = true then
some ((decide ((Int.tmod x.1.2.2.1 (64 : Int)) = (ByteArray.size x.1.2.1 : Int))), ((), ()))
else
some (false, ((), ()))))
else
some (false, ((), ())))
else
some (false, ((), ())))
theorem t_s_HasherOk (k : Nat) (x) : evF TTab k [⟨62, 0, (.cons (.int .i64) (.cons (.int .i64) (.cons (.int .i64) .nil))), .bool, s_l01In k⟩] [] Tryz.f275 (.cons (.agg (.cons .str (.cons .str (.cons (.int .i64) .nil)))) .nil) .bool x = s_HasherOk k x := by kernel_rfl
theorem e_s_HasherOk (k : Nat) : EntryOk Tryz.prog ⟨275, 0, (.cons (.agg (.cons .str (.cons .str (.cons (.int .i64) .nil)))) .nil), .bool, s_HasherOk k⟩ := entry_ok tok (by intro e he; simp only [List.mem_cons, List.not_mem_nil, or_false] at he; rcases he with rfl <;> first | exact e_s_l01In k) (by kernel_rfl) (fn := Tryz.f275) (k := k) (es := [⟨62, 0, (.cons (.int .i64) (.cons (.int .i64) (.cons (.int .i64) .nil))), .bool, s_l01In k⟩]) (loops := []) (by kernel_rfl) (by kernel_rfl) (fun x r h => (t_s_HasherOk k x).trans h)
def s_l04Word (k : Nat) (x : ByteArray × Int × Unit) : Option (Int × Unit × Unit × Unit) :=
(if 0 ≤ x.2.1 ∧ x.2.1 < (ByteArray.size x.1 : Int) then
(if 0 ≤ (wi64 (x.2.1 + (1 : Int))) ∧ (wi64 (x.2.1 + (1 : Int))) < (ByteArray.size x.1 : Int) then
(if 0 ≤ (wi64 (x.2.1 + (2 : Int))) ∧ (wi64 (x.2.1 + (2 : Int))) < (ByteArray.size x.1 : Int) then
(if 0 ≤ (wi64 (x.2.1 + (3 : Int))) ∧ (wi64 (x.2.1 + (3 : Int))) < (ByteArray.size x.1 : Int) then
some ((wu32 ((wu32 ((wu32 ((wu32 ((wu32 ((bt x.1 x.2.1))) * (16777216 : Int))) + (wu32 ((wu32 ((bt x.1 (wi64 (x.2.1 + (1 : Int)))))) * (65536 : Int))))) + (wu32 ((wu32 ((bt x.1 (wi64 (x.2.1 + (2 : Int)))))) * (256 : Int))))) + (wu32 ((bt x.1 (wi64 (x.2.1 + (3 : Int)))))))), ((), ((), ())))
else none)
else none)
else none)
else none)
theorem t_s_l04Word (k : Nat) (x) : evF TTab k [] [] Tryz.f311 (.cons .str (.cons (.int .i64) .nil)) (.int .u32) x = s_l04Word k x := by kernel_rfl
theorem e_s_l04Word (k : Nat) : EntryOk Tryz.prog ⟨311, 0, (.cons .str (.cons (.int .i64) .nil)), (.int .u32), s_l04Word k⟩ := entry_ok tok (by simp) (by kernel_rfl) (fn := Tryz.f311) (k := k) (es := []) (loops := []) (by kernel_rfl) (by kernel_rfl) (fun x r h => (t_s_l04Word k x).trans h)
def s_l04Words (k : Nat) (x : ByteArray × Unit) : Option (List (Int) × Unit × Unit) :=
(whileK (fun (rec0 : (ByteArray × List (Int) × Int × Unit) → Option _) (y0 : ByteArray × List (Int) × Int × Unit) =>
(if (decide ((wi64 (y0.2.2.1 + (4 : Int))) ≤ (ByteArray.size y0.1 : Int))) = true then
((s_l04Word k (y0.1, (y0.2.2.1, ()))).bind fun p1 =>
(if List.length y0.2.1 + List.length ([p1.1] : List (Int)) ≤ capMax then
(rec0 (y0.1, ((y0.2.1 ++ ([p1.1] : List (Int))), ((wi64 (y0.2.2.1 + (4 : Int))), ()))))
else none))
else
((fun (z1 : List (Int) × Unit) =>
some (z1.1, ((), ()))) (y0.2.1, ())))) k (x.1, (([] : List (Int)), ((0 : Int), ()))))
theorem t_s_l04Words (k : Nat) (x) : evF TTab k [⟨311, 0, (.cons .str (.cons (.int .i64) .nil)), (.int .u32), s_l04Word k⟩] [(0, ⟨[0, 3, 4], (.cons .str (.cons (.own false 311 (.int .u32)) (.cons (.int .i64) .nil)))⟩, ⟨[3], (.cons (.own false 311 (.int .u32)) .nil)⟩)] Tryz.f276 (.cons .str .nil) (.own false 311 (.int .u32)) x = s_l04Words k x := by kernel_rfl
theorem e_s_l04Words (k : Nat) : EntryOk Tryz.prog ⟨276, 0, (.cons .str .nil), (.own false 311 (.int .u32)), s_l04Words k⟩ := entry_ok tok (by intro e he; simp only [List.mem_cons, List.not_mem_nil, or_false] at he; rcases he with rfl <;> first | exact e_s_l04Word k) (by kernel_rfl) (fn := Tryz.f276) (k := k) (es := [⟨311, 0, (.cons .str (.cons (.int .i64) .nil)), (.int .u32), s_l04Word k⟩]) (loops := [(0, ⟨[0, 3, 4], (.cons .str (.cons (.own false 311 (.int .u32)) (.cons (.int .i64) .nil)))⟩, ⟨[3], (.cons (.own false 311 (.int .u32)) .nil)⟩)]) (by kernel_rfl) (by kernel_rfl) (fun x r h => (t_s_l04Words k x).trans h)
def s_l04K (k : Nat) (x : Unit) : Option (List (Int) × Unit) :=
some (([(1116352408 : Int), (1899447441 : Int), (3049323471 : Int), (3921009573 : Int), (961987163 : Int), (1508970993 : Int), (2453635748 : Int), (2870763221 : Int), (3624381080 : Int), (310598401 : Int), (607225278 : Int), (1426881987 : Int), (1925078388 : Int), (2162078206 : Int), (2614888103 : Int), (3248222580 : Int), (3835390401 : Int), (4022224774 : Int), (264347078 : Int), (604807628 : Int), (770255983 : Int), (1249150122 : Int), (1555081692 : Int), (1996064986 : Int), (2554220882 : Int), (2821834349 : Int), (2952996808 : Int), (3210313671 : Int), (3336571891 : Int), (3584528711 : Int), (113926993 : Int), (338241895 : Int), (666307205 : Int), (773529912 : Int), (1294757372 : Int), (1396182291 : Int), (1695183700 : Int), (1986661051 : Int), (2177026350 : Int), (2456956037 : Int), (2730485921 : Int), (2820302411 : Int), (3259730800 : Int), (3345764771 : Int), (3516065817 : Int), (3600352804 : Int), (4094571909 : Int), (275423344 : Int), (430227734 : Int), (506948616 : Int), (659060556 : Int), (883997877 : Int), (958139571 : Int), (1322822218 : Int), (1537002063 : Int), (1747873779 : Int), (1955562222 : Int), (2024104815 : Int), (2227730452 : Int), (2361852424 : Int), (2428436474 : Int), (2756734187 : Int), (3204031479 : Int), (3329325298 : Int)] : List (Int)), ())
theorem t_s_l04K (k : Nat) (x) : evF TTab k [] [] Tryz.f277 .nil (.own false 311 (.int .u32)) x = s_l04K k x := by kernel_rfl
theorem e_s_l04K (k : Nat) : EntryOk Tryz.prog ⟨277, 0, .nil, (.own false 311 (.int .u32)), s_l04K k⟩ := entry_ok tok (by simp) (by kernel_rfl) (fn := Tryz.f277) (k := k) (es := []) (loops := []) (by kernel_rfl) (by kernel_rfl) (fun x r h => (t_s_l04K k x).trans h)
def s_l04Right (k : Nat) (x : Int × Int × Int × Unit) : Option (Int × Unit × Unit × Unit × Unit) :=
(if x.2.1 = 0 then
none
else
(if x.2.1 = 0 then
none
else
some ((wu32 ((wu32 (Int.tdiv x.1 x.2.1)) + (wu32 ((Int.tmod x.1 x.2.1) * x.2.2.1)))), ((), ((), ((), ()))))))
theorem t_s_l04Right (k : Nat) (x) : evF TTab k [] [] Tryz.f330 (.cons (.int .u32) (.cons (.int .u32) (.cons (.int .u32) .nil))) (.int .u32) x = s_l04Right k x := by kernel_rfl
theorem e_s_l04Right (k : Nat) : EntryOk Tryz.prog ⟨330, 0, (.cons (.int .u32) (.cons (.int .u32) (.cons (.int .u32) .nil))), (.int .u32), s_l04Right k⟩ := entry_ok tok (by simp) (by kernel_rfl) (fn := Tryz.f330) (k := k) (es := []) (loops := []) (by kernel_rfl) (by kernel_rfl) (fun x r h => (t_s_l04Right k x).trans h)
def s_l04S (k : Nat) (x : Int × Int × Int × Int × Bool × Unit) : Option (Int × Unit × Unit × Unit × Unit × Unit × Unit) :=
(if x.2.1 = 0 then
none
else
((s_l04Right k (x.1, (x.2.1, ((wu32 ((wu32 (Int.tdiv (2147483648 : Int) x.2.1)) * (2 : Int))), ())))).bind fun p1 =>
(if x.2.2.1 = 0 then
none
else
((s_l04Right k (x.1, (x.2.2.1, ((wu32 ((wu32 (Int.tdiv (2147483648 : Int) x.2.2.1)) * (2 : Int))), ())))).bind fun p2 =>
(if x.2.2.2.1 = 0 then
none
else
(if (!x.2.2.2.2.1) = true then
(if x.2.2.2.1 = 0 then
none
else
((s_l04Right k (x.1, (x.2.2.2.1, ((wu32 ((wu32 (Int.tdiv (2147483648 : Int) x.2.2.2.1)) * (2 : Int))), ())))).bind fun p3 =>
some ((bitsI .xor .u32 (bitsI .xor .u32 p1.1 p2.1) p3.1), ((), ((), ((), ((), ((), ()))))))))
else
some ((bitsI .xor .u32 (bitsI .xor .u32 p1.1 p2.1) (wu32 (Int.tdiv x.1 x.2.2.2.1))), ((), ((), ((), ((), ((), ()))))))))))))
theorem t_s_l04S (k : Nat) (x) : evF TTab k [⟨330, 0, (.cons (.int .u32) (.cons (.int .u32) (.cons (.int .u32) .nil))), (.int .u32), s_l04Right k⟩] [] Tryz.f312 (.cons (.int .u32) (.cons (.int .u32) (.cons (.int .u32) (.cons (.int .u32) (.cons .bool .nil))))) (.int .u32) x = s_l04S k x := by kernel_rfl
theorem e_s_l04S (k : Nat) : EntryOk Tryz.prog ⟨312, 0, (.cons (.int .u32) (.cons (.int .u32) (.cons (.int .u32) (.cons (.int .u32) (.cons .bool .nil))))), (.int .u32), s_l04S k⟩ := entry_ok tok (by intro e he; simp only [List.mem_cons, List.not_mem_nil, or_false] at he; rcases he with rfl <;> first | exact e_s_l04Right k) (by kernel_rfl) (fn := Tryz.f312) (k := k) (es := [⟨330, 0, (.cons (.int .u32) (.cons (.int .u32) (.cons (.int .u32) .nil))), (.int .u32), s_l04Right k⟩]) (loops := []) (by kernel_rfl) (by kernel_rfl) (fun x r h => (t_s_l04S k x).trans h)
def s_l04Round (k : Nat) (x : List (Int) × List (Int) × ByteArray × Unit) : Option (List (Int) × Unit × Unit × Unit × Unit) :=
((s_l04Words k (x.2.2.1, ())).bind fun p1 =>
(whileK (fun (rec0 : (List (Int) × List (Int) × List (Int) × Int × Unit) → Option _) (y0 : List (Int) × List (Int) × List (Int) × Int × Unit) =>
(if (decide (y0.2.2.2.1 < (64 : Int))) = true then
(if 0 ≤ (wi64 (y0.2.2.2.1 - (2 : Int))) ∧ (wi64 (y0.2.2.2.1 - (2 : Int))) < (List.length y0.2.2.1 : Int) then
((s_l04S k ((Ty.rd (t := (.int .u32)) y0.2.2.1 (wi64 (y0.2.2.2.1 - (2 : Int)))), ((131072 : Int), ((524288 : Int), ((1024 : Int), (true, ())))))).bind fun p2 =>
(if 0 ≤ (wi64 (y0.2.2.2.1 - (7 : Int))) ∧ (wi64 (y0.2.2.2.1 - (7 : Int))) < (List.length y0.2.2.1 : Int) then
(if 0 ≤ (wi64 (y0.2.2.2.1 - (15 : Int))) ∧ (wi64 (y0.2.2.2.1 - (15 : Int))) < (List.length y0.2.2.1 : Int) then
((s_l04S k ((Ty.rd (t := (.int .u32)) y0.2.2.1 (wi64 (y0.2.2.2.1 - (15 : Int)))), ((128 : Int), ((262144 : Int), ((8 : Int), (true, ())))))).bind fun p3 =>
(if 0 ≤ (wi64 (y0.2.2.2.1 - (16 : Int))) ∧ (wi64 (y0.2.2.2.1 - (16 : Int))) < (List.length y0.2.2.1 : Int) then
(if List.length y0.2.2.1 + List.length ([(wu32 ((wu32 ((wu32 (p2.1 + (Ty.rd (t := (.int .u32)) y0.2.2.1 (wi64 (y0.2.2.2.1 - (7 : Int)))))) + p3.1)) + (Ty.rd (t := (.int .u32)) y0.2.2.1 (wi64 (y0.2.2.2.1 - (16 : Int))))))] : List (Int)) ≤ capMax then
(rec0 (y0.1, (y0.2.1, ((y0.2.2.1 ++ ([(wu32 ((wu32 ((wu32 (p2.1 + (Ty.rd (t := (.int .u32)) y0.2.2.1 (wi64 (y0.2.2.2.1 - (7 : Int)))))) + p3.1)) + (Ty.rd (t := (.int .u32)) y0.2.2.1 (wi64 (y0.2.2.2.1 - (16 : Int))))))] : List (Int))), ((wi64 (y0.2.2.2.1 + (1 : Int))), ())))))
else none)
else none))
else none)
else none))
else none)
else
((fun (z1 : List (Int) × List (Int) × List (Int) × Unit) =>
(if List.length ([] : List (Int)) + List.length z1.1 ≤ capMax then
(whileK (fun (rec2 : (List (Int) × List (Int) × List (Int) × List (Int) × Int × Unit) → Option _) (y2 : List (Int) × List (Int) × List (Int) × List (Int) × Int × Unit) =>
(if (decide (y2.2.2.2.2.1 < (64 : Int))) = true then
(if 0 ≤ (4 : Int) ∧ (4 : Int) < (List.length y2.2.2.2.1 : Int) then
(if 0 ≤ (5 : Int) ∧ (5 : Int) < (List.length y2.2.2.2.1 : Int) then
(if 0 ≤ (6 : Int) ∧ (6 : Int) < (List.length y2.2.2.2.1 : Int) then
(if 0 ≤ (7 : Int) ∧ (7 : Int) < (List.length y2.2.2.2.1 : Int) then
((s_l04S k ((Ty.rd (t := (.int .u32)) y2.2.2.2.1 (4 : Int)), ((64 : Int), ((2048 : Int), ((33554432 : Int), (false, ())))))).bind fun p4 =>
(if 0 ≤ y2.2.2.2.2.1 ∧ y2.2.2.2.2.1 < (List.length y2.2.1 : Int) then
(if 0 ≤ y2.2.2.2.2.1 ∧ y2.2.2.2.2.1 < (List.length y2.2.2.1 : Int) then
(if 0 ≤ (0 : Int) ∧ (0 : Int) < (List.length y2.2.2.2.1 : Int) then
(if 0 ≤ (1 : Int) ∧ (1 : Int) < (List.length y2.2.2.2.1 : Int) then
(if 0 ≤ (0 : Int) ∧ (0 : Int) < (List.length y2.2.2.2.1 : Int) then
(if 0 ≤ (2 : Int) ∧ (2 : Int) < (List.length y2.2.2.2.1 : Int) then
(if 0 ≤ (1 : Int) ∧ (1 : Int) < (List.length y2.2.2.2.1 : Int) then
(if 0 ≤ (2 : Int) ∧ (2 : Int) < (List.length y2.2.2.2.1 : Int) then
(if 0 ≤ (0 : Int) ∧ (0 : Int) < (List.length y2.2.2.2.1 : Int) then
((s_l04S k ((Ty.rd (t := (.int .u32)) y2.2.2.2.1 (0 : Int)), ((4 : Int), ((8192 : Int), ((4194304 : Int), (false, ())))))).bind fun p5 =>
(whileK (fun (rec4 : (List (Int) × List (Int) × List (Int) × List (Int) × Int × Int × Int × Int × Unit) → Option _) (y4 : List (Int) × List (Int) × List (Int) × List (Int) × Int × Int × Int × Int × Unit) =>
(if (decide ((0 : Int) < y4.2.2.2.2.2.2.2.1)) = true then
(if 0 ≤ (wi64 (y4.2.2.2.2.2.2.2.1 - (1 : Int))) ∧ (wi64 (y4.2.2.2.2.2.2.2.1 - (1 : Int))) < (List.length y4.2.2.2.1 : Int) then
(if 0 ≤ y4.2.2.2.2.2.2.2.1 ∧ y4.2.2.2.2.2.2.2.1 < (List.length y4.2.2.2.1 : Int) then
(rec4 (y4.1, (y4.2.1, (y4.2.2.1, ((List.set y4.2.2.2.1 (Int.toNat y4.2.2.2.2.2.2.2.1) (Ty.rd (t := (.int .u32)) y4.2.2.2.1 (wi64 (y4.2.2.2.2.2.2.2.1 - (1 : Int))))), (y4.2.2.2.2.1, (y4.2.2.2.2.2.1, (y4.2.2.2.2.2.2.1, ((wi64 (y4.2.2.2.2.2.2.2.1 - (1 : Int))), ())))))))))
else none)
else none)
else
((fun (z2 : List (Int) × List (Int) × List (Int) × List (Int) × Int × Int × Int × Unit) =>
(if 0 ≤ (4 : Int) ∧ (4 : Int) < (List.length z2.2.2.2.1 : Int) then
(if 0 ≤ (4 : Int) ∧ (4 : Int) < (List.length z2.2.2.2.1 : Int) then
(if 0 ≤ (0 : Int) ∧ (0 : Int) < (List.length (List.set z2.2.2.2.1 (Int.toNat (4 : Int)) (wu32 ((Ty.rd (t := (.int .u32)) z2.2.2.2.1 (4 : Int)) + z2.2.2.2.2.2.1))) : Int) then
(rec2 (z2.1, (z2.2.1, (z2.2.2.1, ((List.set (List.set z2.2.2.2.1 (Int.toNat (4 : Int)) (wu32 ((Ty.rd (t := (.int .u32)) z2.2.2.2.1 (4 : Int)) + z2.2.2.2.2.2.1))) (Int.toNat (0 : Int)) (wu32 (z2.2.2.2.2.2.1 + z2.2.2.2.2.2.2.1))), ((wi64 (z2.2.2.2.2.1 + (1 : Int))), ()))))))
else none)
else none)
else none)) (y4.1, (y4.2.1, (y4.2.2.1, (y4.2.2.2.1, (y4.2.2.2.2.1, (y4.2.2.2.2.2.1, (y4.2.2.2.2.2.2.1, ())))))))))) k (y2.1, (y2.2.1, (y2.2.2.1, (y2.2.2.2.1, (y2.2.2.2.2.1, ((wu32 ((wu32 ((wu32 ((wu32 ((Ty.rd (t := (.int .u32)) y2.2.2.2.1 (7 : Int)) + p4.1)) + (bitsI .xor .u32 (bitsI .and .u32 (Ty.rd (t := (.int .u32)) y2.2.2.2.1 (4 : Int)) (Ty.rd (t := (.int .u32)) y2.2.2.2.1 (5 : Int))) (bitsI .and .u32 (wu32 ((4294967295 : Int) - (Ty.rd (t := (.int .u32)) y2.2.2.2.1 (4 : Int)))) (Ty.rd (t := (.int .u32)) y2.2.2.2.1 (6 : Int)))))) + (Ty.rd (t := (.int .u32)) y2.2.1 y2.2.2.2.2.1))) + (Ty.rd (t := (.int .u32)) y2.2.2.1 y2.2.2.2.2.1))), ((wu32 (p5.1 + (bitsI .xor .u32 (bitsI .xor .u32 (bitsI .and .u32 (Ty.rd (t := (.int .u32)) y2.2.2.2.1 (0 : Int)) (Ty.rd (t := (.int .u32)) y2.2.2.2.1 (1 : Int))) (bitsI .and .u32 (Ty.rd (t := (.int .u32)) y2.2.2.2.1 (0 : Int)) (Ty.rd (t := (.int .u32)) y2.2.2.2.1 (2 : Int)))) (bitsI .and .u32 (Ty.rd (t := (.int .u32)) y2.2.2.2.1 (1 : Int)) (Ty.rd (t := (.int .u32)) y2.2.2.2.1 (2 : Int)))))), ((7 : Int), ()))))))))))
else none)
else none)
else none)
else none)
else none)
else none)
else none)
else none)
else none))
else none)
else none)
else none)
else none)
else
((fun (z3 : List (Int) × List (Int) × Unit) =>
(whileK (fun (rec6 : (List (Int) × List (Int) × List (Int) × Int × Unit) → Option _) (y6 : List (Int) × List (Int) × List (Int) × Int × Unit) =>
(if (decide (y6.2.2.2.1 < (8 : Int))) = true then
(if 0 ≤ y6.2.2.2.1 ∧ y6.2.2.2.1 < (List.length y6.1 : Int) then
(if 0 ≤ y6.2.2.2.1 ∧ y6.2.2.2.1 < (List.length y6.2.1 : Int) then
(if List.length y6.2.2.1 + List.length ([(wu32 ((Ty.rd (t := (.int .u32)) y6.1 y6.2.2.2.1) + (Ty.rd (t := (.int .u32)) y6.2.1 y6.2.2.2.1)))] : List (Int)) ≤ capMax then
(rec6 (y6.1, (y6.2.1, ((y6.2.2.1 ++ ([(wu32 ((Ty.rd (t := (.int .u32)) y6.1 y6.2.2.2.1) + (Ty.rd (t := (.int .u32)) y6.2.1 y6.2.2.2.1)))] : List (Int))), ((wi64 (y6.2.2.2.1 + (1 : Int))), ())))))
else none)
else none)
else none)
else
((fun (z4 : List (Int) × Unit) =>
some (z4.1, ((), ((), ((), ()))))) (y6.2.2.1, ())))) k (z3.1, (z3.2.1, (([] : List (Int)), ((0 : Int), ())))))) (y2.1, (y2.2.2.2.1, ()))))) k (z1.1, (z1.2.1, (z1.2.2.1, ((([] : List (Int)) ++ z1.1), ((0 : Int), ()))))))
else none)) (y0.1, (y0.2.1, (y0.2.2.1, ())))))) k (x.1, (x.2.1, (p1.1, ((16 : Int), ()))))))
theorem t_s_l04Round (k : Nat) (x) : evF TTab k [⟨276, 0, (.cons .str .nil), (.own false 311 (.int .u32)), s_l04Words k⟩, ⟨312, 0, (.cons (.int .u32) (.cons (.int .u32) (.cons (.int .u32) (.cons (.int .u32) (.cons .bool .nil))))), (.int .u32), s_l04S k⟩] [(0, ⟨[0, 1, 7, 8], (.cons (.il true (.int .u32)) (.cons (.il true (.int .u32)) (.cons (.own false 311 (.int .u32)) (.cons (.int .i64) .nil))))⟩, ⟨[0, 1, 7], (.cons (.il true (.int .u32)) (.cons (.il true (.int .u32)) (.cons (.own false 311 (.int .u32)) .nil)))⟩), (2, ⟨[0, 1, 7, 9, 10], (.cons (.il true (.int .u32)) (.cons (.il true (.int .u32)) (.cons (.own false 311 (.int .u32)) (.cons (.own false 311 (.int .u32)) (.cons (.int .i64) .nil)))))⟩, ⟨[0, 9], (.cons (.il true (.int .u32)) (.cons (.own false 311 (.int .u32)) .nil))⟩), (4, ⟨[0, 1, 7, 9, 10, 13, 15, 16], (.cons (.il true (.int .u32)) (.cons (.il true (.int .u32)) (.cons (.own false 311 (.int .u32)) (.cons (.own false 311 (.int .u32)) (.cons (.int .i64) (.cons (.int .u32) (.cons (.int .u32) (.cons (.int .i64) .nil))))))))⟩, ⟨[0, 1, 7, 9, 10, 13, 15], (.cons (.il true (.int .u32)) (.cons (.il true (.int .u32)) (.cons (.own false 311 (.int .u32)) (.cons (.own false 311 (.int .u32)) (.cons (.int .i64) (.cons (.int .u32) (.cons (.int .u32) .nil)))))))⟩), (6, ⟨[0, 9, 17, 18], (.cons (.il true (.int .u32)) (.cons (.own false 311 (.int .u32)) (.cons (.own false 311 (.int .u32)) (.cons (.int .i64) .nil))))⟩, ⟨[17], (.cons (.own false 311 (.int .u32)) .nil)⟩)] Tryz.f278 (.cons (.il true (.int .u32)) (.cons (.il true (.int .u32)) (.cons .str .nil))) (.own false 311 (.int .u32)) x = s_l04Round k x := by kernel_rfl
theorem e_s_l04Round (k : Nat) : EntryOk Tryz.prog ⟨278, 0, (.cons (.il true (.int .u32)) (.cons (.il true (.int .u32)) (.cons .str .nil))), (.own false 311 (.int .u32)), s_l04Round k⟩ := entry_ok tok (by intro e he; simp only [List.mem_cons, List.not_mem_nil, or_false] at he; rcases he with rfl | rfl <;> first | exact e_s_l04Words k | exact e_s_l04S k) (by kernel_rfl) (fn := Tryz.f278) (k := k) (es := [⟨276, 0, (.cons .str .nil), (.own false 311 (.int .u32)), s_l04Words k⟩, ⟨312, 0, (.cons (.int .u32) (.cons (.int .u32) (.cons (.int .u32) (.cons (.int .u32) (.cons .bool .nil))))), (.int .u32), s_l04S k⟩]) (loops := [(0, ⟨[0, 1, 7, 8], (.cons (.il true (.int .u32)) (.cons (.il true (.int .u32)) (.cons (.own false 311 (.int .u32)) (.cons (.int .i64) .nil))))⟩, ⟨[0, 1, 7], (.cons (.il true (.int .u32)) (.cons (.il true (.int .u32)) (.cons (.own false 311 (.int .u32)) .nil)))⟩), (2, ⟨[0, 1, 7, 9, 10], (.cons (.il true (.int .u32)) (.cons (.il true (.int .u32)) (.cons (.own false 311 (.int .u32)) (.cons (.own false 311 (.int .u32)) (.cons (.int .i64) .nil)))))⟩, ⟨[0, 9], (.cons (.il true (.int .u32)) (.cons (.own false 311 (.int .u32)) .nil))⟩), (4, ⟨[0, 1, 7, 9, 10, 13, 15, 16], (.cons (.il true (.int .u32)) (.cons (.il true (.int .u32)) (.cons (.own false 311 (.int .u32)) (.cons (.own false 311 (.int .u32)) (.cons (.int .i64) (.cons (.int .u32) (.cons (.int .u32) (.cons (.int .i64) .nil))))))))⟩, ⟨[0, 1, 7, 9, 10, 13, 15], (.cons (.il true (.int .u32)) (.cons (.il true (.int .u32)) (.cons (.own false 311 (.int .u32)) (.cons (.own false 311 (.int .u32)) (.cons (.int .i64) (.cons (.int .u32) (.cons (.int .u32) .nil)))))))⟩), (6, ⟨[0, 9, 17, 18], (.cons (.il true (.int .u32)) (.cons (.own false 311 (.int .u32)) (.cons (.own false 311 (.int .u32)) (.cons (.int .i64) .nil))))⟩, ⟨[17], (.cons (.own false 311 (.int .u32)) .nil)⟩)]) (by kernel_rfl) (by kernel_rfl) (fun x r h => (t_s_l04Round k x).trans h)
def s_l04Bytes (k : Nat) (x : List (Int) × Unit) : Option (ByteArray × Unit × Unit) :=
(whileK (fun (rec0 : (List (Int) × List (Int) × Int × Unit) → Option _) (y0 : List (Int) × List (Int) × Int × Unit) =>
(if (decide (y0.2.2.1 < (List.length y0.1 : Int))) = true then
(if 0 ≤ y0.2.2.1 ∧ y0.2.2.1 < (List.length y0.1 : Int) then
(if List.length y0.2.1 + List.length ([(wu8 ((wu32 (Int.tdiv (Ty.rd (t := (.int .u32)) y0.1 y0.2.2.1) (16777216 : Int))))), (wu8 ((Int.tmod (wu32 (Int.tdiv (Ty.rd (t := (.int .u32)) y0.1 y0.2.2.1) (65536 : Int))) (256 : Int)))), (wu8 ((Int.tmod (wu32 (Int.tdiv (Ty.rd (t := (.int .u32)) y0.1 y0.2.2.1) (256 : Int))) (256 : Int)))), (wu8 ((Int.tmod (Ty.rd (t := (.int .u32)) y0.1 y0.2.2.1) (256 : Int))))] : List (Int)) ≤ capMax then
(rec0 (y0.1, ((y0.2.1 ++ ([(wu8 ((wu32 (Int.tdiv (Ty.rd (t := (.int .u32)) y0.1 y0.2.2.1) (16777216 : Int))))), (wu8 ((Int.tmod (wu32 (Int.tdiv (Ty.rd (t := (.int .u32)) y0.1 y0.2.2.1) (65536 : Int))) (256 : Int)))), (wu8 ((Int.tmod (wu32 (Int.tdiv (Ty.rd (t := (.int .u32)) y0.1 y0.2.2.1) (256 : Int))) (256 : Int)))), (wu8 ((Int.tmod (Ty.rd (t := (.int .u32)) y0.1 y0.2.2.1) (256 : Int))))] : List (Int))), ((wi64 (y0.2.2.1 + (1 : Int))), ()))))
else none)
else none)
else
((fun (z1 : List (Int) × Unit) =>
some ((strOf z1.1), ((), ()))) (y0.2.1, ())))) k (x.1, (([] : List (Int)), ((0 : Int), ()))))
theorem t_s_l04Bytes (k : Nat) (x) : evF TTab k [] [(0, ⟨[0, 3, 4], (.cons (.il true (.int .u32)) (.cons (.own false 5 (.int .u8)) (.cons (.int .i64) .nil)))⟩, ⟨[3], (.cons (.own false 5 (.int .u8)) .nil)⟩)] Tryz.f279 (.cons (.il true (.int .u32)) .nil) .str x = s_l04Bytes k x := by kernel_rfl
theorem e_s_l04Bytes (k : Nat) : EntryOk Tryz.prog ⟨279, 0, (.cons (.il true (.int .u32)) .nil), .str, s_l04Bytes k⟩ := entry_ok tok (by simp) (by kernel_rfl) (fn := Tryz.f279) (k := k) (es := []) (loops := [(0, ⟨[0, 3, 4], (.cons (.il true (.int .u32)) (.cons (.own false 5 (.int .u8)) (.cons (.int .i64) .nil)))⟩, ⟨[3], (.cons (.own false 5 (.int .u8)) .nil)⟩)]) (by kernel_rfl) (by kernel_rfl) (fun x r h => (t_s_l04Bytes k x).trans h)
def s_HashEnd (k : Nat) (x : (ByteArray × ByteArray × Int × Unit) × Unit) : Option (ByteArray × Unit × Unit) :=
((s_HasherOk k ((x.1.1, (x.1.2.1, (x.1.2.2.1, ()))), ())).bind fun p1 =>
(if (!p1.1) = true then
some ((⟨#[]⟩ : ByteArray), ((), ()))
else
(if ByteArray.size x.1.2.1 ≤ maxStr then
(if List.length (bytesOf x.1.2.1) + List.length ([(128 : Int)] : List (Int)) ≤ capMax then
(whileK (fun (rec0 : ((ByteArray × ByteArray × Int × Unit) × List (Int) × Unit) → Option _) (y0 : (ByteArray × ByteArray × Int × Unit) × List (Int) × Unit) =>
(if (!decide ((Int.tmod (List.length y0.2.1 : Int) (64 : Int)) = (56 : Int))) = true then
(if List.length y0.2.1 + List.length ([(0 : Int)] : List (Int)) ≤ capMax then
(rec0 ((y0.1.1, (y0.1.2.1, (y0.1.2.2.1, ()))), ((y0.2.1 ++ ([(0 : Int)] : List (Int))), ())))
else none)
else
((fun (z1 : (ByteArray × ByteArray × Int × Unit) × List (Int) × Unit) =>
(whileK (fun (rec2 : ((ByteArray × ByteArray × Int × Unit) × List (Int) × Int × Int × Unit) → Option _) (y2 : (ByteArray × ByteArray × Int × Unit) × List (Int) × Int × Int × Unit) =>
(if (decide ((0 : Int) ≤ y2.2.2.2.1)) = true then
(whileK (fun (rec4 : ((ByteArray × ByteArray × Int × Unit) × List (Int) × Int × Int × Int × Int × Unit) → Option _) (y4 : (ByteArray × ByteArray × Int × Unit) × List (Int) × Int × Int × Int × Int × Unit) =>
(if (decide (y4.2.2.2.2.2.1 < y4.2.2.2.1)) = true then
(rec4 ((y4.1.1, (y4.1.2.1, (y4.1.2.2.1, ()))), (y4.2.1, (y4.2.2.1, (y4.2.2.2.1, ((wi64 (Int.tdiv y4.2.2.2.2.1 (256 : Int))), ((wi64 (y4.2.2.2.2.2.1 + (1 : Int))), ())))))))
else
((fun (z2 : (ByteArray × ByteArray × Int × Unit) × List (Int) × Int × Int × Int × Unit) =>
(if List.length z2.2.1 + List.length ([(wu8 ((Int.tmod z2.2.2.2.2.1 (256 : Int))))] : List (Int)) ≤ capMax then
(rec2 ((z2.1.1, (z2.1.2.1, (z2.1.2.2.1, ()))), ((z2.2.1 ++ ([(wu8 ((Int.tmod z2.2.2.2.2.1 (256 : Int))))] : List (Int))), (z2.2.2.1, ((wi64 (z2.2.2.2.1 - (1 : Int))), ())))))
else none)) ((y4.1.1, (y4.1.2.1, (y4.1.2.2.1, ()))), (y4.2.1, (y4.2.2.1, (y4.2.2.2.1, (y4.2.2.2.2.1, ())))))))) k ((y2.1.1, (y2.1.2.1, (y2.1.2.2.1, ()))), (y2.2.1, (y2.2.2.1, (y2.2.2.2.1, (y2.2.2.1, ((0 : Int), ())))))))
else
((fun (z3 : (ByteArray × ByteArray × Int × Unit) × List (Int) × Unit) =>
((s_l04Words k (z3.1.1, ())).bind fun p2 =>
((s_l04K k ()).bind fun p3 =>
(whileK (fun (rec6 : (List (Int) × List (Int) × List (Int) × Int × Unit) → Option _) (y6 : List (Int) × List (Int) × List (Int) × Int × Unit) =>
(if (decide (y6.2.2.2.1 < (List.length y6.1 : Int))) = true then
(if 0 ≤ (wi64 (y6.2.2.2.1 + (64 : Int))) ∧ (wi64 (y6.2.2.2.1 + (64 : Int))) ≤ (List.length y6.1 : Int) then
(if 0 ≤ y6.2.2.2.1 ∧ y6.2.2.2.1 ≤ (wi64 (y6.2.2.2.1 + (64 : Int))) then
((s_l04Round k (y6.2.1, (y6.2.2.1, ((strOf (List.drop (Int.toNat y6.2.2.2.1) (List.take (Int.toNat (wi64 (y6.2.2.2.1 + (64 : Int)))) y6.1))), ())))).bind fun p4 =>
(rec6 (y6.1, (p4.1, (y6.2.2.1, ((wi64 (y6.2.2.2.1 + (64 : Int))), ()))))))
else none)
else none)
else
((fun (z4 : List (Int) × Unit) =>
((s_l04Bytes k (z4.1, ())).bind fun p5 =>
some (p5.1, ((), ())))) (y6.2.1, ())))) k (z3.2.1, (p2.1, (p3.1, ((0 : Int), ())))))))) ((y2.1.1, (y2.1.2.1, (y2.1.2.2.1, ()))), (y2.2.1, ()))))) k ((z1.1.1, (z1.1.2.1, (z1.1.2.2.1, ()))), (z1.2.1, ((wi64 ((8 : Int) * z1.1.2.2.1)), ((7 : Int), ())))))) ((y0.1.1, (y0.1.2.1, (y0.1.2.2.1, ()))), (y0.2.1, ()))))) k ((x.1.1, (x.1.2.1, (x.1.2.2.1, ()))), (((bytesOf x.1.2.1) ++ ([(128 : Int)] : List (Int))), ())))
else none)
else none)))
theorem t_s_HashEnd (k : Nat) (x) : evF TTab k [⟨275, 0, (.cons (.agg (.cons .str (.cons .str (.cons (.int .i64) .nil)))) .nil), .bool, s_HasherOk k⟩, ⟨276, 0, (.cons .str .nil), (.own false 311 (.int .u32)), s_l04Words k⟩, ⟨277, 0, .nil, (.own false 311 (.int .u32)), s_l04K k⟩, ⟨278, 0, (.cons (.il true (.int .u32)) (.cons (.il true (.int .u32)) (.cons .str .nil))), (.own false 311 (.int .u32)), s_l04Round k⟩, ⟨279, 0, (.cons (.il true (.int .u32)) .nil), .str, s_l04Bytes k⟩] [(0, ⟨[1, 3], (.cons (.ptr 0 (.cons .str (.cons .str (.cons (.int .i64) .nil)))) (.cons (.own true 5 (.int .u8)) .nil))⟩, ⟨[1, 3], (.cons (.ptr 0 (.cons .str (.cons .str (.cons (.int .i64) .nil)))) (.cons (.own true 5 (.int .u8)) .nil))⟩), (2, ⟨[1, 3, 4, 5], (.cons (.ptr 0 (.cons .str (.cons .str (.cons (.int .i64) .nil)))) (.cons (.own true 5 (.int .u8)) (.cons (.int .i64) (.cons (.int .i64) .nil))))⟩, ⟨[1, 3], (.cons (.ptr 0 (.cons .str (.cons .str (.cons (.int .i64) .nil)))) (.cons (.own true 5 (.int .u8)) .nil))⟩), (4, ⟨[1, 3, 4, 5, 6, 7], (.cons (.ptr 0 (.cons .str (.cons .str (.cons (.int .i64) .nil)))) (.cons (.own true 5 (.int .u8)) (.cons (.int .i64) (.cons (.int .i64) (.cons (.int .i64) (.cons (.int .i64) .nil))))))⟩, ⟨[1, 3, 4, 5, 6], (.cons (.ptr 0 (.cons .str (.cons .str (.cons (.int .i64) .nil)))) (.cons (.own true 5 (.int .u8)) (.cons (.int .i64) (.cons (.int .i64) (.cons (.int .i64) .nil)))))⟩), (6, ⟨[3, 8, 9, 10], (.cons (.own true 5 (.int .u8)) (.cons (.own false 311 (.int .u32)) (.cons (.own false 311 (.int .u32)) (.cons (.int .i64) .nil))))⟩, ⟨[8], (.cons (.own false 311 (.int .u32)) .nil)⟩)] Tryz.f208 (.cons (.agg (.cons .str (.cons .str (.cons (.int .i64) .nil)))) .nil) .str x = s_HashEnd k x := by kernel_rfl
theorem e_s_HashEnd (k : Nat) : EntryOk Tryz.prog ⟨208, 0, (.cons (.agg (.cons .str (.cons .str (.cons (.int .i64) .nil)))) .nil), .str, s_HashEnd k⟩ := entry_ok tok (by intro e he; simp only [List.mem_cons, List.not_mem_nil, or_false] at he; rcases he with rfl | rfl | rfl | rfl | rfl <;> first | exact e_s_HasherOk k | exact e_s_l04Words k | exact e_s_l04K k | exact e_s_l04Round k | exact e_s_l04Bytes k) (by kernel_rfl) (fn := Tryz.f208) (k := k) (es := [⟨275, 0, (.cons (.agg (.cons .str (.cons .str (.cons (.int .i64) .nil)))) .nil), .bool, s_HasherOk k⟩, ⟨276, 0, (.cons .str .nil), (.own false 311 (.int .u32)), s_l04Words k⟩, ⟨277, 0, .nil, (.own false 311 (.int .u32)), s_l04K k⟩, ⟨278, 0, (.cons (.il true (.int .u32)) (.cons (.il true (.int .u32)) (.cons .str .nil))), (.own false 311 (.int .u32)), s_l04Round k⟩, ⟨279, 0, (.cons (.il true (.int .u32)) .nil), .str, s_l04Bytes k⟩]) (loops := [(0, ⟨[1, 3], (.cons (.ptr 0 (.cons .str (.cons .str (.cons (.int .i64) .nil)))) (.cons (.own true 5 (.int .u8)) .nil))⟩, ⟨[1, 3], (.cons (.ptr 0 (.cons .str (.cons .str (.cons (.int .i64) .nil)))) (.cons (.own true 5 (.int .u8)) .nil))⟩), (2, ⟨[1, 3, 4, 5], (.cons (.ptr 0 (.cons .str (.cons .str (.cons (.int .i64) .nil)))) (.cons (.own true 5 (.int .u8)) (.cons (.int .i64) (.cons (.int .i64) .nil))))⟩, ⟨[1, 3], (.cons (.ptr 0 (.cons .str (.cons .str (.cons (.int .i64) .nil)))) (.cons (.own true 5 (.int .u8)) .nil))⟩), (4, ⟨[1, 3, 4, 5, 6, 7], (.cons (.ptr 0 (.cons .str (.cons .str (.cons (.int .i64) .nil)))) (.cons (.own true 5 (.int .u8)) (.cons (.int .i64) (.cons (.int .i64) (.cons (.int .i64) (.cons (.int .i64) .nil))))))⟩, ⟨[1, 3, 4, 5, 6], (.cons (.ptr 0 (.cons .str (.cons .str (.cons (.int .i64) .nil)))) (.cons (.own true 5 (.int .u8)) (.cons (.int .i64) (.cons (.int .i64) (.cons (.int .i64) .nil)))))⟩), (6, ⟨[3, 8, 9, 10], (.cons (.own true 5 (.int .u8)) (.cons (.own false 311 (.int .u32)) (.cons (.own false 311 (.int .u32)) (.cons (.int .i64) .nil))))⟩, ⟨[8], (.cons (.own false 311 (.int .u32)) .nil)⟩)]) (by kernel_rfl) (by kernel_rfl) (fun x r h => (t_s_HashEnd k x).trans h)
def s_HashMore (k : Nat) (x : (ByteArray × ByteArray × Int × Unit) × ByteArray × Unit) : Option ((ByteArray × ByteArray × Int × Unit) × Unit × Unit × Unit) :=
((s_HasherOk k ((x.1.1, (x.1.2.1, (x.1.2.2.1, ()))), ())).bind fun p1 =>
(if (!p1.1) = false then
(if (decide ((1000000000 : Int) < (wi64 (x.1.2.2.1 + (ByteArray.size x.2.1 : Int))))) = true then
some ((x.1.1, (x.1.2.1, (x.1.2.2.1, ()))), ((), ((), ())))
else
((s_l04Words k (x.1.1, ())).bind fun p2 =>
((s_l04K k ()).bind fun p3 =>
(if ByteArray.size x.1.2.1 + ByteArray.size x.2.1 ≤ maxStr then
(whileK (fun (rec0 : (ByteArray × (ByteArray × ByteArray × Int × Unit) × (ByteArray × ByteArray × Int × Unit) × List (Int) × List (Int) × ByteArray × Int × Unit) → Option _) (y0 : ByteArray × (ByteArray × ByteArray × Int × Unit) × (ByteArray × ByteArray × Int × Unit) × List (Int) × List (Int) × ByteArray × Int × Unit) =>
(if (decide ((wi64 (y0.2.2.2.2.2.2.1 + (64 : Int))) ≤ (ByteArray.size y0.2.2.2.2.2.1 : Int))) = true then
(if 0 ≤ (wi64 (y0.2.2.2.2.2.2.1 + (64 : Int))) ∧ (wi64 (y0.2.2.2.2.2.2.1 + (64 : Int))) ≤ (ByteArray.size y0.2.2.2.2.2.1 : Int) then
(if 0 ≤ y0.2.2.2.2.2.2.1 ∧ y0.2.2.2.2.2.2.1 ≤ (wi64 (y0.2.2.2.2.2.2.1 + (64 : Int))) then
((s_l04Round k (y0.2.2.2.1, (y0.2.2.2.2.1, ((ByteArray.extract y0.2.2.2.2.2.1 (Int.toNat y0.2.2.2.2.2.2.1) (Int.toNat (wi64 (y0.2.2.2.2.2.2.1 + (64 : Int))))), ())))).bind fun p4 =>
(rec0 (y0.1, ((y0.2.1.1, (y0.2.1.2.1, (y0.2.1.2.2.1, ()))), ((y0.2.2.1.1, (y0.2.2.1.2.1, (y0.2.2.1.2.2.1, ()))), (p4.1, (y0.2.2.2.2.1, (y0.2.2.2.2.2.1, ((wi64 (y0.2.2.2.2.2.2.1 + (64 : Int))), ())))))))))
else none)
else none)
else
((fun (z1 : ByteArray × (ByteArray × ByteArray × Int × Unit) × (ByteArray × ByteArray × Int × Unit) × List (Int) × ByteArray × Int × Unit) =>
((s_l04Bytes k (z1.2.2.2.1, ())).bind fun p5 =>
(if 0 ≤ z1.2.2.2.2.2.1 ∧ z1.2.2.2.2.2.1 ≤ (ByteArray.size z1.2.2.2.2.1 : Int) then
some ((p5.1, ((ByteArray.extract z1.2.2.2.2.1 (Int.toNat z1.2.2.2.2.2.1) (Int.toNat (ByteArray.size z1.2.2.2.2.1 : Int))), ((wi64 (z1.2.1.2.2.1 + (ByteArray.size z1.1 : Int))), ()))), ((), ((), ())))
else none))) (y0.1, ((y0.2.1.1, (y0.2.1.2.1, (y0.2.1.2.2.1, ()))), ((y0.2.2.1.1, (y0.2.2.1.2.1, (y0.2.2.1.2.2.1, ()))), (y0.2.2.2.1, (y0.2.2.2.2.2.1, (y0.2.2.2.2.2.2.1, ()))))))))) k (x.2.1, ((x.1.1, (x.1.2.1, (x.1.2.2.1, ()))), (((⟨#[]⟩ : ByteArray), ((⟨#[]⟩ : ByteArray), ((0 : Int), ()))), (p2.1, (p3.1, ((x.1.2.1 ++ x.2.1), ((0 : Int), ()))))))))
else none))))
else
some ((x.1.1, (x.1.2.1, (x.1.2.2.1, ()))), ((), ((), ())))))
theorem t_s_HashMore (k : Nat) (x) : evF TTab k [⟨275, 0, (.cons (.agg (.cons .str (.cons .str (.cons (.int .i64) .nil)))) .nil), .bool, s_HasherOk k⟩, ⟨276, 0, (.cons .str .nil), (.own false 311 (.int .u32)), s_l04Words k⟩, ⟨277, 0, .nil, (.own false 311 (.int .u32)), s_l04K k⟩, ⟨278, 0, (.cons (.il true (.int .u32)) (.cons (.il true (.int .u32)) (.cons .str .nil))), (.own false 311 (.int .u32)), s_l04Round k⟩, ⟨279, 0, (.cons (.il true (.int .u32)) .nil), .str, s_l04Bytes k⟩] [(0, ⟨[1, 2, 4, 5, 6, 7, 8], (.cons .str (.cons (.ptr 0 (.cons .str (.cons .str (.cons (.int .i64) .nil)))) (.cons (.ptr 0 (.cons .str (.cons .str (.cons (.int .i64) .nil)))) (.cons (.own false 311 (.int .u32)) (.cons (.own false 311 (.int .u32)) (.cons .str (.cons (.int .i64) .nil)))))))⟩, ⟨[1, 2, 4, 5, 7, 8], (.cons .str (.cons (.ptr 0 (.cons .str (.cons .str (.cons (.int .i64) .nil)))) (.cons (.ptr 0 (.cons .str (.cons .str (.cons (.int .i64) .nil)))) (.cons (.own false 311 (.int .u32)) (.cons .str (.cons (.int .i64) .nil))))))⟩)] Tryz.f209 (.cons (.agg (.cons .str (.cons .str (.cons (.int .i64) .nil)))) (.cons .str .nil)) (.agg (.cons .str (.cons .str (.cons (.int .i64) .nil)))) x = s_HashMore k x := by kernel_rfl
theorem e_s_HashMore (k : Nat) : EntryOk Tryz.prog ⟨209, 0, (.cons (.agg (.cons .str (.cons .str (.cons (.int .i64) .nil)))) (.cons .str .nil)), (.agg (.cons .str (.cons .str (.cons (.int .i64) .nil)))), s_HashMore k⟩ := entry_ok tok (by intro e he; simp only [List.mem_cons, List.not_mem_nil, or_false] at he; rcases he with rfl | rfl | rfl | rfl | rfl <;> first | exact e_s_HasherOk k | exact e_s_l04Words k | exact e_s_l04K k | exact e_s_l04Round k | exact e_s_l04Bytes k) (by kernel_rfl) (fn := Tryz.f209) (k := k) (es := [⟨275, 0, (.cons (.agg (.cons .str (.cons .str (.cons (.int .i64) .nil)))) .nil), .bool, s_HasherOk k⟩, ⟨276, 0, (.cons .str .nil), (.own false 311 (.int .u32)), s_l04Words k⟩, ⟨277, 0, .nil, (.own false 311 (.int .u32)), s_l04K k⟩, ⟨278, 0, (.cons (.il true (.int .u32)) (.cons (.il true (.int .u32)) (.cons .str .nil))), (.own false 311 (.int .u32)), s_l04Round k⟩, ⟨279, 0, (.cons (.il true (.int .u32)) .nil), .str, s_l04Bytes k⟩]) (loops := [(0, ⟨[1, 2, 4, 5, 6, 7, 8], (.cons .str (.cons (.ptr 0 (.cons .str (.cons .str (.cons (.int .i64) .nil)))) (.cons (.ptr 0 (.cons .str (.cons .str (.cons (.int .i64) .nil)))) (.cons (.own false 311 (.int .u32)) (.cons (.own false 311 (.int .u32)) (.cons .str (.cons (.int .i64) .nil)))))))⟩, ⟨[1, 2, 4, 5, 7, 8], (.cons .str (.cons (.ptr 0 (.cons .str (.cons .str (.cons (.int .i64) .nil)))) (.cons (.ptr 0 (.cons .str (.cons .str (.cons (.int .i64) .nil)))) (.cons (.own false 311 (.int .u32)) (.cons .str (.cons (.int .i64) .nil))))))⟩)]) (by kernel_rfl) (by kernel_rfl) (fun x r h => (t_s_HashMore k x).trans h)
def s_l04First (k : Nat) (x : Unit) : Option (List (Int) × Unit) :=
some (([(1779033703 : Int), (3144134277 : Int), (1013904242 : Int), (2773480762 : Int), (1359893119 : Int), (2600822924 : Int), (528734635 : Int), (1541459225 : Int)] : List (Int)), ())
theorem t_s_l04First (k : Nat) (x) : evF TTab k [] [] Tryz.f280 .nil (.own false 311 (.int .u32)) x = s_l04First k x := by kernel_rfl
theorem e_s_l04First (k : Nat) : EntryOk Tryz.prog ⟨280, 0, .nil, (.own false 311 (.int .u32)), s_l04First k⟩ := entry_ok tok (by simp) (by kernel_rfl) (fn := Tryz.f280) (k := k) (es := []) (loops := []) (by kernel_rfl) (by kernel_rfl) (fun x r h => (t_s_l04First k x).trans h)
def s_HasherNew (k : Nat) (x : Unit) : Option ((ByteArray × ByteArray × Int × Unit) × Unit) :=
((s_l04First k ()).bind fun p1 =>
((s_l04Bytes k (p1.1, ())).bind fun p2 =>
some ((p2.1, ((⟨#[]⟩ : ByteArray), ((0 : Int), ()))), ())))
theorem t_s_HasherNew (k : Nat) (x) : evF TTab k [⟨279, 0, (.cons (.il true (.int .u32)) .nil), .str, s_l04Bytes k⟩, ⟨280, 0, .nil, (.own false 311 (.int .u32)), s_l04First k⟩] [] Tryz.f210 .nil (.agg (.cons .str (.cons .str (.cons (.int .i64) .nil)))) x = s_HasherNew k x := by kernel_rfl
theorem e_s_HasherNew (k : Nat) : EntryOk Tryz.prog ⟨210, 0, .nil, (.agg (.cons .str (.cons .str (.cons (.int .i64) .nil)))), s_HasherNew k⟩ := entry_ok tok (by intro e he; simp only [List.mem_cons, List.not_mem_nil, or_false] at he; rcases he with rfl | rfl <;> first | exact e_s_l04Bytes k | exact e_s_l04First k) (by kernel_rfl) (fn := Tryz.f210) (k := k) (es := [⟨279, 0, (.cons (.il true (.int .u32)) .nil), .str, s_l04Bytes k⟩, ⟨280, 0, .nil, (.own false 311 (.int .u32)), s_l04First k⟩]) (loops := []) (by kernel_rfl) (by kernel_rfl) (fun x r h => (t_s_HasherNew k x).trans h)
def s_DigestOf (k : Nat) (x : ByteArray × Unit) : Option (ByteArray × Unit × Unit) :=
((s_HasherNew k ()).bind fun p1 =>
((s_HashMore k ((p1.1.1, (p1.1.2.1, (p1.1.2.2.1, ()))), (x.1, ()))).bind fun p2 =>
((s_HashEnd k ((p2.1.1, (p2.1.2.1, (p2.1.2.2.1, ()))), ())).bind fun p3 =>
some (p3.1, ((), ())))))
theorem t_s_DigestOf (k : Nat) (x) : evF TTab k [⟨208, 0, (.cons (.agg (.cons .str (.cons .str (.cons (.int .i64) .nil)))) .nil), .str, s_HashEnd k⟩, ⟨209, 0, (.cons (.agg (.cons .str (.cons .str (.cons (.int .i64) .nil)))) (.cons .str .nil)), (.agg (.cons .str (.cons .str (.cons (.int .i64) .nil)))), s_HashMore k⟩, ⟨210, 0, .nil, (.agg (.cons .str (.cons .str (.cons (.int .i64) .nil)))), s_HasherNew k⟩] [] Tryz.f122 (.cons .str .nil) .str x = s_DigestOf k x := by kernel_rfl
theorem e_s_DigestOf (k : Nat) : EntryOk Tryz.prog ⟨122, 0, (.cons .str .nil), .str, s_DigestOf k⟩ := entry_ok tok (by intro e he; simp only [List.mem_cons, List.not_mem_nil, or_false] at he; rcases he with rfl | rfl | rfl <;> first | exact e_s_HashEnd k | exact e_s_HashMore k | exact e_s_HasherNew k) (by kernel_rfl) (fn := Tryz.f122) (k := k) (es := [⟨208, 0, (.cons (.agg (.cons .str (.cons .str (.cons (.int .i64) .nil)))) .nil), .str, s_HashEnd k⟩, ⟨209, 0, (.cons (.agg (.cons .str (.cons .str (.cons (.int .i64) .nil)))) (.cons .str .nil)), (.agg (.cons .str (.cons .str (.cons (.int .i64) .nil)))), s_HashMore k⟩, ⟨210, 0, .nil, (.agg (.cons .str (.cons .str (.cons (.int .i64) .nil)))), s_HasherNew k⟩]) (loops := []) (by kernel_rfl) (by kernel_rfl) (fun x r h => (t_s_DigestOf k x).trans h)
def s_l17CopySlot (k : Nat) (x : (Int × ByteArray × ByteArray × Int × List (Int) × Int × Unit) × Unit) : Option ((Int × ByteArray × ByteArray × Int × List (Int) × Int × Unit) × Unit × Unit) :=
(if List.length ([] : List (Int)) + List.length x.1.2.2.2.2.1 ≤ capMax then
some ((x.1.1, (x.1.2.1, (x.1.2.2.1, (x.1.2.2.2.1, ((([] : List (Int)) ++ x.1.2.2.2.2.1), (x.1.2.2.2.2.2.1, ())))))), ((), ()))
else none)
theorem t_s_l17CopySlot (k : Nat) (x) : evF TTab k [] [] Tryz.f247 (.cons (.agg (.cons (.int .i64) (.cons .str (.cons .str (.cons (.int .i64) (.cons (.il true (.int .i64)) (.cons (.int .i64) .nil))))))) .nil) (.agg (.cons (.int .i64) (.cons .str (.cons .str (.cons (.int .i64) (.cons (.own false 3 (.int .i64)) (.cons (.int .i64) .nil))))))) x = s_l17CopySlot k x := by kernel_rfl
theorem e_s_l17CopySlot (k : Nat) : EntryOk Tryz.prog ⟨247, 0, (.cons (.agg (.cons (.int .i64) (.cons .str (.cons .str (.cons (.int .i64) (.cons (.il true (.int .i64)) (.cons (.int .i64) .nil))))))) .nil), (.agg (.cons (.int .i64) (.cons .str (.cons .str (.cons (.int .i64) (.cons (.own false 3 (.int .i64)) (.cons (.int .i64) .nil))))))), s_l17CopySlot k⟩ := entry_ok tok (by simp) (by kernel_rfl) (fn := Tryz.f247) (k := k) (es := []) (loops := []) (by kernel_rfl) (by kernel_rfl) (fun x r h => (t_s_l17CopySlot k x).trans h)
def s_l17Copy (k : Nat) (x : (Int × ByteArray × ByteArray × Int × List (Int) × Int × Int × ByteArray × ByteArray × Int × List (Int) × Int × Unit) × Unit) : Option ((Int × ByteArray × ByteArray × Int × List (Int) × Int × Int × ByteArray × ByteArray × Int × List (Int) × Int × Unit) × Unit × Unit) :=
((s_l17CopySlot k ((x.1.1, (x.1.2.1, (x.1.2.2.1, (x.1.2.2.2.1, (x.1.2.2.2.2.1, (x.1.2.2.2.2.2.1, ())))))), ())).bind fun p1 =>
((s_l17CopySlot k ((x.1.2.2.2.2.2.2.1, (x.1.2.2.2.2.2.2.2.1, (x.1.2.2.2.2.2.2.2.2.1, (x.1.2.2.2.2.2.2.2.2.2.1, (x.1.2.2.2.2.2.2.2.2.2.2.1, (x.1.2.2.2.2.2.2.2.2.2.2.2.1, ())))))), ())).bind fun p2 =>
some ((p1.1.1, (p1.1.2.1, (p1.1.2.2.1, (p1.1.2.2.2.1, (p1.1.2.2.2.2.1, (p1.1.2.2.2.2.2.1, (p2.1.1, (p2.1.2.1, (p2.1.2.2.1, (p2.1.2.2.2.1, (p2.1.2.2.2.2.1, (p2.1.2.2.2.2.2.1, ())))))))))))), ((), ()))))
theorem t_s_l17Copy (k : Nat) (x) : evF TTab k [⟨247, 0, (.cons (.agg (.cons (.int .i64) (.cons .str (.cons .str (.cons (.int .i64) (.cons (.il true (.int .i64)) (.cons (.int .i64) .nil))))))) .nil), (.agg (.cons (.int .i64) (.cons .str (.cons .str (.cons (.int .i64) (.cons (.own false 3 (.int .i64)) (.cons (.int .i64) .nil))))))), s_l17CopySlot k⟩] [] Tryz.f170 (.cons (.agg (.cons (.int .i64) (.cons .str (.cons .str (.cons (.int .i64) (.cons (.il true (.int .i64)) (.cons (.int .i64) (.cons (.int .i64) (.cons .str (.cons .str (.cons (.int .i64) (.cons (.il true (.int .i64)) (.cons (.int .i64) .nil))))))))))))) .nil) (.agg (.cons (.int .i64) (.cons .str (.cons .str (.cons (.int .i64) (.cons (.own false 3 (.int .i64)) (.cons (.int .i64) (.cons (.int .i64) (.cons .str (.cons .str (.cons (.int .i64) (.cons (.own false 3 (.int .i64)) (.cons (.int .i64) .nil))))))))))))) x = s_l17Copy k x := by kernel_rfl
theorem e_s_l17Copy (k : Nat) : EntryOk Tryz.prog ⟨170, 0, (.cons (.agg (.cons (.int .i64) (.cons .str (.cons .str (.cons (.int .i64) (.cons (.il true (.int .i64)) (.cons (.int .i64) (.cons (.int .i64) (.cons .str (.cons .str (.cons (.int .i64) (.cons (.il true (.int .i64)) (.cons (.int .i64) .nil))))))))))))) .nil), (.agg (.cons (.int .i64) (.cons .str (.cons .str (.cons (.int .i64) (.cons (.own false 3 (.int .i64)) (.cons (.int .i64) (.cons (.int .i64) (.cons .str (.cons .str (.cons (.int .i64) (.cons (.own false 3 (.int .i64)) (.cons (.int .i64) .nil))))))))))))), s_l17Copy k⟩ := entry_ok tok (by intro e he; simp only [List.mem_cons, List.not_mem_nil, or_false] at he; rcases he with rfl <;> first | exact e_s_l17CopySlot k) (by kernel_rfl) (fn := Tryz.f170) (k := k) (es := [⟨247, 0, (.cons (.agg (.cons (.int .i64) (.cons .str (.cons .str (.cons (.int .i64) (.cons (.il true (.int .i64)) (.cons (.int .i64) .nil))))))) .nil), (.agg (.cons (.int .i64) (.cons .str (.cons .str (.cons (.int .i64) (.cons (.own false 3 (.int .i64)) (.cons (.int .i64) .nil))))))), s_l17CopySlot k⟩]) (loops := []) (by kernel_rfl) (by kernel_rfl) (fun x r h => (t_s_l17Copy k x).trans h)
def s_l17None (k : Nat) (x : (Int × ByteArray × ByteArray × Int × List (Int) × Int × Unit) × Unit) : Option (Bool × Unit × Unit) :=
(if (decide (x.1.1 = (0 : Int))) = true then
(if (decide (x.1.2.1 = (⟨#[]⟩ : ByteArray))) = true then
(if (decide (x.1.2.2.1 = (⟨#[]⟩ : ByteArray))) = true then
(if (decide (x.1.2.2.2.1 = (0 : Int))) = true then
(if (decide ((List.length x.1.2.2.2.2.1 : Int) = (0 : Int))) = true then
some ((decide (x.1.2.2.2.2.2.1 = (0 : Int))), ((), ()))
else
some (false, ((), ())))
else
some (false, ((), ())))
else
some (false, ((), ())))
else
some (false, ((), ())))
else
some (false, ((), ())))
theorem t_s_l17None (k : Nat) (x) : evF TTab k [] [] Tryz.f193 (.cons (.agg (.cons (.int .i64) (.cons .str (.cons .str (.cons (.int .i64) (.cons (.il true (.int .i64)) (.cons (.int .i64) .nil))))))) .nil) .bool x = s_l17None k x := by kernel_rfl
theorem e_s_l17None (k : Nat) : EntryOk Tryz.prog ⟨193, 0, (.cons (.agg (.cons (.int .i64) (.cons .str (.cons .str (.cons (.int .i64) (.cons (.il true (.int .i64)) (.cons (.int .i64) .nil))))))) .nil), .bool, s_l17None k⟩ := entry_ok tok (by simp) (by kernel_rfl) (fn := Tryz.f193) (k := k) (es := []) (loops := []) (by kernel_rfl) (by kernel_rfl) (fun x r h => (t_s_l17None k x).trans h)
def s_SeenOk (k : Nat) (x : List (Int) × Unit) : Option (Bool × Unit × Unit) :=
(whileK (fun (rec0 : (List (Int) × Int × Unit) → Option _) (y0 : List (Int) × Int × Unit) =>
(if (decide (y0.2.1 < (List.length y0.1 : Int))) = true then
(if 0 ≤ y0.2.1 ∧ y0.2.1 < (List.length y0.1 : Int) then
((s_l01In k ((Ty.rd (t := (.int .i64)) y0.1 y0.2.1), ((1 : Int), ((1000000000 : Int), ())))).bind fun p1 =>
(if (!p1.1) = false then
(if (decide ((0 : Int) < y0.2.1)) = true then
(if 0 ≤ (wi64 (y0.2.1 - (1 : Int))) ∧ (wi64 (y0.2.1 - (1 : Int))) < (List.length y0.1 : Int) then
(if 0 ≤ y0.2.1 ∧ y0.2.1 < (List.length y0.1 : Int) then
(if (decide ((Ty.rd (t := (.int .i64)) y0.1 (wi64 (y0.2.1 - (1 : Int)))) ≤ (Ty.rd (t := (.int .i64)) y0.1 y0.2.1))) = false then
(if 0 ≤ y0.2.1 ∧ y0.2.1 < (List.length y0.1 : Int) then
(if 0 ≤ (0 : Int) ∧ (0 : Int) < (List.length y0.1 : Int) then
(if (decide ((Ty.rd (t := (.int .i64)) y0.1 y0.2.1) ≤ (wi64 ((Ty.rd (t := (.int .i64)) y0.1 (0 : Int)) - (6 : Int))))) = true then
some (false, ((), ()))
else
(rec0 (y0.1, ((wi64 (y0.2.1 + (1 : Int))), ()))))
else none)
else none)
else
some (false, ((), ())))
else none)
else none)
else
(if 0 ≤ y0.2.1 ∧ y0.2.1 < (List.length y0.1 : Int) then
(if 0 ≤ (0 : Int) ∧ (0 : Int) < (List.length y0.1 : Int) then
(if (decide ((Ty.rd (t := (.int .i64)) y0.1 y0.2.1) ≤ (wi64 ((Ty.rd (t := (.int .i64)) y0.1 (0 : Int)) - (6 : Int))))) = true then
some (false, ((), ()))
else
(rec0 (y0.1, ((wi64 (y0.2.1 + (1 : Int))), ()))))
else none)
else none))
else
some (false, ((), ()))))
else none)
else
((fun (z1 : List (Int) × Unit) =>
some ((decide ((List.length z1.1 : Int) ≤ (6 : Int))), ((), ()))) (y0.1, ())))) k (x.1, ((0 : Int), ())))
theorem t_s_SeenOk (k : Nat) (x) : evF TTab k [⟨62, 0, (.cons (.int .i64) (.cons (.int .i64) (.cons (.int .i64) .nil))), .bool, s_l01In k⟩] [(0, ⟨[0, 3], (.cons (.il true (.int .i64)) (.cons (.int .i64) .nil))⟩, ⟨[0], (.cons (.il true (.int .i64)) .nil)⟩)] Tryz.f290 (.cons (.il true (.int .i64)) .nil) .bool x = s_SeenOk k x := by kernel_rfl
theorem e_s_SeenOk (k : Nat) : EntryOk Tryz.prog ⟨290, 0, (.cons (.il true (.int .i64)) .nil), .bool, s_SeenOk k⟩ := entry_ok tok (by intro e he; simp only [List.mem_cons, List.not_mem_nil, or_false] at he; rcases he with rfl <;> first | exact e_s_l01In k) (by kernel_rfl) (fn := Tryz.f290) (k := k) (es := [⟨62, 0, (.cons (.int .i64) (.cons (.int .i64) (.cons (.int .i64) .nil))), .bool, s_l01In k⟩]) (loops := [(0, ⟨[0, 3], (.cons (.il true (.int .i64)) (.cons (.int .i64) .nil))⟩, ⟨[0], (.cons (.il true (.int .i64)) .nil)⟩)]) (by kernel_rfl) (by kernel_rfl) (fun x r h => (t_s_SeenOk k x).trans h)
def s_SlotOk (k : Nat) (x : (Int × ByteArray × ByteArray × Int × List (Int) × Int × Unit) × Unit) : Option (Bool × Unit × Unit) :=
((s_l17None k ((x.1.1, (x.1.2.1, (x.1.2.2.1, (x.1.2.2.2.1, (x.1.2.2.2.2.1, (x.1.2.2.2.2.2.1, ())))))), ())).bind fun p1 =>
(if p1.1 = true then
some (true, ((), ()))
else
((s_l01In k (x.1.1, ((1 : Int), ((1000000000 : Int), ())))).bind fun p2 =>
(if p2.1 = true then
(if (decide ((ByteArray.size x.1.2.1 : Int) = (32 : Int))) = true then
(if (decide ((ByteArray.size x.1.2.2.1 : Int) = (32 : Int))) = true then
((s_l01In k (x.1.2.2.2.1, ((0 : Int), ((12 : Int), ())))).bind fun p3 =>
(if p3.1 = true then
((s_SeenOk k (x.1.2.2.2.2.1, ())).bind fun p4 =>
(if p4.1 = true then
((s_l01In k (x.1.2.2.2.2.2.1, ((0 : Int), ((1000000000 : Int), ())))).bind fun p5 =>
some (p5.1, ((), ())))
else
some (false, ((), ()))))
else
some (false, ((), ()))))
else
some (false, ((), ())))
else
some (false, ((), ())))
else
some (false, ((), ()))))))
theorem t_s_SlotOk (k : Nat) (x) : evF TTab k [⟨62, 0, (.cons (.int .i64) (.cons (.int .i64) (.cons (.int .i64) .nil))), .bool, s_l01In k⟩, ⟨193, 0, (.cons (.agg (.cons (.int .i64) (.cons .str (.cons .str (.cons (.int .i64) (.cons (.il true (.int .i64)) (.cons (.int .i64) .nil))))))) .nil), .bool, s_l17None k⟩, ⟨290, 0, (.cons (.il true (.int .i64)) .nil), .bool, s_SeenOk k⟩] [] Tryz.f249 (.cons (.agg (.cons (.int .i64) (.cons .str (.cons .str (.cons (.int .i64) (.cons (.il true (.int .i64)) (.cons (.int .i64) .nil))))))) .nil) .bool x = s_SlotOk k x := by kernel_rfl
theorem e_s_SlotOk (k : Nat) : EntryOk Tryz.prog ⟨249, 0, (.cons (.agg (.cons (.int .i64) (.cons .str (.cons .str (.cons (.int .i64) (.cons (.il true (.int .i64)) (.cons (.int .i64) .nil))))))) .nil), .bool, s_SlotOk k⟩ := entry_ok tok (by intro e he; simp only [List.mem_cons, List.not_mem_nil, or_false] at he; rcases he with rfl | rfl | rfl <;> first | exact e_s_l01In k | exact e_s_l17None k | exact e_s_SeenOk k) (by kernel_rfl) (fn := Tryz.f249) (k := k) (es := [⟨62, 0, (.cons (.int .i64) (.cons (.int .i64) (.cons (.int .i64) .nil))), .bool, s_l01In k⟩, ⟨193, 0, (.cons (.agg (.cons (.int .i64) (.cons .str (.cons .str (.cons (.int .i64) (.cons (.il true (.int .i64)) (.cons (.int .i64) .nil))))))) .nil), .bool, s_l17None k⟩, ⟨290, 0, (.cons (.il true (.int .i64)) .nil), .bool, s_SeenOk k⟩]) (loops := []) (by kernel_rfl) (by kernel_rfl) (fun x r h => (t_s_SlotOk k x).trans h)
def s_SlotsOk (k : Nat) (x : (Int × ByteArray × ByteArray × Int × List (Int) × Int × Int × ByteArray × ByteArray × Int × List (Int) × Int × Unit) × Unit) : Option (Bool × Unit × Unit) :=
((s_SlotOk k ((x.1.1, (x.1.2.1, (x.1.2.2.1, (x.1.2.2.2.1, (x.1.2.2.2.2.1, (x.1.2.2.2.2.2.1, ())))))), ())).bind fun p1 =>
(if (!p1.1) = false then
((s_SlotOk k ((x.1.2.2.2.2.2.2.1, (x.1.2.2.2.2.2.2.2.1, (x.1.2.2.2.2.2.2.2.2.1, (x.1.2.2.2.2.2.2.2.2.2.1, (x.1.2.2.2.2.2.2.2.2.2.2.1, (x.1.2.2.2.2.2.2.2.2.2.2.2.1, ())))))), ())).bind fun p2 =>
(if (!p2.1) = true then
some (false, ((), ()))
else
((s_l17None k ((x.1.2.2.2.2.2.2.1, (x.1.2.2.2.2.2.2.2.1, (x.1.2.2.2.2.2.2.2.2.1, (x.1.2.2.2.2.2.2.2.2.2.1, (x.1.2.2.2.2.2.2.2.2.2.2.1, (x.1.2.2.2.2.2.2.2.2.2.2.2.1, ())))))), ())).bind fun p3 =>
(if p3.1 = false then
some ((decide (x.1.2.2.2.2.2.2.1 < x.1.1)), ((), ()))
else
some (true, ((), ()))))))
else
some (false, ((), ()))))
theorem t_s_SlotsOk (k : Nat) (x) : evF TTab k [⟨193, 0, (.cons (.agg (.cons (.int .i64) (.cons .str (.cons .str (.cons (.int .i64) (.cons (.il true (.int .i64)) (.cons (.int .i64) .nil))))))) .nil), .bool, s_l17None k⟩, ⟨249, 0, (.cons (.agg (.cons (.int .i64) (.cons .str (.cons .str (.cons (.int .i64) (.cons (.il true (.int .i64)) (.cons (.int .i64) .nil))))))) .nil), .bool, s_SlotOk k⟩] [] Tryz.f175 (.cons (.agg (.cons (.int .i64) (.cons .str (.cons .str (.cons (.int .i64) (.cons (.il true (.int .i64)) (.cons (.int .i64) (.cons (.int .i64) (.cons .str (.cons .str (.cons (.int .i64) (.cons (.il true (.int .i64)) (.cons (.int .i64) .nil))))))))))))) .nil) .bool x = s_SlotsOk k x := by kernel_rfl
theorem e_s_SlotsOk (k : Nat) : EntryOk Tryz.prog ⟨175, 0, (.cons (.agg (.cons (.int .i64) (.cons .str (.cons .str (.cons (.int .i64) (.cons (.il true (.int .i64)) (.cons (.int .i64) (.cons (.int .i64) (.cons .str (.cons .str (.cons (.int .i64) (.cons (.il true (.int .i64)) (.cons (.int .i64) .nil))))))))))))) .nil), .bool, s_SlotsOk k⟩ := entry_ok tok (by intro e he; simp only [List.mem_cons, List.not_mem_nil, or_false] at he; rcases he with rfl | rfl <;> first | exact e_s_l17None k | exact e_s_SlotOk k) (by kernel_rfl) (fn := Tryz.f175) (k := k) (es := [⟨193, 0, (.cons (.agg (.cons (.int .i64) (.cons .str (.cons .str (.cons (.int .i64) (.cons (.il true (.int .i64)) (.cons (.int .i64) .nil))))))) .nil), .bool, s_l17None k⟩, ⟨249, 0, (.cons (.agg (.cons (.int .i64) (.cons .str (.cons .str (.cons (.int .i64) (.cons (.il true (.int .i64)) (.cons (.int .i64) .nil))))))) .nil), .bool, s_SlotOk k⟩]) (loops := []) (by kernel_rfl) (by kernel_rfl) (fun x r h => (t_s_SlotsOk k x).trans h)
def s_l20Copy (k : Nat) (x : ((List (Int × Int × Int × List (ByteArray) × List (Bool) × Int)) × Unit) × Unit) : Option (((List (Int × Int × Int × List (ByteArray) × List (Bool) × Int)) × Unit) × Unit × Unit) :=
(whileK (fun (rec0 : (((List (Int × Int × Int × List (ByteArray) × List (Bool) × Int)) × Unit) × ((List (Int × Int × Int × List (ByteArray) × List (Bool) × Int)) × Unit) × ((List (Int × Int × Int × List (ByteArray) × List (Bool) × Int)) × Unit) × Int × Unit) → Option _) (y0 : ((List (Int × Int × Int × List (ByteArray) × List (Bool) × Int)) × Unit) × ((List (Int × Int × Int × List (ByteArray) × List (Bool) × Int)) × Unit) × ((List (Int × Int × Int × List (ByteArray) × List (Bool) × Int)) × Unit) × Int × Unit) =>
(if (decide (y0.2.2.2.1 < (List.length y0.1.1 : Int))) = true then
(if 0 ≤ y0.2.2.2.1 ∧ y0.2.2.2.1 < (List.length y0.1.1 : Int) then
(if List.length ([] : List (ByteArray)) + List.length (Ty.rd (t := (.pair (.int .i64) (.pair (.int .i64) (.pair (.int .i64) (.pair (.list .str) (.pair (.list .bool) (.int .i64))))))) y0.1.1 y0.2.2.2.1).2.2.2.1 ≤ capMax then
(if List.length ([] : List (Bool)) + List.length (Ty.rd (t := (.pair (.int .i64) (.pair (.int .i64) (.pair (.int .i64) (.pair (.list .str) (.pair (.list .bool) (.int .i64))))))) y0.1.1 y0.2.2.2.1).2.2.2.2.1 ≤ capMax then
(if List.length y0.2.2.1.1 + List.length ([((Ty.rd (t := (.pair (.int .i64) (.pair (.int .i64) (.pair (.int .i64) (.pair (.list .str) (.pair (.list .bool) (.int .i64))))))) y0.1.1 y0.2.2.2.1).1, ((Ty.rd (t := (.pair (.int .i64) (.pair (.int .i64) (.pair (.int .i64) (.pair (.list .str) (.pair (.list .bool) (.int .i64))))))) y0.1.1 y0.2.2.2.1).2.1, ((Ty.rd (t := (.pair (.int .i64) (.pair (.int .i64) (.pair (.int .i64) (.pair (.list .str) (.pair (.list .bool) (.int .i64))))))) y0.1.1 y0.2.2.2.1).2.2.1, ((([] : List (ByteArray)) ++ (Ty.rd (t := (.pair (.int .i64) (.pair (.int .i64) (.pair (.int .i64) (.pair (.list .str) (.pair (.list .bool) (.int .i64))))))) y0.1.1 y0.2.2.2.1).2.2.2.1), ((([] : List (Bool)) ++ (Ty.rd (t := (.pair (.int .i64) (.pair (.int .i64) (.pair (.int .i64) (.pair (.list .str) (.pair (.list .bool) (.int .i64))))))) y0.1.1 y0.2.2.2.1).2.2.2.2.1), (Ty.rd (t := (.pair (.int .i64) (.pair (.int .i64) (.pair (.int .i64) (.pair (.list .str) (.pair (.list .bool) (.int .i64))))))) y0.1.1 y0.2.2.2.1).2.2.2.2.2)))))] : List (Int × Int × Int × List (ByteArray) × List (Bool) × Int)) ≤ capMax then
(rec0 ((y0.1.1, ()), ((y0.2.1.1, ()), (((y0.2.2.1.1 ++ ([((Ty.rd (t := (.pair (.int .i64) (.pair (.int .i64) (.pair (.int .i64) (.pair (.list .str) (.pair (.list .bool) (.int .i64))))))) y0.1.1 y0.2.2.2.1).1, ((Ty.rd (t := (.pair (.int .i64) (.pair (.int .i64) (.pair (.int .i64) (.pair (.list .str) (.pair (.list .bool) (.int .i64))))))) y0.1.1 y0.2.2.2.1).2.1, ((Ty.rd (t := (.pair (.int .i64) (.pair (.int .i64) (.pair (.int .i64) (.pair (.list .str) (.pair (.list .bool) (.int .i64))))))) y0.1.1 y0.2.2.2.1).2.2.1, ((([] : List (ByteArray)) ++ (Ty.rd (t := (.pair (.int .i64) (.pair (.int .i64) (.pair (.int .i64) (.pair (.list .str) (.pair (.list .bool) (.int .i64))))))) y0.1.1 y0.2.2.2.1).2.2.2.1), ((([] : List (Bool)) ++ (Ty.rd (t := (.pair (.int .i64) (.pair (.int .i64) (.pair (.int .i64) (.pair (.list .str) (.pair (.list .bool) (.int .i64))))))) y0.1.1 y0.2.2.2.1).2.2.2.2.1), (Ty.rd (t := (.pair (.int .i64) (.pair (.int .i64) (.pair (.int .i64) (.pair (.list .str) (.pair (.list .bool) (.int .i64))))))) y0.1.1 y0.2.2.2.1).2.2.2.2.2)))))] : List (Int × Int × Int × List (ByteArray) × List (Bool) × Int))), ()), ((wi64 (y0.2.2.2.1 + (1 : Int))), ())))))
else none)
else none)
else none)
else none)
else
((fun (z1 : ((List (Int × Int × Int × List (ByteArray) × List (Bool) × Int)) × Unit) × ((List (Int × Int × Int × List (ByteArray) × List (Bool) × Int)) × Unit) × Unit) =>
some ((z1.2.1.1, ()), ((), ()))) ((y0.2.1.1, ()), ((y0.2.2.1.1, ()), ()))))) k ((x.1.1, ()), (([], ()), (([], ()), ((0 : Int), ())))))
theorem t_s_l20Copy (k : Nat) (x) : evF TTab k [] [(0, ⟨[1, 2, 3, 4], (.cons (.ptr 0 (.cons (.il true (.pair (.int .i64) (.pair (.int .i64) (.pair (.int .i64) (.pair (.list .str) (.pair (.list .bool) (.int .i64))))))) .nil)) (.cons (.ptr 0 (.cons (.own false 229 (.pair (.int .i64) (.pair (.int .i64) (.pair (.int .i64) (.pair (.list .str) (.pair (.list .bool) (.int .i64))))))) .nil)) (.cons (.ptr 0 (.cons (.own false 229 (.pair (.int .i64) (.pair (.int .i64) (.pair (.int .i64) (.pair (.list .str) (.pair (.list .bool) (.int .i64))))))) .nil)) (.cons (.int .i64) .nil))))⟩, ⟨[2, 3], (.cons (.ptr 0 (.cons (.own false 229 (.pair (.int .i64) (.pair (.int .i64) (.pair (.int .i64) (.pair (.list .str) (.pair (.list .bool) (.int .i64))))))) .nil)) (.cons (.ptr 0 (.cons (.own false 229 (.pair (.int .i64) (.pair (.int .i64) (.pair (.int .i64) (.pair (.list .str) (.pair (.list .bool) (.int .i64))))))) .nil)) .nil))⟩)] Tryz.f171 (.cons (.agg (.cons (.il true (.pair (.int .i64) (.pair (.int .i64) (.pair (.int .i64) (.pair (.list .str) (.pair (.list .bool) (.int .i64))))))) .nil)) .nil) (.agg (.cons (.own false 229 (.pair (.int .i64) (.pair (.int .i64) (.pair (.int .i64) (.pair (.list .str) (.pair (.list .bool) (.int .i64))))))) .nil)) x = s_l20Copy k x := by kernel_rfl
theorem e_s_l20Copy (k : Nat) : EntryOk Tryz.prog ⟨171, 0, (.cons (.agg (.cons (.il true (.pair (.int .i64) (.pair (.int .i64) (.pair (.int .i64) (.pair (.list .str) (.pair (.list .bool) (.int .i64))))))) .nil)) .nil), (.agg (.cons (.own false 229 (.pair (.int .i64) (.pair (.int .i64) (.pair (.int .i64) (.pair (.list .str) (.pair (.list .bool) (.int .i64))))))) .nil)), s_l20Copy k⟩ := entry_ok tok (by simp) (by kernel_rfl) (fn := Tryz.f171) (k := k) (es := []) (loops := [(0, ⟨[1, 2, 3, 4], (.cons (.ptr 0 (.cons (.il true (.pair (.int .i64) (.pair (.int .i64) (.pair (.int .i64) (.pair (.list .str) (.pair (.list .bool) (.int .i64))))))) .nil)) (.cons (.ptr 0 (.cons (.own false 229 (.pair (.int .i64) (.pair (.int .i64) (.pair (.int .i64) (.pair (.list .str) (.pair (.list .bool) (.int .i64))))))) .nil)) (.cons (.ptr 0 (.cons (.own false 229 (.pair (.int .i64) (.pair (.int .i64) (.pair (.int .i64) (.pair (.list .str) (.pair (.list .bool) (.int .i64))))))) .nil)) (.cons (.int .i64) .nil))))⟩, ⟨[2, 3], (.cons (.ptr 0 (.cons (.own false 229 (.pair (.int .i64) (.pair (.int .i64) (.pair (.int .i64) (.pair (.list .str) (.pair (.list .bool) (.int .i64))))))) .nil)) (.cons (.ptr 0 (.cons (.own false 229 (.pair (.int .i64) (.pair (.int .i64) (.pair (.int .i64) (.pair (.list .str) (.pair (.list .bool) (.int .i64))))))) .nil)) .nil))⟩)]) (by kernel_rfl) (by kernel_rfl) (fun x r h => (t_s_l20Copy k x).trans h)
def s_l22CopyUser (k : Nat) (x : (Int × Int × Int × ByteArray × ByteArray × Int × List (Int) × Int × Int × ByteArray × ByteArray × Int × List (Int) × Int × (List (Int × Int × Int × List (ByteArray) × List (Bool) × Int)) × Int × Unit) × Unit) : Option ((Int × Int × Int × ByteArray × ByteArray × Int × List (Int) × Int × Int × ByteArray × ByteArray × Int × List (Int) × Int × (List (Int × Int × Int × List (ByteArray) × List (Bool) × Int)) × Int × Unit) × Unit × Unit) :=
((s_l17Copy k ((x.1.2.2.1, (x.1.2.2.2.1, (x.1.2.2.2.2.1, (x.1.2.2.2.2.2.1, (x.1.2.2.2.2.2.2.1, (x.1.2.2.2.2.2.2.2.1, (x.1.2.2.2.2.2.2.2.2.1, (x.1.2.2.2.2.2.2.2.2.2.1, (x.1.2.2.2.2.2.2.2.2.2.2.1, (x.1.2.2.2.2.2.2.2.2.2.2.2.1, (x.1.2.2.2.2.2.2.2.2.2.2.2.2.1, (x.1.2.2.2.2.2.2.2.2.2.2.2.2.2.1, ())))))))))))), ())).bind fun p1 =>
((s_l20Copy k ((x.1.2.2.2.2.2.2.2.2.2.2.2.2.2.2.1, ()), ())).bind fun p2 =>
some ((x.1.1, (x.1.2.1, (p1.1.1, (p1.1.2.1, (p1.1.2.2.1, (p1.1.2.2.2.1, (p1.1.2.2.2.2.1, (p1.1.2.2.2.2.2.1, (p1.1.2.2.2.2.2.2.1, (p1.1.2.2.2.2.2.2.2.1, (p1.1.2.2.2.2.2.2.2.2.1, (p1.1.2.2.2.2.2.2.2.2.2.1, (p1.1.2.2.2.2.2.2.2.2.2.2.1, (p1.1.2.2.2.2.2.2.2.2.2.2.2.1, (p2.1.1, (x.1.2.2.2.2.2.2.2.2.2.2.2.2.2.2.2.1, ())))))))))))))))), ((), ()))))
theorem t_s_l22CopyUser (k : Nat) (x) : evF TTab k [⟨170, 0, (.cons (.agg (.cons (.int .i64) (.cons .str (.cons .str (.cons (.int .i64) (.cons (.il true (.int .i64)) (.cons (.int .i64) (.cons (.int .i64) (.cons .str (.cons .str (.cons (.int .i64) (.cons (.il true (.int .i64)) (.cons (.int .i64) .nil))))))))))))) .nil), (.agg (.cons (.int .i64) (.cons .str (.cons .str (.cons (.int .i64) (.cons (.own false 3 (.int .i64)) (.cons (.int .i64) (.cons (.int .i64) (.cons .str (.cons .str (.cons (.int .i64) (.cons (.own false 3 (.int .i64)) (.cons (.int .i64) .nil))))))))))))), s_l17Copy k⟩, ⟨171, 0, (.cons (.agg (.cons (.il true (.pair (.int .i64) (.pair (.int .i64) (.pair (.int .i64) (.pair (.list .str) (.pair (.list .bool) (.int .i64))))))) .nil)) .nil), (.agg (.cons (.own false 229 (.pair (.int .i64) (.pair (.int .i64) (.pair (.int .i64) (.pair (.list .str) (.pair (.list .bool) (.int .i64))))))) .nil)), s_l20Copy k⟩] [] Tryz.f92 (.cons (.agg (.cons (.int .i64) (.cons (.int .i64) (.cons (.int .i64) (.cons .str (.cons .str (.cons (.int .i64) (.cons (.il true (.int .i64)) (.cons (.int .i64) (.cons (.int .i64) (.cons .str (.cons .str (.cons (.int .i64) (.cons (.il true (.int .i64)) (.cons (.int .i64) (.cons (.il true (.pair (.int .i64) (.pair (.int .i64) (.pair (.int .i64) (.pair (.list .str) (.pair (.list .bool) (.int .i64))))))) (.cons (.int .i64) .nil))))))))))))))))) .nil) (.agg (.cons (.int .i64) (.cons (.int .i64) (.cons (.int .i64) (.cons .str (.cons .str (.cons (.int .i64) (.cons (.own false 3 (.int .i64)) (.cons (.int .i64) (.cons (.int .i64) (.cons .str (.cons .str (.cons (.int .i64) (.cons (.own false 3 (.int .i64)) (.cons (.int .i64) (.cons (.own false 229 (.pair (.int .i64) (.pair (.int .i64) (.pair (.int .i64) (.pair (.list .str) (.pair (.list .bool) (.int .i64))))))) (.cons (.int .i64) .nil))))))))))))))))) x = s_l22CopyUser k x := by kernel_rfl
theorem e_s_l22CopyUser (k : Nat) : EntryOk Tryz.prog ⟨92, 0, (.cons (.agg (.cons (.int .i64) (.cons (.int .i64) (.cons (.int .i64) (.cons .str (.cons .str (.cons (.int .i64) (.cons (.il true (.int .i64)) (.cons (.int .i64) (.cons (.int .i64) (.cons .str (.cons .str (.cons (.int .i64) (.cons (.il true (.int .i64)) (.cons (.int .i64) (.cons (.il true (.pair (.int .i64) (.pair (.int .i64) (.pair (.int .i64) (.pair (.list .str) (.pair (.list .bool) (.int .i64))))))) (.cons (.int .i64) .nil))))))))))))))))) .nil), (.agg (.cons (.int .i64) (.cons (.int .i64) (.cons (.int .i64) (.cons .str (.cons .str (.cons (.int .i64) (.cons (.own false 3 (.int .i64)) (.cons (.int .i64) (.cons (.int .i64) (.cons .str (.cons .str (.cons (.int .i64) (.cons (.own false 3 (.int .i64)) (.cons (.int .i64) (.cons (.own false 229 (.pair (.int .i64) (.pair (.int .i64) (.pair (.int .i64) (.pair (.list .str) (.pair (.list .bool) (.int .i64))))))) (.cons (.int .i64) .nil))))))))))))))))), s_l22CopyUser k⟩ := entry_ok tok (by intro e he; simp only [List.mem_cons, List.not_mem_nil, or_false] at he; rcases he with rfl | rfl <;> first | exact e_s_l17Copy k | exact e_s_l20Copy k) (by kernel_rfl) (fn := Tryz.f92) (k := k) (es := [⟨170, 0, (.cons (.agg (.cons (.int .i64) (.cons .str (.cons .str (.cons (.int .i64) (.cons (.il true (.int .i64)) (.cons (.int .i64) (.cons (.int .i64) (.cons .str (.cons .str (.cons (.int .i64) (.cons (.il true (.int .i64)) (.cons (.int .i64) .nil))))))))))))) .nil), (.agg (.cons (.int .i64) (.cons .str (.cons .str (.cons (.int .i64) (.cons (.own false 3 (.int .i64)) (.cons (.int .i64) (.cons (.int .i64) (.cons .str (.cons .str (.cons (.int .i64) (.cons (.own false 3 (.int .i64)) (.cons (.int .i64) .nil))))))))))))), s_l17Copy k⟩, ⟨171, 0, (.cons (.agg (.cons (.il true (.pair (.int .i64) (.pair (.int .i64) (.pair (.int .i64) (.pair (.list .str) (.pair (.list .bool) (.int .i64))))))) .nil)) .nil), (.agg (.cons (.own false 229 (.pair (.int .i64) (.pair (.int .i64) (.pair (.int .i64) (.pair (.list .str) (.pair (.list .bool) (.int .i64))))))) .nil)), s_l20Copy k⟩]) (loops := []) (by kernel_rfl) (by kernel_rfl) (fun x r h => (t_s_l22CopyUser k x).trans h)
def s_AddrOk (k : Nat) (x : Int × Unit) : Option (Bool × Unit × Unit) :=
((s_l01In k (x.1, ((0 : Int), ((4294967295 : Int), ())))).bind fun p1 =>
some (p1.1, ((), ())))
theorem t_s_AddrOk (k : Nat) (x) : evF TTab k [⟨62, 0, (.cons (.int .i64) (.cons (.int .i64) (.cons (.int .i64) .nil))), .bool, s_l01In k⟩] [] Tryz.f248 (.cons (.int .i64) .nil) .bool x = s_AddrOk k x := by kernel_rfl
theorem e_s_AddrOk (k : Nat) : EntryOk Tryz.prog ⟨248, 0, (.cons (.int .i64) .nil), .bool, s_AddrOk k⟩ := entry_ok tok (by intro e he; simp only [List.mem_cons, List.not_mem_nil, or_false] at he; rcases he with rfl <;> first | exact e_s_l01In k) (by kernel_rfl) (fn := Tryz.f248) (k := k) (es := [⟨62, 0, (.cons (.int .i64) (.cons (.int .i64) (.cons (.int .i64) .nil))), .bool, s_l01In k⟩]) (loops := []) (by kernel_rfl) (by kernel_rfl) (fun x r h => (t_s_AddrOk k x).trans h)
def i_copyInts (k : Nat) (x : List (Int) × Unit) : Option (List (Int) × Unit × Unit) :=
(if List.length ([] : List (Int)) + List.length x.1 ≤ capMax then
some ((([] : List (Int)) ++ x.1), ((), ()))
else none)
theorem t_i_copyInts (k : Nat) (x) : evF TTab k [] [] Tryz.f254 (.cons (.il true (.int .i64)) .nil) (.own false 3 (.int .i64)) x = i_copyInts k x := by kernel_rfl
theorem e_i_copyInts (k : Nat) : EntryOk Tryz.prog ⟨254, 0, (.cons (.il true (.int .i64)) .nil), (.own false 3 (.int .i64)), i_copyInts k⟩ := entry_ok tok (by simp) (by kernel_rfl) (fn := Tryz.f254) (k := k) (es := []) (loops := []) (by kernel_rfl) (by kernel_rfl) (fun x r h => (t_i_copyInts k x).trans h)
def i_copySlots (k : Nat) (x : (Int × ByteArray × ByteArray × Int × List (Int) × Int × Int × ByteArray × ByteArray × Int × List (Int) × Int × Unit) × Unit) : Option ((Int × ByteArray × ByteArray × Int × List (Int) × Int × Int × ByteArray × ByteArray × Int × List (Int) × Int × Unit) × Unit × Unit) :=
((i_copyInts k (x.1.2.2.2.2.1, ())).bind fun p1 =>
((i_copyInts k (x.1.2.2.2.2.2.2.2.2.2.2.1, ())).bind fun p2 =>
some ((x.1.1, (x.1.2.1, (x.1.2.2.1, (x.1.2.2.2.1, (p1.1, (x.1.2.2.2.2.2.1, (x.1.2.2.2.2.2.2.1, (x.1.2.2.2.2.2.2.2.1, (x.1.2.2.2.2.2.2.2.2.1, (x.1.2.2.2.2.2.2.2.2.2.1, (p2.1, (x.1.2.2.2.2.2.2.2.2.2.2.2.1, ())))))))))))), ((), ()))))
theorem t_i_copySlots (k : Nat) (x) : evF TTab k [⟨254, 0, (.cons (.il true (.int .i64)) .nil), (.own false 3 (.int .i64)), i_copyInts k⟩] [] Tryz.f183 (.cons (.agg (.cons (.int .i64) (.cons .str (.cons .str (.cons (.int .i64) (.cons (.il true (.int .i64)) (.cons (.int .i64) (.cons (.int .i64) (.cons .str (.cons .str (.cons (.int .i64) (.cons (.il true (.int .i64)) (.cons (.int .i64) .nil))))))))))))) .nil) (.agg (.cons (.int .i64) (.cons .str (.cons .str (.cons (.int .i64) (.cons (.own false 3 (.int .i64)) (.cons (.int .i64) (.cons (.int .i64) (.cons .str (.cons .str (.cons (.int .i64) (.cons (.own false 3 (.int .i64)) (.cons (.int .i64) .nil))))))))))))) x = i_copySlots k x := by kernel_rfl
theorem e_i_copySlots (k : Nat) : EntryOk Tryz.prog ⟨183, 0, (.cons (.agg (.cons (.int .i64) (.cons .str (.cons .str (.cons (.int .i64) (.cons (.il true (.int .i64)) (.cons (.int .i64) (.cons (.int .i64) (.cons .str (.cons .str (.cons (.int .i64) (.cons (.il true (.int .i64)) (.cons (.int .i64) .nil))))))))))))) .nil), (.agg (.cons (.int .i64) (.cons .str (.cons .str (.cons (.int .i64) (.cons (.own false 3 (.int .i64)) (.cons (.int .i64) (.cons (.int .i64) (.cons .str (.cons .str (.cons (.int .i64) (.cons (.own false 3 (.int .i64)) (.cons (.int .i64) .nil))))))))))))), i_copySlots k⟩ := entry_ok tok (by intro e he; simp only [List.mem_cons, List.not_mem_nil, or_false] at he; rcases he with rfl <;> first | exact e_i_copyInts k) (by kernel_rfl) (fn := Tryz.f183) (k := k) (es := [⟨254, 0, (.cons (.il true (.int .i64)) .nil), (.own false 3 (.int .i64)), i_copyInts k⟩]) (loops := []) (by kernel_rfl) (by kernel_rfl) (fun x r h => (t_i_copySlots k x).trans h)
def i_copyTexts (k : Nat) (x : List (ByteArray) × Unit) : Option (List (ByteArray) × Unit × Unit) :=
(if List.length ([] : List (ByteArray)) + List.length x.1 ≤ capMax then
some ((([] : List (ByteArray)) ++ x.1), ((), ()))
else none)
theorem t_i_copyTexts (k : Nat) (x) : evF TTab k [] [] Tryz.f255 (.cons (.il true .str) .nil) (.own false 9 .str) x = i_copyTexts k x := by kernel_rfl
theorem e_i_copyTexts (k : Nat) : EntryOk Tryz.prog ⟨255, 0, (.cons (.il true .str) .nil), (.own false 9 .str), i_copyTexts k⟩ := entry_ok tok (by simp) (by kernel_rfl) (fn := Tryz.f255) (k := k) (es := []) (loops := []) (by kernel_rfl) (by kernel_rfl) (fun x r h => (t_i_copyTexts k x).trans h)
def i_copyShelf (k : Nat) (x : ((List (Int × Int × Int × List (ByteArray) × List (Bool) × Int)) × Unit) × Unit) : Option (((List (Int × Int × Int × List (ByteArray) × List (Bool) × Int)) × Unit) × Unit × Unit) :=
(whileK (fun (rec0 : (((List (Int × Int × Int × List (ByteArray) × List (Bool) × Int)) × Unit) × ((List (Int × Int × Int × List (ByteArray) × List (Bool) × Int)) × Unit) × (List (Int × Int × Int × List (ByteArray) × List (Bool) × Int)) × Int × Int × Unit) → Option _) (y0 : ((List (Int × Int × Int × List (ByteArray) × List (Bool) × Int)) × Unit) × ((List (Int × Int × Int × List (ByteArray) × List (Bool) × Int)) × Unit) × (List (Int × Int × Int × List (ByteArray) × List (Bool) × Int)) × Int × Int × Unit) =>
(if (decide (y0.2.2.2.2.1 < y0.2.2.2.1)) = true then
(if 0 ≤ y0.2.2.2.2.1 ∧ y0.2.2.2.2.1 < (List.length y0.2.2.1 : Int) then
((i_copyTexts k ((Ty.rd (t := (.pair (.int .i64) (.pair (.int .i64) (.pair (.int .i64) (.pair (.list .str) (.pair (.list .bool) (.int .i64))))))) y0.2.2.1 y0.2.2.2.2.1).2.2.2.1, ())).bind fun p1 =>
(if List.length ([] : List (Bool)) + List.length (Ty.rd (t := (.pair (.int .i64) (.pair (.int .i64) (.pair (.int .i64) (.pair (.list .str) (.pair (.list .bool) (.int .i64))))))) y0.2.2.1 y0.2.2.2.2.1).2.2.2.2.1 ≤ capMax then
(if List.length y0.2.1.1 + List.length ([((Ty.rd (t := (.pair (.int .i64) (.pair (.int .i64) (.pair (.int .i64) (.pair (.list .str) (.pair (.list .bool) (.int .i64))))))) y0.2.2.1 y0.2.2.2.2.1).1, ((Ty.rd (t := (.pair (.int .i64) (.pair (.int .i64) (.pair (.int .i64) (.pair (.list .str) (.pair (.list .bool) (.int .i64))))))) y0.2.2.1 y0.2.2.2.2.1).2.1, ((Ty.rd (t := (.pair (.int .i64) (.pair (.int .i64) (.pair (.int .i64) (.pair (.list .str) (.pair (.list .bool) (.int .i64))))))) y0.2.2.1 y0.2.2.2.2.1).2.2.1, (p1.1, ((([] : List (Bool)) ++ (Ty.rd (t := (.pair (.int .i64) (.pair (.int .i64) (.pair (.int .i64) (.pair (.list .str) (.pair (.list .bool) (.int .i64))))))) y0.2.2.1 y0.2.2.2.2.1).2.2.2.2.1), (Ty.rd (t := (.pair (.int .i64) (.pair (.int .i64) (.pair (.int .i64) (.pair (.list .str) (.pair (.list .bool) (.int .i64))))))) y0.2.2.1 y0.2.2.2.2.1).2.2.2.2.2)))))] : List (Int × Int × Int × List (ByteArray) × List (Bool) × Int)) ≤ capMax then
(rec0 ((y0.1.1, ()), (((y0.2.1.1 ++ ([((Ty.rd (t := (.pair (.int .i64) (.pair (.int .i64) (.pair (.int .i64) (.pair (.list .str) (.pair (.list .bool) (.int .i64))))))) y0.2.2.1 y0.2.2.2.2.1).1, ((Ty.rd (t := (.pair (.int .i64) (.pair (.int .i64) (.pair (.int .i64) (.pair (.list .str) (.pair (.list .bool) (.int .i64))))))) y0.2.2.1 y0.2.2.2.2.1).2.1, ((Ty.rd (t := (.pair (.int .i64) (.pair (.int .i64) (.pair (.int .i64) (.pair (.list .str) (.pair (.list .bool) (.int .i64))))))) y0.2.2.1 y0.2.2.2.2.1).2.2.1, (p1.1, ((([] : List (Bool)) ++ (Ty.rd (t := (.pair (.int .i64) (.pair (.int .i64) (.pair (.int .i64) (.pair (.list .str) (.pair (.list .bool) (.int .i64))))))) y0.2.2.1 y0.2.2.2.2.1).2.2.2.2.1), (Ty.rd (t := (.pair (.int .i64) (.pair (.int .i64) (.pair (.int .i64) (.pair (.list .str) (.pair (.list .bool) (.int .i64))))))) y0.2.2.1 y0.2.2.2.2.1).2.2.2.2.2)))))] : List (Int × Int × Int × List (ByteArray) × List (Bool) × Int))), ()), (y0.2.2.1, (y0.2.2.2.1, ((wi64 (y0.2.2.2.2.1 + (1 : Int))), ()))))))
else none)
else none))
else none)
else
((fun (z1 : ((List (Int × Int × Int × List (ByteArray) × List (Bool) × Int)) × Unit) × ((List (Int × Int × Int × List (ByteArray) × List (Bool) × Int)) × Unit) × Unit) =>
some ((z1.2.1.1, ()), ((), ()))) ((y0.1.1, ()), ((y0.2.1.1, ()), ()))))) k (([], ()), (([], ()), (x.1.1, ((List.length x.1.1 : Int), ((0 : Int), ()))))))
theorem t_i_copyShelf (k : Nat) (x) : evF TTabO k [⟨255, 0, (.cons (.il true .str) .nil), (.own false 9 .str), i_copyTexts k⟩] [(0, ⟨[2, 3, 8, 9, 10], (.cons (.ptr 0 (.cons (.own false 229 (.pair (.int .i64) (.pair (.int .i64) (.pair (.int .i64) (.pair (.ols 9 .str) (.pair (.ols 4 .bool) (.int .i64))))))) .nil)) (.cons (.ptr 0 (.cons (.own false 229 (.pair (.int .i64) (.pair (.int .i64) (.pair (.int .i64) (.pair (.ols 9 .str) (.pair (.ols 4 .bool) (.int .i64))))))) .nil)) (.cons (.il true (.pair (.int .i64) (.pair (.int .i64) (.pair (.int .i64) (.pair (.list .str) (.pair (.list .bool) (.int .i64))))))) (.cons (.int .i64) (.cons (.int .i64) .nil)))))⟩, ⟨[2, 3], (.cons (.ptr 0 (.cons (.own false 229 (.pair (.int .i64) (.pair (.int .i64) (.pair (.int .i64) (.pair (.ols 9 .str) (.pair (.ols 4 .bool) (.int .i64))))))) .nil)) (.cons (.ptr 0 (.cons (.own false 229 (.pair (.int .i64) (.pair (.int .i64) (.pair (.int .i64) (.pair (.ols 9 .str) (.pair (.ols 4 .bool) (.int .i64))))))) .nil)) .nil))⟩)] Tryz.f184 (.cons (.agg (.cons (.il true (.pair (.int .i64) (.pair (.int .i64) (.pair (.int .i64) (.pair (.list .str) (.pair (.list .bool) (.int .i64))))))) .nil)) .nil) (.agg (.cons (.own false 229 (.pair (.int .i64) (.pair (.int .i64) (.pair (.int .i64) (.pair (.ols 9 .str) (.pair (.ols 4 .bool) (.int .i64))))))) .nil)) x = i_copyShelf k x := by kernel_rfl
theorem e_i_copyShelf (k : Nat) : EntryOk Tryz.prog ⟨184, 0, (.cons (.agg (.cons (.il true (.pair (.int .i64) (.pair (.int .i64) (.pair (.int .i64) (.pair (.list .str) (.pair (.list .bool) (.int .i64))))))) .nil)) .nil), (.agg (.cons (.own false 229 (.pair (.int .i64) (.pair (.int .i64) (.pair (.int .i64) (.pair (.ols 9 .str) (.pair (.ols 4 .bool) (.int .i64))))))) .nil)), i_copyShelf k⟩ := entry_ok tokO (by intro e he; simp only [List.mem_cons, List.not_mem_nil, or_false] at he; rcases he with rfl <;> first | exact e_i_copyTexts k) (by kernel_rfl) (fn := Tryz.f184) (k := k) (es := [⟨255, 0, (.cons (.il true .str) .nil), (.own false 9 .str), i_copyTexts k⟩]) (loops := [(0, ⟨[2, 3, 8, 9, 10], (.cons (.ptr 0 (.cons (.own false 229 (.pair (.int .i64) (.pair (.int .i64) (.pair (.int .i64) (.pair (.ols 9 .str) (.pair (.ols 4 .bool) (.int .i64))))))) .nil)) (.cons (.ptr 0 (.cons (.own false 229 (.pair (.int .i64) (.pair (.int .i64) (.pair (.int .i64) (.pair (.ols 9 .str) (.pair (.ols 4 .bool) (.int .i64))))))) .nil)) (.cons (.il true (.pair (.int .i64) (.pair (.int .i64) (.pair (.int .i64) (.pair (.list .str) (.pair (.list .bool) (.int .i64))))))) (.cons (.int .i64) (.cons (.int .i64) .nil)))))⟩, ⟨[2, 3], (.cons (.ptr 0 (.cons (.own false 229 (.pair (.int .i64) (.pair (.int .i64) (.pair (.int .i64) (.pair (.ols 9 .str) (.pair (.ols 4 .bool) (.int .i64))))))) .nil)) (.cons (.ptr 0 (.cons (.own false 229 (.pair (.int .i64) (.pair (.int .i64) (.pair (.int .i64) (.pair (.ols 9 .str) (.pair (.ols 4 .bool) (.int .i64))))))) .nil)) .nil))⟩)]) (by kernel_rfl) (by kernel_rfl) (fun x r h => (t_i_copyShelf k x).trans h)
def i_copyUser (k : Nat) (x : (Int × Int × Int × ByteArray × ByteArray × Int × List (Int) × Int × Int × ByteArray × ByteArray × Int × List (Int) × Int × (List (Int × Int × Int × List (ByteArray) × List (Bool) × Int)) × Int × Unit) × Unit) : Option ((Int × Int × Int × ByteArray × ByteArray × Int × List (Int) × Int × Int × ByteArray × ByteArray × Int × List (Int) × Int × (List (Int × Int × Int × List (ByteArray) × List (Bool) × Int)) × Int × Unit) × Unit × Unit) :=
((i_copySlots k ((x.1.2.2.1, (x.1.2.2.2.1, (x.1.2.2.2.2.1, (x.1.2.2.2.2.2.1, (x.1.2.2.2.2.2.2.1, (x.1.2.2.2.2.2.2.2.1, (x.1.2.2.2.2.2.2.2.2.1, (x.1.2.2.2.2.2.2.2.2.2.1, (x.1.2.2.2.2.2.2.2.2.2.2.1, (x.1.2.2.2.2.2.2.2.2.2.2.2.1, (x.1.2.2.2.2.2.2.2.2.2.2.2.2.1, (x.1.2.2.2.2.2.2.2.2.2.2.2.2.2.1, ())))))))))))), ())).bind fun p1 =>
((i_copyShelf k ((x.1.2.2.2.2.2.2.2.2.2.2.2.2.2.2.1, ()), ())).bind fun p2 =>
some ((x.1.1, (x.1.2.1, (p1.1.1, (p1.1.2.1, (p1.1.2.2.1, (p1.1.2.2.2.1, (p1.1.2.2.2.2.1, (p1.1.2.2.2.2.2.1, (p1.1.2.2.2.2.2.2.1, (p1.1.2.2.2.2.2.2.2.1, (p1.1.2.2.2.2.2.2.2.2.1, (p1.1.2.2.2.2.2.2.2.2.2.1, (p1.1.2.2.2.2.2.2.2.2.2.2.1, (p1.1.2.2.2.2.2.2.2.2.2.2.2.1, (p2.1.1, (x.1.2.2.2.2.2.2.2.2.2.2.2.2.2.2.2.1, ())))))))))))))))), ((), ()))))
theorem t_i_copyUser (k : Nat) (x) : evF TTabO k [⟨183, 0, (.cons (.agg (.cons (.int .i64) (.cons .str (.cons .str (.cons (.int .i64) (.cons (.il true (.int .i64)) (.cons (.int .i64) (.cons (.int .i64) (.cons .str (.cons .str (.cons (.int .i64) (.cons (.il true (.int .i64)) (.cons (.int .i64) .nil))))))))))))) .nil), (.agg (.cons (.int .i64) (.cons .str (.cons .str (.cons (.int .i64) (.cons (.own false 3 (.int .i64)) (.cons (.int .i64) (.cons (.int .i64) (.cons .str (.cons .str (.cons (.int .i64) (.cons (.own false 3 (.int .i64)) (.cons (.int .i64) .nil))))))))))))), i_copySlots k⟩, ⟨184, 0, (.cons (.agg (.cons (.il true (.pair (.int .i64) (.pair (.int .i64) (.pair (.int .i64) (.pair (.list .str) (.pair (.list .bool) (.int .i64))))))) .nil)) .nil), (.agg (.cons (.own false 229 (.pair (.int .i64) (.pair (.int .i64) (.pair (.int .i64) (.pair (.ols 9 .str) (.pair (.ols 4 .bool) (.int .i64))))))) .nil)), i_copyShelf k⟩] [] Tryz.f100 (.cons (.agg (.cons (.int .i64) (.cons (.int .i64) (.cons (.int .i64) (.cons .str (.cons .str (.cons (.int .i64) (.cons (.il true (.int .i64)) (.cons (.int .i64) (.cons (.int .i64) (.cons .str (.cons .str (.cons (.int .i64) (.cons (.il true (.int .i64)) (.cons (.int .i64) (.cons (.il true (.pair (.int .i64) (.pair (.int .i64) (.pair (.int .i64) (.pair (.list .str) (.pair (.list .bool) (.int .i64))))))) (.cons (.int .i64) .nil))))))))))))))))) .nil) (.agg (.cons (.int .i64) (.cons (.int .i64) (.cons (.int .i64) (.cons .str (.cons .str (.cons (.int .i64) (.cons (.own false 3 (.int .i64)) (.cons (.int .i64) (.cons (.int .i64) (.cons .str (.cons .str (.cons (.int .i64) (.cons (.own false 3 (.int .i64)) (.cons (.int .i64) (.cons (.own false 229 (.pair (.int .i64) (.pair (.int .i64) (.pair (.int .i64) (.pair (.ols 9 .str) (.pair (.ols 4 .bool) (.int .i64))))))) (.cons (.int .i64) .nil))))))))))))))))) x = i_copyUser k x := by kernel_rfl
theorem e_i_copyUser (k : Nat) : EntryOk Tryz.prog ⟨100, 0, (.cons (.agg (.cons (.int .i64) (.cons (.int .i64) (.cons (.int .i64) (.cons .str (.cons .str (.cons (.int .i64) (.cons (.il true (.int .i64)) (.cons (.int .i64) (.cons (.int .i64) (.cons .str (.cons .str (.cons (.int .i64) (.cons (.il true (.int .i64)) (.cons (.int .i64) (.cons (.il true (.pair (.int .i64) (.pair (.int .i64) (.pair (.int .i64) (.pair (.list .str) (.pair (.list .bool) (.int .i64))))))) (.cons (.int .i64) .nil))))))))))))))))) .nil), (.agg (.cons (.int .i64) (.cons (.int .i64) (.cons (.int .i64) (.cons .str (.cons .str (.cons (.int .i64) (.cons (.own false 3 (.int .i64)) (.cons (.int .i64) (.cons (.int .i64) (.cons .str (.cons .str (.cons (.int .i64) (.cons (.own false 3 (.int .i64)) (.cons (.int .i64) (.cons (.own false 229 (.pair (.int .i64) (.pair (.int .i64) (.pair (.int .i64) (.pair (.ols 9 .str) (.pair (.ols 4 .bool) (.int .i64))))))) (.cons (.int .i64) .nil))))))))))))))))), i_copyUser k⟩ := entry_ok tokO (by intro e he; simp only [List.mem_cons, List.not_mem_nil, or_false] at he; rcases he with rfl | rfl <;> first | exact e_i_copySlots k | exact e_i_copyShelf k) (by kernel_rfl) (fn := Tryz.f100) (k := k) (es := [⟨183, 0, (.cons (.agg (.cons (.int .i64) (.cons .str (.cons .str (.cons (.int .i64) (.cons (.il true (.int .i64)) (.cons (.int .i64) (.cons (.int .i64) (.cons .str (.cons .str (.cons (.int .i64) (.cons (.il true (.int .i64)) (.cons (.int .i64) .nil))))))))))))) .nil), (.agg (.cons (.int .i64) (.cons .str (.cons .str (.cons (.int .i64) (.cons (.own false 3 (.int .i64)) (.cons (.int .i64) (.cons (.int .i64) (.cons .str (.cons .str (.cons (.int .i64) (.cons (.own false 3 (.int .i64)) (.cons (.int .i64) .nil))))))))))))), i_copySlots k⟩, ⟨184, 0, (.cons (.agg (.cons (.il true (.pair (.int .i64) (.pair (.int .i64) (.pair (.int .i64) (.pair (.list .str) (.pair (.list .bool) (.int .i64))))))) .nil)) .nil), (.agg (.cons (.own false 229 (.pair (.int .i64) (.pair (.int .i64) (.pair (.int .i64) (.pair (.ols 9 .str) (.pair (.ols 4 .bool) (.int .i64))))))) .nil)), i_copyShelf k⟩]) (loops := []) (by kernel_rfl) (by kernel_rfl) (fun x r h => (t_i_copyUser k x).trans h)
def i_within (k : Nat) (x : Int × Int × Int × Unit) : Option (Bool × Unit × Unit × Unit × Unit) :=
(if (decide (x.2.1 ≤ x.1)) = true then
some ((decide (x.1 ≤ x.2.2.1)), ((), ((), ((), ()))))
else
some (false, ((), ((), ((), ())))))
theorem t_i_within (k : Nat) (x) : evF TTab k [] [] Tryz.f55 (.cons (.int .i64) (.cons (.int .i64) (.cons (.int .i64) .nil))) .bool x = i_within k x := by kernel_rfl
theorem e_i_within (k : Nat) : EntryOk Tryz.prog ⟨55, 0, (.cons (.int .i64) (.cons (.int .i64) (.cons (.int .i64) .nil))), .bool, i_within k⟩ := entry_ok tok (by simp) (by kernel_rfl) (fn := Tryz.f55) (k := k) (es := []) (loops := []) (by kernel_rfl) (by kernel_rfl) (fun x r h => (t_i_within k x).trans h)
def i_isId (k : Nat) (x : Int × Unit) : Option (Bool × Unit × Unit) :=
((i_within k (x.1, ((1 : Int), ((99 : Int), ())))).bind fun p1 =>
some (p1.1, ((), ())))
theorem t_i_isId (k : Nat) (x) : evF TTab k [⟨55, 0, (.cons (.int .i64) (.cons (.int .i64) (.cons (.int .i64) .nil))), .bool, i_within k⟩] [] Tryz.f133 (.cons (.int .i64) .nil) .bool x = i_isId k x := by kernel_rfl
theorem e_i_isId (k : Nat) : EntryOk Tryz.prog ⟨133, 0, (.cons (.int .i64) .nil), .bool, i_isId k⟩ := entry_ok tok (by intro e he; simp only [List.mem_cons, List.not_mem_nil, or_false] at he; rcases he with rfl <;> first | exact e_i_within k) (by kernel_rfl) (fn := Tryz.f133) (k := k) (es := [⟨55, 0, (.cons (.int .i64) (.cons (.int .i64) (.cons (.int .i64) .nil))), .bool, i_within k⟩]) (loops := []) (by kernel_rfl) (by kernel_rfl) (fun x r h => (t_i_isId k x).trans h)
def i_AddrOk (k : Nat) (x : Int × Unit) : Option (Bool × Unit × Unit) :=
((i_within k (x.1, ((0 : Int), ((4294967295 : Int), ())))).bind fun p1 =>
some (p1.1, ((), ())))
theorem t_i_AddrOk (k : Nat) (x) : evF TTab k [⟨55, 0, (.cons (.int .i64) (.cons (.int .i64) (.cons (.int .i64) .nil))), .bool, i_within k⟩] [] Tryz.f236 (.cons (.int .i64) .nil) .bool x = i_AddrOk k x := by kernel_rfl
theorem e_i_AddrOk (k : Nat) : EntryOk Tryz.prog ⟨236, 0, (.cons (.int .i64) .nil), .bool, i_AddrOk k⟩ := entry_ok tok (by intro e he; simp only [List.mem_cons, List.not_mem_nil, or_false] at he; rcases he with rfl <;> first | exact e_i_within k) (by kernel_rfl) (fn := Tryz.f236) (k := k) (es := [⟨55, 0, (.cons (.int .i64) (.cons (.int .i64) (.cons (.int .i64) .nil))), .bool, i_within k⟩]) (loops := []) (by kernel_rfl) (by kernel_rfl) (fun x r h => (t_i_AddrOk k x).trans h)
def i_NumberText (k : Nat) (x : Int × Unit) : Option (ByteArray × Unit × Unit) :=
((i_within k (x.1, ((0 : Int), ((4294967295 : Int), ())))).bind fun p1 =>
(if (!p1.1) = true then
some ((⟨#[]⟩ : ByteArray), ((), ()))
else
some ((strOf ([(wu8 ((bitsI .and .i64 (Int.fdiv x.1 (2 ^ (min (Int.toNat (24 : Int)) (IntKind.bits .i64)))) (255 : Int)))), (wu8 ((bitsI .and .i64 (Int.fdiv x.1 (2 ^ (min (Int.toNat (16 : Int)) (IntKind.bits .i64)))) (255 : Int)))), (wu8 ((bitsI .and .i64 (Int.fdiv x.1 (2 ^ (min (Int.toNat (8 : Int)) (IntKind.bits .i64)))) (255 : Int)))), (wu8 ((bitsI .and .i64 x.1 (255 : Int))))] : List (Int))), ((), ()))))
theorem t_i_NumberText (k : Nat) (x) : evF TTab k [⟨55, 0, (.cons (.int .i64) (.cons (.int .i64) (.cons (.int .i64) .nil))), .bool, i_within k⟩] [] Tryz.f181 (.cons (.int .i64) .nil) .str x = i_NumberText k x := by kernel_rfl
theorem e_i_NumberText (k : Nat) : EntryOk Tryz.prog ⟨181, 0, (.cons (.int .i64) .nil), .str, i_NumberText k⟩ := entry_ok tok (by intro e he; simp only [List.mem_cons, List.not_mem_nil, or_false] at he; rcases he with rfl <;> first | exact e_i_within k) (by kernel_rfl) (fn := Tryz.f181) (k := k) (es := [⟨55, 0, (.cons (.int .i64) (.cons (.int .i64) (.cons (.int .i64) .nil))), .bool, i_within k⟩]) (loops := []) (by kernel_rfl) (by kernel_rfl) (fun x r h => (t_i_NumberText k x).trans h)
def i_wordsText (k : Nat) (x : List (Int) × Unit) : Option (ByteArray × Unit × Unit) :=
(whileK (fun (rec0 : (ByteArray × List (Int) × Int × Int × Unit) → Option _) (y0 : ByteArray × List (Int) × Int × Int × Unit) =>
(if (decide (y0.2.2.2.1 < y0.2.2.1)) = true then
(if 0 ≤ y0.2.2.2.1 ∧ y0.2.2.2.1 < (List.length y0.2.1 : Int) then
((i_NumberText k ((Ty.rd (t := (.int .i64)) y0.2.1 y0.2.2.2.1), ())).bind fun p1 =>
(if ByteArray.size y0.1 + ByteArray.size p1.1 ≤ maxStr then
(rec0 ((y0.1 ++ p1.1), (y0.2.1, (y0.2.2.1, ((wi64 (y0.2.2.2.1 + (1 : Int))), ())))))
else none))
else none)
else
((fun (z1 : ByteArray × Unit) =>
some (z1.1, ((), ()))) (y0.1, ())))) k ((⟨#[]⟩ : ByteArray), (x.1, ((List.length x.1 : Int), ((0 : Int), ())))))
theorem t_i_wordsText (k : Nat) (x) : evF TTab k [⟨181, 0, (.cons (.int .i64) .nil), .str, i_NumberText k⟩] [(0, ⟨[3, 6, 7, 8], (.cons .str (.cons (.il true (.int .i64)) (.cons (.int .i64) (.cons (.int .i64) .nil))))⟩, ⟨[3], (.cons .str .nil)⟩)] Tryz.f285 (.cons (.il true (.int .i64)) .nil) .str x = i_wordsText k x := by kernel_rfl
theorem e_i_wordsText (k : Nat) : EntryOk Tryz.prog ⟨285, 0, (.cons (.il true (.int .i64)) .nil), .str, i_wordsText k⟩ := entry_ok tok (by intro e he; simp only [List.mem_cons, List.not_mem_nil, or_false] at he; rcases he with rfl <;> first | exact e_i_NumberText k) (by kernel_rfl) (fn := Tryz.f285) (k := k) (es := [⟨181, 0, (.cons (.int .i64) .nil), .str, i_NumberText k⟩]) (loops := [(0, ⟨[3, 6, 7, 8], (.cons .str (.cons (.il true (.int .i64)) (.cons (.int .i64) (.cons (.int .i64) .nil))))⟩, ⟨[3], (.cons .str .nil)⟩)]) (by kernel_rfl) (by kernel_rfl) (fun x r h => (t_i_wordsText k x).trans h)
def i_constants (k : Nat) (x : Unit) : Option ((Int × Int × Int × Int × Int × Int × Int × Int × Int × Int × Int × Int × Int × Int × Int × Int × Int × Int × Int × Int × Int × Int × Int × Int × Int × Int × Int × Int × Int × Int × Int × Int × Int × Int × Int × Int × Int × Int × Int × Int × Int × Int × Int × Int × Int × Int × Int × Int × Int × Int × Int × Int × Int × Int × Int × Int × Int × Int × Int × Int × Int × Int × Int × Int × Unit) × Unit) :=
some (((1116352408 : Int), ((1899447441 : Int), ((3049323471 : Int), ((3921009573 : Int), ((961987163 : Int), ((1508970993 : Int), ((2453635748 : Int), ((2870763221 : Int), ((3624381080 : Int), ((310598401 : Int), ((607225278 : Int), ((1426881987 : Int), ((1925078388 : Int), ((2162078206 : Int), ((2614888103 : Int), ((3248222580 : Int), ((3835390401 : Int), ((4022224774 : Int), ((264347078 : Int), ((604807628 : Int), ((770255983 : Int), ((1249150122 : Int), ((1555081692 : Int), ((1996064986 : Int), ((2554220882 : Int), ((2821834349 : Int), ((2952996808 : Int), ((3210313671 : Int), ((3336571891 : Int), ((3584528711 : Int), ((113926993 : Int), ((338241895 : Int), ((666307205 : Int), ((773529912 : Int), ((1294757372 : Int), ((1396182291 : Int), ((1695183700 : Int), ((1986661051 : Int), ((2177026350 : Int), ((2456956037 : Int), ((2730485921 : Int), ((2820302411 : Int), ((3259730800 : Int), ((3345764771 : Int), ((3516065817 : Int), ((3600352804 : Int), ((4094571909 : Int), ((275423344 : Int), ((430227734 : Int), ((506948616 : Int), ((659060556 : Int), ((883997877 : Int), ((958139571 : Int), ((1322822218 : Int), ((1537002063 : Int), ((1747873779 : Int), ((1955562222 : Int), ((2024104815 : Int), ((2227730452 : Int), ((2361852424 : Int), ((2428436474 : Int), ((2756734187 : Int), ((3204031479 : Int), ((3329325298 : Int), ())))))))))))))))))))))))))))))))))))))))))))))))))))))))))))))))), ())
theorem t_i_constants (k : Nat) (x) : evF TTab k [] [] Tryz.f315 .nil (.agg (.cons (.int .i64) (.cons (.int .i64) (.cons (.int .i64) (.cons (.int .i64) (.cons (.int .i64) (.cons (.int .i64) (.cons (.int .i64) (.cons (.int .i64) (.cons (.int .i64) (.cons (.int .i64) (.cons (.int .i64) (.cons (.int .i64) (.cons (.int .i64) (.cons (.int .i64) (.cons (.int .i64) (.cons (.int .i64) (.cons (.int .i64) (.cons (.int .i64) (.cons (.int .i64) (.cons (.int .i64) (.cons (.int .i64) (.cons (.int .i64) (.cons (.int .i64) (.cons (.int .i64) (.cons (.int .i64) (.cons (.int .i64) (.cons (.int .i64) (.cons (.int .i64) (.cons (.int .i64) (.cons (.int .i64) (.cons (.int .i64) (.cons (.int .i64) (.cons (.int .i64) (.cons (.int .i64) (.cons (.int .i64) (.cons (.int .i64) (.cons (.int .i64) (.cons (.int .i64) (.cons (.int .i64) (.cons (.int .i64) (.cons (.int .i64) (.cons (.int .i64) (.cons (.int .i64) (.cons (.int .i64) (.cons (.int .i64) (.cons (.int .i64) (.cons (.int .i64) (.cons (.int .i64) (.cons (.int .i64) (.cons (.int .i64) (.cons (.int .i64) (.cons (.int .i64) (.cons (.int .i64) (.cons (.int .i64) (.cons (.int .i64) (.cons (.int .i64) (.cons (.int .i64) (.cons (.int .i64) (.cons (.int .i64) (.cons (.int .i64) (.cons (.int .i64) (.cons (.int .i64) (.cons (.int .i64) (.cons (.int .i64) .nil))))))))))))))))))))))))))))))))))))))))))))))))))))))))))))))))) x = i_constants k x := by kernel_rfl
theorem e_i_constants (k : Nat) : EntryOk Tryz.prog ⟨315, 0, .nil, (.agg (.cons (.int .i64) (.cons (.int .i64) (.cons (.int .i64) (.cons (.int .i64) (.cons (.int .i64) (.cons (.int .i64) (.cons (.int .i64) (.cons (.int .i64) (.cons (.int .i64) (.cons (.int .i64) (.cons (.int .i64) (.cons (.int .i64) (.cons (.int .i64) (.cons (.int .i64) (.cons (.int .i64) (.cons (.int .i64) (.cons (.int .i64) (.cons (.int .i64) (.cons (.int .i64) (.cons (.int .i64) (.cons (.int .i64) (.cons (.int .i64) (.cons (.int .i64) (.cons (.int .i64) (.cons (.int .i64) (.cons (.int .i64) (.cons (.int .i64) (.cons (.int .i64) (.cons (.int .i64) (.cons (.int .i64) (.cons (.int .i64) (.cons (.int .i64) (.cons (.int .i64) (.cons (.int .i64) (.cons (.int .i64) (.cons (.int .i64) (.cons (.int .i64) (.cons (.int .i64) (.cons (.int .i64) (.cons (.int .i64) (.cons (.int .i64) (.cons (.int .i64) (.cons (.int .i64) (.cons (.int .i64) (.cons (.int .i64) (.cons (.int .i64) (.cons (.int .i64) (.cons (.int .i64) (.cons (.int .i64) (.cons (.int .i64) (.cons (.int .i64) (.cons (.int .i64) (.cons (.int .i64) (.cons (.int .i64) (.cons (.int .i64) (.cons (.int .i64) (.cons (.int .i64) (.cons (.int .i64) (.cons (.int .i64) (.cons (.int .i64) (.cons (.int .i64) (.cons (.int .i64) (.cons (.int .i64) (.cons (.int .i64) .nil))))))))))))))))))))))))))))))))))))))))))))))))))))))))))))))))), i_constants k⟩ := entry_ok tok (by simp) (by kernel_rfl) (fn := Tryz.f315) (k := k) (es := []) (loops := []) (by kernel_rfl) (by kernel_rfl) (fun x r h => (t_i_constants k x).trans h)
def i_ReadNumber (k : Nat) (x : ByteArray × Unit) : Option ((Int × Bool × Unit) × Unit × Unit) :=
(if (!decide ((ByteArray.size x.1 : Int) = (4 : Int))) = true then
some (((0 : Int), (false, ())), ((), ()))
else
(if 0 ≤ (0 : Int) ∧ (0 : Int) < (ByteArray.size x.1 : Int) then
(if 0 ≤ (1 : Int) ∧ (1 : Int) < (ByteArray.size x.1 : Int) then
(if 0 ≤ (2 : Int) ∧ (2 : Int) < (ByteArray.size x.1 : Int) then
(if 0 ≤ (3 : Int) ∧ (3 : Int) < (ByteArray.size x.1 : Int) then
some (((bitsI .or .i64 (bitsI .or .i64 (bitsI .or .i64 (wi64 ((wi64 ((bt x.1 (0 : Int)))) * 2 ^ (min (Int.toNat (24 : Int)) (IntKind.bits .i64)))) (wi64 ((wi64 ((bt x.1 (1 : Int)))) * 2 ^ (min (Int.toNat (16 : Int)) (IntKind.bits .i64))))) (wi64 ((wi64 ((bt x.1 (2 : Int)))) * 2 ^ (min (Int.toNat (8 : Int)) (IntKind.bits .i64))))) (wi64 ((bt x.1 (3 : Int))))), (true, ())), ((), ()))
else none)
else none)
else none)
else none))
theorem t_i_ReadNumber (k : Nat) (x) : evF TTab k [] [] Tryz.f207 (.cons .str .nil) (.tup (.cons (.int .i64) (.cons .bool .nil))) x = i_ReadNumber k x := by kernel_rfl
theorem e_i_ReadNumber (k : Nat) : EntryOk Tryz.prog ⟨207, 0, (.cons .str .nil), (.tup (.cons (.int .i64) (.cons .bool .nil))), i_ReadNumber k⟩ := entry_ok tok (by simp) (by kernel_rfl) (fn := Tryz.f207) (k := k) (es := []) (loops := []) (by kernel_rfl) (by kernel_rfl) (fun x r h => (t_i_ReadNumber k x).trans h)
def i_wordsOf (k : Nat) (x : ByteArray × Unit) : Option (List (Int) × Unit × Unit) :=
(whileK (fun (rec0 : (ByteArray × List (Int) × Int × Unit) → Option _) (y0 : ByteArray × List (Int) × Int × Unit) =>
(if (decide ((wi64 (y0.2.2.1 + (4 : Int))) ≤ (ByteArray.size y0.1 : Int))) = true then
(if 0 ≤ (wi64 (y0.2.2.1 + (4 : Int))) ∧ (wi64 (y0.2.2.1 + (4 : Int))) ≤ (ByteArray.size y0.1 : Int) then
(if 0 ≤ y0.2.2.1 ∧ y0.2.2.1 ≤ (wi64 (y0.2.2.1 + (4 : Int))) then
((i_ReadNumber k ((ByteArray.extract y0.1 (Int.toNat y0.2.2.1) (Int.toNat (wi64 (y0.2.2.1 + (4 : Int))))), ())).bind fun p1 =>
(if List.length y0.2.1 + List.length ([p1.1.1] : List (Int)) ≤ capMax then
(rec0 (y0.1, ((y0.2.1 ++ ([p1.1.1] : List (Int))), ((wi64 (y0.2.2.1 + (4 : Int))), ()))))
else none))
else none)
else none)
else
((fun (z1 : List (Int) × Unit) =>
some (z1.1, ((), ()))) (y0.2.1, ())))) k (x.1, (([] : List (Int)), ((0 : Int), ()))))
theorem t_i_wordsOf (k : Nat) (x) : evF TTab k [⟨207, 0, (.cons .str .nil), (.tup (.cons (.int .i64) (.cons .bool .nil))), i_ReadNumber k⟩] [(0, ⟨[0, 3, 4], (.cons .str (.cons (.own false 3 (.int .i64)) (.cons (.int .i64) .nil)))⟩, ⟨[3], (.cons (.own false 3 (.int .i64)) .nil)⟩)] Tryz.f317 (.cons .str .nil) (.own false 3 (.int .i64)) x = i_wordsOf k x := by kernel_rfl
theorem e_i_wordsOf (k : Nat) : EntryOk Tryz.prog ⟨317, 0, (.cons .str .nil), (.own false 3 (.int .i64)), i_wordsOf k⟩ := entry_ok tok (by intro e he; simp only [List.mem_cons, List.not_mem_nil, or_false] at he; rcases he with rfl <;> first | exact e_i_ReadNumber k) (by kernel_rfl) (fn := Tryz.f317) (k := k) (es := [⟨207, 0, (.cons .str .nil), (.tup (.cons (.int .i64) (.cons .bool .nil))), i_ReadNumber k⟩]) (loops := [(0, ⟨[0, 3, 4], (.cons .str (.cons (.own false 3 (.int .i64)) (.cons (.int .i64) .nil)))⟩, ⟨[3], (.cons (.own false 3 (.int .i64)) .nil)⟩)]) (by kernel_rfl) (by kernel_rfl) (fun x r h => (t_i_wordsOf k x).trans h)
def i_turnRight (k : Nat) (x : Int × Int × Unit) : Option (Int × Unit × Unit × Unit) :=
(if x.2.1 < 0 then
none
else
(if (wi64 ((32 : Int) - x.2.1)) < 0 then
none
else
some ((bitsI .and .i64 (bitsI .or .i64 (Int.fdiv x.1 (2 ^ (min (Int.toNat x.2.1) (IntKind.bits .i64)))) (wi64 (x.1 * 2 ^ (min (Int.toNat (wi64 ((32 : Int) - x.2.1))) (IntKind.bits .i64))))) (4294967295 : Int)), ((), ((), ())))))
theorem t_i_turnRight (k : Nat) (x) : evF TTab k [] [] Tryz.f318 (.cons (.int .i64) (.cons (.int .i64) .nil)) (.int .i64) x = i_turnRight k x := by kernel_rfl
theorem e_i_turnRight (k : Nat) : EntryOk Tryz.prog ⟨318, 0, (.cons (.int .i64) (.cons (.int .i64) .nil)), (.int .i64), i_turnRight k⟩ := entry_ok tok (by simp) (by kernel_rfl) (fn := Tryz.f318) (k := k) (es := []) (loops := []) (by kernel_rfl) (by kernel_rfl) (fun x r h => (t_i_turnRight k x).trans h)
def i_expanded (k : Nat) (x : ByteArray × Unit) : Option (List (Int) × Unit × Unit) :=
((i_wordsOf k (x.1, ())).bind fun p1 =>
(whileK (fun (rec0 : (List (Int) × Int × Unit) → Option _) (y0 : List (Int) × Int × Unit) =>
(if (decide (y0.2.1 < (64 : Int))) = true then
(if 0 ≤ (wi64 (y0.2.1 - (15 : Int))) ∧ (wi64 (y0.2.1 - (15 : Int))) < (List.length y0.1 : Int) then
(if 0 ≤ (wi64 (y0.2.1 - (2 : Int))) ∧ (wi64 (y0.2.1 - (2 : Int))) < (List.length y0.1 : Int) then
((i_turnRight k ((Ty.rd (t := (.int .i64)) y0.1 (wi64 (y0.2.1 - (15 : Int)))), ((7 : Int), ()))).bind fun p2 =>
((i_turnRight k ((Ty.rd (t := (.int .i64)) y0.1 (wi64 (y0.2.1 - (15 : Int)))), ((18 : Int), ()))).bind fun p3 =>
((i_turnRight k ((Ty.rd (t := (.int .i64)) y0.1 (wi64 (y0.2.1 - (2 : Int)))), ((17 : Int), ()))).bind fun p4 =>
((i_turnRight k ((Ty.rd (t := (.int .i64)) y0.1 (wi64 (y0.2.1 - (2 : Int)))), ((19 : Int), ()))).bind fun p5 =>
(if 0 ≤ (wi64 (y0.2.1 - (7 : Int))) ∧ (wi64 (y0.2.1 - (7 : Int))) < (List.length y0.1 : Int) then
(if 0 ≤ (wi64 (y0.2.1 - (16 : Int))) ∧ (wi64 (y0.2.1 - (16 : Int))) < (List.length y0.1 : Int) then
(if List.length y0.1 + List.length ([(bitsI .and .i64 (wi64 ((wi64 ((wi64 ((bitsI .xor .i64 (bitsI .xor .i64 p4.1 p5.1) (Int.fdiv (Ty.rd (t := (.int .i64)) y0.1 (wi64 (y0.2.1 - (2 : Int)))) (2 ^ (min (Int.toNat (10 : Int)) (IntKind.bits .i64))))) + (Ty.rd (t := (.int .i64)) y0.1 (wi64 (y0.2.1 - (7 : Int)))))) + (bitsI .xor .i64 (bitsI .xor .i64 p2.1 p3.1) (Int.fdiv (Ty.rd (t := (.int .i64)) y0.1 (wi64 (y0.2.1 - (15 : Int)))) (2 ^ (min (Int.toNat (3 : Int)) (IntKind.bits .i64))))))) + (Ty.rd (t := (.int .i64)) y0.1 (wi64 (y0.2.1 - (16 : Int)))))) (4294967295 : Int))] : List (Int)) ≤ capMax then
(rec0 ((y0.1 ++ ([(bitsI .and .i64 (wi64 ((wi64 ((wi64 ((bitsI .xor .i64 (bitsI .xor .i64 p4.1 p5.1) (Int.fdiv (Ty.rd (t := (.int .i64)) y0.1 (wi64 (y0.2.1 - (2 : Int)))) (2 ^ (min (Int.toNat (10 : Int)) (IntKind.bits .i64))))) + (Ty.rd (t := (.int .i64)) y0.1 (wi64 (y0.2.1 - (7 : Int)))))) + (bitsI .xor .i64 (bitsI .xor .i64 p2.1 p3.1) (Int.fdiv (Ty.rd (t := (.int .i64)) y0.1 (wi64 (y0.2.1 - (15 : Int)))) (2 ^ (min (Int.toNat (3 : Int)) (IntKind.bits .i64))))))) + (Ty.rd (t := (.int .i64)) y0.1 (wi64 (y0.2.1 - (16 : Int)))))) (4294967295 : Int))] : List (Int))), ((wi64 (y0.2.1 + (1 : Int))), ())))
else none)
else none)
else none)))))
else none)
else none)
else
((fun (z1 : List (Int) × Unit) =>
some (z1.1, ((), ()))) (y0.1, ())))) k (p1.1, ((16 : Int), ()))))
theorem t_i_expanded (k : Nat) (x) : evF TTab k [⟨317, 0, (.cons .str .nil), (.own false 3 (.int .i64)), i_wordsOf k⟩, ⟨318, 0, (.cons (.int .i64) (.cons (.int .i64) .nil)), (.int .i64), i_turnRight k⟩] [(0, ⟨[3, 4], (.cons (.own false 3 (.int .i64)) (.cons (.int .i64) .nil))⟩, ⟨[3], (.cons (.own false 3 (.int .i64)) .nil)⟩)] Tryz.f316 (.cons .str .nil) (.own false 3 (.int .i64)) x = i_expanded k x := by kernel_rfl
theorem e_i_expanded (k : Nat) : EntryOk Tryz.prog ⟨316, 0, (.cons .str .nil), (.own false 3 (.int .i64)), i_expanded k⟩ := entry_ok tok (by intro e he; simp only [List.mem_cons, List.not_mem_nil, or_false] at he; rcases he with rfl | rfl <;> first | exact e_i_wordsOf k | exact e_i_turnRight k) (by kernel_rfl) (fn := Tryz.f316) (k := k) (es := [⟨317, 0, (.cons .str .nil), (.own false 3 (.int .i64)), i_wordsOf k⟩, ⟨318, 0, (.cons (.int .i64) (.cons (.int .i64) .nil)), (.int .i64), i_turnRight k⟩]) (loops := [(0, ⟨[3, 4], (.cons (.own false 3 (.int .i64)) (.cons (.int .i64) .nil))⟩, ⟨[3], (.cons (.own false 3 (.int .i64)) .nil)⟩)]) (by kernel_rfl) (by kernel_rfl) (fun x r h => (t_i_expanded k x).trans h)
def i_round (k : Nat) (x : ByteArray × ByteArray × Unit) : Option (ByteArray × Unit × Unit × Unit) :=
((i_constants k ()).bind fun p1 =>
((i_expanded k (x.2.1, ())).bind fun p2 =>
((i_wordsOf k (x.1, ())).bind fun p3 =>
(if 0 ≤ (0 : Int) ∧ (0 : Int) < (List.length p3.1 : Int) then
(if 0 ≤ (1 : Int) ∧ (1 : Int) < (List.length p3.1 : Int) then
(if 0 ≤ (2 : Int) ∧ (2 : Int) < (List.length p3.1 : Int) then
(if 0 ≤ (3 : Int) ∧ (3 : Int) < (List.length p3.1 : Int) then
(if 0 ≤ (4 : Int) ∧ (4 : Int) < (List.length p3.1 : Int) then
(if 0 ≤ (5 : Int) ∧ (5 : Int) < (List.length p3.1 : Int) then
(if 0 ≤ (6 : Int) ∧ (6 : Int) < (List.length p3.1 : Int) then
(if 0 ≤ (7 : Int) ∧ (7 : Int) < (List.length p3.1 : Int) then
(whileK (fun (rec0 : ((Int × Int × Int × Int × Int × Int × Int × Int × Int × Int × Int × Int × Int × Int × Int × Int × Int × Int × Int × Int × Int × Int × Int × Int × Int × Int × Int × Int × Int × Int × Int × Int × Int × Int × Int × Int × Int × Int × Int × Int × Int × Int × Int × Int × Int × Int × Int × Int × Int × Int × Int × Int × Int × Int × Int × Int × Int × Int × Int × Int × Int × Int × Int × Int × Unit) × List (Int) × List (Int) × Int × Int × Int × Int × Int × Int × Int × Int × Int × Unit) → Option _) (y0 : (Int × Int × Int × Int × Int × Int × Int × Int × Int × Int × Int × Int × Int × Int × Int × Int × Int × Int × Int × Int × Int × Int × Int × Int × Int × Int × Int × Int × Int × Int × Int × Int × Int × Int × Int × Int × Int × Int × Int × Int × Int × Int × Int × Int × Int × Int × Int × Int × Int × Int × Int × Int × Int × Int × Int × Int × Int × Int × Int × Int × Int × Int × Int × Int × Unit) × List (Int) × List (Int) × Int × Int × Int × Int × Int × Int × Int × Int × Int × Unit) =>
(if (decide (y0.2.2.2.2.2.2.2.2.2.2.2.1 < (64 : Int))) = true then
((i_turnRight k (y0.2.2.2.2.2.2.2.1, ((6 : Int), ()))).bind fun p4 =>
((i_turnRight k (y0.2.2.2.2.2.2.2.1, ((11 : Int), ()))).bind fun p5 =>
((i_turnRight k (y0.2.2.2.2.2.2.2.1, ((25 : Int), ()))).bind fun p6 =>
(if 0 ≤ y0.2.2.2.2.2.2.2.2.2.2.2.1 ∧ y0.2.2.2.2.2.2.2.2.2.2.2.1 < (64 : Int) then
(if y0.2.2.2.2.2.2.2.2.2.2.2.1 < (List.length ([y0.1.1, y0.1.2.1, y0.1.2.2.1, y0.1.2.2.2.1, y0.1.2.2.2.2.1, y0.1.2.2.2.2.2.1, y0.1.2.2.2.2.2.2.1, y0.1.2.2.2.2.2.2.2.1, y0.1.2.2.2.2.2.2.2.2.1, y0.1.2.2.2.2.2.2.2.2.2.1, y0.1.2.2.2.2.2.2.2.2.2.2.1, y0.1.2.2.2.2.2.2.2.2.2.2.2.1, y0.1.2.2.2.2.2.2.2.2.2.2.2.2.1, y0.1.2.2.2.2.2.2.2.2.2.2.2.2.2.1, y0.1.2.2.2.2.2.2.2.2.2.2.2.2.2.2.1, y0.1.2.2.2.2.2.2.2.2.2.2.2.2.2.2.2.1, y0.1.2.2.2.2.2.2.2.2.2.2.2.2.2.2.2.2.1, y0.1.2.2.2.2.2.2.2.2.2.2.2.2.2.2.2.2.2.1, y0.1.2.2.2.2.2.2.2.2.2.2.2.2.2.2.2.2.2.2.1, y0.1.2.2.2.2.2.2.2.2.2.2.2.2.2.2.2.2.2.2.2.1, y0.1.2.2.2.2.2.2.2.2.2.2.2.2.2.2.2.2.2.2.2.2.1, y0.1.2.2.2.2.2.2.2.2.2.2.2.2.2.2.2.2.2.2.2.2.2.1, y0.1.2.2.2.2.2.2.2.2.2.2.2.2.2.2.2.2.2.2.2.2.2.2.1, y0.1.2.2.2.2.2.2.2.2.2.2.2.2.2.2.2.2.2.2.2.2.2.2.2.1, y0.1.2.2.2.2.2.2.2.2.2.2.2.2.2.2.2.2.2.2.2.2.2.2.2.2.1, y0.1.2.2.2.2.2.2.2.2.2.2.2.2.2.2.2.2.2.2.2.2.2.2.2.2.2.1, y0.1.2.2.2.2.2.2.2.2.2.2.2.2.2.2.2.2.2.2.2.2.2.2.2.2.2.2.1, y0.1.2.2.2.2.2.2.2.2.2.2.2.2.2.2.2.2.2.2.2.2.2.2.2.2.2.2.2.1, y0.1.2.2.2.2.2.2.2.2.2.2.2.2.2.2.2.2.2.2.2.2.2.2.2.2.2.2.2.2.1, y0.1.2.2.2.2.2.2.2.2.2.2.2.2.2.2.2.2.2.2.2.2.2.2.2.2.2.2.2.2.2.1, y0.1.2.2.2.2.2.2.2.2.2.2.2.2.2.2.2.2.2.2.2.2.2.2.2.2.2.2.2.2.2.2.1, y0.1.2.2.2.2.2.2.2.2.2.2.2.2.2.2.2.2.2.2.2.2.2.2.2.2.2.2.2.2.2.2.2.1, y0.1.2.2.2.2.2.2.2.2.2.2.2.2.2.2.2.2.2.2.2.2.2.2.2.2.2.2.2.2.2.2.2.2.1, y0.1.2.2.2.2.2.2.2.2.2.2.2.2.2.2.2.2.2.2.2.2.2.2.2.2.2.2.2.2.2.2.2.2.2.1, y0.1.2.2.2.2.2.2.2.2.2.2.2.2.2.2.2.2.2.2.2.2.2.2.2.2.2.2.2.2.2.2.2.2.2.2.1, y0.1.2.2.2.2.2.2.2.2.2.2.2.2.2.2.2.2.2.2.2.2.2.2.2.2.2.2.2.2.2.2.2.2.2.2.2.1, y0.1.2.2.2.2.2.2.2.2.2.2.2.2.2.2.2.2.2.2.2.2.2.2.2.2.2.2.2.2.2.2.2.2.2.2.2.2.1, y0.1.2.2.2.2.2.2.2.2.2.2.2.2.2.2.2.2.2.2.2.2.2.2.2.2.2.2.2.2.2.2.2.2.2.2.2.2.2.1, y0.1.2.2.2.2.2.2.2.2.2.2.2.2.2.2.2.2.2.2.2.2.2.2.2.2.2.2.2.2.2.2.2.2.2.2.2.2.2.2.1, y0.1.2.2.2.2.2.2.2.2.2.2.2.2.2.2.2.2.2.2.2.2.2.2.2.2.2.2.2.2.2.2.2.2.2.2.2.2.2.2.2.1, y0.1.2.2.2.2.2.2.2.2.2.2.2.2.2.2.2.2.2.2.2.2.2.2.2.2.2.2.2.2.2.2.2.2.2.2.2.2.2.2.2.2.1, y0.1.2.2.2.2.2.2.2.2.2.2.2.2.2.2.2.2.2.2.2.2.2.2.2.2.2.2.2.2.2.2.2.2.2.2.2.2.2.2.2.2.2.1, y0.1.2.2.2.2.2.2.2.2.2.2.2.2.2.2.2.2.2.2.2.2.2.2.2.2.2.2.2.2.2.2.2.2.2.2.2.2.2.2.2.2.2.2.1, y0.1.2.2.2.2.2.2.2.2.2.2.2.2.2.2.2.2.2.2.2.2.2.2.2.2.2.2.2.2.2.2.2.2.2.2.2.2.2.2.2.2.2.2.2.1, y0.1.2.2.2.2.2.2.2.2.2.2.2.2.2.2.2.2.2.2.2.2.2.2.2.2.2.2.2.2.2.2.2.2.2.2.2.2.2.2.2.2.2.2.2.2.1, y0.1.2.2.2.2.2.2.2.2.2.2.2.2.2.2.2.2.2.2.2.2.2.2.2.2.2.2.2.2.2.2.2.2.2.2.2.2.2.2.2.2.2.2.2.2.2.1, y0.1.2.2.2.2.2.2.2.2.2.2.2.2.2.2.2.2.2.2.2.2.2.2.2.2.2.2.2.2.2.2.2.2.2.2.2.2.2.2.2.2.2.2.2.2.2.2.1, y0.1.2.2.2.2.2.2.2.2.2.2.2.2.2.2.2.2.2.2.2.2.2.2.2.2.2.2.2.2.2.2.2.2.2.2.2.2.2.2.2.2.2.2.2.2.2.2.2.1, y0.1.2.2.2.2.2.2.2.2.2.2.2.2.2.2.2.2.2.2.2.2.2.2.2.2.2.2.2.2.2.2.2.2.2.2.2.2.2.2.2.2.2.2.2.2.2.2.2.2.1, y0.1.2.2.2.2.2.2.2.2.2.2.2.2.2.2.2.2.2.2.2.2.2.2.2.2.2.2.2.2.2.2.2.2.2.2.2.2.2.2.2.2.2.2.2.2.2.2.2.2.2.1, y0.1.2.2.2.2.2.2.2.2.2.2.2.2.2.2.2.2.2.2.2.2.2.2.2.2.2.2.2.2.2.2.2.2.2.2.2.2.2.2.2.2.2.2.2.2.2.2.2.2.2.2.1, y0.1.2.2.2.2.2.2.2.2.2.2.2.2.2.2.2.2.2.2.2.2.2.2.2.2.2.2.2.2.2.2.2.2.2.2.2.2.2.2.2.2.2.2.2.2.2.2.2.2.2.2.2.1, y0.1.2.2.2.2.2.2.2.2.2.2.2.2.2.2.2.2.2.2.2.2.2.2.2.2.2.2.2.2.2.2.2.2.2.2.2.2.2.2.2.2.2.2.2.2.2.2.2.2.2.2.2.2.1, y0.1.2.2.2.2.2.2.2.2.2.2.2.2.2.2.2.2.2.2.2.2.2.2.2.2.2.2.2.2.2.2.2.2.2.2.2.2.2.2.2.2.2.2.2.2.2.2.2.2.2.2.2.2.2.1, y0.1.2.2.2.2.2.2.2.2.2.2.2.2.2.2.2.2.2.2.2.2.2.2.2.2.2.2.2.2.2.2.2.2.2.2.2.2.2.2.2.2.2.2.2.2.2.2.2.2.2.2.2.2.2.2.1, y0.1.2.2.2.2.2.2.2.2.2.2.2.2.2.2.2.2.2.2.2.2.2.2.2.2.2.2.2.2.2.2.2.2.2.2.2.2.2.2.2.2.2.2.2.2.2.2.2.2.2.2.2.2.2.2.2.1, y0.1.2.2.2.2.2.2.2.2.2.2.2.2.2.2.2.2.2.2.2.2.2.2.2.2.2.2.2.2.2.2.2.2.2.2.2.2.2.2.2.2.2.2.2.2.2.2.2.2.2.2.2.2.2.2.2.2.1, y0.1.2.2.2.2.2.2.2.2.2.2.2.2.2.2.2.2.2.2.2.2.2.2.2.2.2.2.2.2.2.2.2.2.2.2.2.2.2.2.2.2.2.2.2.2.2.2.2.2.2.2.2.2.2.2.2.2.2.1, y0.1.2.2.2.2.2.2.2.2.2.2.2.2.2.2.2.2.2.2.2.2.2.2.2.2.2.2.2.2.2.2.2.2.2.2.2.2.2.2.2.2.2.2.2.2.2.2.2.2.2.2.2.2.2.2.2.2.2.2.1, y0.1.2.2.2.2.2.2.2.2.2.2.2.2.2.2.2.2.2.2.2.2.2.2.2.2.2.2.2.2.2.2.2.2.2.2.2.2.2.2.2.2.2.2.2.2.2.2.2.2.2.2.2.2.2.2.2.2.2.2.2.1, y0.1.2.2.2.2.2.2.2.2.2.2.2.2.2.2.2.2.2.2.2.2.2.2.2.2.2.2.2.2.2.2.2.2.2.2.2.2.2.2.2.2.2.2.2.2.2.2.2.2.2.2.2.2.2.2.2.2.2.2.2.2.1, y0.1.2.2.2.2.2.2.2.2.2.2.2.2.2.2.2.2.2.2.2.2.2.2.2.2.2.2.2.2.2.2.2.2.2.2.2.2.2.2.2.2.2.2.2.2.2.2.2.2.2.2.2.2.2.2.2.2.2.2.2.2.2.1, y0.1.2.2.2.2.2.2.2.2.2.2.2.2.2.2.2.2.2.2.2.2.2.2.2.2.2.2.2.2.2.2.2.2.2.2.2.2.2.2.2.2.2.2.2.2.2.2.2.2.2.2.2.2.2.2.2.2.2.2.2.2.2.2.1, y0.1.2.2.2.2.2.2.2.2.2.2.2.2.2.2.2.2.2.2.2.2.2.2.2.2.2.2.2.2.2.2.2.2.2.2.2.2.2.2.2.2.2.2.2.2.2.2.2.2.2.2.2.2.2.2.2.2.2.2.2.2.2.2.2.1] : List Int) : Int) then
(if 0 ≤ y0.2.2.2.2.2.2.2.2.2.2.2.1 ∧ y0.2.2.2.2.2.2.2.2.2.2.2.1 < (List.length y0.2.1 : Int) then
((i_turnRight k (y0.2.2.2.1, ((2 : Int), ()))).bind fun p7 =>
((i_turnRight k (y0.2.2.2.1, ((13 : Int), ()))).bind fun p8 =>
((i_turnRight k (y0.2.2.2.1, ((22 : Int), ()))).bind fun p9 =>
(rec0 (y0.1, (y0.2.1, (y0.2.2.1, ((bitsI .and .i64 (wi64 ((wi64 ((wi64 ((wi64 ((wi64 (y0.2.2.2.2.2.2.2.2.2.2.1 + (bitsI .xor .i64 (bitsI .xor .i64 p4.1 p5.1) p6.1))) + (bitsI .xor .i64 (bitsI .and .i64 y0.2.2.2.2.2.2.2.1 y0.2.2.2.2.2.2.2.2.1) (bitsI .and .i64 (bitsI .xor .i64 (4294967295 : Int) y0.2.2.2.2.2.2.2.1) y0.2.2.2.2.2.2.2.2.2.1)))) + (Ty.rd (t := .int .i64) ([y0.1.1, y0.1.2.1, y0.1.2.2.1, y0.1.2.2.2.1, y0.1.2.2.2.2.1, y0.1.2.2.2.2.2.1, y0.1.2.2.2.2.2.2.1, y0.1.2.2.2.2.2.2.2.1, y0.1.2.2.2.2.2.2.2.2.1, y0.1.2.2.2.2.2.2.2.2.2.1, y0.1.2.2.2.2.2.2.2.2.2.2.1, y0.1.2.2.2.2.2.2.2.2.2.2.2.1, y0.1.2.2.2.2.2.2.2.2.2.2.2.2.1, y0.1.2.2.2.2.2.2.2.2.2.2.2.2.2.1, y0.1.2.2.2.2.2.2.2.2.2.2.2.2.2.2.1, y0.1.2.2.2.2.2.2.2.2.2.2.2.2.2.2.2.1, y0.1.2.2.2.2.2.2.2.2.2.2.2.2.2.2.2.2.1, y0.1.2.2.2.2.2.2.2.2.2.2.2.2.2.2.2.2.2.1, y0.1.2.2.2.2.2.2.2.2.2.2.2.2.2.2.2.2.2.2.1, y0.1.2.2.2.2.2.2.2.2.2.2.2.2.2.2.2.2.2.2.2.1, y0.1.2.2.2.2.2.2.2.2.2.2.2.2.2.2.2.2.2.2.2.2.1, y0.1.2.2.2.2.2.2.2.2.2.2.2.2.2.2.2.2.2.2.2.2.2.1, y0.1.2.2.2.2.2.2.2.2.2.2.2.2.2.2.2.2.2.2.2.2.2.2.1, y0.1.2.2.2.2.2.2.2.2.2.2.2.2.2.2.2.2.2.2.2.2.2.2.2.1, y0.1.2.2.2.2.2.2.2.2.2.2.2.2.2.2.2.2.2.2.2.2.2.2.2.2.1, y0.1.2.2.2.2.2.2.2.2.2.2.2.2.2.2.2.2.2.2.2.2.2.2.2.2.2.1, y0.1.2.2.2.2.2.2.2.2.2.2.2.2.2.2.2.2.2.2.2.2.2.2.2.2.2.2.1, y0.1.2.2.2.2.2.2.2.2.2.2.2.2.2.2.2.2.2.2.2.2.2.2.2.2.2.2.2.1, y0.1.2.2.2.2.2.2.2.2.2.2.2.2.2.2.2.2.2.2.2.2.2.2.2.2.2.2.2.2.1, y0.1.2.2.2.2.2.2.2.2.2.2.2.2.2.2.2.2.2.2.2.2.2.2.2.2.2.2.2.2.2.1, y0.1.2.2.2.2.2.2.2.2.2.2.2.2.2.2.2.2.2.2.2.2.2.2.2.2.2.2.2.2.2.2.1, y0.1.2.2.2.2.2.2.2.2.2.2.2.2.2.2.2.2.2.2.2.2.2.2.2.2.2.2.2.2.2.2.2.1, y0.1.2.2.2.2.2.2.2.2.2.2.2.2.2.2.2.2.2.2.2.2.2.2.2.2.2.2.2.2.2.2.2.2.1, y0.1.2.2.2.2.2.2.2.2.2.2.2.2.2.2.2.2.2.2.2.2.2.2.2.2.2.2.2.2.2.2.2.2.2.1, y0.1.2.2.2.2.2.2.2.2.2.2.2.2.2.2.2.2.2.2.2.2.2.2.2.2.2.2.2.2.2.2.2.2.2.2.1, y0.1.2.2.2.2.2.2.2.2.2.2.2.2.2.2.2.2.2.2.2.2.2.2.2.2.2.2.2.2.2.2.2.2.2.2.2.1, y0.1.2.2.2.2.2.2.2.2.2.2.2.2.2.2.2.2.2.2.2.2.2.2.2.2.2.2.2.2.2.2.2.2.2.2.2.2.1, y0.1.2.2.2.2.2.2.2.2.2.2.2.2.2.2.2.2.2.2.2.2.2.2.2.2.2.2.2.2.2.2.2.2.2.2.2.2.2.1, y0.1.2.2.2.2.2.2.2.2.2.2.2.2.2.2.2.2.2.2.2.2.2.2.2.2.2.2.2.2.2.2.2.2.2.2.2.2.2.2.1, y0.1.2.2.2.2.2.2.2.2.2.2.2.2.2.2.2.2.2.2.2.2.2.2.2.2.2.2.2.2.2.2.2.2.2.2.2.2.2.2.2.1, y0.1.2.2.2.2.2.2.2.2.2.2.2.2.2.2.2.2.2.2.2.2.2.2.2.2.2.2.2.2.2.2.2.2.2.2.2.2.2.2.2.2.1, y0.1.2.2.2.2.2.2.2.2.2.2.2.2.2.2.2.2.2.2.2.2.2.2.2.2.2.2.2.2.2.2.2.2.2.2.2.2.2.2.2.2.2.1, y0.1.2.2.2.2.2.2.2.2.2.2.2.2.2.2.2.2.2.2.2.2.2.2.2.2.2.2.2.2.2.2.2.2.2.2.2.2.2.2.2.2.2.2.1, y0.1.2.2.2.2.2.2.2.2.2.2.2.2.2.2.2.2.2.2.2.2.2.2.2.2.2.2.2.2.2.2.2.2.2.2.2.2.2.2.2.2.2.2.2.1, y0.1.2.2.2.2.2.2.2.2.2.2.2.2.2.2.2.2.2.2.2.2.2.2.2.2.2.2.2.2.2.2.2.2.2.2.2.2.2.2.2.2.2.2.2.2.1, y0.1.2.2.2.2.2.2.2.2.2.2.2.2.2.2.2.2.2.2.2.2.2.2.2.2.2.2.2.2.2.2.2.2.2.2.2.2.2.2.2.2.2.2.2.2.2.1, y0.1.2.2.2.2.2.2.2.2.2.2.2.2.2.2.2.2.2.2.2.2.2.2.2.2.2.2.2.2.2.2.2.2.2.2.2.2.2.2.2.2.2.2.2.2.2.2.1, y0.1.2.2.2.2.2.2.2.2.2.2.2.2.2.2.2.2.2.2.2.2.2.2.2.2.2.2.2.2.2.2.2.2.2.2.2.2.2.2.2.2.2.2.2.2.2.2.2.1, y0.1.2.2.2.2.2.2.2.2.2.2.2.2.2.2.2.2.2.2.2.2.2.2.2.2.2.2.2.2.2.2.2.2.2.2.2.2.2.2.2.2.2.2.2.2.2.2.2.2.1, y0.1.2.2.2.2.2.2.2.2.2.2.2.2.2.2.2.2.2.2.2.2.2.2.2.2.2.2.2.2.2.2.2.2.2.2.2.2.2.2.2.2.2.2.2.2.2.2.2.2.2.1, y0.1.2.2.2.2.2.2.2.2.2.2.2.2.2.2.2.2.2.2.2.2.2.2.2.2.2.2.2.2.2.2.2.2.2.2.2.2.2.2.2.2.2.2.2.2.2.2.2.2.2.2.1, y0.1.2.2.2.2.2.2.2.2.2.2.2.2.2.2.2.2.2.2.2.2.2.2.2.2.2.2.2.2.2.2.2.2.2.2.2.2.2.2.2.2.2.2.2.2.2.2.2.2.2.2.2.1, y0.1.2.2.2.2.2.2.2.2.2.2.2.2.2.2.2.2.2.2.2.2.2.2.2.2.2.2.2.2.2.2.2.2.2.2.2.2.2.2.2.2.2.2.2.2.2.2.2.2.2.2.2.2.1, y0.1.2.2.2.2.2.2.2.2.2.2.2.2.2.2.2.2.2.2.2.2.2.2.2.2.2.2.2.2.2.2.2.2.2.2.2.2.2.2.2.2.2.2.2.2.2.2.2.2.2.2.2.2.2.1, y0.1.2.2.2.2.2.2.2.2.2.2.2.2.2.2.2.2.2.2.2.2.2.2.2.2.2.2.2.2.2.2.2.2.2.2.2.2.2.2.2.2.2.2.2.2.2.2.2.2.2.2.2.2.2.2.1, y0.1.2.2.2.2.2.2.2.2.2.2.2.2.2.2.2.2.2.2.2.2.2.2.2.2.2.2.2.2.2.2.2.2.2.2.2.2.2.2.2.2.2.2.2.2.2.2.2.2.2.2.2.2.2.2.2.1, y0.1.2.2.2.2.2.2.2.2.2.2.2.2.2.2.2.2.2.2.2.2.2.2.2.2.2.2.2.2.2.2.2.2.2.2.2.2.2.2.2.2.2.2.2.2.2.2.2.2.2.2.2.2.2.2.2.2.1, y0.1.2.2.2.2.2.2.2.2.2.2.2.2.2.2.2.2.2.2.2.2.2.2.2.2.2.2.2.2.2.2.2.2.2.2.2.2.2.2.2.2.2.2.2.2.2.2.2.2.2.2.2.2.2.2.2.2.2.1, y0.1.2.2.2.2.2.2.2.2.2.2.2.2.2.2.2.2.2.2.2.2.2.2.2.2.2.2.2.2.2.2.2.2.2.2.2.2.2.2.2.2.2.2.2.2.2.2.2.2.2.2.2.2.2.2.2.2.2.2.1, y0.1.2.2.2.2.2.2.2.2.2.2.2.2.2.2.2.2.2.2.2.2.2.2.2.2.2.2.2.2.2.2.2.2.2.2.2.2.2.2.2.2.2.2.2.2.2.2.2.2.2.2.2.2.2.2.2.2.2.2.2.1, y0.1.2.2.2.2.2.2.2.2.2.2.2.2.2.2.2.2.2.2.2.2.2.2.2.2.2.2.2.2.2.2.2.2.2.2.2.2.2.2.2.2.2.2.2.2.2.2.2.2.2.2.2.2.2.2.2.2.2.2.2.2.1, y0.1.2.2.2.2.2.2.2.2.2.2.2.2.2.2.2.2.2.2.2.2.2.2.2.2.2.2.2.2.2.2.2.2.2.2.2.2.2.2.2.2.2.2.2.2.2.2.2.2.2.2.2.2.2.2.2.2.2.2.2.2.2.1, y0.1.2.2.2.2.2.2.2.2.2.2.2.2.2.2.2.2.2.2.2.2.2.2.2.2.2.2.2.2.2.2.2.2.2.2.2.2.2.2.2.2.2.2.2.2.2.2.2.2.2.2.2.2.2.2.2.2.2.2.2.2.2.2.1, y0.1.2.2.2.2.2.2.2.2.2.2.2.2.2.2.2.2.2.2.2.2.2.2.2.2.2.2.2.2.2.2.2.2.2.2.2.2.2.2.2.2.2.2.2.2.2.2.2.2.2.2.2.2.2.2.2.2.2.2.2.2.2.2.2.1] : List Int) y0.2.2.2.2.2.2.2.2.2.2.2.1))) + (Ty.rd (t := (.int .i64)) y0.2.1 y0.2.2.2.2.2.2.2.2.2.2.2.1))) + (wi64 ((bitsI .xor .i64 (bitsI .xor .i64 p7.1 p8.1) p9.1) + (bitsI .xor .i64 (bitsI .xor .i64 (bitsI .and .i64 y0.2.2.2.1 y0.2.2.2.2.1) (bitsI .and .i64 y0.2.2.2.1 y0.2.2.2.2.2.1)) (bitsI .and .i64 y0.2.2.2.2.1 y0.2.2.2.2.2.1)))))) (4294967295 : Int)), (y0.2.2.2.1, (y0.2.2.2.2.1, (y0.2.2.2.2.2.1, ((bitsI .and .i64 (wi64 (y0.2.2.2.2.2.2.1 + (wi64 ((wi64 ((wi64 ((wi64 (y0.2.2.2.2.2.2.2.2.2.2.1 + (bitsI .xor .i64 (bitsI .xor .i64 p4.1 p5.1) p6.1))) + (bitsI .xor .i64 (bitsI .and .i64 y0.2.2.2.2.2.2.2.1 y0.2.2.2.2.2.2.2.2.1) (bitsI .and .i64 (bitsI .xor .i64 (4294967295 : Int) y0.2.2.2.2.2.2.2.1) y0.2.2.2.2.2.2.2.2.2.1)))) + (Ty.rd (t := .int .i64) ([y0.1.1, y0.1.2.1, y0.1.2.2.1, y0.1.2.2.2.1, y0.1.2.2.2.2.1, y0.1.2.2.2.2.2.1, y0.1.2.2.2.2.2.2.1, y0.1.2.2.2.2.2.2.2.1, y0.1.2.2.2.2.2.2.2.2.1, y0.1.2.2.2.2.2.2.2.2.2.1, y0.1.2.2.2.2.2.2.2.2.2.2.1, y0.1.2.2.2.2.2.2.2.2.2.2.2.1, y0.1.2.2.2.2.2.2.2.2.2.2.2.2.1, y0.1.2.2.2.2.2.2.2.2.2.2.2.2.2.1, y0.1.2.2.2.2.2.2.2.2.2.2.2.2.2.2.1, y0.1.2.2.2.2.2.2.2.2.2.2.2.2.2.2.2.1, y0.1.2.2.2.2.2.2.2.2.2.2.2.2.2.2.2.2.1, y0.1.2.2.2.2.2.2.2.2.2.2.2.2.2.2.2.2.2.1, y0.1.2.2.2.2.2.2.2.2.2.2.2.2.2.2.2.2.2.2.1, y0.1.2.2.2.2.2.2.2.2.2.2.2.2.2.2.2.2.2.2.2.1, y0.1.2.2.2.2.2.2.2.2.2.2.2.2.2.2.2.2.2.2.2.2.1, y0.1.2.2.2.2.2.2.2.2.2.2.2.2.2.2.2.2.2.2.2.2.2.1, y0.1.2.2.2.2.2.2.2.2.2.2.2.2.2.2.2.2.2.2.2.2.2.2.1, y0.1.2.2.2.2.2.2.2.2.2.2.2.2.2.2.2.2.2.2.2.2.2.2.2.1, y0.1.2.2.2.2.2.2.2.2.2.2.2.2.2.2.2.2.2.2.2.2.2.2.2.2.1, y0.1.2.2.2.2.2.2.2.2.2.2.2.2.2.2.2.2.2.2.2.2.2.2.2.2.2.1, y0.1.2.2.2.2.2.2.2.2.2.2.2.2.2.2.2.2.2.2.2.2.2.2.2.2.2.2.1, y0.1.2.2.2.2.2.2.2.2.2.2.2.2.2.2.2.2.2.2.2.2.2.2.2.2.2.2.2.1, y0.1.2.2.2.2.2.2.2.2.2.2.2.2.2.2.2.2.2.2.2.2.2.2.2.2.2.2.2.2.1, y0.1.2.2.2.2.2.2.2.2.2.2.2.2.2.2.2.2.2.2.2.2.2.2.2.2.2.2.2.2.2.1, y0.1.2.2.2.2.2.2.2.2.2.2.2.2.2.2.2.2.2.2.2.2.2.2.2.2.2.2.2.2.2.2.1, y0.1.2.2.2.2.2.2.2.2.2.2.2.2.2.2.2.2.2.2.2.2.2.2.2.2.2.2.2.2.2.2.2.1, y0.1.2.2.2.2.2.2.2.2.2.2.2.2.2.2.2.2.2.2.2.2.2.2.2.2.2.2.2.2.2.2.2.2.1, y0.1.2.2.2.2.2.2.2.2.2.2.2.2.2.2.2.2.2.2.2.2.2.2.2.2.2.2.2.2.2.2.2.2.2.1, y0.1.2.2.2.2.2.2.2.2.2.2.2.2.2.2.2.2.2.2.2.2.2.2.2.2.2.2.2.2.2.2.2.2.2.2.1, y0.1.2.2.2.2.2.2.2.2.2.2.2.2.2.2.2.2.2.2.2.2.2.2.2.2.2.2.2.2.2.2.2.2.2.2.2.1, y0.1.2.2.2.2.2.2.2.2.2.2.2.2.2.2.2.2.2.2.2.2.2.2.2.2.2.2.2.2.2.2.2.2.2.2.2.2.1, y0.1.2.2.2.2.2.2.2.2.2.2.2.2.2.2.2.2.2.2.2.2.2.2.2.2.2.2.2.2.2.2.2.2.2.2.2.2.2.1, y0.1.2.2.2.2.2.2.2.2.2.2.2.2.2.2.2.2.2.2.2.2.2.2.2.2.2.2.2.2.2.2.2.2.2.2.2.2.2.2.1, y0.1.2.2.2.2.2.2.2.2.2.2.2.2.2.2.2.2.2.2.2.2.2.2.2.2.2.2.2.2.2.2.2.2.2.2.2.2.2.2.2.1, y0.1.2.2.2.2.2.2.2.2.2.2.2.2.2.2.2.2.2.2.2.2.2.2.2.2.2.2.2.2.2.2.2.2.2.2.2.2.2.2.2.2.1, y0.1.2.2.2.2.2.2.2.2.2.2.2.2.2.2.2.2.2.2.2.2.2.2.2.2.2.2.2.2.2.2.2.2.2.2.2.2.2.2.2.2.2.1, y0.1.2.2.2.2.2.2.2.2.2.2.2.2.2.2.2.2.2.2.2.2.2.2.2.2.2.2.2.2.2.2.2.2.2.2.2.2.2.2.2.2.2.2.1, y0.1.2.2.2.2.2.2.2.2.2.2.2.2.2.2.2.2.2.2.2.2.2.2.2.2.2.2.2.2.2.2.2.2.2.2.2.2.2.2.2.2.2.2.2.1, y0.1.2.2.2.2.2.2.2.2.2.2.2.2.2.2.2.2.2.2.2.2.2.2.2.2.2.2.2.2.2.2.2.2.2.2.2.2.2.2.2.2.2.2.2.2.1, y0.1.2.2.2.2.2.2.2.2.2.2.2.2.2.2.2.2.2.2.2.2.2.2.2.2.2.2.2.2.2.2.2.2.2.2.2.2.2.2.2.2.2.2.2.2.2.1, y0.1.2.2.2.2.2.2.2.2.2.2.2.2.2.2.2.2.2.2.2.2.2.2.2.2.2.2.2.2.2.2.2.2.2.2.2.2.2.2.2.2.2.2.2.2.2.2.1, y0.1.2.2.2.2.2.2.2.2.2.2.2.2.2.2.2.2.2.2.2.2.2.2.2.2.2.2.2.2.2.2.2.2.2.2.2.2.2.2.2.2.2.2.2.2.2.2.2.1, y0.1.2.2.2.2.2.2.2.2.2.2.2.2.2.2.2.2.2.2.2.2.2.2.2.2.2.2.2.2.2.2.2.2.2.2.2.2.2.2.2.2.2.2.2.2.2.2.2.2.1, y0.1.2.2.2.2.2.2.2.2.2.2.2.2.2.2.2.2.2.2.2.2.2.2.2.2.2.2.2.2.2.2.2.2.2.2.2.2.2.2.2.2.2.2.2.2.2.2.2.2.2.1, y0.1.2.2.2.2.2.2.2.2.2.2.2.2.2.2.2.2.2.2.2.2.2.2.2.2.2.2.2.2.2.2.2.2.2.2.2.2.2.2.2.2.2.2.2.2.2.2.2.2.2.2.1, y0.1.2.2.2.2.2.2.2.2.2.2.2.2.2.2.2.2.2.2.2.2.2.2.2.2.2.2.2.2.2.2.2.2.2.2.2.2.2.2.2.2.2.2.2.2.2.2.2.2.2.2.2.1, y0.1.2.2.2.2.2.2.2.2.2.2.2.2.2.2.2.2.2.2.2.2.2.2.2.2.2.2.2.2.2.2.2.2.2.2.2.2.2.2.2.2.2.2.2.2.2.2.2.2.2.2.2.2.1, y0.1.2.2.2.2.2.2.2.2.2.2.2.2.2.2.2.2.2.2.2.2.2.2.2.2.2.2.2.2.2.2.2.2.2.2.2.2.2.2.2.2.2.2.2.2.2.2.2.2.2.2.2.2.2.1, y0.1.2.2.2.2.2.2.2.2.2.2.2.2.2.2.2.2.2.2.2.2.2.2.2.2.2.2.2.2.2.2.2.2.2.2.2.2.2.2.2.2.2.2.2.2.2.2.2.2.2.2.2.2.2.2.1, y0.1.2.2.2.2.2.2.2.2.2.2.2.2.2.2.2.2.2.2.2.2.2.2.2.2.2.2.2.2.2.2.2.2.2.2.2.2.2.2.2.2.2.2.2.2.2.2.2.2.2.2.2.2.2.2.2.1, y0.1.2.2.2.2.2.2.2.2.2.2.2.2.2.2.2.2.2.2.2.2.2.2.2.2.2.2.2.2.2.2.2.2.2.2.2.2.2.2.2.2.2.2.2.2.2.2.2.2.2.2.2.2.2.2.2.2.1, y0.1.2.2.2.2.2.2.2.2.2.2.2.2.2.2.2.2.2.2.2.2.2.2.2.2.2.2.2.2.2.2.2.2.2.2.2.2.2.2.2.2.2.2.2.2.2.2.2.2.2.2.2.2.2.2.2.2.2.1, y0.1.2.2.2.2.2.2.2.2.2.2.2.2.2.2.2.2.2.2.2.2.2.2.2.2.2.2.2.2.2.2.2.2.2.2.2.2.2.2.2.2.2.2.2.2.2.2.2.2.2.2.2.2.2.2.2.2.2.2.1, y0.1.2.2.2.2.2.2.2.2.2.2.2.2.2.2.2.2.2.2.2.2.2.2.2.2.2.2.2.2.2.2.2.2.2.2.2.2.2.2.2.2.2.2.2.2.2.2.2.2.2.2.2.2.2.2.2.2.2.2.2.1, y0.1.2.2.2.2.2.2.2.2.2.2.2.2.2.2.2.2.2.2.2.2.2.2.2.2.2.2.2.2.2.2.2.2.2.2.2.2.2.2.2.2.2.2.2.2.2.2.2.2.2.2.2.2.2.2.2.2.2.2.2.2.1, y0.1.2.2.2.2.2.2.2.2.2.2.2.2.2.2.2.2.2.2.2.2.2.2.2.2.2.2.2.2.2.2.2.2.2.2.2.2.2.2.2.2.2.2.2.2.2.2.2.2.2.2.2.2.2.2.2.2.2.2.2.2.2.1, y0.1.2.2.2.2.2.2.2.2.2.2.2.2.2.2.2.2.2.2.2.2.2.2.2.2.2.2.2.2.2.2.2.2.2.2.2.2.2.2.2.2.2.2.2.2.2.2.2.2.2.2.2.2.2.2.2.2.2.2.2.2.2.2.1, y0.1.2.2.2.2.2.2.2.2.2.2.2.2.2.2.2.2.2.2.2.2.2.2.2.2.2.2.2.2.2.2.2.2.2.2.2.2.2.2.2.2.2.2.2.2.2.2.2.2.2.2.2.2.2.2.2.2.2.2.2.2.2.2.2.1] : List Int) y0.2.2.2.2.2.2.2.2.2.2.2.1))) + (Ty.rd (t := (.int .i64)) y0.2.1 y0.2.2.2.2.2.2.2.2.2.2.2.1))))) (4294967295 : Int)), (y0.2.2.2.2.2.2.2.1, (y0.2.2.2.2.2.2.2.2.1, (y0.2.2.2.2.2.2.2.2.2.1, ((wi64 (y0.2.2.2.2.2.2.2.2.2.2.2.1 + (1 : Int))), ()))))))))))))))))
else none)
else none)
else none))))
else
((fun (z1 : List (Int) × Int × Int × Int × Int × Int × Int × Int × Int × Unit) =>
(whileK (fun (rec2 : (List (Int) × List (Int) × Int × Int × Unit) → Option _) (y2 : List (Int) × List (Int) × Int × Int × Unit) =>
(if (decide (y2.2.2.2.1 < y2.2.2.1)) = true then
(if 0 ≤ y2.2.2.2.1 ∧ y2.2.2.2.1 < (List.length y2.2.1 : Int) then
(if 0 ≤ y2.2.2.2.1 ∧ y2.2.2.2.1 < (List.length y2.1 : Int) then
(if 0 ≤ y2.2.2.2.1 ∧ y2.2.2.2.1 < (List.length y2.1 : Int) then
(rec2 ((List.set y2.1 (Int.toNat y2.2.2.2.1) (bitsI .and .i64 (wi64 ((Ty.rd (t := (.int .i64)) y2.1 y2.2.2.2.1) + (Ty.rd (t := (.int .i64)) y2.2.1 y2.2.2.2.1))) (4294967295 : Int))), (y2.2.1, (y2.2.2.1, ((wi64 (y2.2.2.2.1 + (1 : Int))), ())))))
else none)
else none)
else none)
else
((fun (z2 : List (Int) × Unit) =>
((i_wordsText k (z2.1, ())).bind fun p10 =>
some (p10.1, ((), ((), ()))))) (y2.1, ())))) k (z1.1, (([z1.2.1, z1.2.2.1, z1.2.2.2.1, z1.2.2.2.2.1, z1.2.2.2.2.2.1, z1.2.2.2.2.2.2.1, z1.2.2.2.2.2.2.2.1, z1.2.2.2.2.2.2.2.2.1] : List (Int)), ((List.length ([z1.2.1, z1.2.2.1, z1.2.2.2.1, z1.2.2.2.2.1, z1.2.2.2.2.2.1, z1.2.2.2.2.2.2.1, z1.2.2.2.2.2.2.2.1, z1.2.2.2.2.2.2.2.2.1] : List (Int)) : Int), ((0 : Int), ())))))) (y0.2.2.1, (y0.2.2.2.1, (y0.2.2.2.2.1, (y0.2.2.2.2.2.1, (y0.2.2.2.2.2.2.1, (y0.2.2.2.2.2.2.2.1, (y0.2.2.2.2.2.2.2.2.1, (y0.2.2.2.2.2.2.2.2.2.1, (y0.2.2.2.2.2.2.2.2.2.2.1, ())))))))))))) k (p1.1, (p2.1, (p3.1, ((Ty.rd (t := (.int .i64)) p3.1 (0 : Int)), ((Ty.rd (t := (.int .i64)) p3.1 (1 : Int)), ((Ty.rd (t := (.int .i64)) p3.1 (2 : Int)), ((Ty.rd (t := (.int .i64)) p3.1 (3 : Int)), ((Ty.rd (t := (.int .i64)) p3.1 (4 : Int)), ((Ty.rd (t := (.int .i64)) p3.1 (5 : Int)), ((Ty.rd (t := (.int .i64)) p3.1 (6 : Int)), ((Ty.rd (t := (.int .i64)) p3.1 (7 : Int)), ((0 : Int), ())))))))))))))
else none)
else none)
else none)
else none)
else none)
else none)
else none)
else none))))
theorem t_i_round (k : Nat) (x) : evF TTab k [⟨285, 0, (.cons (.il true (.int .i64)) .nil), .str, i_wordsText k⟩, ⟨315, 0, .nil, (.agg (.cons (.int .i64) (.cons (.int .i64) (.cons (.int .i64) (.cons (.int .i64) (.cons (.int .i64) (.cons (.int .i64) (.cons (.int .i64) (.cons (.int .i64) (.cons (.int .i64) (.cons (.int .i64) (.cons (.int .i64) (.cons (.int .i64) (.cons (.int .i64) (.cons (.int .i64) (.cons (.int .i64) (.cons (.int .i64) (.cons (.int .i64) (.cons (.int .i64) (.cons (.int .i64) (.cons (.int .i64) (.cons (.int .i64) (.cons (.int .i64) (.cons (.int .i64) (.cons (.int .i64) (.cons (.int .i64) (.cons (.int .i64) (.cons (.int .i64) (.cons (.int .i64) (.cons (.int .i64) (.cons (.int .i64) (.cons (.int .i64) (.cons (.int .i64) (.cons (.int .i64) (.cons (.int .i64) (.cons (.int .i64) (.cons (.int .i64) (.cons (.int .i64) (.cons (.int .i64) (.cons (.int .i64) (.cons (.int .i64) (.cons (.int .i64) (.cons (.int .i64) (.cons (.int .i64) (.cons (.int .i64) (.cons (.int .i64) (.cons (.int .i64) (.cons (.int .i64) (.cons (.int .i64) (.cons (.int .i64) (.cons (.int .i64) (.cons (.int .i64) (.cons (.int .i64) (.cons (.int .i64) (.cons (.int .i64) (.cons (.int .i64) (.cons (.int .i64) (.cons (.int .i64) (.cons (.int .i64) (.cons (.int .i64) (.cons (.int .i64) (.cons (.int .i64) (.cons (.int .i64) (.cons (.int .i64) (.cons (.int .i64) .nil))))))))))))))))))))))))))))))))))))))))))))))))))))))))))))))))), i_constants k⟩, ⟨316, 0, (.cons .str .nil), (.own false 3 (.int .i64)), i_expanded k⟩, ⟨317, 0, (.cons .str .nil), (.own false 3 (.int .i64)), i_wordsOf k⟩, ⟨318, 0, (.cons (.int .i64) (.cons (.int .i64) .nil)), (.int .i64), i_turnRight k⟩] [(0, ⟨[5, 6, 7, 8, 9, 10, 11, 12, 13, 14, 15, 52], (.cons (.ptr 0 (.cons (.int .i64) (.cons (.int .i64) (.cons (.int .i64) (.cons (.int .i64) (.cons (.int .i64) (.cons (.int .i64) (.cons (.int .i64) (.cons (.int .i64) (.cons (.int .i64) (.cons (.int .i64) (.cons (.int .i64) (.cons (.int .i64) (.cons (.int .i64) (.cons (.int .i64) (.cons (.int .i64) (.cons (.int .i64) (.cons (.int .i64) (.cons (.int .i64) (.cons (.int .i64) (.cons (.int .i64) (.cons (.int .i64) (.cons (.int .i64) (.cons (.int .i64) (.cons (.int .i64) (.cons (.int .i64) (.cons (.int .i64) (.cons (.int .i64) (.cons (.int .i64) (.cons (.int .i64) (.cons (.int .i64) (.cons (.int .i64) (.cons (.int .i64) (.cons (.int .i64) (.cons (.int .i64) (.cons (.int .i64) (.cons (.int .i64) (.cons (.int .i64) (.cons (.int .i64) (.cons (.int .i64) (.cons (.int .i64) (.cons (.int .i64) (.cons (.int .i64) (.cons (.int .i64) (.cons (.int .i64) (.cons (.int .i64) (.cons (.int .i64) (.cons (.int .i64) (.cons (.int .i64) (.cons (.int .i64) (.cons (.int .i64) (.cons (.int .i64) (.cons (.int .i64) (.cons (.int .i64) (.cons (.int .i64) (.cons (.int .i64) (.cons (.int .i64) (.cons (.int .i64) (.cons (.int .i64) (.cons (.int .i64) (.cons (.int .i64) (.cons (.int .i64) (.cons (.int .i64) (.cons (.int .i64) (.cons (.int .i64) .nil))))))))))))))))))))))))))))))))))))))))))))))))))))))))))))))))) (.cons (.own false 3 (.int .i64)) (.cons (.own false 3 (.int .i64)) (.cons (.int .i64) (.cons (.int .i64) (.cons (.int .i64) (.cons (.int .i64) (.cons (.int .i64) (.cons (.int .i64) (.cons (.int .i64) (.cons (.int .i64) (.cons (.int .i64) .nil))))))))))))⟩, ⟨[7, 8, 9, 10, 11, 12, 13, 14, 15], (.cons (.own false 3 (.int .i64)) (.cons (.int .i64) (.cons (.int .i64) (.cons (.int .i64) (.cons (.int .i64) (.cons (.int .i64) (.cons (.int .i64) (.cons (.int .i64) (.cons (.int .i64) .nil)))))))))⟩), (2, ⟨[7, 128, 129, 130], (.cons (.own false 3 (.int .i64)) (.cons (.own false 3 (.int .i64)) (.cons (.int .i64) (.cons (.int .i64) .nil))))⟩, ⟨[7], (.cons (.own false 3 (.int .i64)) .nil)⟩)] Tryz.f284 (.cons .str (.cons .str .nil)) .str x = i_round k x := by kernel_rfl
theorem e_i_round (k : Nat) : EntryOk Tryz.prog ⟨284, 0, (.cons .str (.cons .str .nil)), .str, i_round k⟩ := entry_ok tok (by intro e he; simp only [List.mem_cons, List.not_mem_nil, or_false] at he; rcases he with rfl | rfl | rfl | rfl | rfl <;> first | exact e_i_wordsText k | exact e_i_constants k | exact e_i_expanded k | exact e_i_wordsOf k | exact e_i_turnRight k) (by kernel_rfl) (fn := Tryz.f284) (k := k) (es := [⟨285, 0, (.cons (.il true (.int .i64)) .nil), .str, i_wordsText k⟩, ⟨315, 0, .nil, (.agg (.cons (.int .i64) (.cons (.int .i64) (.cons (.int .i64) (.cons (.int .i64) (.cons (.int .i64) (.cons (.int .i64) (.cons (.int .i64) (.cons (.int .i64) (.cons (.int .i64) (.cons (.int .i64) (.cons (.int .i64) (.cons (.int .i64) (.cons (.int .i64) (.cons (.int .i64) (.cons (.int .i64) (.cons (.int .i64) (.cons (.int .i64) (.cons (.int .i64) (.cons (.int .i64) (.cons (.int .i64) (.cons (.int .i64) (.cons (.int .i64) (.cons (.int .i64) (.cons (.int .i64) (.cons (.int .i64) (.cons (.int .i64) (.cons (.int .i64) (.cons (.int .i64) (.cons (.int .i64) (.cons (.int .i64) (.cons (.int .i64) (.cons (.int .i64) (.cons (.int .i64) (.cons (.int .i64) (.cons (.int .i64) (.cons (.int .i64) (.cons (.int .i64) (.cons (.int .i64) (.cons (.int .i64) (.cons (.int .i64) (.cons (.int .i64) (.cons (.int .i64) (.cons (.int .i64) (.cons (.int .i64) (.cons (.int .i64) (.cons (.int .i64) (.cons (.int .i64) (.cons (.int .i64) (.cons (.int .i64) (.cons (.int .i64) (.cons (.int .i64) (.cons (.int .i64) (.cons (.int .i64) (.cons (.int .i64) (.cons (.int .i64) (.cons (.int .i64) (.cons (.int .i64) (.cons (.int .i64) (.cons (.int .i64) (.cons (.int .i64) (.cons (.int .i64) (.cons (.int .i64) (.cons (.int .i64) (.cons (.int .i64) .nil))))))))))))))))))))))))))))))))))))))))))))))))))))))))))))))))), i_constants k⟩, ⟨316, 0, (.cons .str .nil), (.own false 3 (.int .i64)), i_expanded k⟩, ⟨317, 0, (.cons .str .nil), (.own false 3 (.int .i64)), i_wordsOf k⟩, ⟨318, 0, (.cons (.int .i64) (.cons (.int .i64) .nil)), (.int .i64), i_turnRight k⟩]) (loops := [(0, ⟨[5, 6, 7, 8, 9, 10, 11, 12, 13, 14, 15, 52], (.cons (.ptr 0 (.cons (.int .i64) (.cons (.int .i64) (.cons (.int .i64) (.cons (.int .i64) (.cons (.int .i64) (.cons (.int .i64) (.cons (.int .i64) (.cons (.int .i64) (.cons (.int .i64) (.cons (.int .i64) (.cons (.int .i64) (.cons (.int .i64) (.cons (.int .i64) (.cons (.int .i64) (.cons (.int .i64) (.cons (.int .i64) (.cons (.int .i64) (.cons (.int .i64) (.cons (.int .i64) (.cons (.int .i64) (.cons (.int .i64) (.cons (.int .i64) (.cons (.int .i64) (.cons (.int .i64) (.cons (.int .i64) (.cons (.int .i64) (.cons (.int .i64) (.cons (.int .i64) (.cons (.int .i64) (.cons (.int .i64) (.cons (.int .i64) (.cons (.int .i64) (.cons (.int .i64) (.cons (.int .i64) (.cons (.int .i64) (.cons (.int .i64) (.cons (.int .i64) (.cons (.int .i64) (.cons (.int .i64) (.cons (.int .i64) (.cons (.int .i64) (.cons (.int .i64) (.cons (.int .i64) (.cons (.int .i64) (.cons (.int .i64) (.cons (.int .i64) (.cons (.int .i64) (.cons (.int .i64) (.cons (.int .i64) (.cons (.int .i64) (.cons (.int .i64) (.cons (.int .i64) (.cons (.int .i64) (.cons (.int .i64) (.cons (.int .i64) (.cons (.int .i64) (.cons (.int .i64) (.cons (.int .i64) (.cons (.int .i64) (.cons (.int .i64) (.cons (.int .i64) (.cons (.int .i64) (.cons (.int .i64) (.cons (.int .i64) .nil))))))))))))))))))))))))))))))))))))))))))))))))))))))))))))))))) (.cons (.own false 3 (.int .i64)) (.cons (.own false 3 (.int .i64)) (.cons (.int .i64) (.cons (.int .i64) (.cons (.int .i64) (.cons (.int .i64) (.cons (.int .i64) (.cons (.int .i64) (.cons (.int .i64) (.cons (.int .i64) (.cons (.int .i64) .nil))))))))))))⟩, ⟨[7, 8, 9, 10, 11, 12, 13, 14, 15], (.cons (.own false 3 (.int .i64)) (.cons (.int .i64) (.cons (.int .i64) (.cons (.int .i64) (.cons (.int .i64) (.cons (.int .i64) (.cons (.int .i64) (.cons (.int .i64) (.cons (.int .i64) .nil)))))))))⟩), (2, ⟨[7, 128, 129, 130], (.cons (.own false 3 (.int .i64)) (.cons (.own false 3 (.int .i64)) (.cons (.int .i64) (.cons (.int .i64) .nil))))⟩, ⟨[7], (.cons (.own false 3 (.int .i64)) .nil)⟩)]) (by kernel_rfl) (by kernel_rfl) (fun x r h => (t_i_round k x).trans h)
def i_rounds (k : Nat) (x : ByteArray × ByteArray × Unit) : Option ((ByteArray × ByteArray × Unit) × Unit × Unit × Unit) :=
(whileK (fun (rec0 : (ByteArray × ByteArray × Unit) → Option _) (y0 : ByteArray × ByteArray × Unit) =>
(if (decide ((64 : Int) ≤ (ByteArray.size y0.2.1 : Int))) = true then
(if 0 ≤ (64 : Int) ∧ (64 : Int) ≤ (ByteArray.size y0.2.1 : Int) then
((i_round k (y0.1, ((ByteArray.extract y0.2.1 (Int.toNat (0 : Int)) (Int.toNat (64 : Int))), ()))).bind fun p1 =>
(if 0 ≤ (64 : Int) ∧ (64 : Int) ≤ (ByteArray.size y0.2.1 : Int) then
(rec0 (p1.1, ((ByteArray.extract y0.2.1 (Int.toNat (64 : Int)) (Int.toNat (ByteArray.size y0.2.1 : Int))), ())))
else none))
else none)
else
((fun (z1 : ByteArray × ByteArray × Unit) =>
some ((z1.1, (z1.2.1, ())), ((), ((), ())))) (y0.1, (y0.2.1, ()))))) k (x.1, (x.2.1, ())))
theorem t_i_rounds (k : Nat) (x) : evF TTab k [⟨284, 0, (.cons .str (.cons .str .nil)), .str, i_round k⟩] [(0, ⟨[0, 1], (.cons .str (.cons .str .nil))⟩, ⟨[0, 1], (.cons .str (.cons .str .nil))⟩)] Tryz.f227 (.cons .str (.cons .str .nil)) (.tup (.cons .str (.cons .str .nil))) x = i_rounds k x := by kernel_rfl
theorem e_i_rounds (k : Nat) : EntryOk Tryz.prog ⟨227, 0, (.cons .str (.cons .str .nil)), (.tup (.cons .str (.cons .str .nil))), i_rounds k⟩ := entry_ok tok (by intro e he; simp only [List.mem_cons, List.not_mem_nil, or_false] at he; rcases he with rfl <;> first | exact e_i_round k) (by kernel_rfl) (fn := Tryz.f227) (k := k) (es := [⟨284, 0, (.cons .str (.cons .str .nil)), .str, i_round k⟩]) (loops := [(0, ⟨[0, 1], (.cons .str (.cons .str .nil))⟩, ⟨[0, 1], (.cons .str (.cons .str .nil))⟩)]) (by kernel_rfl) (by kernel_rfl) (fun x r h => (t_i_rounds k x).trans h)
def i_firstState (k : Nat) (x : Unit) : Option (ByteArray × Unit) :=
((i_wordsText k (([(1779033703 : Int), (3144134277 : Int), (1013904242 : Int), (2773480762 : Int), (1359893119 : Int), (2600822924 : Int), (528734635 : Int), (1541459225 : Int)] : List (Int)), ())).bind fun p1 =>
some (p1.1, ()))
theorem t_i_firstState (k : Nat) (x) : evF TTab k [⟨285, 0, (.cons (.il true (.int .i64)) .nil), .str, i_wordsText k⟩] [] Tryz.f228 .nil .str x = i_firstState k x := by kernel_rfl
theorem e_i_firstState (k : Nat) : EntryOk Tryz.prog ⟨228, 0, .nil, .str, i_firstState k⟩ := entry_ok tok (by intro e he; simp only [List.mem_cons, List.not_mem_nil, or_false] at he; rcases he with rfl <;> first | exact e_i_wordsText k) (by kernel_rfl) (fn := Tryz.f228) (k := k) (es := [⟨285, 0, (.cons (.il true (.int .i64)) .nil), .str, i_wordsText k⟩]) (loops := []) (by kernel_rfl) (by kernel_rfl) (fun x r h => (t_i_firstState k x).trans h)
def x_strings_Repeat (k : Nat) (x : ByteArray × Int × Unit) : Option (ByteArray × Unit × Unit × Unit) := repF x
theorem e_x_strings_Repeat (k : Nat) : EntryOk Tryz.prog ⟨286, 0, (.cons .str (.cons (.int .i64) .nil)), .str, x_strings_Repeat k⟩ := entry_repeat Tryz.func286 (by kernel_rfl) Tryz.strings_Repeat
def i_padding (k : Nat) (x : Int × Unit) : Option (ByteArray × Unit × Unit) :=
((x_strings_Repeat k ((⟨#[0]⟩ : ByteArray), ((Int.tmod (wi64 ((119 : Int) - (Int.tmod x.1 (64 : Int)))) (64 : Int)), ()))).bind fun p1 =>
(if ByteArray.size (⟨#[128]⟩ : ByteArray) + ByteArray.size p1.1 ≤ maxStr then
((i_NumberText k ((Int.fdiv (wi64 ((8 : Int) * x.1)) (2 ^ (min (Int.toNat (32 : Int)) (IntKind.bits .i64)))), ())).bind fun p2 =>
(if ByteArray.size ((⟨#[128]⟩ : ByteArray) ++ p1.1) + ByteArray.size p2.1 ≤ maxStr then
((i_NumberText k ((bitsI .and .i64 (wi64 ((8 : Int) * x.1)) (4294967295 : Int)), ())).bind fun p3 =>
(if ByteArray.size (((⟨#[128]⟩ : ByteArray) ++ p1.1) ++ p2.1) + ByteArray.size p3.1 ≤ maxStr then
some (((((⟨#[128]⟩ : ByteArray) ++ p1.1) ++ p2.1) ++ p3.1), ((), ()))
else none))
else none))
else none))
theorem t_i_padding (k : Nat) (x) : evF TTab k [⟨181, 0, (.cons (.int .i64) .nil), .str, i_NumberText k⟩, ⟨286, 0, (.cons .str (.cons (.int .i64) .nil)), .str, x_strings_Repeat k⟩] [] Tryz.f229 (.cons (.int .i64) .nil) .str x = i_padding k x := by kernel_rfl
theorem e_i_padding (k : Nat) : EntryOk Tryz.prog ⟨229, 0, (.cons (.int .i64) .nil), .str, i_padding k⟩ := entry_ok tok (by intro e he; simp only [List.mem_cons, List.not_mem_nil, or_false] at he; rcases he with rfl | rfl <;> first | exact e_i_NumberText k | exact e_x_strings_Repeat k) (by kernel_rfl) (fn := Tryz.f229) (k := k) (es := [⟨181, 0, (.cons (.int .i64) .nil), .str, i_NumberText k⟩, ⟨286, 0, (.cons .str (.cons (.int .i64) .nil)), .str, x_strings_Repeat k⟩]) (loops := []) (by kernel_rfl) (by kernel_rfl) (fun x r h => (t_i_padding k x).trans h)
def i_DigestOf (k : Nat) (x : ByteArray × Unit) : Option (ByteArray × Unit × Unit) :=
((i_firstState k ()).bind fun p1 =>
((i_padding k ((ByteArray.size x.1 : Int), ())).bind fun p2 =>
(if ByteArray.size x.1 + ByteArray.size p2.1 ≤ maxStr then
((i_rounds k (p1.1, ((x.1 ++ p2.1), ()))).bind fun p3 =>
some (p3.1.1, ((), ())))
else none)))
theorem t_i_DigestOf (k : Nat) (x) : evF TTab k [⟨227, 0, (.cons .str (.cons .str .nil)), (.tup (.cons .str (.cons .str .nil))), i_rounds k⟩, ⟨228, 0, .nil, .str, i_firstState k⟩, ⟨229, 0, (.cons (.int .i64) .nil), .str, i_padding k⟩] [] Tryz.f141 (.cons .str .nil) .str x = i_DigestOf k x := by kernel_rfl
theorem e_i_DigestOf (k : Nat) : EntryOk Tryz.prog ⟨141, 0, (.cons .str .nil), .str, i_DigestOf k⟩ := entry_ok tok (by intro e he; simp only [List.mem_cons, List.not_mem_nil, or_false] at he; rcases he with rfl | rfl | rfl <;> first | exact e_i_rounds k | exact e_i_firstState k | exact e_i_padding k) (by kernel_rfl) (fn := Tryz.f141) (k := k) (es := [⟨227, 0, (.cons .str (.cons .str .nil)), (.tup (.cons .str (.cons .str .nil))), i_rounds k⟩, ⟨228, 0, .nil, .str, i_firstState k⟩, ⟨229, 0, (.cons (.int .i64) .nil), .str, i_padding k⟩]) (loops := []) (by kernel_rfl) (by kernel_rfl) (fun x r h => (t_i_DigestOf k x).trans h)
def i_SeenOk (k : Nat) (x : List (Int) × Unit) : Option (Bool × Unit × Unit) :=
(whileK (fun (rec0 : (List (Int) × List (Int) × Int × Int × Unit) → Option _) (y0 : List (Int) × List (Int) × Int × Int × Unit) =>
(if (decide (y0.2.2.2.1 < y0.2.2.1)) = true then
(if 0 ≤ y0.2.2.2.1 ∧ y0.2.2.2.1 < (List.length y0.2.1 : Int) then
((i_within k ((Ty.rd (t := (.int .i64)) y0.2.1 y0.2.2.2.1), ((1 : Int), ((1000000000 : Int), ())))).bind fun p1 =>
(if (!p1.1) = false then
(if (decide ((0 : Int) < y0.2.2.2.1)) = true then
(if 0 ≤ (wi64 (y0.2.2.2.1 - (1 : Int))) ∧ (wi64 (y0.2.2.2.1 - (1 : Int))) < (List.length y0.1 : Int) then
(if (decide ((Ty.rd (t := (.int .i64)) y0.1 (wi64 (y0.2.2.2.1 - (1 : Int)))) ≤ (Ty.rd (t := (.int .i64)) y0.2.1 y0.2.2.2.1))) = false then
(if 0 ≤ (0 : Int) ∧ (0 : Int) < (List.length y0.1 : Int) then
(if (decide ((Ty.rd (t := (.int .i64)) y0.2.1 y0.2.2.2.1) ≤ (wi64 ((Ty.rd (t := (.int .i64)) y0.1 (0 : Int)) - (6 : Int))))) = true then
some (false, ((), ()))
else
(rec0 (y0.1, (y0.2.1, (y0.2.2.1, ((wi64 (y0.2.2.2.1 + (1 : Int))), ()))))))
else none)
else
some (false, ((), ())))
else none)
else
(if 0 ≤ (0 : Int) ∧ (0 : Int) < (List.length y0.1 : Int) then
(if (decide ((Ty.rd (t := (.int .i64)) y0.2.1 y0.2.2.2.1) ≤ (wi64 ((Ty.rd (t := (.int .i64)) y0.1 (0 : Int)) - (6 : Int))))) = true then
some (false, ((), ()))
else
(rec0 (y0.1, (y0.2.1, (y0.2.2.1, ((wi64 (y0.2.2.2.1 + (1 : Int))), ()))))))
else none))
else
some (false, ((), ()))))
else none)
else
((fun (z1 : List (Int) × Unit) =>
some ((decide ((List.length z1.1 : Int) ≤ (6 : Int))), ((), ()))) (y0.1, ())))) k (x.1, (x.1, ((List.length x.1 : Int), ((0 : Int), ())))))
theorem t_i_SeenOk (k : Nat) (x) : evF TTab k [⟨55, 0, (.cons (.int .i64) (.cons (.int .i64) (.cons (.int .i64) .nil))), .bool, i_within k⟩] [(0, ⟨[0, 5, 6, 7], (.cons (.il true (.int .i64)) (.cons (.il true (.int .i64)) (.cons (.int .i64) (.cons (.int .i64) .nil))))⟩, ⟨[0], (.cons (.il true (.int .i64)) .nil)⟩)] Tryz.f295 (.cons (.il true (.int .i64)) .nil) .bool x = i_SeenOk k x := by kernel_rfl
theorem e_i_SeenOk (k : Nat) : EntryOk Tryz.prog ⟨295, 0, (.cons (.il true (.int .i64)) .nil), .bool, i_SeenOk k⟩ := entry_ok tok (by intro e he; simp only [List.mem_cons, List.not_mem_nil, or_false] at he; rcases he with rfl <;> first | exact e_i_within k) (by kernel_rfl) (fn := Tryz.f295) (k := k) (es := [⟨55, 0, (.cons (.int .i64) (.cons (.int .i64) (.cons (.int .i64) .nil))), .bool, i_within k⟩]) (loops := [(0, ⟨[0, 5, 6, 7], (.cons (.il true (.int .i64)) (.cons (.il true (.int .i64)) (.cons (.int .i64) (.cons (.int .i64) .nil))))⟩, ⟨[0], (.cons (.il true (.int .i64)) .nil)⟩)]) (by kernel_rfl) (by kernel_rfl) (fun x r h => (t_i_SeenOk k x).trans h)
def i_SlotOk (k : Nat) (x : (Int × ByteArray × ByteArray × Int × List (Int) × Int × Unit) × Unit) : Option (Bool × Unit × Unit) :=
(if (decide (x.1.1 = (0 : Int))) = true then
(if (decide (x.1.2.1 = (⟨#[]⟩ : ByteArray))) = true then
(if (decide (x.1.2.2.1 = (⟨#[]⟩ : ByteArray))) = true then
(if (decide (x.1.2.2.2.1 = (0 : Int))) = true then
(if (decide ((List.length x.1.2.2.2.2.1 : Int) = (0 : Int))) = true then
some ((decide (x.1.2.2.2.2.2.1 = (0 : Int))), ((), ()))
else
some (false, ((), ())))
else
some (false, ((), ())))
else
some (false, ((), ())))
else
some (false, ((), ())))
else
(if (decide ((ByteArray.size x.1.2.1 : Int) = (32 : Int))) = true then
((i_within k (x.1.1, ((1 : Int), ((1000000000 : Int), ())))).bind fun p1 =>
(if p1.1 = true then
(if (decide ((ByteArray.size x.1.2.2.1 : Int) = (32 : Int))) = true then
((i_within k (x.1.2.2.2.1, ((0 : Int), ((12 : Int), ())))).bind fun p2 =>
(if p2.1 = true then
((i_SeenOk k (x.1.2.2.2.2.1, ())).bind fun p3 =>
(if p3.1 = true then
((i_within k (x.1.2.2.2.2.2.1, ((0 : Int), ((1000000000 : Int), ())))).bind fun p4 =>
some (p4.1, ((), ())))
else
some (false, ((), ()))))
else
some (false, ((), ()))))
else
some (false, ((), ())))
else
some (false, ((), ()))))
else
((i_within k (x.1.1, ((1 : Int), ((1000000000 : Int), ())))).bind fun p5 =>
(if p5.1 = true then
some (false, ((), ()))
else
some (false, ((), ()))))))
theorem t_i_SlotOk (k : Nat) (x) : evF TTab k [⟨55, 0, (.cons (.int .i64) (.cons (.int .i64) (.cons (.int .i64) .nil))), .bool, i_within k⟩, ⟨295, 0, (.cons (.il true (.int .i64)) .nil), .bool, i_SeenOk k⟩] [] Tryz.f256 (.cons (.agg (.cons (.int .i64) (.cons .str (.cons .str (.cons (.int .i64) (.cons (.il true (.int .i64)) (.cons (.int .i64) .nil))))))) .nil) .bool x = i_SlotOk k x := by kernel_rfl
theorem e_i_SlotOk (k : Nat) : EntryOk Tryz.prog ⟨256, 0, (.cons (.agg (.cons (.int .i64) (.cons .str (.cons .str (.cons (.int .i64) (.cons (.il true (.int .i64)) (.cons (.int .i64) .nil))))))) .nil), .bool, i_SlotOk k⟩ := entry_ok tok (by intro e he; simp only [List.mem_cons, List.not_mem_nil, or_false] at he; rcases he with rfl | rfl <;> first | exact e_i_within k | exact e_i_SeenOk k) (by kernel_rfl) (fn := Tryz.f256) (k := k) (es := [⟨55, 0, (.cons (.int .i64) (.cons (.int .i64) (.cons (.int .i64) .nil))), .bool, i_within k⟩, ⟨295, 0, (.cons (.il true (.int .i64)) .nil), .bool, i_SeenOk k⟩]) (loops := []) (by kernel_rfl) (by kernel_rfl) (fun x r h => (t_i_SlotOk k x).trans h)
def i_SlotsOk (k : Nat) (x : (Int × ByteArray × ByteArray × Int × List (Int) × Int × Int × ByteArray × ByteArray × Int × List (Int) × Int × Unit) × Unit) : Option (Bool × Unit × Unit) :=
((i_SlotOk k ((x.1.1, (x.1.2.1, (x.1.2.2.1, (x.1.2.2.2.1, (x.1.2.2.2.2.1, (x.1.2.2.2.2.2.1, ())))))), ())).bind fun p1 =>
(if p1.1 = true then
((i_SlotOk k ((x.1.2.2.2.2.2.2.1, (x.1.2.2.2.2.2.2.2.1, (x.1.2.2.2.2.2.2.2.2.1, (x.1.2.2.2.2.2.2.2.2.2.1, (x.1.2.2.2.2.2.2.2.2.2.2.1, (x.1.2.2.2.2.2.2.2.2.2.2.2.1, ())))))), ())).bind fun p2 =>
(if p2.1 = true then
(if (decide (x.1.2.2.2.2.2.2.1 = (0 : Int))) = false then
some ((decide (x.1.2.2.2.2.2.2.1 < x.1.1)), ((), ()))
else
some (true, ((), ())))
else
some (false, ((), ()))))
else
some (false, ((), ()))))
theorem t_i_SlotsOk (k : Nat) (x) : evF TTab k [⟨256, 0, (.cons (.agg (.cons (.int .i64) (.cons .str (.cons .str (.cons (.int .i64) (.cons (.il true (.int .i64)) (.cons (.int .i64) .nil))))))) .nil), .bool, i_SlotOk k⟩] [] Tryz.f185 (.cons (.agg (.cons (.int .i64) (.cons .str (.cons .str (.cons (.int .i64) (.cons (.il true (.int .i64)) (.cons (.int .i64) (.cons (.int .i64) (.cons .str (.cons .str (.cons (.int .i64) (.cons (.il true (.int .i64)) (.cons (.int .i64) .nil))))))))))))) .nil) .bool x = i_SlotsOk k x := by kernel_rfl
theorem e_i_SlotsOk (k : Nat) : EntryOk Tryz.prog ⟨185, 0, (.cons (.agg (.cons (.int .i64) (.cons .str (.cons .str (.cons (.int .i64) (.cons (.il true (.int .i64)) (.cons (.int .i64) (.cons (.int .i64) (.cons .str (.cons .str (.cons (.int .i64) (.cons (.il true (.int .i64)) (.cons (.int .i64) .nil))))))))))))) .nil), .bool, i_SlotsOk k⟩ := entry_ok tok (by intro e he; simp only [List.mem_cons, List.not_mem_nil, or_false] at he; rcases he with rfl <;> first | exact e_i_SlotOk k) (by kernel_rfl) (fn := Tryz.f185) (k := k) (es := [⟨256, 0, (.cons (.agg (.cons (.int .i64) (.cons .str (.cons .str (.cons (.int .i64) (.cons (.il true (.int .i64)) (.cons (.int .i64) .nil))))))) .nil), .bool, i_SlotOk k⟩]) (loops := []) (by kernel_rfl) (by kernel_rfl) (fun x r h => (t_i_SlotsOk k x).trans h)
def w_szIntS (k : Nat) (x : List (Int) × Int × Unit) : Option (Int × Unit × Unit × Unit) :=
(if (decide ((wi64 (x.2.1 - (List.length x.1 : Int))) < (0 : Int))) = true then
some ((-1 : Int), ((), ((), ())))
else
some ((wi64 (x.2.1 - (List.length x.1 : Int))), ((), ((), ()))))
theorem t_w_szIntS (k : Nat) (x) : evF TTab k [] [] Tryz.f111 (.cons (.il true (.int .i64)) (.cons (.int .i64) .nil)) (.int .i64) x = w_szIntS k x := by kernel_rfl
theorem e_w_szIntS (k : Nat) : EntryOk Tryz.prog ⟨111, 0, (.cons (.il true (.int .i64)) (.cons (.int .i64) .nil)), (.int .i64), w_szIntS k⟩ := entry_ok tok (by simp) (by kernel_rfl) (fn := Tryz.f111) (k := k) (es := []) (loops := []) (by kernel_rfl) (by kernel_rfl) (fun x r h => (t_w_szIntS k x).trans h)
def w_szSlot (k : Nat) (x : (Int × ByteArray × ByteArray × Int × List (Int) × Int × Unit) × Int × Unit) : Option (Int × Unit × Unit × Unit) :=
(if (decide ((wi64 (x.2.1 - (ByteArray.size x.1.2.1 : Int))) < (0 : Int))) = true then
some ((-1 : Int), ((), ((), ())))
else
(if (decide ((wi64 ((wi64 (x.2.1 - (ByteArray.size x.1.2.1 : Int))) - (ByteArray.size x.1.2.2.1 : Int))) < (0 : Int))) = true then
some ((-1 : Int), ((), ((), ())))
else
((w_szIntS k (x.1.2.2.2.2.1, ((wi64 ((wi64 (x.2.1 - (ByteArray.size x.1.2.1 : Int))) - (ByteArray.size x.1.2.2.1 : Int))), ()))).bind fun p1 =>
(if (decide (p1.1 < (0 : Int))) = true then
some ((-1 : Int), ((), ((), ())))
else
some (p1.1, ((), ((), ())))))))
theorem t_w_szSlot (k : Nat) (x) : evF TTab k [⟨111, 0, (.cons (.il true (.int .i64)) (.cons (.int .i64) .nil)), (.int .i64), w_szIntS k⟩] [] Tryz.f168 (.cons (.agg (.cons (.int .i64) (.cons .str (.cons .str (.cons (.int .i64) (.cons (.il true (.int .i64)) (.cons (.int .i64) .nil))))))) (.cons (.int .i64) .nil)) (.int .i64) x = w_szSlot k x := by kernel_rfl
theorem e_w_szSlot (k : Nat) : EntryOk Tryz.prog ⟨168, 0, (.cons (.agg (.cons (.int .i64) (.cons .str (.cons .str (.cons (.int .i64) (.cons (.il true (.int .i64)) (.cons (.int .i64) .nil))))))) (.cons (.int .i64) .nil)), (.int .i64), w_szSlot k⟩ := entry_ok tok (by intro e he; simp only [List.mem_cons, List.not_mem_nil, or_false] at he; rcases he with rfl <;> first | exact e_w_szIntS k) (by kernel_rfl) (fn := Tryz.f168) (k := k) (es := [⟨111, 0, (.cons (.il true (.int .i64)) (.cons (.int .i64) .nil)), (.int .i64), w_szIntS k⟩]) (loops := []) (by kernel_rfl) (by kernel_rfl) (fun x r h => (t_w_szSlot k x).trans h)
def w_szSlots (k : Nat) (x : (Int × ByteArray × ByteArray × Int × List (Int) × Int × Int × ByteArray × ByteArray × Int × List (Int) × Int × Unit) × Int × Unit) : Option (Int × Unit × Unit × Unit) :=
((w_szSlot k ((x.1.1, (x.1.2.1, (x.1.2.2.1, (x.1.2.2.2.1, (x.1.2.2.2.2.1, (x.1.2.2.2.2.2.1, ())))))), (x.2.1, ()))).bind fun p1 =>
(if (decide (p1.1 < (0 : Int))) = true then
some ((-1 : Int), ((), ((), ())))
else
((w_szSlot k ((x.1.2.2.2.2.2.2.1, (x.1.2.2.2.2.2.2.2.1, (x.1.2.2.2.2.2.2.2.2.1, (x.1.2.2.2.2.2.2.2.2.2.1, (x.1.2.2.2.2.2.2.2.2.2.2.1, (x.1.2.2.2.2.2.2.2.2.2.2.2.1, ())))))), (p1.1, ()))).bind fun p2 =>
(if (decide (p2.1 < (0 : Int))) = true then
some ((-1 : Int), ((), ((), ())))
else
some (p2.1, ((), ((), ())))))))
theorem t_w_szSlots (k : Nat) (x) : evF TTab k [⟨168, 0, (.cons (.agg (.cons (.int .i64) (.cons .str (.cons .str (.cons (.int .i64) (.cons (.il true (.int .i64)) (.cons (.int .i64) .nil))))))) (.cons (.int .i64) .nil)), (.int .i64), w_szSlot k⟩] [] Tryz.f90 (.cons (.agg (.cons (.int .i64) (.cons .str (.cons .str (.cons (.int .i64) (.cons (.il true (.int .i64)) (.cons (.int .i64) (.cons (.int .i64) (.cons .str (.cons .str (.cons (.int .i64) (.cons (.il true (.int .i64)) (.cons (.int .i64) .nil))))))))))))) (.cons (.int .i64) .nil)) (.int .i64) x = w_szSlots k x := by kernel_rfl
theorem e_w_szSlots (k : Nat) : EntryOk Tryz.prog ⟨90, 0, (.cons (.agg (.cons (.int .i64) (.cons .str (.cons .str (.cons (.int .i64) (.cons (.il true (.int .i64)) (.cons (.int .i64) (.cons (.int .i64) (.cons .str (.cons .str (.cons (.int .i64) (.cons (.il true (.int .i64)) (.cons (.int .i64) .nil))))))))))))) (.cons (.int .i64) .nil)), (.int .i64), w_szSlots k⟩ := entry_ok tok (by intro e he; simp only [List.mem_cons, List.not_mem_nil, or_false] at he; rcases he with rfl <;> first | exact e_w_szSlot k) (by kernel_rfl) (fn := Tryz.f90) (k := k) (es := [⟨168, 0, (.cons (.agg (.cons (.int .i64) (.cons .str (.cons .str (.cons (.int .i64) (.cons (.il true (.int .i64)) (.cons (.int .i64) .nil))))))) (.cons (.int .i64) .nil)), (.int .i64), w_szSlot k⟩]) (loops := []) (by kernel_rfl) (by kernel_rfl) (fun x r h => (t_w_szSlots k x).trans h)
def w_szStringS (k : Nat) (x : List (ByteArray) × Int × Unit) : Option (Int × Unit × Unit × Unit) :=
(if (decide ((wi64 (x.2.1 - (List.length x.1 : Int))) < (0 : Int))) = true then
some ((-1 : Int), ((), ((), ())))
else
(whileK (fun (rec0 : (List (ByteArray) × Int × Int × Unit) → Option _) (y0 : List (ByteArray) × Int × Int × Unit) =>
(if (decide (y0.2.2.1 < (List.length y0.1 : Int))) = true then
(if 0 ≤ y0.2.2.1 ∧ y0.2.2.1 < (List.length y0.1 : Int) then
(if (decide ((wi64 (y0.2.1 - (ByteArray.size (Ty.rd (t := .str) y0.1 y0.2.2.1) : Int))) < (0 : Int))) = true then
some ((-1 : Int), ((), ((), ())))
else
(rec0 (y0.1, ((wi64 (y0.2.1 - (ByteArray.size (Ty.rd (t := .str) y0.1 y0.2.2.1) : Int))), ((wi64 (y0.2.2.1 + (1 : Int))), ())))))
else none)
else
((fun (z1 : Int × Unit) =>
some (z1.1, ((), ((), ())))) (y0.2.1, ())))) k (x.1, ((wi64 (x.2.1 - (List.length x.1 : Int))), ((0 : Int), ())))))
theorem t_w_szStringS (k : Nat) (x) : evF TTab k [] [(0, ⟨[0, 1, 5], (.cons (.il true .str) (.cons (.int .i64) (.cons (.int .i64) .nil)))⟩, ⟨[1], (.cons (.int .i64) .nil)⟩)] Tryz.f288 (.cons (.il true .str) (.cons (.int .i64) .nil)) (.int .i64) x = w_szStringS k x := by kernel_rfl
theorem e_w_szStringS (k : Nat) : EntryOk Tryz.prog ⟨288, 0, (.cons (.il true .str) (.cons (.int .i64) .nil)), (.int .i64), w_szStringS k⟩ := entry_ok tok (by simp) (by kernel_rfl) (fn := Tryz.f288) (k := k) (es := []) (loops := [(0, ⟨[0, 1, 5], (.cons (.il true .str) (.cons (.int .i64) (.cons (.int .i64) .nil)))⟩, ⟨[1], (.cons (.int .i64) .nil)⟩)]) (by kernel_rfl) (by kernel_rfl) (fun x r h => (t_w_szStringS k x).trans h)
def w_szBoolS (k : Nat) (x : List (Bool) × Int × Unit) : Option (Int × Unit × Unit × Unit) :=
(if (decide ((wi64 (x.2.1 - (List.length x.1 : Int))) < (0 : Int))) = true then
some ((-1 : Int), ((), ((), ())))
else
some ((wi64 (x.2.1 - (List.length x.1 : Int))), ((), ((), ()))))
theorem t_w_szBoolS (k : Nat) (x) : evF TTab k [] [] Tryz.f289 (.cons (.il true .bool) (.cons (.int .i64) .nil)) (.int .i64) x = w_szBoolS k x := by kernel_rfl
theorem e_w_szBoolS (k : Nat) : EntryOk Tryz.prog ⟨289, 0, (.cons (.il true .bool) (.cons (.int .i64) .nil)), (.int .i64), w_szBoolS k⟩ := entry_ok tok (by simp) (by kernel_rfl) (fn := Tryz.f289) (k := k) (es := []) (loops := []) (by kernel_rfl) (by kernel_rfl) (fun x r h => (t_w_szBoolS k x).trans h)
def w_szHeld (k : Nat) (x : (Int × Int × Int × List (ByteArray) × List (Bool) × Int × Unit) × Int × Unit) : Option (Int × Unit × Unit × Unit) :=
((w_szStringS k (x.1.2.2.2.1, (x.2.1, ()))).bind fun p1 =>
(if (decide (p1.1 < (0 : Int))) = true then
some ((-1 : Int), ((), ((), ())))
else
((w_szBoolS k (x.1.2.2.2.2.1, (p1.1, ()))).bind fun p2 =>
(if (decide (p2.1 < (0 : Int))) = true then
some ((-1 : Int), ((), ((), ())))
else
some (p2.1, ((), ((), ())))))))
theorem t_w_szHeld (k : Nat) (x) : evF TTab k [⟨288, 0, (.cons (.il true .str) (.cons (.int .i64) .nil)), (.int .i64), w_szStringS k⟩, ⟨289, 0, (.cons (.il true .bool) (.cons (.int .i64) .nil)), (.int .i64), w_szBoolS k⟩] [] Tryz.f246 (.cons (.agg (.cons (.int .i64) (.cons (.int .i64) (.cons (.int .i64) (.cons (.il true .str) (.cons (.il true .bool) (.cons (.int .i64) .nil))))))) (.cons (.int .i64) .nil)) (.int .i64) x = w_szHeld k x := by kernel_rfl
theorem e_w_szHeld (k : Nat) : EntryOk Tryz.prog ⟨246, 0, (.cons (.agg (.cons (.int .i64) (.cons (.int .i64) (.cons (.int .i64) (.cons (.il true .str) (.cons (.il true .bool) (.cons (.int .i64) .nil))))))) (.cons (.int .i64) .nil)), (.int .i64), w_szHeld k⟩ := entry_ok tok (by intro e he; simp only [List.mem_cons, List.not_mem_nil, or_false] at he; rcases he with rfl | rfl <;> first | exact e_w_szStringS k | exact e_w_szBoolS k) (by kernel_rfl) (fn := Tryz.f246) (k := k) (es := [⟨288, 0, (.cons (.il true .str) (.cons (.int .i64) .nil)), (.int .i64), w_szStringS k⟩, ⟨289, 0, (.cons (.il true .bool) (.cons (.int .i64) .nil)), (.int .i64), w_szBoolS k⟩]) (loops := []) (by kernel_rfl) (by kernel_rfl) (fun x r h => (t_w_szHeld k x).trans h)
end Go.Proofs.YtnfllchbpechlaaGreat
