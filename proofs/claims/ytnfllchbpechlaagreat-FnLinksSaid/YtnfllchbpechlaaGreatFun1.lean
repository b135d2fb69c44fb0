import Derived.Test.YtnfllchbpechlaaGreatFun0
/- What functions of the program compute, as plain functions, and that their calls do so (part 1). Conditions: the plain function answers. -/
set_option linter.unusedVariables false
namespace Go.Proofs.YtnfllchbpechlaaGreat
open Go Go.Eng Go.Proofs
/- Names of types and patterns that come often. -/
abbrev yT4 : Ty := (.pair (.int .i64) (.pair (.int .i64) (.pair (.int .i64) (.pair (.list .str) (.pair (.list .bool) (.int .i64))))))
abbrev yT0 : Ty := (.pair (.int .i64) (.pair (.int .i64) (.pair (.pair (.pair (.int .i64) (.pair .str (.pair .str (.pair (.int .i64) (.pair (.list (.int .i64)) (.int .i64)))))) (.pair (.int .i64) (.pair .str (.pair .str (.pair (.int .i64) (.pair (.list (.int .i64)) (.int .i64))))))) (.pair (.list yT4) (.int .i64)))))
abbrev yT1 : Ty := (.pair (.int .i64) (.pair (.int .i64) (.pair (.int .i64) (.pair (.ols 9 .str) (.pair (.ols 4 .bool) (.int .i64))))))
abbrev yP2 : Pat := (.cons (.int .i64) .nil)
abbrev yP17 : Pat := (.own false 3 (.int .i64))
abbrev yP3 : Pat := (.cons (.int .i64) (.cons (.int .i64) (.cons (.int .i64) (.cons .str (.cons .str (.cons (.int .i64) (.cons yP17 (.cons (.int .i64) (.cons (.int .i64) (.cons .str (.cons .str (.cons (.int .i64) (.cons yP17 (.cons (.int .i64) (.cons (.own false 229 yT1) yP2)))))))))))))))
abbrev yP5 : Pat := (.cons (.int .i64) (.cons .str (.cons .str (.cons (.int .i64) (.cons yP17 (.cons (.int .i64) (.cons (.int .i64) (.cons .str (.cons .str (.cons (.int .i64) (.cons yP17 yP2)))))))))))
abbrev yP31 : Pat := (.cons (.il true (.int .i64)) yP2)
abbrev yP6 : Pat := (.agg (.cons (.int .i64) (.cons .str (.cons .str (.cons (.int .i64) (.cons (.il true (.int .i64)) (.cons (.int .i64) (.cons (.int .i64) (.cons .str (.cons .str (.cons (.int .i64) yP31)))))))))))
abbrev yT7 : Ty := (.pair (.int .i64) (.int .i64))
abbrev yP12 : Pat := (.cons (.int .i64) (.cons (.int .i64) yP2))
abbrev yP8 : Pat := (.cons (.int .i64) (.cons (.int .i64) (.cons (.int .i64) (.cons (.int .i64) (.cons (.int .i64) (.cons (.int .i64) (.cons (.int .i64) (.cons (.int .i64) (.cons (.int .i64) (.cons (.int .i64) (.cons (.int .i64) (.cons (.int .i64) (.cons (.int .i64) (.cons (.int .i64) (.cons (.int .i64) (.cons (.int .i64) (.cons (.int .i64) (.cons (.int .i64) (.cons (.int .i64) (.cons (.int .i64) (.cons (.int .i64) (.cons (.int .i64) (.cons (.int .i64) (.cons (.int .i64) (.cons (.int .i64) (.cons (.int .i64) (.cons (.int .i64) (.cons (.int .i64) (.cons (.int .i64) (.cons (.int .i64) (.cons (.int .i64) (.cons (.int .i64) (.cons (.int .i64) (.cons (.int .i64) (.cons (.int .i64) (.cons (.int .i64) (.cons (.int .i64) (.cons (.int .i64) (.cons (.int .i64) (.cons (.int .i64) (.cons (.int .i64) (.cons (.int .i64) (.cons (.int .i64) (.cons (.int .i64) (.cons (.int .i64) (.cons (.int .i64) (.cons (.int .i64) (.cons (.int .i64) (.cons (.int .i64) (.cons (.int .i64) (.cons (.int .i64) (.cons (.int .i64) (.cons (.int .i64) (.cons (.int .i64) (.cons (.int .i64) (.cons (.int .i64) (.cons (.int .i64) (.cons (.int .i64) (.cons (.int .i64) (.cons (.int .i64) (.cons (.int .i64) yP12)))))))))))))))))))))))))))))))))))))))))))))))))))))))))))))
abbrev yP9 : Pat := (.cons (.int .i64) (.cons (.int .i64) (.cons (.int .i64) (.cons .str (.cons .str (.cons (.int .i64) (.cons (.il true (.int .i64)) (.cons (.int .i64) (.cons (.int .i64) (.cons .str (.cons .str (.cons (.int .i64) (.cons (.il true (.int .i64)) (.cons (.int .i64) (.cons (.il true yT4) yP2)))))))))))))))
abbrev yP10 : Pat := (.own false 45 (.pair (.int .i64) (.pair (.int .i64) (.pair (.pair (.pair (.int .i64) (.pair .str (.pair .str (.pair (.int .i64) (.pair (.ols 3 (.int .i64)) (.int .i64)))))) (.pair (.int .i64) (.pair .str (.pair .str (.pair (.int .i64) (.pair (.ols 3 (.int .i64)) (.int .i64))))))) (.pair (.ols 229 yT1) (.int .i64))))))
abbrev yP11 : Pat := (.cons (.int .i64) (.cons (.int .i64) (.cons (.int .i64) (.cons (.int .i64) (.cons (.int .i64) (.cons (.il true (.int .i64)) (.cons .str .nil)))))))
abbrev yT13 : Ty := (.pair (.int .i64) (.pair (.int .i64) (.pair (.int .i64) (.pair (.int .i64) (.pair (.int .i64) (.pair (.ols 3 (.int .i64)) .str))))))
abbrev yP14 : Pat := (.cons (.int .i64) (.cons (.int .i64) (.cons (.il true (.pair (.int .i64) yT7)) (.cons (.il true yT7) .nil))))
abbrev yP15 : Pat := (.cons (.agg (.cons (.int .i64) (.cons .str (.cons .str (.cons (.int .i64) yP31))))) .nil)
abbrev yP21 : Pat := (.own false 53 (.pair yT7 (.int .i64)))
abbrev yP16 : Pat := (.agg (.cons (.int .i64) (.cons (.int .i64) (.cons (.own false 135 (.pair (.int .i64) yT7)) (.cons (.own false 252 yT7) (.cons yP21 (.cons yP10 .nil)))))))
abbrev yP18 : Pat := (.cons (.il true (.int .u8)) (.cons (.int .i64) yP2))
abbrev yP19 : Pat := (.cons (.int .i64) (.cons .str .nil))
abbrev yP20 : Pat := (.own false 311 (.int .u32))
abbrev yP22 : Pat := (.cons .str (.cons .bool .nil))
abbrev yP23 : Pat := (.il true (.pair yT7 (.int .i64)))
abbrev yP24 : Pat := (.cons (.int .i64) (.cons (.int .i64) (.cons (.int .i64) (.cons (.il true .str) (.cons (.il true .bool) yP2)))))
abbrev yP25 : Pat := (.cons (.ptr 0 yP2) .nil)
abbrev yP26 : Pat := (.cons .str (.cons .str yP2))
abbrev yP27 : Pat := (.agg (.cons (.int .i64) (.cons (.int .i64) (.cons (.il true (.pair (.int .i64) yT7)) (.cons (.il true yT7) (.cons yP23 (.cons (.il true yT0) .nil)))))))
abbrev yP28 : Pat := (.agg (.cons (.int .i64) yP2))
abbrev yP29 : Pat := (.cons (.il true (.int .i64)) .nil)
abbrev yP30 : Pat := (.cons (.ptr 0 (.cons (.int .i64) yP2)) .nil)
abbrev yP32 : Pat := (.cons .str (.cons .str .nil))
abbrev yP33 : Pat := (.tup (.cons (.agg yP5) (.cons (.agg (.cons (.int .i64) (.cons (.int .i64) (.cons (.int .i64) (.cons (.int .i64) (.cons (.int .i64) (.cons yP17 (.cons .str .nil)))))))) (.cons .bool .nil))))
abbrev yP34 : Pat := (.agg (.cons (.il true yT4) .nil))
abbrev yP35 : Pat := (.agg (.cons (.int .i64) yP19))
abbrev yP36 : Pat := (.cons (.own false 229 yT1) .nil)

def w_big (k : Nat) (x : List (Int) × Unit) : Option (Bool × Unit × Unit) :=
some ((decide ((1048576 : Int) < (List.length x.1 : Int))), ((), ()))
theorem t_w_big (k : Nat) (x) : evF TTab k [] [] Tryz.f10 (.cons (.il true (.int .u8)) .nil) .bool x = w_big k x := by kernel_rfl
theorem e_w_big [Names] (k : Nat) : EntryOk Tryz.prog ⟨10, 0, (.cons (.il true (.int .u8)) .nil), .bool, w_big k⟩ := entry_ok tok (by simp) (by kernel_rfl) (fn := Tryz.f10) (k := k) (es := []) (loops := []) (by kernel_rfl) (by kernel_rfl) (fun x r h => (t_w_big k x).trans h)
def s_l01In (k : Nat) (x : Int × Int × Int × Unit) : Option (Bool × Unit × Unit × Unit × Unit) :=
(if (decide (x.2.1 ≤ x.1)) = true then
some ((decide (x.1 ≤ x.2.2.1)), ((), ((), ((), ()))))
else
some (false, ((), ((), ((), ())))))
theorem t_s_l01In (k : Nat) (x) : evF TTab k [] [] Tryz.f62 yP12 .bool x = s_l01In k x := by kernel_rfl
theorem e_s_l01In [Names] (k : Nat) : EntryOk Tryz.prog ⟨62, 0, yP12, .bool, s_l01In k⟩ := entry_ok tok (by simp) (by kernel_rfl) (fn := Tryz.f62) (k := k) (es := []) (loops := []) (by kernel_rfl) (by kernel_rfl) (fun x r h => (t_s_l01In k x).trans h)
def s_HasherOk (k : Nat) (x : (ByteArray × ByteArray × Int × Unit) × Unit) : Option (Bool × Unit × Unit) :=
(if (decide ((ByteArray.size x.1.1 : Int) = (32 : Int))) = true then
(if (decide ((ByteArray.size x.1.2.1 : Int) < (64 : Int))) = true then
((s_l01In k (x.1.2.2.1, ((0 : Int), ((1000000000 : Int), ())))).bind fun p1 =>
(if p1.1 = true then
some ((decide ((Int.tmod x.1.2.2.1 (64 : Int)) = (ByteArray.size x.1.2.1 : Int))), ((), ()))
else
some (false, ((), ()))))
else
some (false, ((), ())))
else
some (false, ((), ())))
theorem t_s_HasherOk (k : Nat) (x) : evF TTab k [⟨62, 0, yP12, .bool, s_l01In k⟩] [] Tryz.f275 (.cons (.agg yP26) .nil) .bool x = s_HasherOk k x := by kernel_rfl
theorem e_s_HasherOk [Names] (k : Nat) : EntryOk Tryz.prog ⟨275, 0, (.cons (.agg yP26) .nil), .bool, s_HasherOk k⟩ := entry_ok tok (by intro e he; simp only [List.mem_cons, List.not_mem_nil, or_false] at he; rcases he with rfl <;> first | exact e_s_l01In k) (by kernel_rfl) (fn := Tryz.f275) (k := k) (es := [⟨62, 0, yP12, .bool, s_l01In k⟩]) (loops := []) (by kernel_rfl) (by kernel_rfl) (fun x r h => (t_s_HasherOk k x).trans h)
def s_l04Word (k : Nat) (x : ByteArray × Int × Unit) : Option (Int × Unit × Unit × Unit) :=
(if 0 ≤ x.2.1 ∧ x.2.1 < (ByteArray.size x.1 : Int) then
(if 0 ≤ (wi64 (x.2.1 + (1 : Int))) ∧ (wi64 (x.2.1 + (1 : Int))) < (ByteArray.size x.1 : Int) then
(if 0 ≤ (wi64 (x.2.1 + (2 : Int))) ∧ (wi64 (x.2.1 + (2 : Int))) < (ByteArray.size x.1 : Int) then
(if 0 ≤ (wi64 (x.2.1 + (3 : Int))) ∧ (wi64 (x.2.1 + (3 : Int))) < (ByteArray.size x.1 : Int) then
some ((wu32 ((wu32 ((wu32 ((wu32 ((wu32 ((bt x.1 x.2.1))) * (16777216 : Int))) + (wu32 ((wu32 ((bt x.1 (wi64 (x.2.1 + (1 : Int)))))) * (65536 : Int))))) + (wu32 ((wu32 ((bt x.1 (wi64 (x.2.1 + (2 : Int)))))) * (256 : Int))))) + (wu32 ((bt x.1 (wi64 (x.2.1 + (3 : Int)))))))), ((), ((), ())))
else none)
else none)
else none)
else none)
theorem t_s_l04Word (k : Nat) (x) : evF TTab k [] [] Tryz.f311 (.cons .str yP2) (.int .u32) x = s_l04Word k x := by kernel_rfl
theorem e_s_l04Word [Names] (k : Nat) : EntryOk Tryz.prog ⟨311, 0, (.cons .str yP2), (.int .u32), s_l04Word k⟩ := entry_ok tok (by simp) (by kernel_rfl) (fn := Tryz.f311) (k := k) (es := []) (loops := []) (by kernel_rfl) (by kernel_rfl) (fun x r h => (t_s_l04Word k x).trans h)
def s_l04Words (k : Nat) (x : ByteArray × Unit) : Option (List (Int) × Unit × Unit) :=
(whileK (fun (rec0 : (ByteArray × List (Int) × Int × Unit) → Option _) (y0 : ByteArray × List (Int) × Int × Unit) =>
(if (decide ((wi64 (y0.2.2.1 + (4 : Int))) ≤ (ByteArray.size y0.1 : Int))) = true then
((s_l04Word k (y0.1, (y0.2.2.1, ()))).bind fun p1 =>
(if List.length y0.2.1 + List.length ([p1.1] : List (Int)) ≤ capMax then
(rec0 (y0.1, ((y0.2.1 ++ ([p1.1] : List (Int))), ((wi64 (y0.2.2.1 + (4 : Int))), ()))))
else none))
else
((fun (z1 : List (Int) × Unit) =>
some (z1.1, ((), ()))) (y0.2.1, ())))) k (x.1, (([] : List (Int)), ((0 : Int), ()))))
theorem t_s_l04Words (k : Nat) (x) : evF TTab k [⟨311, 0, (.cons .str yP2), (.int .u32), s_l04Word k⟩] [(0, ⟨[0, 3, 4], (.cons .str (.cons yP20 yP2))⟩, ⟨[3], (.cons yP20 .nil)⟩)] Tryz.f276 (.cons .str .nil) yP20 x = s_l04Words k x := by kernel_rfl
theorem e_s_l04Words [Names] (k : Nat) : EntryOk Tryz.prog ⟨276, 0, (.cons .str .nil), yP20, s_l04Words k⟩ := entry_ok tok (by intro e he; simp only [List.mem_cons, List.not_mem_nil, or_false] at he; rcases he with rfl <;> first | exact e_s_l04Word k) (by kernel_rfl) (fn := Tryz.f276) (k := k) (es := [⟨311, 0, (.cons .str yP2), (.int .u32), s_l04Word k⟩]) (loops := [(0, ⟨[0, 3, 4], (.cons .str (.cons yP20 yP2))⟩, ⟨[3], (.cons yP20 .nil)⟩)]) (by kernel_rfl) (by kernel_rfl) (fun x r h => (t_s_l04Words k x).trans h)
def s_l04K (k : Nat) (x : Unit) : Option (List (Int) × Unit) :=
some (([(1116352408 : Int), (1899447441 : Int), (3049323471 : Int), (3921009573 : Int), (961987163 : Int), (1508970993 : Int), (2453635748 : Int), (2870763221 : Int), (3624381080 : Int), (310598401 : Int), (607225278 : Int), (1426881987 : Int), (1925078388 : Int), (2162078206 : Int), (2614888103 : Int), (3248222580 : Int), (3835390401 : Int), (4022224774 : Int), (264347078 : Int), (604807628 : Int), (770255983 : Int), (1249150122 : Int), (1555081692 : Int), (1996064986 : Int), (2554220882 : Int), (2821834349 : Int), (2952996808 : Int), (3210313671 : Int), (3336571891 : Int), (3584528711 : Int), (113926993 : Int), (338241895 : Int), (666307205 : Int), (773529912 : Int), (1294757372 : Int), (1396182291 : Int), (1695183700 : Int), (1986661051 : Int), (2177026350 : Int), (2456956037 : Int), (2730485921 : Int), (2820302411 : Int), (3259730800 : Int), (3345764771 : Int), (3516065817 : Int), (3600352804 : Int), (4094571909 : Int), (275423344 : Int), (430227734 : Int), (506948616 : Int), (659060556 : Int), (883997877 : Int), (958139571 : Int), (1322822218 : Int), (1537002063 : Int), (1747873779 : Int), (1955562222 : Int), (2024104815 : Int), (2227730452 : Int), (2361852424 : Int), (2428436474 : Int), (2756734187 : Int), (3204031479 : Int), (3329325298 : Int)] : List (Int)), ())
theorem t_s_l04K (k : Nat) (x) : evF TTab k [] [] Tryz.f277 .nil yP20 x = s_l04K k x := by kernel_rfl
theorem e_s_l04K [Names] (k : Nat) : EntryOk Tryz.prog ⟨277, 0, .nil, yP20, s_l04K k⟩ := entry_ok tok (by simp) (by kernel_rfl) (fn := Tryz.f277) (k := k) (es := []) (loops := []) (by kernel_rfl) (by kernel_rfl) (fun x r h => (t_s_l04K k x).trans h)
def s_l04Right (k : Nat) (x : Int × Int × Int × Unit) : Option (Int × Unit × Unit × Unit × Unit) :=
(if x.2.1 = 0 then
none
else
(if x.2.1 = 0 then
none
else
some ((wu32 ((wu32 (Int.tdiv x.1 x.2.1)) + (wu32 ((Int.tmod x.1 x.2.1) * x.2.2.1)))), ((), ((), ((), ()))))))
theorem t_s_l04Right (k : Nat) (x) : evF TTab k [] [] Tryz.f330 (.cons (.int .u32) (.cons (.int .u32) (.cons (.int .u32) .nil))) (.int .u32) x = s_l04Right k x := by kernel_rfl
theorem e_s_l04Right [Names] (k : Nat) : EntryOk Tryz.prog ⟨330, 0, (.cons (.int .u32) (.cons (.int .u32) (.cons (.int .u32) .nil))), (.int .u32), s_l04Right k⟩ := entry_ok tok (by simp) (by kernel_rfl) (fn := Tryz.f330) (k := k) (es := []) (loops := []) (by kernel_rfl) (by kernel_rfl) (fun x r h => (t_s_l04Right k x).trans h)
def s_l04S (k : Nat) (x : Int × Int × Int × Int × Bool × Unit) : Option (Int × Unit × Unit × Unit × Unit × Unit × Unit) :=
(if x.2.1 = 0 then
none
else
((s_l04Right k (x.1, (x.2.1, ((wu32 ((wu32 (Int.tdiv (2147483648 : Int) x.2.1)) * (2 : Int))), ())))).bind fun p1 =>
(if x.2.2.1 = 0 then
none
else
((s_l04Right k (x.1, (x.2.2.1, ((wu32 ((wu32 (Int.tdiv (2147483648 : Int) x.2.2.1)) * (2 : Int))), ())))).bind fun p2 =>
(if x.2.2.2.1 = 0 then
none
else
(if (!x.2.2.2.2.1) = true then
(if x.2.2.2.1 = 0 then
none
else
((s_l04Right k (x.1, (x.2.2.2.1, ((wu32 ((wu32 (Int.tdiv (2147483648 : Int) x.2.2.2.1)) * (2 : Int))), ())))).bind fun p3 =>
some ((bitsI .xor .u32 (bitsI .xor .u32 p1.1 p2.1) p3.1), ((), ((), ((), ((), ((), ()))))))))
else
some ((bitsI .xor .u32 (bitsI .xor .u32 p1.1 p2.1) (wu32 (Int.tdiv x.1 x.2.2.2.1))), ((), ((), ((), ((), ((), ()))))))))))))
theorem t_s_l04S (k : Nat) (x) : evF TTab k [⟨330, 0, (.cons (.int .u32) (.cons (.int .u32) (.cons (.int .u32) .nil))), (.int .u32), s_l04Right k⟩] [] Tryz.f312 (.cons (.int .u32) (.cons (.int .u32) (.cons (.int .u32) (.cons (.int .u32) (.cons .bool .nil))))) (.int .u32) x = s_l04S k x := by kernel_rfl
theorem e_s_l04S [Names] (k : Nat) : EntryOk Tryz.prog ⟨312, 0, (.cons (.int .u32) (.cons (.int .u32) (.cons (.int .u32) (.cons (.int .u32) (.cons .bool .nil))))), (.int .u32), s_l04S k⟩ := entry_ok tok (by intro e he; simp only [List.mem_cons, List.not_mem_nil, or_false] at he; rcases he with rfl <;> first | exact e_s_l04Right k) (by kernel_rfl) (fn := Tryz.f312) (k := k) (es := [⟨330, 0, (.cons (.int .u32) (.cons (.int .u32) (.cons (.int .u32) .nil))), (.int .u32), s_l04Right k⟩]) (loops := []) (by kernel_rfl) (by kernel_rfl) (fun x r h => (t_s_l04S k x).trans h)
def s_l04Round (k : Nat) (x : List (Int) × List (Int) × ByteArray × Unit) : Option (List (Int) × Unit × Unit × Unit × Unit) :=
((s_l04Words k (x.2.2.1, ())).bind fun p1 =>
(whileK (fun (rec0 : (List (Int) × List (Int) × List (Int) × Int × Unit) → Option _) (y0 : List (Int) × List (Int) × List (Int) × Int × Unit) =>
(if (decide (y0.2.2.2.1 < (64 : Int))) = true then
(if 0 ≤ (wi64 (y0.2.2.2.1 - (2 : Int))) ∧ (wi64 (y0.2.2.2.1 - (2 : Int))) < (List.length y0.2.2.1 : Int) then
((s_l04S k ((Ty.rd (t := (.int .u32)) y0.2.2.1 (wi64 (y0.2.2.2.1 - (2 : Int)))), ((131072 : Int), ((524288 : Int), ((1024 : Int), (true, ())))))).bind fun p2 =>
(if 0 ≤ (wi64 (y0.2.2.2.1 - (7 : Int))) ∧ (wi64 (y0.2.2.2.1 - (7 : Int))) < (List.length y0.2.2.1 : Int) then
(if 0 ≤ (wi64 (y0.2.2.2.1 - (15 : Int))) ∧ (wi64 (y0.2.2.2.1 - (15 : Int))) < (List.length y0.2.2.1 : Int) then
((s_l04S k ((Ty.rd (t := (.int .u32)) y0.2.2.1 (wi64 (y0.2.2.2.1 - (15 : Int)))), ((128 : Int), ((262144 : Int), ((8 : Int), (true, ())))))).bind fun p3 =>
(if 0 ≤ (wi64 (y0.2.2.2.1 - (16 : Int))) ∧ (wi64 (y0.2.2.2.1 - (16 : Int))) < (List.length y0.2.2.1 : Int) then
(if List.length y0.2.2.1 + List.length ([(wu32 ((wu32 ((wu32 (p2.1 + (Ty.rd (t := (.int .u32)) y0.2.2.1 (wi64 (y0.2.2.2.1 - (7 : Int)))))) + p3.1)) + (Ty.rd (t := (.int .u32)) y0.2.2.1 (wi64 (y0.2.2.2.1 - (16 : Int))))))] : List (Int)) ≤ capMax then
(rec0 (y0.1, (y0.2.1, ((y0.2.2.1 ++ ([(wu32 ((wu32 ((wu32 (p2.1 + (Ty.rd (t := (.int .u32)) y0.2.2.1 (wi64 (y0.2.2.2.1 - (7 : Int)))))) + p3.1)) + (Ty.rd (t := (.int .u32)) y0.2.2.1 (wi64 (y0.2.2.2.1 - (16 : Int))))))] : List (Int))), ((wi64 (y0.2.2.2.1 + (1 : Int))), ())))))
else none)
else none))
else none)
else none))
else none)
else
((fun (z1 : List (Int) × List (Int) × List (Int) × Unit) =>
(if List.length ([] : List (Int)) + List.length z1.1 ≤ capMax then
(whileK (fun (rec2 : (List (Int) × List (Int) × List (Int) × List (Int) × Int × Unit) → Option _) (y2 : List (Int) × List (Int) × List (Int) × List (Int) × Int × Unit) =>
(if (decide (y2.2.2.2.2.1 < (64 : Int))) = true then
(if 0 ≤ (4 : Int) ∧ (4 : Int) < (List.length y2.2.2.2.1 : Int) then
(if 0 ≤ (5 : Int) ∧ (5 : Int) < (List.length y2.2.2.2.1 : Int) then
(if 0 ≤ (6 : Int) ∧ (6 : Int) < (List.length y2.2.2.2.1 : Int) then
(if 0 ≤ (7 : Int) ∧ (7 : Int) < (List.length y2.2.2.2.1 : Int) then
((s_l04S k ((Ty.rd (t := (.int .u32)) y2.2.2.2.1 (4 : Int)), ((64 : Int), ((2048 : Int), ((33554432 : Int), (false, ())))))).bind fun p4 =>
(if 0 ≤ y2.2.2.2.2.1 ∧ y2.2.2.2.2.1 < (List.length y2.2.1 : Int) then
(if 0 ≤ y2.2.2.2.2.1 ∧ y2.2.2.2.2.1 < (List.length y2.2.2.1 : Int) then
(if 0 ≤ (0 : Int) ∧ (0 : Int) < (List.length y2.2.2.2.1 : Int) then
(if 0 ≤ (1 : Int) ∧ (1 : Int) < (List.length y2.2.2.2.1 : Int) then
(if 0 ≤ (0 : Int) ∧ (0 : Int) < (List.length y2.2.2.2.1 : Int) then
(if 0 ≤ (2 : Int) ∧ (2 : Int) < (List.length y2.2.2.2.1 : Int) then
(if 0 ≤ (1 : Int) ∧ (1 : Int) < (List.length y2.2.2.2.1 : Int) then
(if 0 ≤ (2 : Int) ∧ (2 : Int) < (List.length y2.2.2.2.1 : Int) then
(if 0 ≤ (0 : Int) ∧ (0 : Int) < (List.length y2.2.2.2.1 : Int) then
((s_l04S k ((Ty.rd (t := (.int .u32)) y2.2.2.2.1 (0 : Int)), ((4 : Int), ((8192 : Int), ((4194304 : Int), (false, ())))))).bind fun p5 =>
(whileK (fun (rec4 : (List (Int) × List (Int) × List (Int) × List (Int) × Int × Int × Int × Int × Unit) → Option _) (y4 : List (Int) × List (Int) × List (Int) × List (Int) × Int × Int × Int × Int × Unit) =>
(if (decide ((0 : Int) < y4.2.2.2.2.2.2.2.1)) = true then
(if 0 ≤ (wi64 (y4.2.2.2.2.2.2.2.1 - (1 : Int))) ∧ (wi64 (y4.2.2.2.2.2.2.2.1 - (1 : Int))) < (List.length y4.2.2.2.1 : Int) then
(if 0 ≤ y4.2.2.2.2.2.2.2.1 ∧ y4.2.2.2.2.2.2.2.1 < (List.length y4.2.2.2.1 : Int) then
(rec4 (y4.1, (y4.2.1, (y4.2.2.1, ((List.set y4.2.2.2.1 (Int.toNat y4.2.2.2.2.2.2.2.1) (Ty.rd (t := (.int .u32)) y4.2.2.2.1 (wi64 (y4.2.2.2.2.2.2.2.1 - (1 : Int))))), (y4.2.2.2.2.1, (y4.2.2.2.2.2.1, (y4.2.2.2.2.2.2.1, ((wi64 (y4.2.2.2.2.2.2.2.1 - (1 : Int))), ())))))))))
else none)
else none)
else
((fun (z2 : List (Int) × List (Int) × List (Int) × List (Int) × Int × Int × Int × Unit) =>
(if 0 ≤ (4 : Int) ∧ (4 : Int) < (List.length z2.2.2.2.1 : Int) then
(if 0 ≤ (4 : Int) ∧ (4 : Int) < (List.length z2.2.2.2.1 : Int) then
(if 0 ≤ (0 : Int) ∧ (0 : Int) < (List.length (List.set z2.2.2.2.1 (Int.toNat (4 : Int)) (wu32 ((Ty.rd (t := (.int .u32)) z2.2.2.2.1 (4 : Int)) + z2.2.2.2.2.2.1))) : Int) then
(rec2 (z2.1, (z2.2.1, (z2.2.2.1, ((List.set (List.set z2.2.2.2.1 (Int.toNat (4 : Int)) (wu32 ((Ty.rd (t := (.int .u32)) z2.2.2.2.1 (4 : Int)) + z2.2.2.2.2.2.1))) (Int.toNat (0 : Int)) (wu32 (z2.2.2.2.2.2.1 + z2.2.2.2.2.2.2.1))), ((wi64 (z2.2.2.2.2.1 + (1 : Int))), ()))))))
else none)
else none)
else none)) (y4.1, (y4.2.1, (y4.2.2.1, (y4.2.2.2.1, (y4.2.2.2.2.1, (y4.2.2.2.2.2.1, (y4.2.2.2.2.2.2.1, ())))))))))) k (y2.1, (y2.2.1, (y2.2.2.1, (y2.2.2.2.1, (y2.2.2.2.2.1, ((wu32 ((wu32 ((wu32 ((wu32 ((Ty.rd (t := (.int .u32)) y2.2.2.2.1 (7 : Int)) + p4.1)) + (bitsI .xor .u32 (bitsI .and .u32 (Ty.rd (t := (.int .u32)) y2.2.2.2.1 (4 : Int)) (Ty.rd (t := (.int .u32)) y2.2.2.2.1 (5 : Int))) (bitsI .and .u32 (wu32 ((4294967295 : Int) - (Ty.rd (t := (.int .u32)) y2.2.2.2.1 (4 : Int)))) (Ty.rd (t := (.int .u32)) y2.2.2.2.1 (6 : Int)))))) + (Ty.rd (t := (.int .u32)) y2.2.1 y2.2.2.2.2.1))) + (Ty.rd (t := (.int .u32)) y2.2.2.1 y2.2.2.2.2.1))), ((wu32 (p5.1 + (bitsI .xor .u32 (bitsI .xor .u32 (bitsI .and .u32 (Ty.rd (t := (.int .u32)) y2.2.2.2.1 (0 : Int)) (Ty.rd (t := (.int .u32)) y2.2.2.2.1 (1 : Int))) (bitsI .and .u32 (Ty.rd (t := (.int .u32)) y2.2.2.2.1 (0 : Int)) (Ty.rd (t := (.int .u32)) y2.2.2.2.1 (2 : Int)))) (bitsI .and .u32 (Ty.rd (t := (.int .u32)) y2.2.2.2.1 (1 : Int)) (Ty.rd (t := (.int .u32)) y2.2.2.2.1 (2 : Int)))))), ((7 : Int), ()))))))))))
else none)
else none)
else none)
else none)
else none)
else none)
else none)
else none)
else none))
else none)
else none)
else none)
else none)
else
((fun (z3 : List (Int) × List (Int) × Unit) =>
(whileK (fun (rec6 : (List (Int) × List (Int) × List (Int) × Int × Unit) → Option _) (y6 : List (Int) × List (Int) × List (Int) × Int × Unit) =>
(if (decide (y6.2.2.2.1 < (8 : Int))) = true then
(if 0 ≤ y6.2.2.2.1 ∧ y6.2.2.2.1 < (List.length y6.1 : Int) then
(if 0 ≤ y6.2.2.2.1 ∧ y6.2.2.2.1 < (List.length y6.2.1 : Int) then
(if List.length y6.2.2.1 + List.length ([(wu32 ((Ty.rd (t := (.int .u32)) y6.1 y6.2.2.2.1) + (Ty.rd (t := (.int .u32)) y6.2.1 y6.2.2.2.1)))] : List (Int)) ≤ capMax then
(rec6 (y6.1, (y6.2.1, ((y6.2.2.1 ++ ([(wu32 ((Ty.rd (t := (.int .u32)) y6.1 y6.2.2.2.1) + (Ty.rd (t := (.int .u32)) y6.2.1 y6.2.2.2.1)))] : List (Int))), ((wi64 (y6.2.2.2.1 + (1 : Int))), ())))))
else none)
else none)
else none)
else
((fun (z4 : List (Int) × Unit) =>
some (z4.1, ((), ((), ((), ()))))) (y6.2.2.1, ())))) k (z3.1, (z3.2.1, (([] : List (Int)), ((0 : Int), ())))))) (y2.1, (y2.2.2.2.1, ()))))) k (z1.1, (z1.2.1, (z1.2.2.1, ((([] : List (Int)) ++ z1.1), ((0 : Int), ()))))))
else none)) (y0.1, (y0.2.1, (y0.2.2.1, ())))))) k (x.1, (x.2.1, (p1.1, ((16 : Int), ()))))))
theorem t_s_l04Round (k : Nat) (x) : evF TTab k [⟨276, 0, (.cons .str .nil), yP20, s_l04Words k⟩, ⟨312, 0, (.cons (.int .u32) (.cons (.int .u32) (.cons (.int .u32) (.cons (.int .u32) (.cons .bool .nil))))), (.int .u32), s_l04S k⟩] [(0, ⟨[0, 1, 7, 8], (.cons (.il true (.int .u32)) (.cons (.il true (.int .u32)) (.cons yP20 yP2)))⟩, ⟨[0, 1, 7], (.cons (.il true (.int .u32)) (.cons (.il true (.int .u32)) (.cons yP20 .nil)))⟩), (2, ⟨[0, 1, 7, 9, 10], (.cons (.il true (.int .u32)) (.cons (.il true (.int .u32)) (.cons yP20 (.cons yP20 yP2))))⟩, ⟨[0, 9], (.cons (.il true (.int .u32)) (.cons yP20 .nil))⟩), (4, ⟨[0, 1, 7, 9, 10, 13, 15, 16], (.cons (.il true (.int .u32)) (.cons (.il true (.int .u32)) (.cons yP20 (.cons yP20 (.cons (.int .i64) (.cons (.int .u32) (.cons (.int .u32) yP2)))))))⟩, ⟨[0, 1, 7, 9, 10, 13, 15], (.cons (.il true (.int .u32)) (.cons (.il true (.int .u32)) (.cons yP20 (.cons yP20 (.cons (.int .i64) (.cons (.int .u32) (.cons (.int .u32) .nil)))))))⟩), (6, ⟨[0, 9, 17, 18], (.cons (.il true (.int .u32)) (.cons yP20 (.cons yP20 yP2)))⟩, ⟨[17], (.cons yP20 .nil)⟩)] Tryz.f278 (.cons (.il true (.int .u32)) (.cons (.il true (.int .u32)) (.cons .str .nil))) yP20 x = s_l04Round k x := by kernel_rfl
theorem e_s_l04Round [Names] (k : Nat) : EntryOk Tryz.prog ⟨278, 0, (.cons (.il true (.int .u32)) (.cons (.il true (.int .u32)) (.cons .str .nil))), yP20, s_l04Round k⟩ := entry_ok tok (by intro e he; simp only [List.mem_cons, List.not_mem_nil, or_false] at he; rcases he with rfl | rfl <;> first | exact e_s_l04Words k | exact e_s_l04S k) (by kernel_rfl) (fn := Tryz.f278) (k := k) (es := [⟨276, 0, (.cons .str .nil), yP20, s_l04Words k⟩, ⟨312, 0, (.cons (.int .u32) (.cons (.int .u32) (.cons (.int .u32) (.cons (.int .u32) (.cons .bool .nil))))), (.int .u32), s_l04S k⟩]) (loops := [(0, ⟨[0, 1, 7, 8], (.cons (.il true (.int .u32)) (.cons (.il true (.int .u32)) (.cons yP20 yP2)))⟩, ⟨[0, 1, 7], (.cons (.il true (.int .u32)) (.cons (.il true (.int .u32)) (.cons yP20 .nil)))⟩), (2, ⟨[0, 1, 7, 9, 10], (.cons (.il true (.int .u32)) (.cons (.il true (.int .u32)) (.cons yP20 (.cons yP20 yP2))))⟩, ⟨[0, 9], (.cons (.il true (.int .u32)) (.cons yP20 .nil))⟩), (4, ⟨[0, 1, 7, 9, 10, 13, 15, 16], (.cons (.il true (.int .u32)) (.cons (.il true (.int .u32)) (.cons yP20 (.cons yP20 (.cons (.int .i64) (.cons (.int .u32) (.cons (.int .u32) yP2)))))))⟩, ⟨[0, 1, 7, 9, 10, 13, 15], (.cons (.il true (.int .u32)) (.cons (.il true (.int .u32)) (.cons yP20 (.cons yP20 (.cons (.int .i64) (.cons (.int .u32) (.cons (.int .u32) .nil)))))))⟩), (6, ⟨[0, 9, 17, 18], (.cons (.il true (.int .u32)) (.cons yP20 (.cons yP20 yP2)))⟩, ⟨[17], (.cons yP20 .nil)⟩)]) (by kernel_rfl) (by kernel_rfl) (fun x r h => (t_s_l04Round k x).trans h)
def s_l04Bytes (k : Nat) (x : List (Int) × Unit) : Option (ByteArray × Unit × Unit) :=
(whileK (fun (rec0 : (List (Int) × List (Int) × Int × Unit) → Option _) (y0 : List (Int) × List (Int) × Int × Unit) =>
(if (decide (y0.2.2.1 < (List.length y0.1 : Int))) = true then
(if 0 ≤ y0.2.2.1 ∧ y0.2.2.1 < (List.length y0.1 : Int) then
(if List.length y0.2.1 + List.length ([(wu8 ((wu32 (Int.tdiv (Ty.rd (t := (.int .u32)) y0.1 y0.2.2.1) (16777216 : Int))))), (wu8 ((Int.tmod (wu32 (Int.tdiv (Ty.rd (t := (.int .u32)) y0.1 y0.2.2.1) (65536 : Int))) (256 : Int)))), (wu8 ((Int.tmod (wu32 (Int.tdiv (Ty.rd (t := (.int .u32)) y0.1 y0.2.2.1) (256 : Int))) (256 : Int)))), (wu8 ((Int.tmod (Ty.rd (t := (.int .u32)) y0.1 y0.2.2.1) (256 : Int))))] : List (Int)) ≤ capMax then
(rec0 (y0.1, ((y0.2.1 ++ ([(wu8 ((wu32 (Int.tdiv (Ty.rd (t := (.int .u32)) y0.1 y0.2.2.1) (16777216 : Int))))), (wu8 ((Int.tmod (wu32 (Int.tdiv (Ty.rd (t := (.int .u32)) y0.1 y0.2.2.1) (65536 : Int))) (256 : Int)))), (wu8 ((Int.tmod (wu32 (Int.tdiv (Ty.rd (t := (.int .u32)) y0.1 y0.2.2.1) (256 : Int))) (256 : Int)))), (wu8 ((Int.tmod (Ty.rd (t := (.int .u32)) y0.1 y0.2.2.1) (256 : Int))))] : List (Int))), ((wi64 (y0.2.2.1 + (1 : Int))), ()))))
else none)
else none)
else
((fun (z1 : List (Int) × Unit) =>
some ((strOf z1.1), ((), ()))) (y0.2.1, ())))) k (x.1, (([] : List (Int)), ((0 : Int), ()))))
theorem t_s_l04Bytes (k : Nat) (x) : evF TTab k [] [(0, ⟨[0, 3, 4], (.cons (.il true (.int .u32)) (.cons (.own false 5 (.int .u8)) yP2))⟩, ⟨[3], (.cons (.own false 5 (.int .u8)) .nil)⟩)] Tryz.f279 (.cons (.il true (.int .u32)) .nil) .str x = s_l04Bytes k x := by kernel_rfl
theorem e_s_l04Bytes [Names] (k : Nat) : EntryOk Tryz.prog ⟨279, 0, (.cons (.il true (.int .u32)) .nil), .str, s_l04Bytes k⟩ := entry_ok tok (by simp) (by kernel_rfl) (fn := Tryz.f279) (k := k) (es := []) (loops := [(0, ⟨[0, 3, 4], (.cons (.il true (.int .u32)) (.cons (.own false 5 (.int .u8)) yP2))⟩, ⟨[3], (.cons (.own false 5 (.int .u8)) .nil)⟩)]) (by kernel_rfl) (by kernel_rfl) (fun x r h => (t_s_l04Bytes k x).trans h)
def s_HashEnd (k : Nat) (x : (ByteArray × ByteArray × Int × Unit) × Unit) : Option (ByteArray × Unit × Unit) :=
((s_HasherOk k ((x.1.1, (x.1.2.1, (x.1.2.2.1, ()))), ())).bind fun p1 =>
(if (!p1.1) = true then
some ((⟨#[]⟩ : ByteArray), ((), ()))
else
(if ByteArray.size x.1.2.1 ≤ maxStr then
(if List.length (bytesOf x.1.2.1) + List.length ([(128 : Int)] : List (Int)) ≤ capMax then
(whileK (fun (rec0 : ((ByteArray × ByteArray × Int × Unit) × List (Int) × Unit) → Option _) (y0 : (ByteArray × ByteArray × Int × Unit) × List (Int) × Unit) =>
(if (!decide ((Int.tmod (List.length y0.2.1 : Int) (64 : Int)) = (56 : Int))) = true then
(if List.length y0.2.1 + List.length ([(0 : Int)] : List (Int)) ≤ capMax then
(rec0 ((y0.1.1, (y0.1.2.1, (y0.1.2.2.1, ()))), ((y0.2.1 ++ ([(0 : Int)] : List (Int))), ())))
else none)
else
((fun (z1 : (ByteArray × ByteArray × Int × Unit) × List (Int) × Unit) =>
(whileK (fun (rec2 : ((ByteArray × ByteArray × Int × Unit) × List (Int) × Int × Int × Unit) → Option _) (y2 : (ByteArray × ByteArray × Int × Unit) × List (Int) × Int × Int × Unit) =>
(if (decide ((0 : Int) ≤ y2.2.2.2.1)) = true then
(whileK (fun (rec4 : ((ByteArray × ByteArray × Int × Unit) × List (Int) × Int × Int × Int × Int × Unit) → Option _) (y4 : (ByteArray × ByteArray × Int × Unit) × List (Int) × Int × Int × Int × Int × Unit) =>
(if (decide (y4.2.2.2.2.2.1 < y4.2.2.2.1)) = true then
(rec4 ((y4.1.1, (y4.1.2.1, (y4.1.2.2.1, ()))), (y4.2.1, (y4.2.2.1, (y4.2.2.2.1, ((wi64 (Int.tdiv y4.2.2.2.2.1 (256 : Int))), ((wi64 (y4.2.2.2.2.2.1 + (1 : Int))), ())))))))
else
((fun (z2 : (ByteArray × ByteArray × Int × Unit) × List (Int) × Int × Int × Int × Unit) =>
(if List.length z2.2.1 + List.length ([(wu8 ((Int.tmod z2.2.2.2.2.1 (256 : Int))))] : List (Int)) ≤ capMax then
(rec2 ((z2.1.1, (z2.1.2.1, (z2.1.2.2.1, ()))), ((z2.2.1 ++ ([(wu8 ((Int.tmod z2.2.2.2.2.1 (256 : Int))))] : List (Int))), (z2.2.2.1, ((wi64 (z2.2.2.2.1 - (1 : Int))), ())))))
else none)) ((y4.1.1, (y4.1.2.1, (y4.1.2.2.1, ()))), (y4.2.1, (y4.2.2.1, (y4.2.2.2.1, (y4.2.2.2.2.1, ())))))))) k ((y2.1.1, (y2.1.2.1, (y2.1.2.2.1, ()))), (y2.2.1, (y2.2.2.1, (y2.2.2.2.1, (y2.2.2.1, ((0 : Int), ())))))))
else
((fun (z3 : (ByteArray × ByteArray × Int × Unit) × List (Int) × Unit) =>
((s_l04Words k (z3.1.1, ())).bind fun p2 =>
((s_l04K k ()).bind fun p3 =>
(whileK (fun (rec6 : (List (Int) × List (Int) × List (Int) × Int × Unit) → Option _) (y6 : List (Int) × List (Int) × List (Int) × Int × Unit) =>
(if (decide (y6.2.2.2.1 < (List.length y6.1 : Int))) = true then
(if 0 ≤ (wi64 (y6.2.2.2.1 + (64 : Int))) ∧ (wi64 (y6.2.2.2.1 + (64 : Int))) ≤ (List.length y6.1 : Int) then
(if 0 ≤ y6.2.2.2.1 ∧ y6.2.2.2.1 ≤ (wi64 (y6.2.2.2.1 + (64 : Int))) then
((s_l04Round k (y6.2.1, (y6.2.2.1, ((strOf (List.drop (Int.toNat y6.2.2.2.1) (List.take (Int.toNat (wi64 (y6.2.2.2.1 + (64 : Int)))) y6.1))), ())))).bind fun p4 =>
(rec6 (y6.1, (p4.1, (y6.2.2.1, ((wi64 (y6.2.2.2.1 + (64 : Int))), ()))))))
else none)
else none)
else
((fun (z4 : List (Int) × Unit) =>
((s_l04Bytes k (z4.1, ())).bind fun p5 =>
some (p5.1, ((), ())))) (y6.2.1, ())))) k (z3.2.1, (p2.1, (p3.1, ((0 : Int), ())))))))) ((y2.1.1, (y2.1.2.1, (y2.1.2.2.1, ()))), (y2.2.1, ()))))) k ((z1.1.1, (z1.1.2.1, (z1.1.2.2.1, ()))), (z1.2.1, ((wi64 ((8 : Int) * z1.1.2.2.1)), ((7 : Int), ())))))) ((y0.1.1, (y0.1.2.1, (y0.1.2.2.1, ()))), (y0.2.1, ()))))) k ((x.1.1, (x.1.2.1, (x.1.2.2.1, ()))), (((bytesOf x.1.2.1) ++ ([(128 : Int)] : List (Int))), ())))
else none)
else none)))
theorem t_s_HashEnd (k : Nat) (x) : evF TTab k [⟨275, 0, (.cons (.agg yP26) .nil), .bool, s_HasherOk k⟩, ⟨276, 0, (.cons .str .nil), yP20, s_l04Words k⟩, ⟨277, 0, .nil, yP20, s_l04K k⟩, ⟨278, 0, (.cons (.il true (.int .u32)) (.cons (.il true (.int .u32)) (.cons .str .nil))), yP20, s_l04Round k⟩, ⟨279, 0, (.cons (.il true (.int .u32)) .nil), .str, s_l04Bytes k⟩] [(0, ⟨[1, 3], (.cons (.ptr 0 yP26) (.cons (.own true 5 (.int .u8)) .nil))⟩, ⟨[1, 3], (.cons (.ptr 0 yP26) (.cons (.own true 5 (.int .u8)) .nil))⟩), (2, ⟨[1, 3, 4, 5], (.cons (.ptr 0 yP26) (.cons (.own true 5 (.int .u8)) (.cons (.int .i64) yP2)))⟩, ⟨[1, 3], (.cons (.ptr 0 yP26) (.cons (.own true 5 (.int .u8)) .nil))⟩), (4, ⟨[1, 3, 4, 5, 6, 7], (.cons (.ptr 0 yP26) (.cons (.own true 5 (.int .u8)) (.cons (.int .i64) yP12)))⟩, ⟨[1, 3, 4, 5, 6], (.cons (.ptr 0 yP26) (.cons (.own true 5 (.int .u8)) yP12))⟩), (6, ⟨[3, 8, 9, 10], (.cons (.own true 5 (.int .u8)) (.cons yP20 (.cons yP20 yP2)))⟩, ⟨[8], (.cons yP20 .nil)⟩)] Tryz.f208 (.cons (.agg yP26) .nil) .str x = s_HashEnd k x := by kernel_rfl
theorem e_s_HashEnd [Names] (k : Nat) : EntryOk Tryz.prog ⟨208, 0, (.cons (.agg yP26) .nil), .str, s_HashEnd k⟩ := entry_ok tok (by intro e he; simp only [List.mem_cons, List.not_mem_nil, or_false] at he; rcases he with rfl | rfl | rfl | rfl | rfl <;> first | exact e_s_HasherOk k | exact e_s_l04Words k | exact e_s_l04K k | exact e_s_l04Round k | exact e_s_l04Bytes k) (by kernel_rfl) (fn := Tryz.f208) (k := k) (es := [⟨275, 0, (.cons (.agg yP26) .nil), .bool, s_HasherOk k⟩, ⟨276, 0, (.cons .str .nil), yP20, s_l04Words k⟩, ⟨277, 0, .nil, yP20, s_l04K k⟩, ⟨278, 0, (.cons (.il true (.int .u32)) (.cons (.il true (.int .u32)) (.cons .str .nil))), yP20, s_l04Round k⟩, ⟨279, 0, (.cons (.il true (.int .u32)) .nil), .str, s_l04Bytes k⟩]) (loops := [(0, ⟨[1, 3], (.cons (.ptr 0 yP26) (.cons (.own true 5 (.int .u8)) .nil))⟩, ⟨[1, 3], (.cons (.ptr 0 yP26) (.cons (.own true 5 (.int .u8)) .nil))⟩), (2, ⟨[1, 3, 4, 5], (.cons (.ptr 0 yP26) (.cons (.own true 5 (.int .u8)) (.cons (.int .i64) yP2)))⟩, ⟨[1, 3], (.cons (.ptr 0 yP26) (.cons (.own true 5 (.int .u8)) .nil))⟩), (4, ⟨[1, 3, 4, 5, 6, 7], (.cons (.ptr 0 yP26) (.cons (.own true 5 (.int .u8)) (.cons (.int .i64) yP12)))⟩, ⟨[1, 3, 4, 5, 6], (.cons (.ptr 0 yP26) (.cons (.own true 5 (.int .u8)) yP12))⟩), (6, ⟨[3, 8, 9, 10], (.cons (.own true 5 (.int .u8)) (.cons yP20 (.cons yP20 yP2)))⟩, ⟨[8], (.cons yP20 .nil)⟩)]) (by kernel_rfl) (by kernel_rfl) (fun x r h => (t_s_HashEnd k x).trans h)
def s_HashMore (k : Nat) (x : (ByteArray × ByteArray × Int × Unit) × ByteArray × Unit) : Option ((ByteArray × ByteArray × Int × Unit) × Unit × Unit × Unit) :=
((s_HasherOk k ((x.1.1, (x.1.2.1, (x.1.2.2.1, ()))), ())).bind fun p1 =>
(if (!p1.1) = false then
(if (decide ((1000000000 : Int) < (wi64 (x.1.2.2.1 + (ByteArray.size x.2.1 : Int))))) = true then
some ((x.1.1, (x.1.2.1, (x.1.2.2.1, ()))), ((), ((), ())))
else
((s_l04Words k (x.1.1, ())).bind fun p2 =>
((s_l04K k ()).bind fun p3 =>
(if ByteArray.size x.1.2.1 + ByteArray.size x.2.1 ≤ maxStr then
(whileK (fun (rec0 : (ByteArray × (ByteArray × ByteArray × Int × Unit) × (ByteArray × ByteArray × Int × Unit) × List (Int) × List (Int) × ByteArray × Int × Unit) → Option _) (y0 : ByteArray × (ByteArray × ByteArray × Int × Unit) × (ByteArray × ByteArray × Int × Unit) × List (Int) × List (Int) × ByteArray × Int × Unit) =>
(if (decide ((wi64 (y0.2.2.2.2.2.2.1 + (64 : Int))) ≤ (ByteArray.size y0.2.2.2.2.2.1 : Int))) = true then
(if 0 ≤ (wi64 (y0.2.2.2.2.2.2.1 + (64 : Int))) ∧ (wi64 (y0.2.2.2.2.2.2.1 + (64 : Int))) ≤ (ByteArray.size y0.2.2.2.2.2.1 : Int) then
(if 0 ≤ y0.2.2.2.2.2.2.1 ∧ y0.2.2.2.2.2.2.1 ≤ (wi64 (y0.2.2.2.2.2.2.1 + (64 : Int))) then
((s_l04Round k (y0.2.2.2.1, (y0.2.2.2.2.1, ((ByteArray.extract y0.2.2.2.2.2.1 (Int.toNat y0.2.2.2.2.2.2.1) (Int.toNat (wi64 (y0.2.2.2.2.2.2.1 + (64 : Int))))), ())))).bind fun p4 =>
(rec0 (y0.1, ((y0.2.1.1, (y0.2.1.2.1, (y0.2.1.2.2.1, ()))), ((y0.2.2.1.1, (y0.2.2.1.2.1, (y0.2.2.1.2.2.1, ()))), (p4.1, (y0.2.2.2.2.1, (y0.2.2.2.2.2.1, ((wi64 (y0.2.2.2.2.2.2.1 + (64 : Int))), ())))))))))
else none)
else none)
else
((fun (z1 : ByteArray × (ByteArray × ByteArray × Int × Unit) × (ByteArray × ByteArray × Int × Unit) × List (Int) × ByteArray × Int × Unit) =>
((s_l04Bytes k (z1.2.2.2.1, ())).bind fun p5 =>
(if 0 ≤ z1.2.2.2.2.2.1 ∧ z1.2.2.2.2.2.1 ≤ (ByteArray.size z1.2.2.2.2.1 : Int) then
some ((p5.1, ((ByteArray.extract z1.2.2.2.2.1 (Int.toNat z1.2.2.2.2.2.1) (Int.toNat (ByteArray.size z1.2.2.2.2.1 : Int))), ((wi64 (z1.2.1.2.2.1 + (ByteArray.size z1.1 : Int))), ()))), ((), ((), ())))
else none))) (y0.1, ((y0.2.1.1, (y0.2.1.2.1, (y0.2.1.2.2.1, ()))), ((y0.2.2.1.1, (y0.2.2.1.2.1, (y0.2.2.1.2.2.1, ()))), (y0.2.2.2.1, (y0.2.2.2.2.2.1, (y0.2.2.2.2.2.2.1, ()))))))))) k (x.2.1, ((x.1.1, (x.1.2.1, (x.1.2.2.1, ()))), (((⟨#[]⟩ : ByteArray), ((⟨#[]⟩ : ByteArray), ((0 : Int), ()))), (p2.1, (p3.1, ((x.1.2.1 ++ x.2.1), ((0 : Int), ()))))))))
else none))))
else
some ((x.1.1, (x.1.2.1, (x.1.2.2.1, ()))), ((), ((), ())))))
theorem t_s_HashMore (k : Nat) (x) : evF TTab k [⟨275, 0, (.cons (.agg yP26) .nil), .bool, s_HasherOk k⟩, ⟨276, 0, (.cons .str .nil), yP20, s_l04Words k⟩, ⟨277, 0, .nil, yP20, s_l04K k⟩, ⟨278, 0, (.cons (.il true (.int .u32)) (.cons (.il true (.int .u32)) (.cons .str .nil))), yP20, s_l04Round k⟩, ⟨279, 0, (.cons (.il true (.int .u32)) .nil), .str, s_l04Bytes k⟩] [(0, ⟨[1, 2, 4, 5, 6, 7, 8], (.cons .str (.cons (.ptr 0 yP26) (.cons (.ptr 0 yP26) (.cons yP20 (.cons yP20 (.cons .str yP2))))))⟩, ⟨[1, 2, 4, 5, 7, 8], (.cons .str (.cons (.ptr 0 yP26) (.cons (.ptr 0 yP26) (.cons yP20 (.cons .str yP2)))))⟩)] Tryz.f209 (.cons (.agg yP26) (.cons .str .nil)) (.agg yP26) x = s_HashMore k x := by kernel_rfl
theorem e_s_HashMore [Names] (k : Nat) : EntryOk Tryz.prog ⟨209, 0, (.cons (.agg yP26) (.cons .str .nil)), (.agg yP26), s_HashMore k⟩ := entry_ok tok (by intro e he; simp only [List.mem_cons, List.not_mem_nil, or_false] at he; rcases he with rfl | rfl | rfl | rfl | rfl <;> first | exact e_s_HasherOk k | exact e_s_l04Words k | exact e_s_l04K k | exact e_s_l04Round k | exact e_s_l04Bytes k) (by kernel_rfl) (fn := Tryz.f209) (k := k) (es := [⟨275, 0, (.cons (.agg yP26) .nil), .bool, s_HasherOk k⟩, ⟨276, 0, (.cons .str .nil), yP20, s_l04Words k⟩, ⟨277, 0, .nil, yP20, s_l04K k⟩, ⟨278, 0, (.cons (.il true (.int .u32)) (.cons (.il true (.int .u32)) (.cons .str .nil))), yP20, s_l04Round k⟩, ⟨279, 0, (.cons (.il true (.int .u32)) .nil), .str, s_l04Bytes k⟩]) (loops := [(0, ⟨[1, 2, 4, 5, 6, 7, 8], (.cons .str (.cons (.ptr 0 yP26) (.cons (.ptr 0 yP26) (.cons yP20 (.cons yP20 (.cons .str yP2))))))⟩, ⟨[1, 2, 4, 5, 7, 8], (.cons .str (.cons (.ptr 0 yP26) (.cons (.ptr 0 yP26) (.cons yP20 (.cons .str yP2)))))⟩)]) (by kernel_rfl) (by kernel_rfl) (fun x r h => (t_s_HashMore k x).trans h)
def s_l04First (k : Nat) (x : Unit) : Option (List (Int) × Unit) :=
some (([(1779033703 : Int), (3144134277 : Int), (1013904242 : Int), (2773480762 : Int), (1359893119 : Int), (2600822924 : Int), (528734635 : Int), (1541459225 : Int)] : List (Int)), ())
theorem t_s_l04First (k : Nat) (x) : evF TTab k [] [] Tryz.f280 .nil yP20 x = s_l04First k x := by kernel_rfl
theorem e_s_l04First [Names] (k : Nat) : EntryOk Tryz.prog ⟨280, 0, .nil, yP20, s_l04First k⟩ := entry_ok tok (by simp) (by kernel_rfl) (fn := Tryz.f280) (k := k) (es := []) (loops := []) (by kernel_rfl) (by kernel_rfl) (fun x r h => (t_s_l04First k x).trans h)
def s_HasherNew (k : Nat) (x : Unit) : Option ((ByteArray × ByteArray × Int × Unit) × Unit) :=
((s_l04First k ()).bind fun p1 =>
((s_l04Bytes k (p1.1, ())).bind fun p2 =>
some ((p2.1, ((⟨#[]⟩ : ByteArray), ((0 : Int), ()))), ())))
theorem t_s_HasherNew (k : Nat) (x) : evF TTab k [⟨279, 0, (.cons (.il true (.int .u32)) .nil), .str, s_l04Bytes k⟩, ⟨280, 0, .nil, yP20, s_l04First k⟩] [] Tryz.f210 .nil (.agg yP26) x = s_HasherNew k x := by kernel_rfl
theorem e_s_HasherNew [Names] (k : Nat) : EntryOk Tryz.prog ⟨210, 0, .nil, (.agg yP26), s_HasherNew k⟩ := entry_ok tok (by intro e he; simp only [List.mem_cons, List.not_mem_nil, or_false] at he; rcases he with rfl | rfl <;> first | exact e_s_l04Bytes k | exact e_s_l04First k) (by kernel_rfl) (fn := Tryz.f210) (k := k) (es := [⟨279, 0, (.cons (.il true (.int .u32)) .nil), .str, s_l04Bytes k⟩, ⟨280, 0, .nil, yP20, s_l04First k⟩]) (loops := []) (by kernel_rfl) (by kernel_rfl) (fun x r h => (t_s_HasherNew k x).trans h)
def s_DigestOf (k : Nat) (x : ByteArray × Unit) : Option (ByteArray × Unit × Unit) :=
((s_HasherNew k ()).bind fun p1 =>
((s_HashMore k ((p1.1.1, (p1.1.2.1, (p1.1.2.2.1, ()))), (x.1, ()))).bind fun p2 =>
((s_HashEnd k ((p2.1.1, (p2.1.2.1, (p2.1.2.2.1, ()))), ())).bind fun p3 =>
some (p3.1, ((), ())))))
theorem t_s_DigestOf (k : Nat) (x) : evF TTab k [⟨208, 0, (.cons (.agg yP26) .nil), .str, s_HashEnd k⟩, ⟨209, 0, (.cons (.agg yP26) (.cons .str .nil)), (.agg yP26), s_HashMore k⟩, ⟨210, 0, .nil, (.agg yP26), s_HasherNew k⟩] [] Tryz.f122 (.cons .str .nil) .str x = s_DigestOf k x := by kernel_rfl
theorem e_s_DigestOf [Names] (k : Nat) : EntryOk Tryz.prog ⟨122, 0, (.cons .str .nil), .str, s_DigestOf k⟩ := entry_ok tok (by intro e he; simp only [List.mem_cons, List.not_mem_nil, or_false] at he; rcases he with rfl | rfl | rfl <;> first | exact e_s_HashEnd k | exact e_s_HashMore k | exact e_s_HasherNew k) (by kernel_rfl) (fn := Tryz.f122) (k := k) (es := [⟨208, 0, (.cons (.agg yP26) .nil), .str, s_HashEnd k⟩, ⟨209, 0, (.cons (.agg yP26) (.cons .str .nil)), (.agg yP26), s_HashMore k⟩, ⟨210, 0, .nil, (.agg yP26), s_HasherNew k⟩]) (loops := []) (by kernel_rfl) (by kernel_rfl) (fun x r h => (t_s_DigestOf k x).trans h)
def s_l17CopySlot (k : Nat) (x : (Int × ByteArray × ByteArray × Int × List (Int) × Int × Unit) × Unit) : Option ((Int × ByteArray × ByteArray × Int × List (Int) × Int × Unit) × Unit × Unit) :=
(if List.length ([] : List (Int)) + List.length x.1.2.2.2.2.1 ≤ capMax then
some ((x.1.1, (x.1.2.1, (x.1.2.2.1, (x.1.2.2.2.1, ((([] : List (Int)) ++ x.1.2.2.2.2.1), (x.1.2.2.2.2.2.1, ())))))), ((), ()))
else none)
theorem t_s_l17CopySlot (k : Nat) (x) : evF TTab k [] [] Tryz.f247 yP15 (.agg (.cons (.int .i64) (.cons .str (.cons .str (.cons (.int .i64) (.cons yP17 yP2)))))) x = s_l17CopySlot k x := by kernel_rfl
theorem e_s_l17CopySlot [Names] (k : Nat) : EntryOk Tryz.prog ⟨247, 0, yP15, (.agg (.cons (.int .i64) (.cons .str (.cons .str (.cons (.int .i64) (.cons yP17 yP2)))))), s_l17CopySlot k⟩ := entry_ok tok (by simp) (by kernel_rfl) (fn := Tryz.f247) (k := k) (es := []) (loops := []) (by kernel_rfl) (by kernel_rfl) (fun x r h => (t_s_l17CopySlot k x).trans h)
def s_l17Copy (k : Nat) (x : (Int × ByteArray × ByteArray × Int × List (Int) × Int × Int × ByteArray × ByteArray × Int × List (Int) × Int × Unit) × Unit) : Option ((Int × ByteArray × ByteArray × Int × List (Int) × Int × Int × ByteArray × ByteArray × Int × List (Int) × Int × Unit) × Unit × Unit) :=
((s_l17CopySlot k ((x.1.1, (x.1.2.1, (x.1.2.2.1, (x.1.2.2.2.1, (x.1.2.2.2.2.1, (x.1.2.2.2.2.2.1, ())))))), ())).bind fun p1 =>
((s_l17CopySlot k ((x.1.2.2.2.2.2.2.1, (x.1.2.2.2.2.2.2.2.1, (x.1.2.2.2.2.2.2.2.2.1, (x.1.2.2.2.2.2.2.2.2.2.1, (x.1.2.2.2.2.2.2.2.2.2.2.1, (x.1.2.2.2.2.2.2.2.2.2.2.2.1, ())))))), ())).bind fun p2 =>
some ((p1.1.1, (p1.1.2.1, (p1.1.2.2.1, (p1.1.2.2.2.1, (p1.1.2.2.2.2.1, (p1.1.2.2.2.2.2.1, (p2.1.1, (p2.1.2.1, (p2.1.2.2.1, (p2.1.2.2.2.1, (p2.1.2.2.2.2.1, (p2.1.2.2.2.2.2.1, ())))))))))))), ((), ()))))
theorem t_s_l17Copy (k : Nat) (x) : evF TTab k [⟨247, 0, yP15, (.agg (.cons (.int .i64) (.cons .str (.cons .str (.cons (.int .i64) (.cons yP17 yP2)))))), s_l17CopySlot k⟩] [] Tryz.f170 (.cons yP6 .nil) (.agg yP5) x = s_l17Copy k x := by kernel_rfl
theorem e_s_l17Copy [Names] (k : Nat) : EntryOk Tryz.prog ⟨170, 0, (.cons yP6 .nil), (.agg yP5), s_l17Copy k⟩ := entry_ok tok (by intro e he; simp only [List.mem_cons, List.not_mem_nil, or_false] at he; rcases he with rfl <;> first | exact e_s_l17CopySlot k) (by kernel_rfl) (fn := Tryz.f170) (k := k) (es := [⟨247, 0, yP15, (.agg (.cons (.int .i64) (.cons .str (.cons .str (.cons (.int .i64) (.cons yP17 yP2)))))), s_l17CopySlot k⟩]) (loops := []) (by kernel_rfl) (by kernel_rfl) (fun x r h => (t_s_l17Copy k x).trans h)
def s_l17None (k : Nat) (x : (Int × ByteArray × ByteArray × Int × List (Int) × Int × Unit) × Unit) : Option (Bool × Unit × Unit) :=
(if (decide (x.1.1 = (0 : Int))) = true then
(if (decide (x.1.2.1 = (⟨#[]⟩ : ByteArray))) = true then
(if (decide (x.1.2.2.1 = (⟨#[]⟩ : ByteArray))) = true then
(if (decide (x.1.2.2.2.1 = (0 : Int))) = true then
(if (decide ((List.length x.1.2.2.2.2.1 : Int) = (0 : Int))) = true then
some ((decide (x.1.2.2.2.2.2.1 = (0 : Int))), ((), ()))
else
some (false, ((), ())))
else
some (false, ((), ())))
else
some (false, ((), ())))
else
some (false, ((), ())))
else
some (false, ((), ())))
theorem t_s_l17None (k : Nat) (x) : evF TTab k [] [] Tryz.f193 yP15 .bool x = s_l17None k x := by kernel_rfl
theorem e_s_l17None [Names] (k : Nat) : EntryOk Tryz.prog ⟨193, 0, yP15, .bool, s_l17None k⟩ := entry_ok tok (by simp) (by kernel_rfl) (fn := Tryz.f193) (k := k) (es := []) (loops := []) (by kernel_rfl) (by kernel_rfl) (fun x r h => (t_s_l17None k x).trans h)
def s_SeenOk (k : Nat) (x : List (Int) × Unit) : Option (Bool × Unit × Unit) :=
(whileK (fun (rec0 : (List (Int) × Int × Unit) → Option _) (y0 : List (Int) × Int × Unit) =>
(if (decide (y0.2.1 < (List.length y0.1 : Int))) = true then
(if 0 ≤ y0.2.1 ∧ y0.2.1 < (List.length y0.1 : Int) then
((s_l01In k ((Ty.rd (t := (.int .i64)) y0.1 y0.2.1), ((1 : Int), ((1000000000 : Int), ())))).bind fun p1 =>
(if (!p1.1) = false then
(if (decide ((0 : Int) < y0.2.1)) = true then
(if 0 ≤ (wi64 (y0.2.1 - (1 : Int))) ∧ (wi64 (y0.2.1 - (1 : Int))) < (List.length y0.1 : Int) then
(if 0 ≤ y0.2.1 ∧ y0.2.1 < (List.length y0.1 : Int) then
(if (decide ((Ty.rd (t := (.int .i64)) y0.1 (wi64 (y0.2.1 - (1 : Int)))) ≤ (Ty.rd (t := (.int .i64)) y0.1 y0.2.1))) = false then
(if 0 ≤ y0.2.1 ∧ y0.2.1 < (List.length y0.1 : Int) then
(if 0 ≤ (0 : Int) ∧ (0 : Int) < (List.length y0.1 : Int) then
(if (decide ((Ty.rd (t := (.int .i64)) y0.1 y0.2.1) ≤ (wi64 ((Ty.rd (t := (.int .i64)) y0.1 (0 : Int)) - (6 : Int))))) = true then
some (false, ((), ()))
else
(rec0 (y0.1, ((wi64 (y0.2.1 + (1 : Int))), ()))))
else none)
else none)
else
some (false, ((), ())))
else none)
else none)
else
(if 0 ≤ y0.2.1 ∧ y0.2.1 < (List.length y0.1 : Int) then
(if 0 ≤ (0 : Int) ∧ (0 : Int) < (List.length y0.1 : Int) then
(if (decide ((Ty.rd (t := (.int .i64)) y0.1 y0.2.1) ≤ (wi64 ((Ty.rd (t := (.int .i64)) y0.1 (0 : Int)) - (6 : Int))))) = true then
some (false, ((), ()))
else
(rec0 (y0.1, ((wi64 (y0.2.1 + (1 : Int))), ()))))
else none)
else none))
else
some (false, ((), ()))))
else none)
else
((fun (z1 : List (Int) × Unit) =>
some ((decide ((List.length z1.1 : Int) ≤ (6 : Int))), ((), ()))) (y0.1, ())))) k (x.1, ((0 : Int), ())))
theorem t_s_SeenOk (k : Nat) (x) : evF TTab k [⟨62, 0, yP12, .bool, s_l01In k⟩] [(0, ⟨[0, 3], yP31⟩, ⟨[0], yP29⟩)] Tryz.f290 yP29 .bool x = s_SeenOk k x := by kernel_rfl
theorem e_s_SeenOk [Names] (k : Nat) : EntryOk Tryz.prog ⟨290, 0, yP29, .bool, s_SeenOk k⟩ := entry_ok tok (by intro e he; simp only [List.mem_cons, List.not_mem_nil, or_false] at he; rcases he with rfl <;> first | exact e_s_l01In k) (by kernel_rfl) (fn := Tryz.f290) (k := k) (es := [⟨62, 0, yP12, .bool, s_l01In k⟩]) (loops := [(0, ⟨[0, 3], yP31⟩, ⟨[0], yP29⟩)]) (by kernel_rfl) (by kernel_rfl) (fun x r h => (t_s_SeenOk k x).trans h)
def s_SlotOk (k : Nat) (x : (Int × ByteArray × ByteArray × Int × List (Int) × Int × Unit) × Unit) : Option (Bool × Unit × Unit) :=
((s_l17None k ((x.1.1, (x.1.2.1, (x.1.2.2.1, (x.1.2.2.2.1, (x.1.2.2.2.2.1, (x.1.2.2.2.2.2.1, ())))))), ())).bind fun p1 =>
(if p1.1 = true then
some (true, ((), ()))
else
((s_l01In k (x.1.1, ((1 : Int), ((1000000000 : Int), ())))).bind fun p2 =>
(if p2.1 = true then
(if (decide ((ByteArray.size x.1.2.1 : Int) = (32 : Int))) = true then
(if (decide ((ByteArray.size x.1.2.2.1 : Int) = (32 : Int))) = true then
((s_l01In k (x.1.2.2.2.1, ((0 : Int), ((12 : Int), ())))).bind fun p3 =>
(if p3.1 = true then
((s_SeenOk k (x.1.2.2.2.2.1, ())).bind fun p4 =>
(if p4.1 = true then
((s_l01In k (x.1.2.2.2.2.2.1, ((0 : Int), ((1000000000 : Int), ())))).bind fun p5 =>
some (p5.1, ((), ())))
else
some (false, ((), ()))))
else
some (false, ((), ()))))
else
some (false, ((), ())))
else
some (false, ((), ())))
else
some (false, ((), ()))))))
theorem t_s_SlotOk (k : Nat) (x) : evF TTab k [⟨62, 0, yP12, .bool, s_l01In k⟩, ⟨193, 0, yP15, .bool, s_l17None k⟩, ⟨290, 0, yP29, .bool, s_SeenOk k⟩] [] Tryz.f249 yP15 .bool x = s_SlotOk k x := by kernel_rfl
theorem e_s_SlotOk [Names] (k : Nat) : EntryOk Tryz.prog ⟨249, 0, yP15, .bool, s_SlotOk k⟩ := entry_ok tok (by intro e he; simp only [List.mem_cons, List.not_mem_nil, or_false] at he; rcases he with rfl | rfl | rfl <;> first | exact e_s_l01In k | exact e_s_l17None k | exact e_s_SeenOk k) (by kernel_rfl) (fn := Tryz.f249) (k := k) (es := [⟨62, 0, yP12, .bool, s_l01In k⟩, ⟨193, 0, yP15, .bool, s_l17None k⟩, ⟨290, 0, yP29, .bool, s_SeenOk k⟩]) (loops := []) (by kernel_rfl) (by kernel_rfl) (fun x r h => (t_s_SlotOk k x).trans h)
def s_SlotsOk (k : Nat) (x : (Int × ByteArray × ByteArray × Int × List (Int) × Int × Int × ByteArray × ByteArray × Int × List (Int) × Int × Unit) × Unit) : Option (Bool × Unit × Unit) :=
((s_SlotOk k ((x.1.1, (x.1.2.1, (x.1.2.2.1, (x.1.2.2.2.1, (x.1.2.2.2.2.1, (x.1.2.2.2.2.2.1, ())))))), ())).bind fun p1 =>
(if (!p1.1) = false then
((s_SlotOk k ((x.1.2.2.2.2.2.2.1, (x.1.2.2.2.2.2.2.2.1, (x.1.2.2.2.2.2.2.2.2.1, (x.1.2.2.2.2.2.2.2.2.2.1, (x.1.2.2.2.2.2.2.2.2.2.2.1, (x.1.2.2.2.2.2.2.2.2.2.2.2.1, ())))))), ())).bind fun p2 =>
(if (!p2.1) = true then
some (false, ((), ()))
else
((s_l17None k ((x.1.2.2.2.2.2.2.1, (x.1.2.2.2.2.2.2.2.1, (x.1.2.2.2.2.2.2.2.2.1, (x.1.2.2.2.2.2.2.2.2.2.1, (x.1.2.2.2.2.2.2.2.2.2.2.1, (x.1.2.2.2.2.2.2.2.2.2.2.2.1, ())))))), ())).bind fun p3 =>
(if p3.1 = false then
some ((decide (x.1.2.2.2.2.2.2.1 < x.1.1)), ((), ()))
else
some (true, ((), ()))))))
else
some (false, ((), ()))))
theorem t_s_SlotsOk (k : Nat) (x) : evF TTab k [⟨193, 0, yP15, .bool, s_l17None k⟩, ⟨249, 0, yP15, .bool, s_SlotOk k⟩] [] Tryz.f175 (.cons yP6 .nil) .bool x = s_SlotsOk k x := by kernel_rfl
theorem e_s_SlotsOk [Names] (k : Nat) : EntryOk Tryz.prog ⟨175, 0, (.cons yP6 .nil), .bool, s_SlotsOk k⟩ := entry_ok tok (by intro e he; simp only [List.mem_cons, List.not_mem_nil, or_false] at he; rcases he with rfl | rfl <;> first | exact e_s_l17None k | exact e_s_SlotOk k) (by kernel_rfl) (fn := Tryz.f175) (k := k) (es := [⟨193, 0, yP15, .bool, s_l17None k⟩, ⟨249, 0, yP15, .bool, s_SlotOk k⟩]) (loops := []) (by kernel_rfl) (by kernel_rfl) (fun x r h => (t_s_SlotsOk k x).trans h)
def s_Install (k : Nat) (x : (Int × ByteArray × ByteArray × Int × List (Int) × Int × Int × ByteArray × ByteArray × Int × List (Int) × Int × Unit) × ByteArray × ByteArray × Int × Unit) : Option (((Int × ByteArray × ByteArray × Int × List (Int) × Int × Int × ByteArray × ByteArray × Int × List (Int) × Int × Unit) × Bool × Unit) × Unit × Unit × Unit × Unit × Unit) :=
((s_l17Copy k ((x.1.1, (x.1.2.1, (x.1.2.2.1, (x.1.2.2.2.1, (x.1.2.2.2.2.1, (x.1.2.2.2.2.2.1, (x.1.2.2.2.2.2.2.1, (x.1.2.2.2.2.2.2.2.1, (x.1.2.2.2.2.2.2.2.2.1, (x.1.2.2.2.2.2.2.2.2.2.1, (x.1.2.2.2.2.2.2.2.2.2.2.1, (x.1.2.2.2.2.2.2.2.2.2.2.2.1, ())))))))))))), ())).bind fun p1 =>
((s_SlotsOk k ((x.1.1, (x.1.2.1, (x.1.2.2.1, (x.1.2.2.2.1, (x.1.2.2.2.2.1, (x.1.2.2.2.2.2.1, (x.1.2.2.2.2.2.2.1, (x.1.2.2.2.2.2.2.2.1, (x.1.2.2.2.2.2.2.2.2.1, (x.1.2.2.2.2.2.2.2.2.2.1, (x.1.2.2.2.2.2.2.2.2.2.2.1, (x.1.2.2.2.2.2.2.2.2.2.2.2.1, ())))))))))))), ())).bind fun p2 =>
(if (!p2.1) = false then
(if (!decide ((ByteArray.size x.2.1 : Int) = (32 : Int))) = false then
(if (!decide ((ByteArray.size x.2.2.1 : Int) = (32 : Int))) = false then
((s_l01In k (x.2.2.2.1, ((0 : Int), ((999999990 : Int), ())))).bind fun p3 =>
(if (!p3.1) = false then
(if (decide (x.1.1 = (1000000000 : Int))) = true then
some (((p1.1.1, (p1.1.2.1, (p1.1.2.2.1, (p1.1.2.2.2.1, (p1.1.2.2.2.2.1, (p1.1.2.2.2.2.2.1, (p1.1.2.2.2.2.2.2.1, (p1.1.2.2.2.2.2.2.2.1, (p1.1.2.2.2.2.2.2.2.2.1, (p1.1.2.2.2.2.2.2.2.2.2.1, (p1.1.2.2.2.2.2.2.2.2.2.2.1, (p1.1.2.2.2.2.2.2.2.2.2.2.2.1, ())))))))))))), (false, ())), ((), ((), ((), ((), ())))))
else
((s_l17None k ((x.1.1, (x.1.2.1, (x.1.2.2.1, (x.1.2.2.2.1, (x.1.2.2.2.2.1, (x.1.2.2.2.2.2.1, ())))))), ())).bind fun p4 =>
(if (!p4.1) = true then
some ((((wi64 (x.1.1 + (1 : Int))), (x.2.1, (x.2.2.1, ((0 : Int), ([], ((0 : Int), (p1.1.1, (p1.1.2.1, (p1.1.2.2.1, (p1.1.2.2.2.1, (p1.1.2.2.2.2.1, ((wi64 (x.2.2.2.1 + (10 : Int))), ())))))))))))), (true, ())), ((), ((), ((), ((), ())))))
else
some ((((wi64 (x.1.1 + (1 : Int))), (x.2.1, (x.2.2.1, ((0 : Int), ([], ((0 : Int), (p1.1.1, (p1.1.2.1, (p1.1.2.2.1, (p1.1.2.2.2.1, (p1.1.2.2.2.2.1, (p1.1.2.2.2.2.2.1, ())))))))))))), (true, ())), ((), ((), ((), ((), ()))))))))
else
some (((p1.1.1, (p1.1.2.1, (p1.1.2.2.1, (p1.1.2.2.2.1, (p1.1.2.2.2.2.1, (p1.1.2.2.2.2.2.1, (p1.1.2.2.2.2.2.2.1, (p1.1.2.2.2.2.2.2.2.1, (p1.1.2.2.2.2.2.2.2.2.1, (p1.1.2.2.2.2.2.2.2.2.2.1, (p1.1.2.2.2.2.2.2.2.2.2.2.1, (p1.1.2.2.2.2.2.2.2.2.2.2.2.1, ())))))))))))), (false, ())), ((), ((), ((), ((), ())))))))
else
some (((p1.1.1, (p1.1.2.1, (p1.1.2.2.1, (p1.1.2.2.2.1, (p1.1.2.2.2.2.1, (p1.1.2.2.2.2.2.1, (p1.1.2.2.2.2.2.2.1, (p1.1.2.2.2.2.2.2.2.1, (p1.1.2.2.2.2.2.2.2.2.1, (p1.1.2.2.2.2.2.2.2.2.2.1, (p1.1.2.2.2.2.2.2.2.2.2.2.1, (p1.1.2.2.2.2.2.2.2.2.2.2.2.1, ())))))))))))), (false, ())), ((), ((), ((), ((), ()))))))
else
some (((p1.1.1, (p1.1.2.1, (p1.1.2.2.1, (p1.1.2.2.2.1, (p1.1.2.2.2.2.1, (p1.1.2.2.2.2.2.1, (p1.1.2.2.2.2.2.2.1, (p1.1.2.2.2.2.2.2.2.1, (p1.1.2.2.2.2.2.2.2.2.1, (p1.1.2.2.2.2.2.2.2.2.2.1, (p1.1.2.2.2.2.2.2.2.2.2.2.1, (p1.1.2.2.2.2.2.2.2.2.2.2.2.1, ())))))))))))), (false, ())), ((), ((), ((), ((), ()))))))
else
some (((p1.1.1, (p1.1.2.1, (p1.1.2.2.1, (p1.1.2.2.2.1, (p1.1.2.2.2.2.1, (p1.1.2.2.2.2.2.1, (p1.1.2.2.2.2.2.2.1, (p1.1.2.2.2.2.2.2.2.1, (p1.1.2.2.2.2.2.2.2.2.1, (p1.1.2.2.2.2.2.2.2.2.2.1, (p1.1.2.2.2.2.2.2.2.2.2.2.1, (p1.1.2.2.2.2.2.2.2.2.2.2.2.1, ())))))))))))), (false, ())), ((), ((), ((), ((), ()))))))))
theorem t_s_Install (k : Nat) (x) : evF TTab k [⟨62, 0, yP12, .bool, s_l01In k⟩, ⟨170, 0, (.cons yP6 .nil), (.agg yP5), s_l17Copy k⟩, ⟨175, 0, (.cons yP6 .nil), .bool, s_SlotsOk k⟩, ⟨193, 0, yP15, .bool, s_l17None k⟩] [] Tryz.f123 (.cons yP6 yP26) (.tup (.cons (.agg yP5) (.cons .bool .nil))) x = s_Install k x := by kernel_rfl
theorem e_s_Install [Names] (k : Nat) : EntryOk Tryz.prog ⟨123, 0, (.cons yP6 yP26), (.tup (.cons (.agg yP5) (.cons .bool .nil))), s_Install k⟩ := entry_ok tok (by intro e he; simp only [List.mem_cons, List.not_mem_nil, or_false] at he; rcases he with rfl | rfl | rfl | rfl <;> first | exact e_s_l01In k | exact e_s_l17Copy k | exact e_s_SlotsOk k | exact e_s_l17None k) (by kernel_rfl) (fn := Tryz.f123) (k := k) (es := [⟨62, 0, yP12, .bool, s_l01In k⟩, ⟨170, 0, (.cons yP6 .nil), (.agg yP5), s_l17Copy k⟩, ⟨175, 0, (.cons yP6 .nil), .bool, s_SlotsOk k⟩, ⟨193, 0, yP15, .bool, s_l17None k⟩]) (loops := []) (by kernel_rfl) (by kernel_rfl) (fun x r h => (t_s_Install k x).trans h)
def s_PairSlots (k : Nat) (x : ByteArray × Unit) : Option (((Int × ByteArray × ByteArray × Int × List (Int) × Int × Int × ByteArray × ByteArray × Int × List (Int) × Int × Unit) × (Int × ByteArray × ByteArray × Int × List (Int) × Int × Int × ByteArray × ByteArray × Int × List (Int) × Int × Unit) × Unit) × Unit × Unit) :=
(if ByteArray.size x.1 + ByteArray.size (⟨#[97]⟩ : ByteArray) ≤ maxStr then
((s_DigestOf k ((x.1 ++ (⟨#[97]⟩ : ByteArray)), ())).bind fun p1 =>
(if ByteArray.size x.1 + ByteArray.size (⟨#[98]⟩ : ByteArray) ≤ maxStr then
((s_DigestOf k ((x.1 ++ (⟨#[98]⟩ : ByteArray)), ())).bind fun p2 =>
((s_Install k (((0 : Int), ((⟨#[]⟩ : ByteArray), ((⟨#[]⟩ : ByteArray), ((0 : Int), ([], ((0 : Int), ((0 : Int), ((⟨#[]⟩ : ByteArray), ((⟨#[]⟩ : ByteArray), ((0 : Int), ([], ((0 : Int), ())))))))))))), (p1.1, (p2.1, ((0 : Int), ()))))).bind fun p3 =>
((s_Install k (((0 : Int), ((⟨#[]⟩ : ByteArray), ((⟨#[]⟩ : ByteArray), ((0 : Int), ([], ((0 : Int), ((0 : Int), ((⟨#[]⟩ : ByteArray), ((⟨#[]⟩ : ByteArray), ((0 : Int), ([], ((0 : Int), ())))))))))))), (p2.1, (p1.1, ((0 : Int), ()))))).bind fun p4 =>
some (((p3.1.1.1, (p3.1.1.2.1, (p3.1.1.2.2.1, (p3.1.1.2.2.2.1, (p3.1.1.2.2.2.2.1, (p3.1.1.2.2.2.2.2.1, (p3.1.1.2.2.2.2.2.2.1, (p3.1.1.2.2.2.2.2.2.2.1, (p3.1.1.2.2.2.2.2.2.2.2.1, (p3.1.1.2.2.2.2.2.2.2.2.2.1, (p3.1.1.2.2.2.2.2.2.2.2.2.2.1, (p3.1.1.2.2.2.2.2.2.2.2.2.2.2.1, ())))))))))))), ((p4.1.1.1, (p4.1.1.2.1, (p4.1.1.2.2.1, (p4.1.1.2.2.2.1, (p4.1.1.2.2.2.2.1, (p4.1.1.2.2.2.2.2.1, (p4.1.1.2.2.2.2.2.2.1, (p4.1.1.2.2.2.2.2.2.2.1, (p4.1.1.2.2.2.2.2.2.2.2.1, (p4.1.1.2.2.2.2.2.2.2.2.2.1, (p4.1.1.2.2.2.2.2.2.2.2.2.2.1, (p4.1.1.2.2.2.2.2.2.2.2.2.2.2.1, ())))))))))))), ())), ((), ())))))
else none))
else none)
theorem t_s_PairSlots (k : Nat) (x) : evF TTab k [⟨122, 0, (.cons .str .nil), .str, s_DigestOf k⟩, ⟨123, 0, (.cons yP6 yP26), (.tup (.cons (.agg yP5) (.cons .bool .nil))), s_Install k⟩] [] Tryz.f48 (.cons .str .nil) (.tup (.cons (.agg yP5) (.cons (.agg yP5) .nil))) x = s_PairSlots k x := by kernel_rfl
theorem e_s_PairSlots [Names] (k : Nat) : EntryOk Tryz.prog ⟨48, 0, (.cons .str .nil), (.tup (.cons (.agg yP5) (.cons (.agg yP5) .nil))), s_PairSlots k⟩ := entry_ok tok (by intro e he; simp only [List.mem_cons, List.not_mem_nil, or_false] at he; rcases he with rfl | rfl <;> first | exact e_s_DigestOf k | exact e_s_Install k) (by kernel_rfl) (fn := Tryz.f48) (k := k) (es := [⟨122, 0, (.cons .str .nil), .str, s_DigestOf k⟩, ⟨123, 0, (.cons yP6 yP26), (.tup (.cons (.agg yP5) (.cons .bool .nil))), s_Install k⟩]) (loops := []) (by kernel_rfl) (by kernel_rfl) (fun x r h => (t_s_PairSlots k x).trans h)
def s_l01Byte (k : Nat) (x : (List (Int) × Int × Int × Unit) × Unit) : Option (Int × (List (Int) × Int × Int × Unit) × Unit) :=
(if (decide (x.1.2.1 < (List.length x.1.1 : Int))) = true then
(if 0 ≤ x.1.2.1 ∧ x.1.2.1 < (List.length x.1.1 : Int) then
some ((bitsI .and .i64 (wi64 ((bitsI .and .i64 (bitsI .xor .i64 (Int.fdiv (wi64 ((wi64 (x.1.2.2.1 * (6364136223846793005 : Int))) + (1442695040888963407 : Int))) (2 ^ (min (Int.toNat (33 : Int)) (IntKind.bits .i64)))) (Int.fdiv (wi64 ((wi64 (x.1.2.2.1 * (6364136223846793005 : Int))) + (1442695040888963407 : Int))) (2 ^ (min (Int.toNat (45 : Int)) (IntKind.bits .i64))))) (255 : Int)) + (wi64 ((Ty.rd (t := (.int .u8)) x.1.1 x.1.2.1))))) (255 : Int)), ((x.1.1, ((wi64 (x.1.2.1 + (1 : Int))), ((wi64 ((wi64 (x.1.2.2.1 * (6364136223846793005 : Int))) + (1442695040888963407 : Int))), ()))), ()))
else none)
else
some ((bitsI .and .i64 (bitsI .xor .i64 (Int.fdiv (wi64 ((wi64 (x.1.2.2.1 * (6364136223846793005 : Int))) + (1442695040888963407 : Int))) (2 ^ (min (Int.toNat (33 : Int)) (IntKind.bits .i64)))) (Int.fdiv (wi64 ((wi64 (x.1.2.2.1 * (6364136223846793005 : Int))) + (1442695040888963407 : Int))) (2 ^ (min (Int.toNat (45 : Int)) (IntKind.bits .i64))))) (255 : Int)), ((x.1.1, (x.1.2.1, ((wi64 ((wi64 (x.1.2.2.1 * (6364136223846793005 : Int))) + (1442695040888963407 : Int))), ()))), ())))
theorem t_s_l01Byte (k : Nat) (x) : evF TTab k [] [] Tryz.f52 (.cons (.ptr 0 yP18) .nil) (.int .i64) x = s_l01Byte k x := by kernel_rfl
theorem e_s_l01Byte [Names] (k : Nat) : EntryOk Tryz.prog ⟨52, 0, (.cons (.ptr 0 yP18) .nil), (.int .i64), s_l01Byte k⟩ := entry_ok tok (by simp) (by kernel_rfl) (fn := Tryz.f52) (k := k) (es := []) (loops := []) (by kernel_rfl) (by kernel_rfl) (fun x r h => (t_s_l01Byte k x).trans h)
def s_l01Below (k : Nat) (x : (List (Int) × Int × Int × Unit) × Int × Unit) : Option (Int × (List (Int) × Int × Int × Unit) × Unit × Unit) :=
(if (decide (x.2.1 ≤ (0 : Int))) = true then
some ((0 : Int), ((x.1.1, (x.1.2.1, (x.1.2.2.1, ()))), ((), ())))
else
(if (decide (x.2.1 ≤ (256 : Int))) = true then
((s_l01Byte k ((x.1.1, (x.1.2.1, (x.1.2.2.1, ()))), ())).bind fun p1 =>
(if x.2.1 = 0 then
none
else
some ((Int.tmod p1.1 x.2.1), ((p1.2.1.1, (p1.2.1.2.1, (p1.2.1.2.2.1, ()))), ((), ())))))
else
((s_l01Byte k ((x.1.1, (x.1.2.1, (x.1.2.2.1, ()))), ())).bind fun p2 =>
((s_l01Byte k ((p2.2.1.1, (p2.2.1.2.1, (p2.2.1.2.2.1, ()))), ())).bind fun p3 =>
((s_l01Byte k ((p3.2.1.1, (p3.2.1.2.1, (p3.2.1.2.2.1, ()))), ())).bind fun p4 =>
((s_l01Byte k ((p4.2.1.1, (p4.2.1.2.1, (p4.2.1.2.2.1, ()))), ())).bind fun p5 =>
(if x.2.1 = 0 then
none
else
some ((Int.tmod (wi64 ((wi64 ((wi64 ((wi64 (p2.1 * (16777216 : Int))) + (wi64 (p3.1 * (65536 : Int))))) + (wi64 (p4.1 * (256 : Int))))) + p5.1)) x.2.1), ((p5.2.1.1, (p5.2.1.2.1, (p5.2.1.2.2.1, ()))), ((), ()))))))))))
theorem t_s_l01Below (k : Nat) (x) : evF TTab k [⟨52, 0, (.cons (.ptr 0 yP18) .nil), (.int .i64), s_l01Byte k⟩] [] Tryz.f53 (.cons (.ptr 0 yP18) yP2) (.int .i64) x = s_l01Below k x := by kernel_rfl
theorem e_s_l01Below [Names] (k : Nat) : EntryOk Tryz.prog ⟨53, 0, (.cons (.ptr 0 yP18) yP2), (.int .i64), s_l01Below k⟩ := entry_ok tok (by intro e he; simp only [List.mem_cons, List.not_mem_nil, or_false] at he; rcases he with rfl <;> first | exact e_s_l01Byte k) (by kernel_rfl) (fn := Tryz.f53) (k := k) (es := [⟨52, 0, (.cons (.ptr 0 yP18) .nil), (.int .i64), s_l01Byte k⟩]) (loops := []) (by kernel_rfl) (by kernel_rfl) (fun x r h => (t_s_l01Below k x).trans h)
def s_l01Text (k : Nat) (x : (List (Int) × Int × Int × Unit) × Int × Unit) : Option (ByteArray × (List (Int) × Int × Int × Unit) × Unit × Unit) :=
(jn (fun (j1v0 : Int) =>
(whileK (fun (rec0 : ((List (Int) × Int × Int × Unit) × Int × List (Int) × Int × Unit) → Option _) (y0 : (List (Int) × Int × Int × Unit) × Int × List (Int) × Int × Unit) =>
(if (decide (y0.2.2.2.1 < y0.2.1)) = true then
((s_l01Byte k ((y0.1.1, (y0.1.2.1, (y0.1.2.2.1, ()))), ())).bind fun p2 =>
(if List.length y0.2.2.1 + List.length ([(wu8 (p2.1))] : List (Int)) ≤ capMax then
(rec0 ((p2.2.1.1, (p2.2.1.2.1, (p2.2.1.2.2.1, ()))), (y0.2.1, ((y0.2.2.1 ++ ([(wu8 (p2.1))] : List (Int))), ((wi64 (y0.2.2.2.1 + (1 : Int))), ())))))
else none))
else
((fun (z2 : (List (Int) × Int × Int × Unit) × List (Int) × Unit) =>
some ((strOf z2.2.1), ((z2.1.1, (z2.1.2.1, (z2.1.2.2.1, ()))), ((), ())))) ((y0.1.1, (y0.1.2.1, (y0.1.2.2.1, ()))), (y0.2.2.1, ()))))) k ((x.1.1, (x.1.2.1, (x.1.2.2.1, ()))), (j1v0, (([] : List (Int)), ((0 : Int), ())))))) (fun (j1 : Int → Option _) =>
(if (decide ((5000 : Int) < x.2.1)) = true then
(j1 (5000 : Int))
else
(j1 x.2.1))))
theorem t_s_l01Text (k : Nat) (x) : evF TTab k [⟨52, 0, (.cons (.ptr 0 yP18) .nil), (.int .i64), s_l01Byte k⟩] [(0, ⟨[0, 1, 5, 6], (.cons (.ptr 0 yP18) (.cons (.int .i64) (.cons (.own false 5 (.int .u8)) yP2)))⟩, ⟨[0, 5], (.cons (.ptr 0 yP18) (.cons (.own false 5 (.int .u8)) .nil))⟩)] Tryz.f120 (.cons (.ptr 0 yP18) yP2) .str x = s_l01Text k x := by kernel_rfl
theorem e_s_l01Text [Names] (k : Nat) : EntryOk Tryz.prog ⟨120, 0, (.cons (.ptr 0 yP18) yP2), .str, s_l01Text k⟩ := entry_ok tok (by intro e he; simp only [List.mem_cons, List.not_mem_nil, or_false] at he; rcases he with rfl <;> first | exact e_s_l01Byte k) (by kernel_rfl) (fn := Tryz.f120) (k := k) (es := [⟨52, 0, (.cons (.ptr 0 yP18) .nil), (.int .i64), s_l01Byte k⟩]) (loops := [(0, ⟨[0, 1, 5, 6], (.cons (.ptr 0 yP18) (.cons (.int .i64) (.cons (.own false 5 (.int .u8)) yP2)))⟩, ⟨[0, 5], (.cons (.ptr 0 yP18) (.cons (.own false 5 (.int .u8)) .nil))⟩)]) (by kernel_rfl) (by kernel_rfl) (fun x r h => (t_s_l01Text k x).trans h)
def s_l01New (k : Nat) (x : List (Int) × Unit) : Option ((List (Int) × Int × Int × Unit) × Unit × Unit) :=
(whileK (fun (rec0 : (List (Int) × Int × Int × Unit) → Option _) (y0 : List (Int) × Int × Int × Unit) =>
(if (decide (y0.2.2.1 < (List.length y0.1 : Int))) = true then
(if (decide (y0.2.2.1 < (4000 : Int))) = true then
(if 0 ≤ y0.2.2.1 ∧ y0.2.2.1 < (List.length y0.1 : Int) then
(rec0 (y0.1, ((bitsI .and .i64 (wi64 ((wi64 ((wi64 (y0.2.1 * (131 : Int))) + (wi64 ((Ty.rd (t := (.int .u8)) y0.1 y0.2.2.1))))) + (7 : Int))) (1073741823 : Int)), ((wi64 (y0.2.2.1 + (1 : Int))), ()))))
else none)
else
((fun (z1 : List (Int) × Int × Unit) =>
some ((z1.1, ((0 : Int), (z1.2.1, ()))), ((), ()))) (y0.1, (y0.2.1, ()))))
else
((fun (z1 : List (Int) × Int × Unit) =>
some ((z1.1, ((0 : Int), (z1.2.1, ()))), ((), ()))) (y0.1, (y0.2.1, ()))))) k (x.1, ((wi64 ((36201 : Int) + (List.length x.1 : Int))), ((0 : Int), ()))))
theorem t_s_l01New (k : Nat) (x) : evF TTab k [] [(0, ⟨[0, 3, 4], yP18⟩, ⟨[0, 3], (.cons (.il true (.int .u8)) yP2)⟩)] Tryz.f51 (.cons (.il true (.int .u8)) .nil) (.ptr 0 yP18) x = s_l01New k x := by kernel_rfl
theorem e_s_l01New [Names] (k : Nat) : EntryOk Tryz.prog ⟨51, 0, (.cons (.il true (.int .u8)) .nil), (.ptr 0 yP18), s_l01New k⟩ := entry_ok tok (by simp) (by kernel_rfl) (fn := Tryz.f51) (k := k) (es := []) (loops := [(0, ⟨[0, 3, 4], yP18⟩, ⟨[0, 3], (.cons (.il true (.int .u8)) yP2)⟩)]) (by kernel_rfl) (by kernel_rfl) (fun x r h => (t_s_l01New k x).trans h)
def i_copyPool (k : Nat) (x : (Int × Int × (List (Int × Int × Int)) × (List (Int × Int)) × Unit) × Unit) : Option ((Int × Int × (List (Int × Int × Int)) × (List (Int × Int)) × Unit) × Unit × Unit) :=
(if List.length ([] : List (Int × Int × Int)) + List.length x.1.2.2.1 ≤ capMax then
(if List.length ([] : List (Int × Int)) + List.length x.1.2.2.2.1 ≤ capMax then
some ((x.1.1, (x.1.2.1, ((([] : List (Int × Int × Int)) ++ x.1.2.2.1), ((([] : List (Int × Int)) ++ x.1.2.2.2.1), ())))), ((), ()))
else none)
else none)
theorem t_i_copyPool (k : Nat) (x) : evF TTab k [] [] Tryz.f128 (.cons (.agg yP14) .nil) (.agg (.cons (.int .i64) (.cons (.int .i64) (.cons (.own false 135 (.pair (.int .i64) yT7)) (.cons (.own false 252 yT7) .nil))))) x = i_copyPool k x := by kernel_rfl
theorem e_i_copyPool [Names] (k : Nat) : EntryOk Tryz.prog ⟨128, 0, (.cons (.agg yP14) .nil), (.agg (.cons (.int .i64) (.cons (.int .i64) (.cons (.own false 135 (.pair (.int .i64) yT7)) (.cons (.own false 252 yT7) .nil))))), i_copyPool k⟩ := entry_ok tok (by simp) (by kernel_rfl) (fn := Tryz.f128) (k := k) (es := []) (loops := []) (by kernel_rfl) (by kernel_rfl) (fun x r h => (t_i_copyPool k x).trans h)
def i_copyRoutes (k : Nat) (x : (List ((Int × Int) × Int)) × Unit) : Option ((List ((Int × Int) × Int)) × Unit × Unit) :=
(if List.length ([] : List ((Int × Int) × Int)) + List.length x.1 ≤ capMax then
some ((([] : List ((Int × Int) × Int)) ++ x.1), ((), ()))
else none)
theorem t_i_copyRoutes (k : Nat) (x) : evF TTab k [] [] Tryz.f129 (.cons yP23 .nil) yP21 x = i_copyRoutes k x := by kernel_rfl
theorem e_i_copyRoutes [Names] (k : Nat) : EntryOk Tryz.prog ⟨129, 0, (.cons yP23 .nil), yP21, i_copyRoutes k⟩ := entry_ok tok (by simp) (by kernel_rfl) (fn := Tryz.f129) (k := k) (es := []) (loops := []) (by kernel_rfl) (by kernel_rfl) (fun x r h => (t_i_copyRoutes k x).trans h)
def i_copyInts (k : Nat) (x : List (Int) × Unit) : Option (List (Int) × Unit × Unit) :=
(if List.length ([] : List (Int)) + List.length x.1 ≤ capMax then
some ((([] : List (Int)) ++ x.1), ((), ()))
else none)
theorem t_i_copyInts (k : Nat) (x) : evF TTab k [] [] Tryz.f254 yP29 yP17 x = i_copyInts k x := by kernel_rfl
theorem e_i_copyInts [Names] (k : Nat) : EntryOk Tryz.prog ⟨254, 0, yP29, yP17, i_copyInts k⟩ := entry_ok tok (by simp) (by kernel_rfl) (fn := Tryz.f254) (k := k) (es := []) (loops := []) (by kernel_rfl) (by kernel_rfl) (fun x r h => (t_i_copyInts k x).trans h)
def i_copySlots (k : Nat) (x : (Int × ByteArray × ByteArray × Int × List (Int) × Int × Int × ByteArray × ByteArray × Int × List (Int) × Int × Unit) × Unit) : Option ((Int × ByteArray × ByteArray × Int × List (Int) × Int × Int × ByteArray × ByteArray × Int × List (Int) × Int × Unit) × Unit × Unit) :=
((i_copyInts k (x.1.2.2.2.2.1, ())).bind fun p1 =>
((i_copyInts k (x.1.2.2.2.2.2.2.2.2.2.2.1, ())).bind fun p2 =>
some ((x.1.1, (x.1.2.1, (x.1.2.2.1, (x.1.2.2.2.1, (p1.1, (x.1.2.2.2.2.2.1, (x.1.2.2.2.2.2.2.1, (x.1.2.2.2.2.2.2.2.1, (x.1.2.2.2.2.2.2.2.2.1, (x.1.2.2.2.2.2.2.2.2.2.1, (p2.1, (x.1.2.2.2.2.2.2.2.2.2.2.2.1, ())))))))))))), ((), ()))))
theorem t_i_copySlots (k : Nat) (x) : evF TTab k [⟨254, 0, yP29, yP17, i_copyInts k⟩] [] Tryz.f183 (.cons yP6 .nil) (.agg yP5) x = i_copySlots k x := by kernel_rfl
theorem e_i_copySlots [Names] (k : Nat) : EntryOk Tryz.prog ⟨183, 0, (.cons yP6 .nil), (.agg yP5), i_copySlots k⟩ := entry_ok tok (by intro e he; simp only [List.mem_cons, List.not_mem_nil, or_false] at he; rcases he with rfl <;> first | exact e_i_copyInts k) (by kernel_rfl) (fn := Tryz.f183) (k := k) (es := [⟨254, 0, yP29, yP17, i_copyInts k⟩]) (loops := []) (by kernel_rfl) (by kernel_rfl) (fun x r h => (t_i_copySlots k x).trans h)
def i_copyTexts (k : Nat) (x : List (ByteArray) × Unit) : Option (List (ByteArray) × Unit × Unit) :=
(if List.length ([] : List (ByteArray)) + List.length x.1 ≤ capMax then
some ((([] : List (ByteArray)) ++ x.1), ((), ()))
else none)
theorem t_i_copyTexts (k : Nat) (x) : evF TTab k [] [] Tryz.f255 (.cons (.il true .str) .nil) (.own false 9 .str) x = i_copyTexts k x := by kernel_rfl
theorem e_i_copyTexts [Names] (k : Nat) : EntryOk Tryz.prog ⟨255, 0, (.cons (.il true .str) .nil), (.own false 9 .str), i_copyTexts k⟩ := entry_ok tok (by simp) (by kernel_rfl) (fn := Tryz.f255) (k := k) (es := []) (loops := []) (by kernel_rfl) (by kernel_rfl) (fun x r h => (t_i_copyTexts k x).trans h)
def i_copyShelf (k : Nat) (x : ((List (Int × Int × Int × List (ByteArray) × List (Bool) × Int)) × Unit) × Unit) : Option (((List (Int × Int × Int × List (ByteArray) × List (Bool) × Int)) × Unit) × Unit × Unit) :=
(whileK (fun (rec0 : (((List (Int × Int × Int × List (ByteArray) × List (Bool) × Int)) × Unit) × ((List (Int × Int × Int × List (ByteArray) × List (Bool) × Int)) × Unit) × (List (Int × Int × Int × List (ByteArray) × List (Bool) × Int)) × Int × Int × Unit) → Option _) (y0 : ((List (Int × Int × Int × List (ByteArray) × List (Bool) × Int)) × Unit) × ((List (Int × Int × Int × List (ByteArray) × List (Bool) × Int)) × Unit) × (List (Int × Int × Int × List (ByteArray) × List (Bool) × Int)) × Int × Int × Unit) =>
(if (decide (y0.2.2.2.2.1 < y0.2.2.2.1)) = true then
(if 0 ≤ y0.2.2.2.2.1 ∧ y0.2.2.2.2.1 < (List.length y0.2.2.1 : Int) then
((i_copyTexts k ((Ty.rd (t := yT4) y0.2.2.1 y0.2.2.2.2.1).2.2.2.1, ())).bind fun p1 =>
(if List.length ([] : List (Bool)) + List.length (Ty.rd (t := yT4) y0.2.2.1 y0.2.2.2.2.1).2.2.2.2.1 ≤ capMax then
(if List.length y0.2.1.1 + List.length ([((Ty.rd (t := yT4) y0.2.2.1 y0.2.2.2.2.1).1, ((Ty.rd (t := yT4) y0.2.2.1 y0.2.2.2.2.1).2.1, ((Ty.rd (t := yT4) y0.2.2.1 y0.2.2.2.2.1).2.2.1, (p1.1, ((([] : List (Bool)) ++ (Ty.rd (t := yT4) y0.2.2.1 y0.2.2.2.2.1).2.2.2.2.1), (Ty.rd (t := yT4) y0.2.2.1 y0.2.2.2.2.1).2.2.2.2.2)))))] : List (Int × Int × Int × List (ByteArray) × List (Bool) × Int)) ≤ capMax then
(rec0 ((y0.1.1, ()), (((y0.2.1.1 ++ ([((Ty.rd (t := yT4) y0.2.2.1 y0.2.2.2.2.1).1, ((Ty.rd (t := yT4) y0.2.2.1 y0.2.2.2.2.1).2.1, ((Ty.rd (t := yT4) y0.2.2.1 y0.2.2.2.2.1).2.2.1, (p1.1, ((([] : List (Bool)) ++ (Ty.rd (t := yT4) y0.2.2.1 y0.2.2.2.2.1).2.2.2.2.1), (Ty.rd (t := yT4) y0.2.2.1 y0.2.2.2.2.1).2.2.2.2.2)))))] : List (Int × Int × Int × List (ByteArray) × List (Bool) × Int))), ()), (y0.2.2.1, (y0.2.2.2.1, ((wi64 (y0.2.2.2.2.1 + (1 : Int))), ()))))))
else none)
else none))
else none)
else
((fun (z1 : ((List (Int × Int × Int × List (ByteArray) × List (Bool) × Int)) × Unit) × ((List (Int × Int × Int × List (ByteArray) × List (Bool) × Int)) × Unit) × Unit) =>
some ((z1.2.1.1, ()), ((), ()))) ((y0.1.1, ()), ((y0.2.1.1, ()), ()))))) k (([], ()), (([], ()), (x.1.1, ((List.length x.1.1 : Int), ((0 : Int), ()))))))
theorem t_i_copyShelf (k : Nat) (x) : evF TTabO k [⟨255, 0, (.cons (.il true .str) .nil), (.own false 9 .str), i_copyTexts k⟩] [(0, ⟨[2, 3, 8, 9, 10], (.cons (.ptr 0 yP36) (.cons (.ptr 0 yP36) (.cons (.il true yT4) (.cons (.int .i64) yP2))))⟩, ⟨[2, 3], (.cons (.ptr 0 yP36) (.cons (.ptr 0 yP36) .nil))⟩)] Tryz.f184 (.cons yP34 .nil) (.agg yP36) x = i_copyShelf k x := by kernel_rfl
theorem e_i_copyShelf [Names] (k : Nat) : EntryOk Tryz.prog ⟨184, 0, (.cons yP34 .nil), (.agg yP36), i_copyShelf k⟩ := entry_ok tokO (by intro e he; simp only [List.mem_cons, List.not_mem_nil, or_false] at he; rcases he with rfl <;> first | exact e_i_copyTexts k) (by kernel_rfl) (fn := Tryz.f184) (k := k) (es := [⟨255, 0, (.cons (.il true .str) .nil), (.own false 9 .str), i_copyTexts k⟩]) (loops := [(0, ⟨[2, 3, 8, 9, 10], (.cons (.ptr 0 yP36) (.cons (.ptr 0 yP36) (.cons (.il true yT4) (.cons (.int .i64) yP2))))⟩, ⟨[2, 3], (.cons (.ptr 0 yP36) (.cons (.ptr 0 yP36) .nil))⟩)]) (by kernel_rfl) (by kernel_rfl) (fun x r h => (t_i_copyShelf k x).trans h)
def i_copyUser (k : Nat) (x : (Int × Int × Int × ByteArray × ByteArray × Int × List (Int) × Int × Int × ByteArray × ByteArray × Int × List (Int) × Int × (List (Int × Int × Int × List (ByteArray) × List (Bool) × Int)) × Int × Unit) × Unit) : Option ((Int × Int × Int × ByteArray × ByteArray × Int × List (Int) × Int × Int × ByteArray × ByteArray × Int × List (Int) × Int × (List (Int × Int × Int × List (ByteArray) × List (Bool) × Int)) × Int × Unit) × Unit × Unit) :=
((i_copySlots k ((x.1.2.2.1, (x.1.2.2.2.1, (x.1.2.2.2.2.1, (x.1.2.2.2.2.2.1, (x.1.2.2.2.2.2.2.1, (x.1.2.2.2.2.2.2.2.1, (x.1.2.2.2.2.2.2.2.2.1, (x.1.2.2.2.2.2.2.2.2.2.1, (x.1.2.2.2.2.2.2.2.2.2.2.1, (x.1.2.2.2.2.2.2.2.2.2.2.2.1, (x.1.2.2.2.2.2.2.2.2.2.2.2.2.1, (x.1.2.2.2.2.2.2.2.2.2.2.2.2.2.1, ())))))))))))), ())).bind fun p1 =>
((i_copyShelf k ((x.1.2.2.2.2.2.2.2.2.2.2.2.2.2.2.1, ()), ())).bind fun p2 =>
some ((x.1.1, (x.1.2.1, (p1.1.1, (p1.1.2.1, (p1.1.2.2.1, (p1.1.2.2.2.1, (p1.1.2.2.2.2.1, (p1.1.2.2.2.2.2.1, (p1.1.2.2.2.2.2.2.1, (p1.1.2.2.2.2.2.2.2.1, (p1.1.2.2.2.2.2.2.2.2.1, (p1.1.2.2.2.2.2.2.2.2.2.1, (p1.1.2.2.2.2.2.2.2.2.2.2.1, (p1.1.2.2.2.2.2.2.2.2.2.2.2.1, (p2.1.1, (x.1.2.2.2.2.2.2.2.2.2.2.2.2.2.2.2.1, ())))))))))))))))), ((), ()))))
theorem t_i_copyUser (k : Nat) (x) : evF TTabO k [⟨183, 0, (.cons yP6 .nil), (.agg yP5), i_copySlots k⟩, ⟨184, 0, (.cons yP34 .nil), (.agg yP36), i_copyShelf k⟩] [] Tryz.f100 (.cons (.agg yP9) .nil) (.agg yP3) x = i_copyUser k x := by kernel_rfl
theorem e_i_copyUser [Names] (k : Nat) : EntryOk Tryz.prog ⟨100, 0, (.cons (.agg yP9) .nil), (.agg yP3), i_copyUser k⟩ := entry_ok tokO (by intro e he; simp only [List.mem_cons, List.not_mem_nil, or_false] at he; rcases he with rfl | rfl <;> first | exact e_i_copySlots k | exact e_i_copyShelf k) (by kernel_rfl) (fn := Tryz.f100) (k := k) (es := [⟨183, 0, (.cons yP6 .nil), (.agg yP5), i_copySlots k⟩, ⟨184, 0, (.cons yP34 .nil), (.agg yP36), i_copyShelf k⟩]) (loops := []) (by kernel_rfl) (by kernel_rfl) (fun x r h => (t_i_copyUser k x).trans h)
def i_copyUsers (k : Nat) (x : (List (Int × Int × ((Int × ByteArray × ByteArray × Int × List (Int) × Int) × Int × ByteArray × ByteArray × Int × List (Int) × Int) × List (Int × Int × Int × List (ByteArray) × List (Bool) × Int) × Int)) × Unit) : Option ((List (Int × Int × ((Int × ByteArray × ByteArray × Int × List (Int) × Int) × Int × ByteArray × ByteArray × Int × List (Int) × Int) × List (Int × Int × Int × List (ByteArray) × List (Bool) × Int) × Int)) × Unit × Unit) :=
(whileK (fun (rec0 : ((List (Int × Int × ((Int × ByteArray × ByteArray × Int × List (Int) × Int) × Int × ByteArray × ByteArray × Int × List (Int) × Int) × List (Int × Int × Int × List (ByteArray) × List (Bool) × Int) × Int)) × (List (Int × Int × ((Int × ByteArray × ByteArray × Int × List (Int) × Int) × Int × ByteArray × ByteArray × Int × List (Int) × Int) × List (Int × Int × Int × List (ByteArray) × List (Bool) × Int) × Int)) × Int × Int × Unit) → Option _) (y0 : (List (Int × Int × ((Int × ByteArray × ByteArray × Int × List (Int) × Int) × Int × ByteArray × ByteArray × Int × List (Int) × Int) × List (Int × Int × Int × List (ByteArray) × List (Bool) × Int) × Int)) × (List (Int × Int × ((Int × ByteArray × ByteArray × Int × List (Int) × Int) × Int × ByteArray × ByteArray × Int × List (Int) × Int) × List (Int × Int × Int × List (ByteArray) × List (Bool) × Int) × Int)) × Int × Int × Unit) =>
(if (decide (y0.2.2.2.1 < y0.2.2.1)) = true then
(if 0 ≤ y0.2.2.2.1 ∧ y0.2.2.2.1 < (List.length y0.2.1 : Int) then
((i_copyUser k (((Ty.rd (t := yT0) y0.2.1 y0.2.2.2.1).1, ((Ty.rd (t := yT0) y0.2.1 y0.2.2.2.1).2.1, ((Ty.rd (t := yT0) y0.2.1 y0.2.2.2.1).2.2.1.1.1, ((Ty.rd (t := yT0) y0.2.1 y0.2.2.2.1).2.2.1.1.2.1, ((Ty.rd (t := yT0) y0.2.1 y0.2.2.2.1).2.2.1.1.2.2.1, ((Ty.rd (t := yT0) y0.2.1 y0.2.2.2.1).2.2.1.1.2.2.2.1, ((Ty.rd (t := yT0) y0.2.1 y0.2.2.2.1).2.2.1.1.2.2.2.2.1, ((Ty.rd (t := yT0) y0.2.1 y0.2.2.2.1).2.2.1.1.2.2.2.2.2, ((Ty.rd (t := yT0) y0.2.1 y0.2.2.2.1).2.2.1.2.1, ((Ty.rd (t := yT0) y0.2.1 y0.2.2.2.1).2.2.1.2.2.1, ((Ty.rd (t := yT0) y0.2.1 y0.2.2.2.1).2.2.1.2.2.2.1, ((Ty.rd (t := yT0) y0.2.1 y0.2.2.2.1).2.2.1.2.2.2.2.1, ((Ty.rd (t := yT0) y0.2.1 y0.2.2.2.1).2.2.1.2.2.2.2.2.1, ((Ty.rd (t := yT0) y0.2.1 y0.2.2.2.1).2.2.1.2.2.2.2.2.2, ((Ty.rd (t := yT0) y0.2.1 y0.2.2.2.1).2.2.2.1, ((Ty.rd (t := yT0) y0.2.1 y0.2.2.2.1).2.2.2.2, ())))))))))))))))), ())).bind fun p1 =>
(if List.length y0.1 + List.length ([(p1.1.1, (p1.1.2.1, (((p1.1.2.2.1, (p1.1.2.2.2.1, (p1.1.2.2.2.2.1, (p1.1.2.2.2.2.2.1, (p1.1.2.2.2.2.2.2.1, p1.1.2.2.2.2.2.2.2.1))))), (p1.1.2.2.2.2.2.2.2.2.1, (p1.1.2.2.2.2.2.2.2.2.2.1, (p1.1.2.2.2.2.2.2.2.2.2.2.1, (p1.1.2.2.2.2.2.2.2.2.2.2.2.1, (p1.1.2.2.2.2.2.2.2.2.2.2.2.2.1, p1.1.2.2.2.2.2.2.2.2.2.2.2.2.2.1)))))), (p1.1.2.2.2.2.2.2.2.2.2.2.2.2.2.2.1, p1.1.2.2.2.2.2.2.2.2.2.2.2.2.2.2.2.1))))] : List (Int × Int × ((Int × ByteArray × ByteArray × Int × List (Int) × Int) × Int × ByteArray × ByteArray × Int × List (Int) × Int) × List (Int × Int × Int × List (ByteArray) × List (Bool) × Int) × Int)) ≤ capMax then
(rec0 ((y0.1 ++ ([(p1.1.1, (p1.1.2.1, (((p1.1.2.2.1, (p1.1.2.2.2.1, (p1.1.2.2.2.2.1, (p1.1.2.2.2.2.2.1, (p1.1.2.2.2.2.2.2.1, p1.1.2.2.2.2.2.2.2.1))))), (p1.1.2.2.2.2.2.2.2.2.1, (p1.1.2.2.2.2.2.2.2.2.2.1, (p1.1.2.2.2.2.2.2.2.2.2.2.1, (p1.1.2.2.2.2.2.2.2.2.2.2.2.1, (p1.1.2.2.2.2.2.2.2.2.2.2.2.2.1, p1.1.2.2.2.2.2.2.2.2.2.2.2.2.2.1)))))), (p1.1.2.2.2.2.2.2.2.2.2.2.2.2.2.2.1, p1.1.2.2.2.2.2.2.2.2.2.2.2.2.2.2.2.1))))] : List (Int × Int × ((Int × ByteArray × ByteArray × Int × List (Int) × Int) × Int × ByteArray × ByteArray × Int × List (Int) × Int) × List (Int × Int × Int × List (ByteArray) × List (Bool) × Int) × Int))), (y0.2.1, (y0.2.2.1, ((wi64 (y0.2.2.2.1 + (1 : Int))), ())))))
else none))
else none)
else
((fun (z1 : (List (Int × Int × ((Int × ByteArray × ByteArray × Int × List (Int) × Int) × Int × ByteArray × ByteArray × Int × List (Int) × Int) × List (Int × Int × Int × List (ByteArray) × List (Bool) × Int) × Int)) × Unit) =>
some (z1.1, ((), ()))) (y0.1, ())))) k (([] : List (Int × Int × ((Int × ByteArray × ByteArray × Int × List (Int) × Int) × Int × ByteArray × ByteArray × Int × List (Int) × Int) × List (Int × Int × Int × List (ByteArray) × List (Bool) × Int) × Int)), (x.1, ((List.length x.1 : Int), ((0 : Int), ())))))
theorem t_i_copyUsers (k : Nat) (x) : evF TTabO k [⟨100, 0, (.cons (.agg yP9) .nil), (.agg yP3), i_copyUser k⟩] [(0, ⟨[3, 7, 8, 9], (.cons yP10 (.cons (.il true yT0) (.cons (.int .i64) yP2)))⟩, ⟨[3], (.cons yP10 .nil)⟩)] Tryz.f130 (.cons (.il true yT0) .nil) yP10 x = i_copyUsers k x := by kernel_rfl
theorem e_i_copyUsers [Names] (k : Nat) : EntryOk Tryz.prog ⟨130, 0, (.cons (.il true yT0) .nil), yP10, i_copyUsers k⟩ := entry_ok tokO (by intro e he; simp only [List.mem_cons, List.not_mem_nil, or_false] at he; rcases he with rfl <;> first | exact e_i_copyUser k) (by kernel_rfl) (fn := Tryz.f130) (k := k) (es := [⟨100, 0, (.cons (.agg yP9) .nil), (.agg yP3), i_copyUser k⟩]) (loops := [(0, ⟨[3, 7, 8, 9], (.cons yP10 (.cons (.il true yT0) (.cons (.int .i64) yP2)))⟩, ⟨[3], (.cons yP10 .nil)⟩)]) (by kernel_rfl) (by kernel_rfl) (fun x r h => (t_i_copyUsers k x).trans h)
def i_copyHub (k : Nat) (x : (Int × Int × (List (Int × Int × Int)) × (List (Int × Int)) × (List ((Int × Int) × Int)) × (List (Int × Int × ((Int × ByteArray × ByteArray × Int × List (Int) × Int) × Int × ByteArray × ByteArray × Int × List (Int) × Int) × List (Int × Int × Int × List (ByteArray) × List (Bool) × Int) × Int)) × Unit) × Unit) : Option ((Int × Int × (List (Int × Int × Int)) × (List (Int × Int)) × (List ((Int × Int) × Int)) × (List (Int × Int × ((Int × ByteArray × ByteArray × Int × List (Int) × Int) × Int × ByteArray × ByteArray × Int × List (Int) × Int) × List (Int × Int × Int × List (ByteArray) × List (Bool) × Int) × Int)) × Unit) × Unit × Unit) :=
((i_copyPool k ((x.1.1, (x.1.2.1, (x.1.2.2.1, (x.1.2.2.2.1, ())))), ())).bind fun p1 =>
((i_copyRoutes k (x.1.2.2.2.2.1, ())).bind fun p2 =>
((i_copyUsers k (x.1.2.2.2.2.2.1, ())).bind fun p3 =>
some ((p1.1.1, (p1.1.2.1, (p1.1.2.2.1, (p1.1.2.2.2.1, (p2.1, (p3.1, ())))))), ((), ())))))
theorem t_i_copyHub (k : Nat) (x) : evF TTabO k [⟨128, 0, (.cons (.agg yP14) .nil), (.agg (.cons (.int .i64) (.cons (.int .i64) (.cons (.own false 135 (.pair (.int .i64) yT7)) (.cons (.own false 252 yT7) .nil))))), i_copyPool k⟩, ⟨129, 0, (.cons yP23 .nil), yP21, i_copyRoutes k⟩, ⟨130, 0, (.cons (.il true yT0) .nil), yP10, i_copyUsers k⟩] [] Tryz.f54 (.cons yP27 .nil) yP16 x = i_copyHub k x := by kernel_rfl
theorem e_i_copyHub [Names] (k : Nat) : EntryOk Tryz.prog ⟨54, 0, (.cons yP27 .nil), yP16, i_copyHub k⟩ := entry_ok tokO (by intro e he; simp only [List.mem_cons, List.not_mem_nil, or_false] at he; rcases he with rfl | rfl | rfl <;> first | exact e_i_copyPool k | exact e_i_copyRoutes k | exact e_i_copyUsers k) (by kernel_rfl) (fn := Tryz.f54) (k := k) (es := [⟨128, 0, (.cons (.agg yP14) .nil), (.agg (.cons (.int .i64) (.cons (.int .i64) (.cons (.own false 135 (.pair (.int .i64) yT7)) (.cons (.own false 252 yT7) .nil))))), i_copyPool k⟩, ⟨129, 0, (.cons yP23 .nil), yP21, i_copyRoutes k⟩, ⟨130, 0, (.cons (.il true yT0) .nil), yP10, i_copyUsers k⟩]) (loops := []) (by kernel_rfl) (by kernel_rfl) (fun x r h => (t_i_copyHub k x).trans h)
def i_within (k : Nat) (x : Int × Int × Int × Unit) : Option (Bool × Unit × Unit × Unit × Unit) :=
(if (decide (x.2.1 ≤ x.1)) = true then
some ((decide (x.1 ≤ x.2.2.1)), ((), ((), ((), ()))))
else
some (false, ((), ((), ((), ())))))
theorem t_i_within (k : Nat) (x) : evF TTab k [] [] Tryz.f55 yP12 .bool x = i_within k x := by kernel_rfl
theorem e_i_within [Names] (k : Nat) : EntryOk Tryz.prog ⟨55, 0, yP12, .bool, i_within k⟩ := entry_ok tok (by simp) (by kernel_rfl) (fn := Tryz.f55) (k := k) (es := []) (loops := []) (by kernel_rfl) (by kernel_rfl) (fun x r h => (t_i_within k x).trans h)
def i_userAt_1 (k : Nat) (x : (Int × Int × Int × ByteArray × ByteArray × Int × List (Int) × Int × Int × ByteArray × ByteArray × Int × List (Int) × Int × (List (Int × Int × Int × List (ByteArray) × List (Bool) × Int)) × Int × Unit) × (Int × Unit) × Unit) : Option (Bool × Unit × (Int × Unit) × Unit) :=
some ((decide (x.1.1 = x.2.1.1)), ((), ((x.2.1.1, ()), ())))
theorem t_i_userAt_1 (k : Nat) (x) : evF TTabO k [] [] Tryz.f132 (.cons (.agg yP9) yP25) .bool x = i_userAt_1 k x := by kernel_rfl
theorem e_i_userAt_1 [Names] (k : Nat) : EntryOk Tryz.prog ⟨132, 0, (.cons (.agg yP9) yP25), .bool, i_userAt_1 k⟩ := entry_ok tokO (by simp) (by kernel_rfl) (fn := Tryz.f132) (k := k) (es := []) (loops := []) (by kernel_rfl) (by kernel_rfl) (fun x r h => (t_i_userAt_1 k x).trans h)
def x_slices_IndexFunc_impl_User_impl_User_of_i_userAt_1 (k : Nat) (x : (List (Int × Int × ((Int × ByteArray × ByteArray × Int × List (Int) × Int) × Int × ByteArray × ByteArray × Int × List (Int) × Int) × List (Int × Int × Int × List (ByteArray) × List (Bool) × Int) × Int)) × ((Int × Unit) × Unit) × Unit) : Option (Int × Unit × ((Int × Unit) × Unit) × Unit) :=
(whileK (fun (rec0 : ((List (Int × Int × ((Int × ByteArray × ByteArray × Int × List (Int) × Int) × Int × ByteArray × ByteArray × Int × List (Int) × Int) × List (Int × Int × Int × List (ByteArray) × List (Bool) × Int) × Int)) × ((Int × Unit) × Unit) × Int × Int × Unit) → Option _) (y0 : (List (Int × Int × ((Int × ByteArray × ByteArray × Int × List (Int) × Int) × Int × ByteArray × ByteArray × Int × List (Int) × Int) × List (Int × Int × Int × List (ByteArray) × List (Bool) × Int) × Int)) × ((Int × Unit) × Unit) × Int × Int × Unit) =>
(if (decide (y0.2.2.2.1 < y0.2.2.1)) = true then
(if 0 ≤ y0.2.2.2.1 ∧ y0.2.2.2.1 < (List.length y0.1 : Int) then
((i_userAt_1 k (((Ty.rd (t := yT0) y0.1 y0.2.2.2.1).1, ((Ty.rd (t := yT0) y0.1 y0.2.2.2.1).2.1, ((Ty.rd (t := yT0) y0.1 y0.2.2.2.1).2.2.1.1.1, ((Ty.rd (t := yT0) y0.1 y0.2.2.2.1).2.2.1.1.2.1, ((Ty.rd (t := yT0) y0.1 y0.2.2.2.1).2.2.1.1.2.2.1, ((Ty.rd (t := yT0) y0.1 y0.2.2.2.1).2.2.1.1.2.2.2.1, ((Ty.rd (t := yT0) y0.1 y0.2.2.2.1).2.2.1.1.2.2.2.2.1, ((Ty.rd (t := yT0) y0.1 y0.2.2.2.1).2.2.1.1.2.2.2.2.2, ((Ty.rd (t := yT0) y0.1 y0.2.2.2.1).2.2.1.2.1, ((Ty.rd (t := yT0) y0.1 y0.2.2.2.1).2.2.1.2.2.1, ((Ty.rd (t := yT0) y0.1 y0.2.2.2.1).2.2.1.2.2.2.1, ((Ty.rd (t := yT0) y0.1 y0.2.2.2.1).2.2.1.2.2.2.2.1, ((Ty.rd (t := yT0) y0.1 y0.2.2.2.1).2.2.1.2.2.2.2.2.1, ((Ty.rd (t := yT0) y0.1 y0.2.2.2.1).2.2.1.2.2.2.2.2.2, ((Ty.rd (t := yT0) y0.1 y0.2.2.2.1).2.2.2.1, ((Ty.rd (t := yT0) y0.1 y0.2.2.2.1).2.2.2.2, ())))))))))))))))), ((y0.2.1.1.1, ()), ()))).bind fun p1 =>
(if p1.1 = true then
some (y0.2.2.2.1, ((), (((p1.2.2.1.1, ()), ()), ())))
else
(rec0 (y0.1, (((p1.2.2.1.1, ()), ()), (y0.2.2.1, ((wi64 (y0.2.2.2.1 + (1 : Int))), ())))))))
else none)
else
((fun (z1 : ((Int × Unit) × Unit) × Unit) =>
some ((-1 : Int), ((), (((z1.1.1.1, ()), ()), ())))) (((y0.2.1.1.1, ()), ()), ())))) k (x.1, (((x.2.1.1.1, ()), ()), ((List.length x.1 : Int), ((0 : Int), ())))))
theorem t_x_slices_IndexFunc_impl_User_impl_User_of_i_userAt_1 (k : Nat) (x) : evF TTabO k [⟨132, 0, (.cons (.agg yP9) yP25), .bool, i_userAt_1 k⟩] [(0, ⟨[0, 1, 7, 8], (.cons (.il true yT0) (.cons (.fn 132 yP25) (.cons (.int .i64) yP2)))⟩, ⟨[1], (.cons (.fn 132 yP25) .nil)⟩)] Tryz.f131 (.cons (.il true yT0) (.cons (.fn 132 yP25) .nil)) (.int .i64) x = x_slices_IndexFunc_impl_User_impl_User_of_i_userAt_1 k x := by kernel_rfl
theorem e_x_slices_IndexFunc_impl_User_impl_User_of_i_userAt_1 [Names] (k : Nat) : EntryOk Tryz.prog ⟨131, 133, (.cons (.il true yT0) (.cons (.fn 132 yP25) .nil)), (.int .i64), x_slices_IndexFunc_impl_User_impl_User_of_i_userAt_1 k⟩ := entry_ok tokO (by intro e he; simp only [List.mem_cons, List.not_mem_nil, or_false] at he; rcases he with rfl <;> first | exact e_i_userAt_1 k) (by kernel_rfl) (fn := Tryz.f131) (k := k) (es := [⟨132, 0, (.cons (.agg yP9) yP25), .bool, i_userAt_1 k⟩]) (loops := [(0, ⟨[0, 1, 7, 8], (.cons (.il true yT0) (.cons (.fn 132 yP25) (.cons (.int .i64) yP2)))⟩, ⟨[1], (.cons (.fn 132 yP25) .nil)⟩)]) (by kernel_rfl) (by kernel_rfl) (fun x r h => (t_x_slices_IndexFunc_impl_User_impl_User_of_i_userAt_1 k x).trans h)
def i_userAt (k : Nat) (x : (List (Int × Int × ((Int × ByteArray × ByteArray × Int × List (Int) × Int) × Int × ByteArray × ByteArray × Int × List (Int) × Int) × List (Int × Int × Int × List (ByteArray) × List (Bool) × Int) × Int)) × Int × Unit) : Option (Int × Unit × Unit × Unit) :=
((x_slices_IndexFunc_impl_User_impl_User_of_i_userAt_1 k (x.1, (((x.2.1, ()), ()), ()))).bind fun p1 =>
some (p1.1, ((), ((), ()))))
theorem t_i_userAt (k : Nat) (x) : evF TTabO k [⟨131, 133, (.cons (.il true yT0) (.cons (.fn 132 yP25) .nil)), (.int .i64), x_slices_IndexFunc_impl_User_impl_User_of_i_userAt_1 k⟩] [] Tryz.f56 (.cons (.il true yT0) yP2) (.int .i64) x = i_userAt k x := by kernel_rfl
theorem e_i_userAt [Names] (k : Nat) : EntryOk Tryz.prog ⟨56, 0, (.cons (.il true yT0) yP2), (.int .i64), i_userAt k⟩ := entry_ok tokO (by intro e he; simp only [List.mem_cons, List.not_mem_nil, or_false] at he; rcases he with rfl <;> first | exact e_x_slices_IndexFunc_impl_User_impl_User_of_i_userAt_1 k) (by kernel_rfl) (fn := Tryz.f56) (k := k) (es := [⟨131, 133, (.cons (.il true yT0) (.cons (.fn 132 yP25) .nil)), (.int .i64), x_slices_IndexFunc_impl_User_impl_User_of_i_userAt_1 k⟩]) (loops := []) (by kernel_rfl) (by kernel_rfl) (fun x r h => (t_i_userAt k x).trans h)
def i_isId (k : Nat) (x : Int × Unit) : Option (Bool × Unit × Unit) :=
((i_within k (x.1, ((1 : Int), ((99 : Int), ())))).bind fun p1 =>
some (p1.1, ((), ())))
theorem t_i_isId (k : Nat) (x) : evF TTab k [⟨55, 0, yP12, .bool, i_within k⟩] [] Tryz.f133 yP2 .bool x = i_isId k x := by kernel_rfl
theorem e_i_isId [Names] (k : Nat) : EntryOk Tryz.prog ⟨133, 0, yP2, .bool, i_isId k⟩ := entry_ok tok (by intro e he; simp only [List.mem_cons, List.not_mem_nil, or_false] at he; rcases he with rfl <;> first | exact e_i_within k) (by kernel_rfl) (fn := Tryz.f133) (k := k) (es := [⟨55, 0, yP12, .bool, i_within k⟩]) (loops := []) (by kernel_rfl) (by kernel_rfl) (fun x r h => (t_i_isId k x).trans h)
def i_leaseOf_1 (k : Nat) (x : (Int × Int × Int × Unit) × (Int × Unit) × Unit) : Option (Bool × Unit × (Int × Unit) × Unit) :=
some ((decide (x.1.2.1 = x.2.1.1)), ((), ((x.2.1.1, ()), ())))
theorem t_i_leaseOf_1 (k : Nat) (x) : evF TTab k [] [] Tryz.f218 (.cons (.agg yP12) yP25) .bool x = i_leaseOf_1 k x := by kernel_rfl
theorem e_i_leaseOf_1 [Names] (k : Nat) : EntryOk Tryz.prog ⟨218, 0, (.cons (.agg yP12) yP25), .bool, i_leaseOf_1 k⟩ := entry_ok tok (by simp) (by kernel_rfl) (fn := Tryz.f218) (k := k) (es := []) (loops := []) (by kernel_rfl) (by kernel_rfl) (fun x r h => (t_i_leaseOf_1 k x).trans h)
def x_slices_IndexFunc_impl_Lease_impl_Lease_of_i_leaseOf_1 (k : Nat) (x : (List (Int × Int × Int)) × ((Int × Unit) × Unit) × Unit) : Option (Int × Unit × ((Int × Unit) × Unit) × Unit) :=
(whileK (fun (rec0 : ((List (Int × Int × Int)) × ((Int × Unit) × Unit) × Int × Int × Unit) → Option _) (y0 : (List (Int × Int × Int)) × ((Int × Unit) × Unit) × Int × Int × Unit) =>
(if (decide (y0.2.2.2.1 < y0.2.2.1)) = true then
(if 0 ≤ y0.2.2.2.1 ∧ y0.2.2.2.1 < (List.length y0.1 : Int) then
((i_leaseOf_1 k (((Ty.rd (t := (.pair (.int .i64) yT7)) y0.1 y0.2.2.2.1).1, ((Ty.rd (t := (.pair (.int .i64) yT7)) y0.1 y0.2.2.2.1).2.1, ((Ty.rd (t := (.pair (.int .i64) yT7)) y0.1 y0.2.2.2.1).2.2, ()))), ((y0.2.1.1.1, ()), ()))).bind fun p1 =>
(if p1.1 = true then
some (y0.2.2.2.1, ((), (((p1.2.2.1.1, ()), ()), ())))
else
(rec0 (y0.1, (((p1.2.2.1.1, ()), ()), (y0.2.2.1, ((wi64 (y0.2.2.2.1 + (1 : Int))), ())))))))
else none)
else
((fun (z1 : ((Int × Unit) × Unit) × Unit) =>
some ((-1 : Int), ((), (((z1.1.1.1, ()), ()), ())))) (((y0.2.1.1.1, ()), ()), ())))) k (x.1, (((x.2.1.1.1, ()), ()), ((List.length x.1 : Int), ((0 : Int), ())))))
theorem t_x_slices_IndexFunc_impl_Lease_impl_Lease_of_i_leaseOf_1 (k : Nat) (x) : evF TTab k [⟨218, 0, (.cons (.agg yP12) yP25), .bool, i_leaseOf_1 k⟩] [(0, ⟨[0, 1, 7, 8], (.cons (.il true (.pair (.int .i64) yT7)) (.cons (.fn 218 yP25) (.cons (.int .i64) yP2)))⟩, ⟨[1], (.cons (.fn 218 yP25) .nil)⟩)] Tryz.f217 (.cons (.il true (.pair (.int .i64) yT7)) (.cons (.fn 218 yP25) .nil)) (.int .i64) x = x_slices_IndexFunc_impl_Lease_impl_Lease_of_i_leaseOf_1 k x := by kernel_rfl
theorem e_x_slices_IndexFunc_impl_Lease_impl_Lease_of_i_leaseOf_1 [Names] (k : Nat) : EntryOk Tryz.prog ⟨217, 219, (.cons (.il true (.pair (.int .i64) yT7)) (.cons (.fn 218 yP25) .nil)), (.int .i64), x_slices_IndexFunc_impl_Lease_impl_Lease_of_i_leaseOf_1 k⟩ := entry_ok tok (by intro e he; simp only [List.mem_cons, List.not_mem_nil, or_false] at he; rcases he with rfl <;> first | exact e_i_leaseOf_1 k) (by kernel_rfl) (fn := Tryz.f217) (k := k) (es := [⟨218, 0, (.cons (.agg yP12) yP25), .bool, i_leaseOf_1 k⟩]) (loops := [(0, ⟨[0, 1, 7, 8], (.cons (.il true (.pair (.int .i64) yT7)) (.cons (.fn 218 yP25) (.cons (.int .i64) yP2)))⟩, ⟨[1], (.cons (.fn 218 yP25) .nil)⟩)]) (by kernel_rfl) (by kernel_rfl) (fun x r h => (t_x_slices_IndexFunc_impl_Lease_impl_Lease_of_i_leaseOf_1 k x).trans h)
def i_leaseOf (k : Nat) (x : (Int × Int × (List (Int × Int × Int)) × (List (Int × Int)) × Unit) × Int × Unit) : Option (Int × Unit × Unit × Unit) :=
((x_slices_IndexFunc_impl_Lease_impl_Lease_of_i_leaseOf_1 k (x.1.2.2.1, (((x.2.1, ()), ()), ()))).bind fun p1 =>
some (p1.1, ((), ((), ()))))
theorem t_i_leaseOf (k : Nat) (x) : evF TTab k [⟨217, 219, (.cons (.il true (.pair (.int .i64) yT7)) (.cons (.fn 218 yP25) .nil)), (.int .i64), x_slices_IndexFunc_impl_Lease_impl_Lease_of_i_leaseOf_1 k⟩] [] Tryz.f134 (.cons (.agg yP14) yP2) (.int .i64) x = i_leaseOf k x := by kernel_rfl
theorem e_i_leaseOf [Names] (k : Nat) : EntryOk Tryz.prog ⟨134, 0, (.cons (.agg yP14) yP2), (.int .i64), i_leaseOf k⟩ := entry_ok tok (by intro e he; simp only [List.mem_cons, List.not_mem_nil, or_false] at he; rcases he with rfl <;> first | exact e_x_slices_IndexFunc_impl_Lease_impl_Lease_of_i_leaseOf_1 k) (by kernel_rfl) (fn := Tryz.f134) (k := k) (es := [⟨217, 219, (.cons (.il true (.pair (.int .i64) yT7)) (.cons (.fn 218 yP25) .nil)), (.int .i64), x_slices_IndexFunc_impl_Lease_impl_Lease_of_i_leaseOf_1 k⟩]) (loops := []) (by kernel_rfl) (by kernel_rfl) (fun x r h => (t_i_leaseOf k x).trans h)
def i_AddrOk (k : Nat) (x : Int × Unit) : Option (Bool × Unit × Unit) :=
((i_within k (x.1, ((0 : Int), ((4294967295 : Int), ())))).bind fun p1 =>
some (p1.1, ((), ())))
theorem t_i_AddrOk (k : Nat) (x) : evF TTab k [⟨55, 0, yP12, .bool, i_within k⟩] [] Tryz.f236 yP2 .bool x = i_AddrOk k x := by kernel_rfl
theorem e_i_AddrOk [Names] (k : Nat) : EntryOk Tryz.prog ⟨236, 0, yP2, .bool, i_AddrOk k⟩ := entry_ok tok (by intro e he; simp only [List.mem_cons, List.not_mem_nil, or_false] at he; rcases he with rfl <;> first | exact e_i_within k) (by kernel_rfl) (fn := Tryz.f236) (k := k) (es := [⟨55, 0, yP12, .bool, i_within k⟩]) (loops := []) (by kernel_rfl) (by kernel_rfl) (fun x r h => (t_i_AddrOk k x).trans h)
def i_lastBits (k : Nat) (x : Int × Unit) : Option (Int × Unit × Unit) :=
(if (wi64 ((32 : Int) - x.1)) < 0 then
none
else
some ((wi64 ((wi64 ((1 : Int) * 2 ^ (min (Int.toNat (wi64 ((32 : Int) - x.1))) (IntKind.bits .i64)))) - (1 : Int))), ((), ())))
theorem t_i_lastBits (k : Nat) (x) : evF TTab k [] [] Tryz.f237 yP2 (.int .i64) x = i_lastBits k x := by kernel_rfl
theorem e_i_lastBits [Names] (k : Nat) : EntryOk Tryz.prog ⟨237, 0, yP2, (.int .i64), i_lastBits k⟩ := entry_ok tok (by simp) (by kernel_rfl) (fn := Tryz.f237) (k := k) (es := []) (loops := []) (by kernel_rfl) (by kernel_rfl) (fun x r h => (t_i_lastBits k x).trans h)
def i_PrefixOk (k : Nat) (x : (Int × Int × Unit) × Unit) : Option (Bool × Unit × Unit) :=
((i_AddrOk k (x.1.1, ())).bind fun p1 =>
(if p1.1 = true then
((i_within k (x.1.2.1, ((0 : Int), ((32 : Int), ())))).bind fun p2 =>
(if p2.1 = true then
((i_lastBits k (x.1.2.1, ())).bind fun p3 =>
some ((decide ((bitsI .and .i64 x.1.1 p3.1) = (0 : Int))), ((), ())))
else
some (false, ((), ()))))
else
some (false, ((), ()))))
theorem t_i_PrefixOk (k : Nat) (x) : evF TTab k [⟨55, 0, yP12, .bool, i_within k⟩, ⟨236, 0, yP2, .bool, i_AddrOk k⟩, ⟨237, 0, yP2, (.int .i64), i_lastBits k⟩] [] Tryz.f211 (.cons yP28 .nil) .bool x = i_PrefixOk k x := by kernel_rfl
theorem e_i_PrefixOk [Names] (k : Nat) : EntryOk Tryz.prog ⟨211, 0, (.cons yP28 .nil), .bool, i_PrefixOk k⟩ := entry_ok tok (by intro e he; simp only [List.mem_cons, List.not_mem_nil, or_false] at he; rcases he with rfl | rfl | rfl <;> first | exact e_i_within k | exact e_i_AddrOk k | exact e_i_lastBits k) (by kernel_rfl) (fn := Tryz.f211) (k := k) (es := [⟨55, 0, yP12, .bool, i_within k⟩, ⟨236, 0, yP2, .bool, i_AddrOk k⟩, ⟨237, 0, yP2, (.int .i64), i_lastBits k⟩]) (loops := []) (by kernel_rfl) (by kernel_rfl) (fun x r h => (t_i_PrefixOk k x).trans h)
def i_InPrefix (k : Nat) (x : (Int × Int × Unit) × Int × Unit) : Option (Bool × Unit × Unit × Unit) :=
((i_PrefixOk k ((x.1.1, (x.1.2.1, ())), ())).bind fun p1 =>
(if p1.1 = true then
((i_AddrOk k (x.2.1, ())).bind fun p2 =>
(if p2.1 = true then
((i_lastBits k (x.1.2.1, ())).bind fun p3 =>
some ((decide ((bitsI .andNot .i64 x.2.1 p3.1) = x.1.1)), ((), ((), ()))))
else
some (false, ((), ((), ())))))
else
some (false, ((), ((), ())))))
theorem t_i_InPrefix (k : Nat) (x) : evF TTab k [⟨211, 0, (.cons yP28 .nil), .bool, i_PrefixOk k⟩, ⟨236, 0, yP2, .bool, i_AddrOk k⟩, ⟨237, 0, yP2, (.int .i64), i_lastBits k⟩] [] Tryz.f152 (.cons yP28 yP2) .bool x = i_InPrefix k x := by kernel_rfl
theorem e_i_InPrefix [Names] (k : Nat) : EntryOk Tryz.prog ⟨152, 0, (.cons yP28 yP2), .bool, i_InPrefix k⟩ := entry_ok tok (by intro e he; simp only [List.mem_cons, List.not_mem_nil, or_false] at he; rcases he with rfl | rfl | rfl <;> first | exact e_i_PrefixOk k | exact e_i_AddrOk k | exact e_i_lastBits k) (by kernel_rfl) (fn := Tryz.f152) (k := k) (es := [⟨211, 0, (.cons yP28 .nil), .bool, i_PrefixOk k⟩, ⟨236, 0, yP2, .bool, i_AddrOk k⟩, ⟨237, 0, yP2, (.int .i64), i_lastBits k⟩]) (loops := []) (by kernel_rfl) (by kernel_rfl) (fun x r h => (t_i_InPrefix k x).trans h)
def i_isHost (k : Nat) (x : (Int × Int × Unit) × Int × Unit) : Option (Bool × Unit × Unit × Unit) :=
((i_InPrefix k ((x.1.1, (x.1.2.1, ())), (x.2.1, ()))).bind fun p1 =>
(if p1.1 = true then
(if (!decide (x.2.1 = x.1.1)) = true then
((i_lastBits k (x.1.2.1, ())).bind fun p2 =>
some ((!decide (x.2.1 = (bitsI .or .i64 x.1.1 p2.1))), ((), ((), ()))))
else
some (false, ((), ((), ()))))
else
some (false, ((), ((), ())))))
theorem t_i_isHost (k : Nat) (x) : evF TTab k [⟨152, 0, (.cons yP28 yP2), .bool, i_InPrefix k⟩, ⟨237, 0, yP2, (.int .i64), i_lastBits k⟩] [] Tryz.f213 (.cons yP28 yP2) .bool x = i_isHost k x := by kernel_rfl
theorem e_i_isHost [Names] (k : Nat) : EntryOk Tryz.prog ⟨213, 0, (.cons yP28 yP2), .bool, i_isHost k⟩ := entry_ok tok (by intro e he; simp only [List.mem_cons, List.not_mem_nil, or_false] at he; rcases he with rfl | rfl <;> first | exact e_i_InPrefix k | exact e_i_lastBits k) (by kernel_rfl) (fn := Tryz.f213) (k := k) (es := [⟨152, 0, (.cons yP28 yP2), .bool, i_InPrefix k⟩, ⟨237, 0, yP2, (.int .i64), i_lastBits k⟩]) (loops := []) (by kernel_rfl) (by kernel_rfl) (fun x r h => (t_i_isHost k x).trans h)
def i_fixedFor (k : Nat) (x : (Int × Int × (List (Int × Int × Int)) × (List (Int × Int)) × Unit) × Int × Unit) : Option (Int × Unit × Unit × Unit) :=
(whileK (fun (rec0 : (Int × (List (Int × Int)) × Int × Int × Unit) → Option _) (y0 : Int × (List (Int × Int)) × Int × Int × Unit) =>
(if (decide (y0.2.2.2.1 < y0.2.2.1)) = true then
(if 0 ≤ y0.2.2.2.1 ∧ y0.2.2.2.1 < (List.length y0.2.1 : Int) then
(if (decide ((Ty.rd (t := yT7) y0.2.1 y0.2.2.2.1).2 = y0.1)) = true then
some ((Ty.rd (t := yT7) y0.2.1 y0.2.2.2.1).1, ((), ((), ())))
else
(rec0 (y0.1, (y0.2.1, (y0.2.2.1, ((wi64 (y0.2.2.2.1 + (1 : Int))), ()))))))
else none)
else
((fun (z1 : Unit) =>
some ((0 : Int), ((), ((), ())))) ()))) k (x.2.1, (x.1.2.2.2.1, ((List.length x.1.2.2.2.1 : Int), ((0 : Int), ())))))
theorem t_i_fixedFor (k : Nat) (x) : evF TTab k [] [(0, ⟨[1, 8, 9, 10], (.cons (.int .i64) (.cons (.il true yT7) (.cons (.int .i64) yP2)))⟩, ⟨[], .nil⟩)] Tryz.f214 (.cons (.agg yP14) yP2) (.int .i64) x = i_fixedFor k x := by kernel_rfl
theorem e_i_fixedFor [Names] (k : Nat) : EntryOk Tryz.prog ⟨214, 0, (.cons (.agg yP14) yP2), (.int .i64), i_fixedFor k⟩ := entry_ok tok (by simp) (by kernel_rfl) (fn := Tryz.f214) (k := k) (es := []) (loops := [(0, ⟨[1, 8, 9, 10], (.cons (.int .i64) (.cons (.il true yT7) (.cons (.int .i64) yP2)))⟩, ⟨[], .nil⟩)]) (by kernel_rfl) (by kernel_rfl) (fun x r h => (t_i_fixedFor k x).trans h)
def i_fixesOk (k : Nat) (x : (Int × Int × (List (Int × Int × Int)) × (List (Int × Int)) × Unit) × Unit) : Option (Bool × Unit × Unit) :=
(whileK (fun (rec0 : ((Int × Int × (List (Int × Int × Int)) × (List (Int × Int)) × Unit) × (List (Int × Int)) × Int × Int × Unit) → Option _) (y0 : (Int × Int × (List (Int × Int × Int)) × (List (Int × Int)) × Unit) × (List (Int × Int)) × Int × Int × Unit) =>
(if (decide (y0.2.2.2.1 < y0.2.2.1)) = true then
(if 0 ≤ y0.2.2.2.1 ∧ y0.2.2.2.1 < (List.length y0.2.1 : Int) then
((i_isId k ((Ty.rd (t := yT7) y0.2.1 y0.2.2.2.1).1, ())).bind fun p1 =>
(if (!p1.1) = false then
((i_isHost k ((y0.1.1, (y0.1.2.1, ())), ((Ty.rd (t := yT7) y0.2.1 y0.2.2.2.1).2, ()))).bind fun p2 =>
(if (!p2.1) = false then
(if (decide ((0 : Int) < y0.2.2.2.1)) = true then
(if 0 ≤ (wi64 (y0.2.2.2.1 - (1 : Int))) ∧ (wi64 (y0.2.2.2.1 - (1 : Int))) < (List.length y0.1.2.2.2.1 : Int) then
(if (decide ((Ty.rd (t := yT7) y0.2.1 y0.2.2.2.1).1 ≤ (Ty.rd (t := yT7) y0.1.2.2.2.1 (wi64 (y0.2.2.2.1 - (1 : Int)))).1)) = false then
((i_fixedFor k ((y0.1.1, (y0.1.2.1, (y0.1.2.2.1, (y0.1.2.2.2.1, ())))), ((Ty.rd (t := yT7) y0.2.1 y0.2.2.2.1).2, ()))).bind fun p3 =>
(if (!decide (p3.1 = (Ty.rd (t := yT7) y0.2.1 y0.2.2.2.1).1)) = true then
some (false, ((), ()))
else
(rec0 ((y0.1.1, (y0.1.2.1, (y0.1.2.2.1, (y0.1.2.2.2.1, ())))), (y0.2.1, (y0.2.2.1, ((wi64 (y0.2.2.2.1 + (1 : Int))), ())))))))
else
some (false, ((), ())))
else none)
else
((i_fixedFor k ((y0.1.1, (y0.1.2.1, (y0.1.2.2.1, (y0.1.2.2.2.1, ())))), ((Ty.rd (t := yT7) y0.2.1 y0.2.2.2.1).2, ()))).bind fun p4 =>
(if (!decide (p4.1 = (Ty.rd (t := yT7) y0.2.1 y0.2.2.2.1).1)) = true then
some (false, ((), ()))
else
(rec0 ((y0.1.1, (y0.1.2.1, (y0.1.2.2.1, (y0.1.2.2.2.1, ())))), (y0.2.1, (y0.2.2.1, ((wi64 (y0.2.2.2.1 + (1 : Int))), ()))))))))
else
some (false, ((), ()))))
else
some (false, ((), ()))))
else none)
else
((fun (z1 : (Int × Int × (List (Int × Int × Int)) × (List (Int × Int)) × Unit) × Unit) =>
some ((decide ((List.length z1.1.2.2.2.1 : Int) ≤ (4 : Int))), ((), ()))) ((y0.1.1, (y0.1.2.1, (y0.1.2.2.1, (y0.1.2.2.2.1, ())))), ())))) k ((x.1.1, (x.1.2.1, (x.1.2.2.1, (x.1.2.2.2.1, ())))), (x.1.2.2.2.1, ((List.length x.1.2.2.2.1 : Int), ((0 : Int), ())))))
theorem t_i_fixesOk (k : Nat) (x) : evF TTab k [⟨133, 0, yP2, .bool, i_isId k⟩, ⟨213, 0, (.cons yP28 yP2), .bool, i_isHost k⟩, ⟨214, 0, (.cons (.agg yP14) yP2), (.int .i64), i_fixedFor k⟩] [(0, ⟨[1, 6, 7, 8], (.cons (.ptr 0 yP14) (.cons (.il true yT7) (.cons (.int .i64) yP2)))⟩, ⟨[1], (.cons (.ptr 0 yP14) .nil)⟩)] Tryz.f212 (.cons (.agg yP14) .nil) .bool x = i_fixesOk k x := by kernel_rfl
theorem e_i_fixesOk [Names] (k : Nat) : EntryOk Tryz.prog ⟨212, 0, (.cons (.agg yP14) .nil), .bool, i_fixesOk k⟩ := entry_ok tok (by intro e he; simp only [List.mem_cons, List.not_mem_nil, or_false] at he; rcases he with rfl | rfl | rfl <;> first | exact e_i_isId k | exact e_i_isHost k | exact e_i_fixedFor k) (by kernel_rfl) (fn := Tryz.f212) (k := k) (es := [⟨133, 0, yP2, .bool, i_isId k⟩, ⟨213, 0, (.cons yP28 yP2), .bool, i_isHost k⟩, ⟨214, 0, (.cons (.agg yP14) yP2), (.int .i64), i_fixedFor k⟩]) (loops := [(0, ⟨[1, 6, 7, 8], (.cons (.ptr 0 yP14) (.cons (.il true yT7) (.cons (.int .i64) yP2)))⟩, ⟨[1], (.cons (.ptr 0 yP14) .nil)⟩)]) (by kernel_rfl) (by kernel_rfl) (fun x r h => (t_i_fixesOk k x).trans h)
def i_PoolOk (k : Nat) (x : (Int × Int × (List (Int × Int × Int)) × (List (Int × Int)) × Unit) × Unit) : Option (Bool × Unit × Unit) :=
((i_PrefixOk k ((x.1.1, (x.1.2.1, ())), ())).bind fun p1 =>
(if (!p1.1) = false then
((i_within k (x.1.2.1, ((24 : Int), ((30 : Int), ())))).bind fun p2 =>
(if (!p2.1) = false then
((i_fixesOk k ((x.1.1, (x.1.2.1, (x.1.2.2.1, (x.1.2.2.2.1, ())))), ())).bind fun p3 =>
(if (!p3.1) = false then
(if (decide ((6 : Int) < (List.length x.1.2.2.1 : Int))) = true then
some (false, ((), ()))
else
(whileK (fun (rec0 : ((Int × Int × (List (Int × Int × Int)) × (List (Int × Int)) × Unit) × (List (Int × Int × Int)) × Int × Int × Unit) → Option _) (y0 : (Int × Int × (List (Int × Int × Int)) × (List (Int × Int)) × Unit) × (List (Int × Int × Int)) × Int × Int × Unit) =>
(if (decide (y0.2.2.2.1 < y0.2.2.1)) = true then
(if 0 ≤ y0.2.2.2.1 ∧ y0.2.2.2.1 < (List.length y0.2.1 : Int) then
(if (decide ((0 : Int) < y0.2.2.2.1)) = true then
(if 0 ≤ (wi64 (y0.2.2.2.1 - (1 : Int))) ∧ (wi64 (y0.2.2.2.1 - (1 : Int))) < (List.length y0.1.2.2.1 : Int) then
(if (decide ((Ty.rd (t := (.pair (.int .i64) yT7)) y0.2.1 y0.2.2.2.1).1 ≤ (Ty.rd (t := (.pair (.int .i64) yT7)) y0.1.2.2.1 (wi64 (y0.2.2.2.1 - (1 : Int)))).1)) = false then
((i_isHost k ((y0.1.1, (y0.1.2.1, ())), ((Ty.rd (t := (.pair (.int .i64) yT7)) y0.2.1 y0.2.2.2.1).1, ()))).bind fun p4 =>
(if (!p4.1) = false then
((i_isId k ((Ty.rd (t := (.pair (.int .i64) yT7)) y0.2.1 y0.2.2.2.1).2.1, ())).bind fun p5 =>
(if (!p5.1) = false then
((i_within k ((Ty.rd (t := (.pair (.int .i64) yT7)) y0.2.1 y0.2.2.2.1).2.2, ((0 : Int), ((1000000000 : Int), ())))).bind fun p6 =>
(if (!p6.1) = true then
some (false, ((), ()))
else
((i_fixedFor k ((y0.1.1, (y0.1.2.1, (y0.1.2.2.1, (y0.1.2.2.2.1, ())))), ((Ty.rd (t := (.pair (.int .i64) yT7)) y0.2.1 y0.2.2.2.1).1, ()))).bind fun p12 =>
((i_leaseOf k ((y0.1.1, (y0.1.2.1, (y0.1.2.2.1, (y0.1.2.2.2.1, ())))), ((Ty.rd (t := (.pair (.int .i64) yT7)) y0.2.1 y0.2.2.2.1).2.1, ()))).bind fun p13 =>
(if (!decide (p13.1 = y0.2.2.2.1)) = false then
(if (!decide (p12.1 = (0 : Int))) = true then
(if (!decide (p12.1 = (Ty.rd (t := (.pair (.int .i64) yT7)) y0.2.1 y0.2.2.2.1).2.1)) = true then
some (false, ((), ()))
else
(rec0 ((y0.1.1, (y0.1.2.1, (y0.1.2.2.1, (y0.1.2.2.2.1, ())))), (y0.2.1, (y0.2.2.1, ((wi64 (y0.2.2.2.1 + (1 : Int))), ()))))))
else
(rec0 ((y0.1.1, (y0.1.2.1, (y0.1.2.2.1, (y0.1.2.2.2.1, ())))), (y0.2.1, (y0.2.2.1, ((wi64 (y0.2.2.2.1 + (1 : Int))), ()))))))
else
some (false, ((), ())))))))
else
some (false, ((), ()))))
else
some (false, ((), ()))))
else
some (false, ((), ())))
else none)
else
((i_isHost k ((y0.1.1, (y0.1.2.1, ())), ((Ty.rd (t := (.pair (.int .i64) yT7)) y0.2.1 y0.2.2.2.1).1, ()))).bind fun p7 =>
(if (!p7.1) = false then
((i_isId k ((Ty.rd (t := (.pair (.int .i64) yT7)) y0.2.1 y0.2.2.2.1).2.1, ())).bind fun p8 =>
(if (!p8.1) = false then
((i_within k ((Ty.rd (t := (.pair (.int .i64) yT7)) y0.2.1 y0.2.2.2.1).2.2, ((0 : Int), ((1000000000 : Int), ())))).bind fun p9 =>
(if (!p9.1) = true then
some (false, ((), ()))
else
((i_fixedFor k ((y0.1.1, (y0.1.2.1, (y0.1.2.2.1, (y0.1.2.2.2.1, ())))), ((Ty.rd (t := (.pair (.int .i64) yT7)) y0.2.1 y0.2.2.2.1).1, ()))).bind fun p14 =>
((i_leaseOf k ((y0.1.1, (y0.1.2.1, (y0.1.2.2.1, (y0.1.2.2.2.1, ())))), ((Ty.rd (t := (.pair (.int .i64) yT7)) y0.2.1 y0.2.2.2.1).2.1, ()))).bind fun p15 =>
(if (!decide (p15.1 = y0.2.2.2.1)) = false then
(if (!decide (p14.1 = (0 : Int))) = true then
(if (!decide (p14.1 = (Ty.rd (t := (.pair (.int .i64) yT7)) y0.2.1 y0.2.2.2.1).2.1)) = true then
some (false, ((), ()))
else
(rec0 ((y0.1.1, (y0.1.2.1, (y0.1.2.2.1, (y0.1.2.2.2.1, ())))), (y0.2.1, (y0.2.2.1, ((wi64 (y0.2.2.2.1 + (1 : Int))), ()))))))
else
(rec0 ((y0.1.1, (y0.1.2.1, (y0.1.2.2.1, (y0.1.2.2.2.1, ())))), (y0.2.1, (y0.2.2.1, ((wi64 (y0.2.2.2.1 + (1 : Int))), ()))))))
else
some (false, ((), ())))))))
else
some (false, ((), ()))))
else
some (false, ((), ())))))
else none)
else
((fun (z1 : Unit) =>
some (true, ((), ()))) ()))) k ((x.1.1, (x.1.2.1, (x.1.2.2.1, (x.1.2.2.2.1, ())))), (x.1.2.2.1, ((List.length x.1.2.2.1 : Int), ((0 : Int), ()))))))
else
some (false, ((), ()))))
else
some (false, ((), ()))))
else
some (false, ((), ()))))
theorem t_i_PoolOk (k : Nat) (x) : evF TTab k [⟨55, 0, yP12, .bool, i_within k⟩, ⟨133, 0, yP2, .bool, i_isId k⟩, ⟨134, 0, (.cons (.agg yP14) yP2), (.int .i64), i_leaseOf k⟩, ⟨211, 0, (.cons yP28 .nil), .bool, i_PrefixOk k⟩, ⟨212, 0, (.cons (.agg yP14) .nil), .bool, i_fixesOk k⟩, ⟨213, 0, (.cons yP28 yP2), .bool, i_isHost k⟩, ⟨214, 0, (.cons (.agg yP14) yP2), (.int .i64), i_fixedFor k⟩] [(0, ⟨[1, 29, 30, 31], (.cons (.ptr 0 yP14) (.cons (.il true (.pair (.int .i64) yT7)) (.cons (.int .i64) yP2)))⟩, ⟨[], .nil⟩)] Tryz.f124 (.cons (.agg yP14) .nil) .bool x = i_PoolOk k x := by kernel_rfl
theorem e_i_PoolOk [Names] (k : Nat) : EntryOk Tryz.prog ⟨124, 0, (.cons (.agg yP14) .nil), .bool, i_PoolOk k⟩ := entry_ok tok (by intro e he; simp only [List.mem_cons, List.not_mem_nil, or_false] at he; rcases he with rfl | rfl | rfl | rfl | rfl | rfl | rfl <;> first | exact e_i_within k | exact e_i_isId k | exact e_i_leaseOf k | exact e_i_PrefixOk k | exact e_i_fixesOk k | exact e_i_isHost k | exact e_i_fixedFor k) (by kernel_rfl) (fn := Tryz.f124) (k := k) (es := [⟨55, 0, yP12, .bool, i_within k⟩, ⟨133, 0, yP2, .bool, i_isId k⟩, ⟨134, 0, (.cons (.agg yP14) yP2), (.int .i64), i_leaseOf k⟩, ⟨211, 0, (.cons yP28 .nil), .bool, i_PrefixOk k⟩, ⟨212, 0, (.cons (.agg yP14) .nil), .bool, i_fixesOk k⟩, ⟨213, 0, (.cons yP28 yP2), .bool, i_isHost k⟩, ⟨214, 0, (.cons (.agg yP14) yP2), (.int .i64), i_fixedFor k⟩]) (loops := [(0, ⟨[1, 29, 30, 31], (.cons (.ptr 0 yP14) (.cons (.il true (.pair (.int .i64) yT7)) (.cons (.int .i64) yP2)))⟩, ⟨[], .nil⟩)]) (by kernel_rfl) (by kernel_rfl) (fun x r h => (t_i_PoolOk k x).trans h)
def i_withoutPrefix_1 (k : Nat) (x : (Int × Int × Int × Unit) × (Int × Int × Unit) × Unit) : Option (Bool × Unit × (Int × Int × Unit) × Unit) :=
some ((decide (x.1.1 = x.2.1.1) && decide (x.1.2.1 = x.2.1.2.1)), ((), ((x.2.1.1, (x.2.1.2.1, ())), ())))
theorem t_i_withoutPrefix_1 (k : Nat) (x) : evF TTab k [] [] Tryz.f222 (.cons (.agg yP12) yP30) .bool x = i_withoutPrefix_1 k x := by kernel_rfl
theorem e_i_withoutPrefix_1 [Names] (k : Nat) : EntryOk Tryz.prog ⟨222, 0, (.cons (.agg yP12) yP30), .bool, i_withoutPrefix_1 k⟩ := entry_ok tok (by simp) (by kernel_rfl) (fn := Tryz.f222) (k := k) (es := []) (loops := []) (by kernel_rfl) (by kernel_rfl) (fun x r h => (t_i_withoutPrefix_1 k x).trans h)
def x_slices_IndexFunc_impl_Route_impl_Route_of_i_withoutPrefix_1 (k : Nat) (x : (List ((Int × Int) × Int)) × ((Int × Int × Unit) × Unit) × Unit) : Option (Int × Unit × ((Int × Int × Unit) × Unit) × Unit) :=
(whileK (fun (rec0 : ((List ((Int × Int) × Int)) × ((Int × Int × Unit) × Unit) × Int × Int × Unit) → Option _) (y0 : (List ((Int × Int) × Int)) × ((Int × Int × Unit) × Unit) × Int × Int × Unit) =>
(if (decide (y0.2.2.2.1 < y0.2.2.1)) = true then
(if 0 ≤ y0.2.2.2.1 ∧ y0.2.2.2.1 < (List.length y0.1 : Int) then
((i_withoutPrefix_1 k (((Ty.rd (t := (.pair yT7 (.int .i64))) y0.1 y0.2.2.2.1).1.1, ((Ty.rd (t := (.pair yT7 (.int .i64))) y0.1 y0.2.2.2.1).1.2, ((Ty.rd (t := (.pair yT7 (.int .i64))) y0.1 y0.2.2.2.1).2, ()))), ((y0.2.1.1.1, (y0.2.1.1.2.1, ())), ()))).bind fun p1 =>
(if p1.1 = true then
some (y0.2.2.2.1, ((), (((p1.2.2.1.1, (p1.2.2.1.2.1, ())), ()), ())))
else
(rec0 (y0.1, (((p1.2.2.1.1, (p1.2.2.1.2.1, ())), ()), (y0.2.2.1, ((wi64 (y0.2.2.2.1 + (1 : Int))), ())))))))
else none)
else
((fun (z1 : ((Int × Int × Unit) × Unit) × Unit) =>
some ((-1 : Int), ((), (((z1.1.1.1, (z1.1.1.2.1, ())), ()), ())))) (((y0.2.1.1.1, (y0.2.1.1.2.1, ())), ()), ())))) k (x.1, (((x.2.1.1.1, (x.2.1.1.2.1, ())), ()), ((List.length x.1 : Int), ((0 : Int), ())))))
theorem t_x_slices_IndexFunc_impl_Route_impl_Route_of_i_withoutPrefix_1 (k : Nat) (x) : evF TTab k [⟨222, 0, (.cons (.agg yP12) yP30), .bool, i_withoutPrefix_1 k⟩] [(0, ⟨[0, 1, 7, 8], (.cons yP23 (.cons (.fn 222 yP30) (.cons (.int .i64) yP2)))⟩, ⟨[1], (.cons (.fn 222 yP30) .nil)⟩)] Tryz.f235 (.cons yP23 (.cons (.fn 222 yP30) .nil)) (.int .i64) x = x_slices_IndexFunc_impl_Route_impl_Route_of_i_withoutPrefix_1 k x := by kernel_rfl
theorem e_x_slices_IndexFunc_impl_Route_impl_Route_of_i_withoutPrefix_1 [Names] (k : Nat) : EntryOk Tryz.prog ⟨235, 223, (.cons yP23 (.cons (.fn 222 yP30) .nil)), (.int .i64), x_slices_IndexFunc_impl_Route_impl_Route_of_i_withoutPrefix_1 k⟩ := entry_ok tok (by intro e he; simp only [List.mem_cons, List.not_mem_nil, or_false] at he; rcases he with rfl <;> first | exact e_i_withoutPrefix_1 k) (by kernel_rfl) (fn := Tryz.f235) (k := k) (es := [⟨222, 0, (.cons (.agg yP12) yP30), .bool, i_withoutPrefix_1 k⟩]) (loops := [(0, ⟨[0, 1, 7, 8], (.cons yP23 (.cons (.fn 222 yP30) (.cons (.int .i64) yP2)))⟩, ⟨[1], (.cons (.fn 222 yP30) .nil)⟩)]) (by kernel_rfl) (by kernel_rfl) (fun x r h => (t_x_slices_IndexFunc_impl_Route_impl_Route_of_i_withoutPrefix_1 k x).trans h)
def x_slices_DeleteFunc_impl_Route_impl_Route_of_i_withoutPrefix_1 (k : Nat) (x : (List ((Int × Int) × Int)) × ((Int × Int × Unit) × Unit) × Unit) : Option ((List ((Int × Int) × Int)) × Unit × ((Int × Int × Unit) × Unit) × Unit) :=
((x_slices_IndexFunc_impl_Route_impl_Route_of_i_withoutPrefix_1 k (x.1, (((x.2.1.1.1, (x.2.1.1.2.1, ())), ()), ()))).bind fun p1 =>
(if (decide (p1.1 = (-1 : Int))) = true then
some (x.1, ((), (((p1.2.2.1.1.1, (p1.2.2.1.1.2.1, ())), ()), ())))
else
(whileK (fun (rec0 : ((List ((Int × Int) × Int)) × ((Int × Int × Unit) × Unit) × Int × Int × Unit) → Option _) (y0 : (List ((Int × Int) × Int)) × ((Int × Int × Unit) × Unit) × Int × Int × Unit) =>
(if (decide (y0.2.2.2.1 < (List.length y0.1 : Int))) = true then
(if 0 ≤ y0.2.2.2.1 ∧ y0.2.2.2.1 < (List.length y0.1 : Int) then
((i_withoutPrefix_1 k (((Ty.rd (t := (.pair yT7 (.int .i64))) y0.1 y0.2.2.2.1).1.1, ((Ty.rd (t := (.pair yT7 (.int .i64))) y0.1 y0.2.2.2.1).1.2, ((Ty.rd (t := (.pair yT7 (.int .i64))) y0.1 y0.2.2.2.1).2, ()))), ((y0.2.1.1.1, (y0.2.1.1.2.1, ())), ()))).bind fun p2 =>
(if (!p2.1) = true then
(if 0 ≤ y0.2.2.1 ∧ y0.2.2.1 < (List.length y0.1 : Int) then
(rec0 ((List.set y0.1 (Int.toNat y0.2.2.1) (((Ty.rd (t := (.pair yT7 (.int .i64))) y0.1 y0.2.2.2.1).1.1, (Ty.rd (t := (.pair yT7 (.int .i64))) y0.1 y0.2.2.2.1).1.2), (Ty.rd (t := (.pair yT7 (.int .i64))) y0.1 y0.2.2.2.1).2)), (((p2.2.2.1.1, (p2.2.2.1.2.1, ())), ()), ((wi64 (y0.2.2.1 + (1 : Int))), ((wi64 (y0.2.2.2.1 + (1 : Int))), ())))))
else none)
else
(rec0 (y0.1, (((p2.2.2.1.1, (p2.2.2.1.2.1, ())), ()), (y0.2.2.1, ((wi64 (y0.2.2.2.1 + (1 : Int))), ())))))))
else none)
else
((fun (z1 : (List ((Int × Int) × Int)) × ((Int × Int × Unit) × Unit) × Int × Unit) =>
(if 0 ≤ z1.2.2.1 ∧ z1.2.2.1 ≤ (List.length z1.1 : Int) then
(if 0 ≤ z1.2.2.1 ∧ z1.2.2.1 ≤ (List.length (List.take (Int.toNat z1.2.2.1) z1.1 ++ (List.replicate (Int.toNat ((List.length z1.1 : Int) - z1.2.2.1)) (((0 : Int), (0 : Int)), (0 : Int)) ++ List.drop (Int.toNat (List.length z1.1 : Int)) z1.1)) : Int) then
some ((List.drop (Int.toNat (0 : Int)) (List.take (Int.toNat z1.2.2.1) (List.take (Int.toNat z1.2.2.1) z1.1 ++ (List.replicate (Int.toNat ((List.length z1.1 : Int) - z1.2.2.1)) (((0 : Int), (0 : Int)), (0 : Int)) ++ List.drop (Int.toNat (List.length z1.1 : Int)) z1.1)))), ((), (((z1.2.1.1.1, (z1.2.1.1.2.1, ())), ()), ())))
else none)
else none)) (y0.1, (((y0.2.1.1.1, (y0.2.1.1.2.1, ())), ()), (y0.2.2.1, ())))))) k (x.1, (((p1.2.2.1.1.1, (p1.2.2.1.1.2.1, ())), ()), (p1.1, ((wi64 (p1.1 + (1 : Int))), ())))))))
theorem t_x_slices_DeleteFunc_impl_Route_impl_Route_of_i_withoutPrefix_1 (k : Nat) (x) : evF TTab k [⟨222, 0, (.cons (.agg yP12) yP30), .bool, i_withoutPrefix_1 k⟩, ⟨235, 223, (.cons yP23 (.cons (.fn 222 yP30) .nil)), (.int .i64), x_slices_IndexFunc_impl_Route_impl_Route_of_i_withoutPrefix_1 k⟩] [(0, ⟨[0, 1, 5, 6], (.cons yP21 (.cons (.fn 222 yP30) (.cons (.int .i64) yP2)))⟩, ⟨[0, 1, 5], (.cons yP21 (.cons (.fn 222 yP30) yP2))⟩)] Tryz.f150 (.cons yP21 (.cons (.fn 222 yP30) .nil)) yP21 x = x_slices_DeleteFunc_impl_Route_impl_Route_of_i_withoutPrefix_1 k x := by kernel_rfl
theorem e_x_slices_DeleteFunc_impl_Route_impl_Route_of_i_withoutPrefix_1 [Names] (k : Nat) : EntryOk Tryz.prog ⟨150, 223, (.cons yP21 (.cons (.fn 222 yP30) .nil)), yP21, x_slices_DeleteFunc_impl_Route_impl_Route_of_i_withoutPrefix_1 k⟩ := entry_ok tok (by intro e he; simp only [List.mem_cons, List.not_mem_nil, or_false] at he; rcases he with rfl | rfl <;> first | exact e_i_withoutPrefix_1 k | exact e_x_slices_IndexFunc_impl_Route_impl_Route_of_i_withoutPrefix_1 k) (by kernel_rfl) (fn := Tryz.f150) (k := k) (es := [⟨222, 0, (.cons (.agg yP12) yP30), .bool, i_withoutPrefix_1 k⟩, ⟨235, 223, (.cons yP23 (.cons (.fn 222 yP30) .nil)), (.int .i64), x_slices_IndexFunc_impl_Route_impl_Route_of_i_withoutPrefix_1 k⟩]) (loops := [(0, ⟨[0, 1, 5, 6], (.cons yP21 (.cons (.fn 222 yP30) (.cons (.int .i64) yP2)))⟩, ⟨[0, 1, 5], (.cons yP21 (.cons (.fn 222 yP30) yP2))⟩)]) (by kernel_rfl) (by kernel_rfl) (fun x r h => (t_x_slices_DeleteFunc_impl_Route_impl_Route_of_i_withoutPrefix_1 k x).trans h)
def i_withoutPrefix (k : Nat) (x : (List ((Int × Int) × Int)) × (Int × Int × Unit) × Unit) : Option ((List ((Int × Int) × Int)) × Unit × Unit × Unit) :=
((i_copyRoutes k (x.1, ())).bind fun p1 =>
((x_slices_DeleteFunc_impl_Route_impl_Route_of_i_withoutPrefix_1 k (p1.1, (((x.2.1.1, (x.2.1.2.1, ())), ()), ()))).bind fun p2 =>
some (p2.1, ((), ((), ())))))
theorem t_i_withoutPrefix (k : Nat) (x) : evF TTab k [⟨129, 0, (.cons yP23 .nil), yP21, i_copyRoutes k⟩, ⟨150, 223, (.cons yP21 (.cons (.fn 222 yP30) .nil)), yP21, x_slices_DeleteFunc_impl_Route_impl_Route_of_i_withoutPrefix_1 k⟩] [] Tryz.f137 (.cons yP23 (.cons yP28 .nil)) yP21 x = i_withoutPrefix k x := by kernel_rfl
theorem e_i_withoutPrefix [Names] (k : Nat) : EntryOk Tryz.prog ⟨137, 0, (.cons yP23 (.cons yP28 .nil)), yP21, i_withoutPrefix k⟩ := entry_ok tok (by intro e he; simp only [List.mem_cons, List.not_mem_nil, or_false] at he; rcases he with rfl | rfl <;> first | exact e_i_copyRoutes k | exact e_x_slices_DeleteFunc_impl_Route_impl_Route_of_i_withoutPrefix_1 k) (by kernel_rfl) (fn := Tryz.f137) (k := k) (es := [⟨129, 0, (.cons yP23 .nil), yP21, i_copyRoutes k⟩, ⟨150, 223, (.cons yP21 (.cons (.fn 222 yP30) .nil)), yP21, x_slices_DeleteFunc_impl_Route_impl_Route_of_i_withoutPrefix_1 k⟩]) (loops := []) (by kernel_rfl) (by kernel_rfl) (fun x r h => (t_i_withoutPrefix k x).trans h)
def x_cmp_Or_int (k : Nat) (x : List (Int) × Unit) : Option (Int × Unit × Unit) :=
(whileK (fun (rec0 : (Int × List (Int) × Int × Int × Unit) → Option _) (y0 : Int × List (Int) × Int × Int × Unit) =>
(if (decide (y0.2.2.2.1 < y0.2.2.1)) = true then
(if 0 ≤ y0.2.2.2.1 ∧ y0.2.2.2.1 < (List.length y0.2.1 : Int) then
(if (!decide ((Ty.rd (t := (.int .i64)) y0.2.1 y0.2.2.2.1) = y0.1)) = true then
some ((Ty.rd (t := (.int .i64)) y0.2.1 y0.2.2.2.1), ((), ()))
else
(rec0 (y0.1, (y0.2.1, (y0.2.2.1, ((wi64 (y0.2.2.2.1 + (1 : Int))), ()))))))
else none)
else
((fun (z1 : Int × Unit) =>
some (z1.1, ((), ()))) (y0.1, ())))) k ((0 : Int), (x.1, ((List.length x.1 : Int), ((0 : Int), ())))))
theorem t_x_cmp_Or_int (k : Nat) (x) : evF TTab k [] [(0, ⟨[3, 6, 7, 8], (.cons (.int .i64) (.cons (.il true (.int .i64)) (.cons (.int .i64) yP2)))⟩, ⟨[3], yP2⟩)] Tryz.f223 yP29 (.int .i64) x = x_cmp_Or_int k x := by kernel_rfl
theorem e_x_cmp_Or_int [Names] (k : Nat) : EntryOk Tryz.prog ⟨223, 0, yP29, (.int .i64), x_cmp_Or_int k⟩ := entry_ok tok (by simp) (by kernel_rfl) (fn := Tryz.f223) (k := k) (es := []) (loops := [(0, ⟨[3, 6, 7, 8], (.cons (.int .i64) (.cons (.il true (.int .i64)) (.cons (.int .i64) yP2)))⟩, ⟨[3], yP2⟩)]) (by kernel_rfl) (by kernel_rfl) (fun x r h => (t_x_cmp_Or_int k x).trans h)
def x_cmp_isNaN_int (k : Nat) (x : Int × Unit) : Option (Bool × Unit × Unit) :=
some ((!decide (x.1 = x.1)), ((), ()))
theorem t_x_cmp_isNaN_int (k : Nat) (x) : evF TTab k [] [] Tryz.f282 yP2 .bool x = x_cmp_isNaN_int k x := by kernel_rfl
theorem e_x_cmp_isNaN_int [Names] (k : Nat) : EntryOk Tryz.prog ⟨282, 0, yP2, .bool, x_cmp_isNaN_int k⟩ := entry_ok tok (by simp) (by kernel_rfl) (fn := Tryz.f282) (k := k) (es := []) (loops := []) (by kernel_rfl) (by kernel_rfl) (fun x r h => (t_x_cmp_isNaN_int k x).trans h)
def x_cmp_Compare_int (k : Nat) (x : Int × Int × Unit) : Option (Int × Unit × Unit × Unit) :=
((x_cmp_isNaN_int k (x.1, ())).bind fun p1 =>
((x_cmp_isNaN_int k (x.2.1, ())).bind fun p2 =>
(if p1.1 = true then
(if p2.1 = true then
some ((0 : Int), ((), ((), ())))
else
some ((-1 : Int), ((), ((), ()))))
else
(if p2.1 = true then
some ((1 : Int), ((), ((), ())))
else
(if (decide (x.1 < x.2.1)) = true then
some ((-1 : Int), ((), ((), ())))
else
(if (decide (x.2.1 < x.1)) = true then
some ((1 : Int), ((), ((), ())))
else
some ((0 : Int), ((), ((), ())))))))))
theorem t_x_cmp_Compare_int (k : Nat) (x) : evF TTab k [⟨282, 0, yP2, .bool, x_cmp_isNaN_int k⟩] [] Tryz.f224 (.cons (.int .i64) yP2) (.int .i64) x = x_cmp_Compare_int k x := by kernel_rfl
theorem e_x_cmp_Compare_int [Names] (k : Nat) : EntryOk Tryz.prog ⟨224, 0, (.cons (.int .i64) yP2), (.int .i64), x_cmp_Compare_int k⟩ := entry_ok tok (by intro e he; simp only [List.mem_cons, List.not_mem_nil, or_false] at he; rcases he with rfl <;> first | exact e_x_cmp_isNaN_int k) (by kernel_rfl) (fn := Tryz.f224) (k := k) (es := [⟨282, 0, yP2, .bool, x_cmp_isNaN_int k⟩]) (loops := []) (by kernel_rfl) (by kernel_rfl) (fun x r h => (t_x_cmp_Compare_int k x).trans h)
def i_comparePrefixes (k : Nat) (x : (Int × Int × Unit) × (Int × Int × Unit) × Unit) : Option (Int × Unit × Unit × Unit) :=
((x_cmp_Compare_int k (x.1.1, (x.2.1.1, ()))).bind fun p1 =>
((x_cmp_Compare_int k (x.1.2.1, (x.2.1.2.1, ()))).bind fun p2 =>
((x_cmp_Or_int k (([p1.1, p2.1] : List (Int)), ())).bind fun p3 =>
some (p3.1, ((), ((), ()))))))
theorem t_i_comparePrefixes (k : Nat) (x) : evF TTab k [⟨223, 0, yP29, (.int .i64), x_cmp_Or_int k⟩, ⟨224, 0, (.cons (.int .i64) yP2), (.int .i64), x_cmp_Compare_int k⟩] [] Tryz.f138 (.cons yP28 (.cons yP28 .nil)) (.int .i64) x = i_comparePrefixes k x := by kernel_rfl
theorem e_i_comparePrefixes [Names] (k : Nat) : EntryOk Tryz.prog ⟨138, 0, (.cons yP28 (.cons yP28 .nil)), (.int .i64), i_comparePrefixes k⟩ := entry_ok tok (by intro e he; simp only [List.mem_cons, List.not_mem_nil, or_false] at he; rcases he with rfl | rfl <;> first | exact e_x_cmp_Or_int k | exact e_x_cmp_Compare_int k) (by kernel_rfl) (fn := Tryz.f138) (k := k) (es := [⟨223, 0, yP29, (.int .i64), x_cmp_Or_int k⟩, ⟨224, 0, (.cons (.int .i64) yP2), (.int .i64), x_cmp_Compare_int k⟩]) (loops := []) (by kernel_rfl) (by kernel_rfl) (fun x r h => (t_i_comparePrefixes k x).trans h)
def x_slices_Insert_impl_Route_impl_Route (k : Nat) (x : (List ((Int × Int) × Int)) × Int × (List ((Int × Int) × Int)) × Unit) : Option ((List ((Int × Int) × Int)) × Unit × Unit × Unit × Unit) := insF 24 (.pair yT7 (.int .i64)) x
theorem ins_x_slices_Insert_impl_Route_impl_Route : InsL Tryz.prog ⟨fun n => if n = 29 then 225 else if n = 30 then 226 else n, fun n => if n = 9 then 53 else if n = 24 then 30 else n, fun n => n⟩ 139 3 24 (Tryz.t53.zero.getD default) where
  mixed := by kernel_rfl
  f22 := ⟨Tryz.f139.name, Tryz.func139.trans (by kernel_rfl)⟩
  f29 := ⟨_, Tryz.func225, by kernel_rfl, by kernel_rfl, by kernel_rfl, by kernel_rfl⟩
  t0 := Tryz.underlying0
  a0 := Tryz.isAgg0
  z0 := Tryz.sizeOf0
  v0 := Tryz.zeroValue0
  t3 := Tryz.underlying3
  a3 := Tryz.isAgg3
  z3 := Tryz.sizeOf3
  v3 := Tryz.zeroValue3
  t4 := Tryz.underlying4
  a4 := Tryz.isAgg4
  z4 := Tryz.sizeOf4
  v4 := Tryz.zeroValue4
  t24 := Tryz.underlying30
  a24 := Tryz.isAgg30
  z24 := Tryz.sizeOf30
  v24 := Tryz.zeroValue30
  z9 := Tryz.sizeOf53
  i9 := by kernel_rfl
theorem e_x_slices_Insert_impl_Route_impl_Route [Names] (k : Nat) : EntryOk Tryz.prog ⟨139, 0, (.cons yP21 (.cons (.int .i64) (.cons yP21 .nil))), yP21, x_slices_Insert_impl_Route_impl_Route k⟩ := entry_insert (t := (.pair yT7 (.int .i64))) ins_x_slices_Insert_impl_Route_impl_Route (by decide) (by decide) (by kernel_rfl) Tryz.func139 (by kernel_rfl)
def i_RoutesOk (k : Nat) (x : (List ((Int × Int) × Int)) × Unit) : Option (Bool × Unit × Unit) :=
(whileK (fun (rec0 : ((List ((Int × Int) × Int)) × (List ((Int × Int) × Int)) × Int × Int × Unit) → Option _) (y0 : (List ((Int × Int) × Int)) × (List ((Int × Int) × Int)) × Int × Int × Unit) =>
(if (decide (y0.2.2.2.1 < y0.2.2.1)) = true then
(if 0 ≤ y0.2.2.2.1 ∧ y0.2.2.2.1 < (List.length y0.2.1 : Int) then
((i_PrefixOk k (((Ty.rd (t := (.pair yT7 (.int .i64))) y0.2.1 y0.2.2.2.1).1.1, ((Ty.rd (t := (.pair yT7 (.int .i64))) y0.2.1 y0.2.2.2.1).1.2, ())), ())).bind fun p1 =>
(if (!p1.1) = false then
((i_isId k ((Ty.rd (t := (.pair yT7 (.int .i64))) y0.2.1 y0.2.2.2.1).2, ())).bind fun p2 =>
(if (!p2.1) = false then
(if (decide ((0 : Int) < y0.2.2.2.1)) = true then
(if 0 ≤ (wi64 (y0.2.2.2.1 - (1 : Int))) ∧ (wi64 (y0.2.2.2.1 - (1 : Int))) < (List.length y0.1 : Int) then
((i_comparePrefixes k (((Ty.rd (t := (.pair yT7 (.int .i64))) y0.1 (wi64 (y0.2.2.2.1 - (1 : Int)))).1.1, ((Ty.rd (t := (.pair yT7 (.int .i64))) y0.1 (wi64 (y0.2.2.2.1 - (1 : Int)))).1.2, ())), (((Ty.rd (t := (.pair yT7 (.int .i64))) y0.2.1 y0.2.2.2.1).1.1, ((Ty.rd (t := (.pair yT7 (.int .i64))) y0.2.1 y0.2.2.2.1).1.2, ())), ()))).bind fun p3 =>
(if (decide ((0 : Int) ≤ p3.1)) = true then
some (false, ((), ()))
else
(rec0 (y0.1, (y0.2.1, (y0.2.2.1, ((wi64 (y0.2.2.2.1 + (1 : Int))), ())))))))
else none)
else
(rec0 (y0.1, (y0.2.1, (y0.2.2.1, ((wi64 (y0.2.2.2.1 + (1 : Int))), ()))))))
else
some (false, ((), ()))))
else
some (false, ((), ()))))
else none)
else
((fun (z1 : (List ((Int × Int) × Int)) × Unit) =>
some ((decide ((List.length z1.1 : Int) ≤ (12 : Int))), ((), ()))) (y0.1, ())))) k (x.1, (x.1, ((List.length x.1 : Int), ((0 : Int), ())))))
theorem t_i_RoutesOk (k : Nat) (x) : evF TTab k [⟨133, 0, yP2, .bool, i_isId k⟩, ⟨138, 0, (.cons yP28 (.cons yP28 .nil)), (.int .i64), i_comparePrefixes k⟩, ⟨211, 0, (.cons yP28 .nil), .bool, i_PrefixOk k⟩] [(0, ⟨[0, 5, 6, 7], (.cons yP23 (.cons yP23 (.cons (.int .i64) yP2)))⟩, ⟨[0], (.cons yP23 .nil)⟩)] Tryz.f140 (.cons yP23 .nil) .bool x = i_RoutesOk k x := by kernel_rfl
theorem e_i_RoutesOk [Names] (k : Nat) : EntryOk Tryz.prog ⟨140, 0, (.cons yP23 .nil), .bool, i_RoutesOk k⟩ := entry_ok tok (by intro e he; simp only [List.mem_cons, List.not_mem_nil, or_false] at he; rcases he with rfl | rfl | rfl <;> first | exact e_i_isId k | exact e_i_comparePrefixes k | exact e_i_PrefixOk k) (by kernel_rfl) (fn := Tryz.f140) (k := k) (es := [⟨133, 0, yP2, .bool, i_isId k⟩, ⟨138, 0, (.cons yP28 (.cons yP28 .nil)), (.int .i64), i_comparePrefixes k⟩, ⟨211, 0, (.cons yP28 .nil), .bool, i_PrefixOk k⟩]) (loops := [(0, ⟨[0, 5, 6, 7], (.cons yP23 (.cons yP23 (.cons (.int .i64) yP2)))⟩, ⟨[0], (.cons yP23 .nil)⟩)]) (by kernel_rfl) (by kernel_rfl) (fun x r h => (t_i_RoutesOk k x).trans h)
def i_PutRoute (k : Nat) (x : (List ((Int × Int) × Int)) × (Int × Int × Int × Unit) × Unit) : Option (((List ((Int × Int) × Int)) × Bool × Unit) × Unit × Unit × Unit) :=
((i_withoutPrefix k (x.1, ((x.2.1.1, (x.2.1.2.1, ())), ()))).bind fun p1 =>
(jn (fun (z1 : (List ((Int × Int) × Int)) × (Int × Int × Int × Unit) × (List ((Int × Int) × Int)) × Int × Unit) =>
((x_slices_Insert_impl_Route_impl_Route k (z1.2.2.1, (z1.2.2.2.1, (([((z1.2.1.1, z1.2.1.2.1), z1.2.1.2.2.1)] : List ((Int × Int) × Int)), ())))).bind fun p3 =>
((i_RoutesOk k (z1.1, ())).bind fun p4 =>
(if (!p4.1) = false then
((i_RoutesOk k (p3.1, ())).bind fun p5 =>
(if (!p5.1) = true then
((i_copyRoutes k (z1.1, ())).bind fun p6 =>
some ((p6.1, (false, ())), ((), ((), ()))))
else
some ((p3.1, (true, ())), ((), ((), ())))))
else
((i_copyRoutes k (z1.1, ())).bind fun p7 =>
some ((p7.1, (false, ())), ((), ((), ())))))))) (fun (E1 : ((List ((Int × Int) × Int)) × (Int × Int × Int × Unit) × (List ((Int × Int) × Int)) × Int × Unit) → Option _) =>
(whileK (fun (rec0 : ((List ((Int × Int) × Int)) × (Int × Int × Int × Unit) × (List ((Int × Int) × Int)) × Int × Unit) → Option _) (y0 : (List ((Int × Int) × Int)) × (Int × Int × Int × Unit) × (List ((Int × Int) × Int)) × Int × Unit) =>
(if (decide (y0.2.2.2.1 < (List.length y0.2.2.1 : Int))) = true then
(if 0 ≤ y0.2.2.2.1 ∧ y0.2.2.2.1 < (List.length y0.2.2.1 : Int) then
((i_comparePrefixes k (((Ty.rd (t := (.pair yT7 (.int .i64))) y0.2.2.1 y0.2.2.2.1).1.1, ((Ty.rd (t := (.pair yT7 (.int .i64))) y0.2.2.1 y0.2.2.2.1).1.2, ())), ((y0.2.1.1, (y0.2.1.2.1, ())), ()))).bind fun p2 =>
(if (decide (p2.1 < (0 : Int))) = true then
(rec0 (y0.1, ((y0.2.1.1, (y0.2.1.2.1, (y0.2.1.2.2.1, ()))), (y0.2.2.1, ((wi64 (y0.2.2.2.1 + (1 : Int))), ())))))
else
(E1 (y0.1, ((y0.2.1.1, (y0.2.1.2.1, (y0.2.1.2.2.1, ()))), (y0.2.2.1, (y0.2.2.2.1, ())))))))
else none)
else
(E1 (y0.1, ((y0.2.1.1, (y0.2.1.2.1, (y0.2.1.2.2.1, ()))), (y0.2.2.1, (y0.2.2.2.1, ()))))))) k (x.1, ((x.2.1.1, (x.2.1.2.1, (x.2.1.2.2.1, ()))), (p1.1, ((0 : Int), ()))))))))
theorem t_i_PutRoute (k : Nat) (x) : evF TTab k [⟨129, 0, (.cons yP23 .nil), yP21, i_copyRoutes k⟩, ⟨137, 0, (.cons yP23 (.cons yP28 .nil)), yP21, i_withoutPrefix k⟩, ⟨138, 0, (.cons yP28 (.cons yP28 .nil)), (.int .i64), i_comparePrefixes k⟩, ⟨139, 0, (.cons yP21 (.cons (.int .i64) (.cons yP21 .nil))), yP21, x_slices_Insert_impl_Route_impl_Route k⟩, ⟨140, 0, (.cons yP23 .nil), .bool, i_RoutesOk k⟩] [(0, ⟨[0, 3, 6, 7], (.cons yP23 (.cons (.ptr 0 yP12) (.cons yP21 yP2)))⟩, ⟨[0, 3, 6, 7], (.cons yP23 (.cons (.ptr 0 yP12) (.cons yP21 yP2)))⟩)] Tryz.f58 (.cons yP23 (.cons (.agg yP12) .nil)) (.tup (.cons yP21 (.cons .bool .nil))) x = i_PutRoute k x := by kernel_rfl
theorem e_i_PutRoute [Names] (k : Nat) : EntryOk Tryz.prog ⟨58, 0, (.cons yP23 (.cons (.agg yP12) .nil)), (.tup (.cons yP21 (.cons .bool .nil))), i_PutRoute k⟩ := entry_ok tok (by intro e he; simp only [List.mem_cons, List.not_mem_nil, or_false] at he; rcases he with rfl | rfl | rfl | rfl | rfl <;> first | exact e_i_copyRoutes k | exact e_i_withoutPrefix k | exact e_i_comparePrefixes k | exact e_x_slices_Insert_impl_Route_impl_Route k | exact e_i_RoutesOk k) (by kernel_rfl) (fn := Tryz.f58) (k := k) (es := [⟨129, 0, (.cons yP23 .nil), yP21, i_copyRoutes k⟩, ⟨137, 0, (.cons yP23 (.cons yP28 .nil)), yP21, i_withoutPrefix k⟩, ⟨138, 0, (.cons yP28 (.cons yP28 .nil)), (.int .i64), i_comparePrefixes k⟩, ⟨139, 0, (.cons yP21 (.cons (.int .i64) (.cons yP21 .nil))), yP21, x_slices_Insert_impl_Route_impl_Route k⟩, ⟨140, 0, (.cons yP23 .nil), .bool, i_RoutesOk k⟩]) (loops := [(0, ⟨[0, 3, 6, 7], (.cons yP23 (.cons (.ptr 0 yP12) (.cons yP21 yP2)))⟩, ⟨[0, 3, 6, 7], (.cons yP23 (.cons (.ptr 0 yP12) (.cons yP21 yP2)))⟩)]) (by kernel_rfl) (by kernel_rfl) (fun x r h => (t_i_PutRoute k x).trans h)
def i_NumberText (k : Nat) (x : Int × Unit) : Option (ByteArray × Unit × Unit) :=
((i_within k (x.1, ((0 : Int), ((4294967295 : Int), ())))).bind fun p1 =>
(if (!p1.1) = true then
some ((⟨#[]⟩ : ByteArray), ((), ()))
else
some ((strOf ([(wu8 ((bitsI .and .i64 (Int.fdiv x.1 (2 ^ (min (Int.toNat (24 : Int)) (IntKind.bits .i64)))) (255 : Int)))), (wu8 ((bitsI .and .i64 (Int.fdiv x.1 (2 ^ (min (Int.toNat (16 : Int)) (IntKind.bits .i64)))) (255 : Int)))), (wu8 ((bitsI .and .i64 (Int.fdiv x.1 (2 ^ (min (Int.toNat (8 : Int)) (IntKind.bits .i64)))) (255 : Int)))), (wu8 ((bitsI .and .i64 x.1 (255 : Int))))] : List (Int))), ((), ()))))
theorem t_i_NumberText (k : Nat) (x) : evF TTab k [⟨55, 0, yP12, .bool, i_within k⟩] [] Tryz.f181 yP2 .str x = i_NumberText k x := by kernel_rfl
theorem e_i_NumberText [Names] (k : Nat) : EntryOk Tryz.prog ⟨181, 0, yP2, .str, i_NumberText k⟩ := entry_ok tok (by intro e he; simp only [List.mem_cons, List.not_mem_nil, or_false] at he; rcases he with rfl <;> first | exact e_i_within k) (by kernel_rfl) (fn := Tryz.f181) (k := k) (es := [⟨55, 0, yP12, .bool, i_within k⟩]) (loops := []) (by kernel_rfl) (by kernel_rfl) (fun x r h => (t_i_NumberText k x).trans h)
def i_wordsText (k : Nat) (x : List (Int) × Unit) : Option (ByteArray × Unit × Unit) :=
(whileK (fun (rec0 : (ByteArray × List (Int) × Int × Int × Unit) → Option _) (y0 : ByteArray × List (Int) × Int × Int × Unit) =>
(if (decide (y0.2.2.2.1 < y0.2.2.1)) = true then
(if 0 ≤ y0.2.2.2.1 ∧ y0.2.2.2.1 < (List.length y0.2.1 : Int) then
((i_NumberText k ((Ty.rd (t := (.int .i64)) y0.2.1 y0.2.2.2.1), ())).bind fun p1 =>
(if ByteArray.size y0.1 + ByteArray.size p1.1 ≤ maxStr then
(rec0 ((y0.1 ++ p1.1), (y0.2.1, (y0.2.2.1, ((wi64 (y0.2.2.2.1 + (1 : Int))), ())))))
else none))
else none)
else
((fun (z1 : ByteArray × Unit) =>
some (z1.1, ((), ()))) (y0.1, ())))) k ((⟨#[]⟩ : ByteArray), (x.1, ((List.length x.1 : Int), ((0 : Int), ())))))
theorem t_i_wordsText (k : Nat) (x) : evF TTab k [⟨181, 0, yP2, .str, i_NumberText k⟩] [(0, ⟨[3, 6, 7, 8], (.cons .str (.cons (.il true (.int .i64)) (.cons (.int .i64) yP2)))⟩, ⟨[3], (.cons .str .nil)⟩)] Tryz.f285 yP29 .str x = i_wordsText k x := by kernel_rfl
theorem e_i_wordsText [Names] (k : Nat) : EntryOk Tryz.prog ⟨285, 0, yP29, .str, i_wordsText k⟩ := entry_ok tok (by intro e he; simp only [List.mem_cons, List.not_mem_nil, or_false] at he; rcases he with rfl <;> first | exact e_i_NumberText k) (by kernel_rfl) (fn := Tryz.f285) (k := k) (es := [⟨181, 0, yP2, .str, i_NumberText k⟩]) (loops := [(0, ⟨[3, 6, 7, 8], (.cons .str (.cons (.il true (.int .i64)) (.cons (.int .i64) yP2)))⟩, ⟨[3], (.cons .str .nil)⟩)]) (by kernel_rfl) (by kernel_rfl) (fun x r h => (t_i_wordsText k x).trans h)
def i_constants (k : Nat) (x : Unit) : Option ((Int × Int × Int × Int × Int × Int × Int × Int × Int × Int × Int × Int × Int × Int × Int × Int × Int × Int × Int × Int × Int × Int × Int × Int × Int × Int × Int × Int × Int × Int × Int × Int × Int × Int × Int × Int × Int × Int × Int × Int × Int × Int × Int × Int × Int × Int × Int × Int × Int × Int × Int × Int × Int × Int × Int × Int × Int × Int × Int × Int × Int × Int × Int × Int × Unit) × Unit) :=
some (((1116352408 : Int), ((1899447441 : Int), ((3049323471 : Int), ((3921009573 : Int), ((961987163 : Int), ((1508970993 : Int), ((2453635748 : Int), ((2870763221 : Int), ((3624381080 : Int), ((310598401 : Int), ((607225278 : Int), ((1426881987 : Int), ((1925078388 : Int), ((2162078206 : Int), ((2614888103 : Int), ((3248222580 : Int), ((3835390401 : Int), ((4022224774 : Int), ((264347078 : Int), ((604807628 : Int), ((770255983 : Int), ((1249150122 : Int), ((1555081692 : Int), ((1996064986 : Int), ((2554220882 : Int), ((2821834349 : Int), ((2952996808 : Int), ((3210313671 : Int), ((3336571891 : Int), ((3584528711 : Int), ((113926993 : Int), ((338241895 : Int), ((666307205 : Int), ((773529912 : Int), ((1294757372 : Int), ((1396182291 : Int), ((1695183700 : Int), ((1986661051 : Int), ((2177026350 : Int), ((2456956037 : Int), ((2730485921 : Int), ((2820302411 : Int), ((3259730800 : Int), ((3345764771 : Int), ((3516065817 : Int), ((3600352804 : Int), ((4094571909 : Int), ((275423344 : Int), ((430227734 : Int), ((506948616 : Int), ((659060556 : Int), ((883997877 : Int), ((958139571 : Int), ((1322822218 : Int), ((1537002063 : Int), ((1747873779 : Int), ((1955562222 : Int), ((2024104815 : Int), ((2227730452 : Int), ((2361852424 : Int), ((2428436474 : Int), ((2756734187 : Int), ((3204031479 : Int), ((3329325298 : Int), ())))))))))))))))))))))))))))))))))))))))))))))))))))))))))))))))), ())
theorem t_i_constants (k : Nat) (x) : evF TTab k [] [] Tryz.f315 .nil (.agg yP8) x = i_constants k x := by kernel_rfl
theorem e_i_constants [Names] (k : Nat) : EntryOk Tryz.prog ⟨315, 0, .nil, (.agg yP8), i_constants k⟩ := entry_ok tok (by simp) (by kernel_rfl) (fn := Tryz.f315) (k := k) (es := []) (loops := []) (by kernel_rfl) (by kernel_rfl) (fun x r h => (t_i_constants k x).trans h)
def i_ReadNumber (k : Nat) (x : ByteArray × Unit) : Option ((Int × Bool × Unit) × Unit × Unit) :=
(if (!decide ((ByteArray.size x.1 : Int) = (4 : Int))) = true then
some (((0 : Int), (false, ())), ((), ()))
else
(if 0 ≤ (0 : Int) ∧ (0 : Int) < (ByteArray.size x.1 : Int) then
(if 0 ≤ (1 : Int) ∧ (1 : Int) < (ByteArray.size x.1 : Int) then
(if 0 ≤ (2 : Int) ∧ (2 : Int) < (ByteArray.size x.1 : Int) then
(if 0 ≤ (3 : Int) ∧ (3 : Int) < (ByteArray.size x.1 : Int) then
some (((bitsI .or .i64 (bitsI .or .i64 (bitsI .or .i64 (wi64 ((wi64 ((bt x.1 (0 : Int)))) * 2 ^ (min (Int.toNat (24 : Int)) (IntKind.bits .i64)))) (wi64 ((wi64 ((bt x.1 (1 : Int)))) * 2 ^ (min (Int.toNat (16 : Int)) (IntKind.bits .i64))))) (wi64 ((wi64 ((bt x.1 (2 : Int)))) * 2 ^ (min (Int.toNat (8 : Int)) (IntKind.bits .i64))))) (wi64 ((bt x.1 (3 : Int))))), (true, ())), ((), ()))
else none)
else none)
else none)
else none))
theorem t_i_ReadNumber (k : Nat) (x) : evF TTab k [] [] Tryz.f207 (.cons .str .nil) (.tup (.cons (.int .i64) (.cons .bool .nil))) x = i_ReadNumber k x := by kernel_rfl
theorem e_i_ReadNumber [Names] (k : Nat) : EntryOk Tryz.prog ⟨207, 0, (.cons .str .nil), (.tup (.cons (.int .i64) (.cons .bool .nil))), i_ReadNumber k⟩ := entry_ok tok (by simp) (by kernel_rfl) (fn := Tryz.f207) (k := k) (es := []) (loops := []) (by kernel_rfl) (by kernel_rfl) (fun x r h => (t_i_ReadNumber k x).trans h)
def i_wordsOf (k : Nat) (x : ByteArray × Unit) : Option (List (Int) × Unit × Unit) :=
(whileK (fun (rec0 : (ByteArray × List (Int) × Int × Unit) → Option _) (y0 : ByteArray × List (Int) × Int × Unit) =>
(if (decide ((wi64 (y0.2.2.1 + (4 : Int))) ≤ (ByteArray.size y0.1 : Int))) = true then
(if 0 ≤ (wi64 (y0.2.2.1 + (4 : Int))) ∧ (wi64 (y0.2.2.1 + (4 : Int))) ≤ (ByteArray.size y0.1 : Int) then
(if 0 ≤ y0.2.2.1 ∧ y0.2.2.1 ≤ (wi64 (y0.2.2.1 + (4 : Int))) then
((i_ReadNumber k ((ByteArray.extract y0.1 (Int.toNat y0.2.2.1) (Int.toNat (wi64 (y0.2.2.1 + (4 : Int))))), ())).bind fun p1 =>
(if List.length y0.2.1 + List.length ([p1.1.1] : List (Int)) ≤ capMax then
(rec0 (y0.1, ((y0.2.1 ++ ([p1.1.1] : List (Int))), ((wi64 (y0.2.2.1 + (4 : Int))), ()))))
else none))
else none)
else none)
else
((fun (z1 : List (Int) × Unit) =>
some (z1.1, ((), ()))) (y0.2.1, ())))) k (x.1, (([] : List (Int)), ((0 : Int), ()))))
theorem t_i_wordsOf (k : Nat) (x) : evF TTab k [⟨207, 0, (.cons .str .nil), (.tup (.cons (.int .i64) (.cons .bool .nil))), i_ReadNumber k⟩] [(0, ⟨[0, 3, 4], (.cons .str (.cons yP17 yP2))⟩, ⟨[3], (.cons yP17 .nil)⟩)] Tryz.f317 (.cons .str .nil) yP17 x = i_wordsOf k x := by kernel_rfl
theorem e_i_wordsOf [Names] (k : Nat) : EntryOk Tryz.prog ⟨317, 0, (.cons .str .nil), yP17, i_wordsOf k⟩ := entry_ok tok (by intro e he; simp only [List.mem_cons, List.not_mem_nil, or_false] at he; rcases he with rfl <;> first | exact e_i_ReadNumber k) (by kernel_rfl) (fn := Tryz.f317) (k := k) (es := [⟨207, 0, (.cons .str .nil), (.tup (.cons (.int .i64) (.cons .bool .nil))), i_ReadNumber k⟩]) (loops := [(0, ⟨[0, 3, 4], (.cons .str (.cons yP17 yP2))⟩, ⟨[3], (.cons yP17 .nil)⟩)]) (by kernel_rfl) (by kernel_rfl) (fun x r h => (t_i_wordsOf k x).trans h)
def i_turnRight (k : Nat) (x : Int × Int × Unit) : Option (Int × Unit × Unit × Unit) :=
(if x.2.1 < 0 then
none
else
(if (wi64 ((32 : Int) - x.2.1)) < 0 then
none
else
some ((bitsI .and .i64 (bitsI .or .i64 (Int.fdiv x.1 (2 ^ (min (Int.toNat x.2.1) (IntKind.bits .i64)))) (wi64 (x.1 * 2 ^ (min (Int.toNat (wi64 ((32 : Int) - x.2.1))) (IntKind.bits .i64))))) (4294967295 : Int)), ((), ((), ())))))
theorem t_i_turnRight (k : Nat) (x) : evF TTab k [] [] Tryz.f318 (.cons (.int .i64) yP2) (.int .i64) x = i_turnRight k x := by kernel_rfl
theorem e_i_turnRight [Names] (k : Nat) : EntryOk Tryz.prog ⟨318, 0, (.cons (.int .i64) yP2), (.int .i64), i_turnRight k⟩ := entry_ok tok (by simp) (by kernel_rfl) (fn := Tryz.f318) (k := k) (es := []) (loops := []) (by kernel_rfl) (by kernel_rfl) (fun x r h => (t_i_turnRight k x).trans h)
def i_expanded (k : Nat) (x : ByteArray × Unit) : Option (List (Int) × Unit × Unit) :=
((i_wordsOf k (x.1, ())).bind fun p1 =>
(whileK (fun (rec0 : (List (Int) × Int × Unit) → Option _) (y0 : List (Int) × Int × Unit) =>
(if (decide (y0.2.1 < (64 : Int))) = true then
(if 0 ≤ (wi64 (y0.2.1 - (15 : Int))) ∧ (wi64 (y0.2.1 - (15 : Int))) < (List.length y0.1 : Int) then
(if 0 ≤ (wi64 (y0.2.1 - (2 : Int))) ∧ (wi64 (y0.2.1 - (2 : Int))) < (List.length y0.1 : Int) then
((i_turnRight k ((Ty.rd (t := (.int .i64)) y0.1 (wi64 (y0.2.1 - (15 : Int)))), ((7 : Int), ()))).bind fun p2 =>
((i_turnRight k ((Ty.rd (t := (.int .i64)) y0.1 (wi64 (y0.2.1 - (15 : Int)))), ((18 : Int), ()))).bind fun p3 =>
((i_turnRight k ((Ty.rd (t := (.int .i64)) y0.1 (wi64 (y0.2.1 - (2 : Int)))), ((17 : Int), ()))).bind fun p4 =>
((i_turnRight k ((Ty.rd (t := (.int .i64)) y0.1 (wi64 (y0.2.1 - (2 : Int)))), ((19 : Int), ()))).bind fun p5 =>
(if 0 ≤ (wi64 (y0.2.1 - (7 : Int))) ∧ (wi64 (y0.2.1 - (7 : Int))) < (List.length y0.1 : Int) then
(if 0 ≤ (wi64 (y0.2.1 - (16 : Int))) ∧ (wi64 (y0.2.1 - (16 : Int))) < (List.length y0.1 : Int) then
(if List.length y0.1 + List.length ([(bitsI .and .i64 (wi64 ((wi64 ((wi64 ((bitsI .xor .i64 (bitsI .xor .i64 p4.1 p5.1) (Int.fdiv (Ty.rd (t := (.int .i64)) y0.1 (wi64 (y0.2.1 - (2 : Int)))) (2 ^ (min (Int.toNat (10 : Int)) (IntKind.bits .i64))))) + (Ty.rd (t := (.int .i64)) y0.1 (wi64 (y0.2.1 - (7 : Int)))))) + (bitsI .xor .i64 (bitsI .xor .i64 p2.1 p3.1) (Int.fdiv (Ty.rd (t := (.int .i64)) y0.1 (wi64 (y0.2.1 - (15 : Int)))) (2 ^ (min (Int.toNat (3 : Int)) (IntKind.bits .i64))))))) + (Ty.rd (t := (.int .i64)) y0.1 (wi64 (y0.2.1 - (16 : Int)))))) (4294967295 : Int))] : List (Int)) ≤ capMax then
(rec0 ((y0.1 ++ ([(bitsI .and .i64 (wi64 ((wi64 ((wi64 ((bitsI .xor .i64 (bitsI .xor .i64 p4.1 p5.1) (Int.fdiv (Ty.rd (t := (.int .i64)) y0.1 (wi64 (y0.2.1 - (2 : Int)))) (2 ^ (min (Int.toNat (10 : Int)) (IntKind.bits .i64))))) + (Ty.rd (t := (.int .i64)) y0.1 (wi64 (y0.2.1 - (7 : Int)))))) + (bitsI .xor .i64 (bitsI .xor .i64 p2.1 p3.1) (Int.fdiv (Ty.rd (t := (.int .i64)) y0.1 (wi64 (y0.2.1 - (15 : Int)))) (2 ^ (min (Int.toNat (3 : Int)) (IntKind.bits .i64))))))) + (Ty.rd (t := (.int .i64)) y0.1 (wi64 (y0.2.1 - (16 : Int)))))) (4294967295 : Int))] : List (Int))), ((wi64 (y0.2.1 + (1 : Int))), ())))
else none)
else none)
else none)))))
else none)
else none)
else
((fun (z1 : List (Int) × Unit) =>
some (z1.1, ((), ()))) (y0.1, ())))) k (p1.1, ((16 : Int), ()))))
theorem t_i_expanded (k : Nat) (x) : evF TTab k [⟨317, 0, (.cons .str .nil), yP17, i_wordsOf k⟩, ⟨318, 0, (.cons (.int .i64) yP2), (.int .i64), i_turnRight k⟩] [(0, ⟨[3, 4], (.cons yP17 yP2)⟩, ⟨[3], (.cons yP17 .nil)⟩)] Tryz.f316 (.cons .str .nil) yP17 x = i_expanded k x := by kernel_rfl
theorem e_i_expanded [Names] (k : Nat) : EntryOk Tryz.prog ⟨316, 0, (.cons .str .nil), yP17, i_expanded k⟩ := entry_ok tok (by intro e he; simp only [List.mem_cons, List.not_mem_nil, or_false] at he; rcases he with rfl | rfl <;> first | exact e_i_wordsOf k | exact e_i_turnRight k) (by kernel_rfl) (fn := Tryz.f316) (k := k) (es := [⟨317, 0, (.cons .str .nil), yP17, i_wordsOf k⟩, ⟨318, 0, (.cons (.int .i64) yP2), (.int .i64), i_turnRight k⟩]) (loops := [(0, ⟨[3, 4], (.cons yP17 yP2)⟩, ⟨[3], (.cons yP17 .nil)⟩)]) (by kernel_rfl) (by kernel_rfl) (fun x r h => (t_i_expanded k x).trans h)
end Go.Proofs.YtnfllchbpechlaaGreat
