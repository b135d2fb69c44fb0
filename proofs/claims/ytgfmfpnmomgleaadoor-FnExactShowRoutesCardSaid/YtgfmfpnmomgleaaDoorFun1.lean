import Derived.Test.YtgfmfpnmomgleaaDoorFun0
/- What functions of the program compute, as plain functions, and that their calls do so (part 1). Conditions: the plain function answers. -/
set_option linter.unusedVariables false
namespace Go.Proofs.YtgfmfpnmomgleaaDoor
open Go Go.Eng Go.Proofs
/- Names of types and patterns that come often. -/
abbrev yT0 : Ty := (.pair (.pair (.int .i64) (.int .i64)) (.int .i64))
abbrev yP2 : Pat := (.cons (.int .i64) .nil)
abbrev yP1 : Pat := (.cons (.int .i64) yP2)
abbrev yP3 : Pat := (.cons (.il true yT0) .nil)
abbrev yP4 : Pat := (.cons (.agg yP1) (.cons (.agg yP1) .nil))

def w_szRouteS (k : Nat) (x : (List ((Int × Int) × Int)) × Int × Unit) : Option (Int × Unit × Unit × Unit) :=
(if (decide ((wi64 (x.2.1 - (List.length x.1 : Int))) < (0 : Int))) = true then
some ((-1 : Int), ((), ((), ())))
else
some ((wi64 (x.2.1 - (List.length x.1 : Int))), ((), ((), ()))))
theorem t_w_szRouteS (k : Nat) (x) : evF TTab k [] [] Tryd.f4 (.cons (.il true yT0) yP2) (.int .i64) x = w_szRouteS k x := by kernel_rfl
theorem e_w_szRouteS [NamesT] (k : Nat) : EntryOk Tryd.prog ⟨4, 0, (.cons (.il true yT0) yP2), (.int .i64), w_szRouteS k⟩ := entry_ok tok (by simp) (by kernel_rfl) (fn := Tryd.f4) (k := k) (es := []) (loops := []) (by kernel_rfl) (by kernel_rfl) (fun x r h => (t_w_szRouteS k x).trans h)
def s_l01In (k : Nat) (x : Int × Int × Int × Unit) : Option (Bool × Unit × Unit × Unit × Unit) :=
(if (decide (x.2.1 ≤ x.1)) = true then
some ((decide (x.1 ≤ x.2.2.1)), ((), ((), ((), ()))))
else
some (false, ((), ((), ((), ())))))
theorem t_s_l01In (k : Nat) (x) : evF TTab k [] [] Tryd.f18 (.cons (.int .i64) yP1) .bool x = s_l01In k x := by kernel_rfl
theorem e_s_l01In [NamesT] (k : Nat) : EntryOk Tryd.prog ⟨18, 0, (.cons (.int .i64) yP1), .bool, s_l01In k⟩ := entry_ok tok (by simp) (by kernel_rfl) (fn := Tryd.f18) (k := k) (es := []) (loops := []) (by kernel_rfl) (by kernel_rfl) (fun x r h => (t_s_l01In k x).trans h)
def s_AddrOk (k : Nat) (x : Int × Unit) : Option (Bool × Unit × Unit) :=
((s_l01In k (x.1, ((0 : Int), ((4294967295 : Int), ())))).bind fun p1 =>
some (p1.1, ((), ())))
theorem t_s_AddrOk (k : Nat) (x) : evF TTab k [⟨18, 0, (.cons (.int .i64) yP1), .bool, s_l01In k⟩] [] Tryd.f29 yP2 .bool x = s_AddrOk k x := by kernel_rfl
theorem e_s_AddrOk [NamesT] (k : Nat) : EntryOk Tryd.prog ⟨29, 0, yP2, .bool, s_AddrOk k⟩ := entry_ok tok (by intro e he; simp only [List.mem_cons, List.not_mem_nil, or_false] at he; rcases he with rfl <;> first | exact e_s_l01In k) (by kernel_rfl) (fn := Tryd.f29) (k := k) (es := [⟨18, 0, (.cons (.int .i64) yP1), .bool, s_l01In k⟩]) (loops := []) (by kernel_rfl) (by kernel_rfl) (fun x r h => (t_s_AddrOk k x).trans h)
def s_l08Size (k : Nat) (x : Int × Unit) : Option (Int × Unit × Unit) :=
(whileK (fun (rec0 : (Int × Int × Unit) → Option _) (y0 : Int × Int × Unit) =>
(if (decide (y0.2.1 < (32 : Int))) = true then
(rec0 ((wi64 ((2 : Int) * y0.1)), ((wi64 (y0.2.1 + (1 : Int))), ())))
else
((fun (z1 : Int × Unit) =>
some (z1.1, ((), ()))) (y0.1, ())))) k ((1 : Int), (x.1, ())))
theorem t_s_l08Size (k : Nat) (x) : evF TTab k [] [(0, ⟨[3, 4], yP1⟩, ⟨[3], yP2⟩)] Tryd.f30 yP2 (.int .i64) x = s_l08Size k x := by kernel_rfl
theorem e_s_l08Size [NamesT] (k : Nat) : EntryOk Tryd.prog ⟨30, 0, yP2, (.int .i64), s_l08Size k⟩ := entry_ok tok (by simp) (by kernel_rfl) (fn := Tryd.f30) (k := k) (es := []) (loops := [(0, ⟨[3, 4], yP1⟩, ⟨[3], yP2⟩)]) (by kernel_rfl) (by kernel_rfl) (fun x r h => (t_s_l08Size k x).trans h)
def s_PrefixOk (k : Nat) (x : (Int × Int × Unit) × Unit) : Option (Bool × Unit × Unit) :=
((s_AddrOk k (x.1.1, ())).bind fun p1 =>
(if p1.1 = true then
((s_l01In k (x.1.2.1, ((0 : Int), ((32 : Int), ())))).bind fun p2 =>
(if p2.1 = true then
((s_l08Size k (x.1.2.1, ())).bind fun p3 =>
(if p3.1 = 0 then
none
else
some ((decide ((Int.tmod x.1.1 p3.1) = (0 : Int))), ((), ()))))
else
some (false, ((), ()))))
else
some (false, ((), ()))))
theorem t_s_PrefixOk (k : Nat) (x) : evF TTab k [⟨18, 0, (.cons (.int .i64) yP1), .bool, s_l01In k⟩, ⟨29, 0, yP2, .bool, s_AddrOk k⟩, ⟨30, 0, yP2, (.int .i64), s_l08Size k⟩] [] Tryd.f17 (.cons (.agg yP1) .nil) .bool x = s_PrefixOk k x := by kernel_rfl
theorem e_s_PrefixOk [NamesT] (k : Nat) : EntryOk Tryd.prog ⟨17, 0, (.cons (.agg yP1) .nil), .bool, s_PrefixOk k⟩ := entry_ok tok (by intro e he; simp only [List.mem_cons, List.not_mem_nil, or_false] at he; rcases he with rfl | rfl | rfl <;> first | exact e_s_l01In k | exact e_s_AddrOk k | exact e_s_l08Size k) (by kernel_rfl) (fn := Tryd.f17) (k := k) (es := [⟨18, 0, (.cons (.int .i64) yP1), .bool, s_l01In k⟩, ⟨29, 0, yP2, .bool, s_AddrOk k⟩, ⟨30, 0, yP2, (.int .i64), s_l08Size k⟩]) (loops := []) (by kernel_rfl) (by kernel_rfl) (fun x r h => (t_s_PrefixOk k x).trans h)
def s_l09Ahead (k : Nat) (x : (Int × Int × Unit) × (Int × Int × Unit) × Unit) : Option (Bool × Unit × Unit × Unit) :=
(if (decide (x.1.1 < x.2.1.1)) = false then
(if (decide (x.1.1 = x.2.1.1)) = true then
some ((decide (x.1.2.1 < x.2.1.2.1)), ((), ((), ())))
else
some (false, ((), ((), ()))))
else
some (true, ((), ((), ()))))
theorem t_s_l09Ahead (k : Nat) (x) : evF TTab k [] [] Tryd.f19 yP4 .bool x = s_l09Ahead k x := by kernel_rfl
theorem e_s_l09Ahead [NamesT] (k : Nat) : EntryOk Tryd.prog ⟨19, 0, yP4, .bool, s_l09Ahead k⟩ := entry_ok tok (by simp) (by kernel_rfl) (fn := Tryd.f19) (k := k) (es := []) (loops := []) (by kernel_rfl) (by kernel_rfl) (fun x r h => (t_s_l09Ahead k x).trans h)
def s_RoutesOk (k : Nat) (x : (List ((Int × Int) × Int)) × Unit) : Option (Bool × Unit × Unit) :=
(whileK (fun (rec0 : ((List ((Int × Int) × Int)) × Int × Unit) → Option _) (y0 : (List ((Int × Int) × Int)) × Int × Unit) =>
(if (decide (y0.2.1 < (List.length y0.1 : Int))) = true then
(if 0 ≤ y0.2.1 ∧ y0.2.1 < (List.length y0.1 : Int) then
((s_PrefixOk k (((Ty.rd (t := yT0) y0.1 y0.2.1).1.1, ((Ty.rd (t := yT0) y0.1 y0.2.1).1.2, ())), ())).bind fun p1 =>
(if (!p1.1) = false then
(if 0 ≤ y0.2.1 ∧ y0.2.1 < (List.length y0.1 : Int) then
((s_l01In k ((Ty.rd (t := yT0) y0.1 y0.2.1).2, ((1 : Int), ((99 : Int), ())))).bind fun p2 =>
(if (!p2.1) = false then
(if (decide ((0 : Int) < y0.2.1)) = true then
(if 0 ≤ (wi64 (y0.2.1 - (1 : Int))) ∧ (wi64 (y0.2.1 - (1 : Int))) < (List.length y0.1 : Int) then
(if 0 ≤ y0.2.1 ∧ y0.2.1 < (List.length y0.1 : Int) then
((s_l09Ahead k (((Ty.rd (t := yT0) y0.1 (wi64 (y0.2.1 - (1 : Int)))).1.1, ((Ty.rd (t := yT0) y0.1 (wi64 (y0.2.1 - (1 : Int)))).1.2, ())), (((Ty.rd (t := yT0) y0.1 y0.2.1).1.1, ((Ty.rd (t := yT0) y0.1 y0.2.1).1.2, ())), ()))).bind fun p3 =>
(if (!p3.1) = true then
some (false, ((), ()))
else
(rec0 (y0.1, ((wi64 (y0.2.1 + (1 : Int))), ())))))
else none)
else none)
else
(rec0 (y0.1, ((wi64 (y0.2.1 + (1 : Int))), ()))))
else
some (false, ((), ()))))
else none)
else
some (false, ((), ()))))
else none)
else
((fun (z1 : (List ((Int × Int) × Int)) × Unit) =>
some ((decide ((List.length z1.1 : Int) ≤ (12 : Int))), ((), ()))) (y0.1, ())))) k (x.1, ((0 : Int), ())))
theorem t_s_RoutesOk (k : Nat) (x) : evF TTab k [⟨17, 0, (.cons (.agg yP1) .nil), .bool, s_PrefixOk k⟩, ⟨18, 0, (.cons (.int .i64) yP1), .bool, s_l01In k⟩, ⟨19, 0, yP4, .bool, s_l09Ahead k⟩] [(0, ⟨[0, 3], (.cons (.il true yT0) yP2)⟩, ⟨[0], yP3⟩)] Tryd.f9 yP3 .bool x = s_RoutesOk k x := by kernel_rfl
theorem e_s_RoutesOk [NamesT] (k : Nat) : EntryOk Tryd.prog ⟨9, 0, yP3, .bool, s_RoutesOk k⟩ := entry_ok tok (by intro e he; simp only [List.mem_cons, List.not_mem_nil, or_false] at he; rcases he with rfl | rfl | rfl <;> first | exact e_s_PrefixOk k | exact e_s_l01In k | exact e_s_l09Ahead k) (by kernel_rfl) (fn := Tryd.f9) (k := k) (es := [⟨17, 0, (.cons (.agg yP1) .nil), .bool, s_PrefixOk k⟩, ⟨18, 0, (.cons (.int .i64) yP1), .bool, s_l01In k⟩, ⟨19, 0, yP4, .bool, s_l09Ahead k⟩]) (loops := [(0, ⟨[0, 3], (.cons (.il true yT0) yP2)⟩, ⟨[0], yP3⟩)]) (by kernel_rfl) (by kernel_rfl) (fun x r h => (t_s_RoutesOk k x).trans h)
def s_l01Figure (k : Nat) (x : Int × Unit) : Option (Int × Unit × Unit) :=
(if (decide (x.1 < (10 : Int))) = true then
some ((wu8 ((wi64 ((48 : Int) + x.1)))), ((), ()))
else
some ((wu8 ((wi64 ((wi64 ((97 : Int) + x.1)) - (10 : Int))))), ((), ())))
theorem t_s_l01Figure (k : Nat) (x) : evF TTab k [] [] Tryd.f21 yP2 (.int .u8) x = s_l01Figure k x := by kernel_rfl
theorem e_s_l01Figure [NamesT] (k : Nat) : EntryOk Tryd.prog ⟨21, 0, yP2, (.int .u8), s_l01Figure k⟩ := entry_ok tok (by simp) (by kernel_rfl) (fn := Tryd.f21) (k := k) (es := []) (loops := []) (by kernel_rfl) (by kernel_rfl) (fun x r h => (t_s_l01Figure k x).trans h)
def s_Decimal (k : Nat) (x : Int × Unit) : Option (ByteArray × Unit × Unit) :=
(if (decide (x.1 = (0 : Int))) = true then
some ((⟨#[48]⟩ : ByteArray), ((), ()))
else
(whileK (fun (rec0 : (Int × Bool × ByteArray × Unit) → Option _) (y0 : Int × Bool × ByteArray × Unit) =>
(if (!decide (y0.1 = (0 : Int))) = true then
(if (decide ((Int.tmod y0.1 (10 : Int)) < (0 : Int))) = true then
((s_l01Figure k ((wi64 (0 - (Int.tmod y0.1 (10 : Int)))), ())).bind fun p2 =>
(if ByteArray.size (strOf ([p2.1] : List (Int))) + ByteArray.size y0.2.2.1 ≤ maxStr then
(rec0 ((wi64 (Int.tdiv y0.1 (10 : Int))), (y0.2.1, (((strOf ([p2.1] : List (Int))) ++ y0.2.2.1), ()))))
else none))
else
((s_l01Figure k ((Int.tmod y0.1 (10 : Int)), ())).bind fun p3 =>
(if ByteArray.size (strOf ([p3.1] : List (Int))) + ByteArray.size y0.2.2.1 ≤ maxStr then
(rec0 ((wi64 (Int.tdiv y0.1 (10 : Int))), (y0.2.1, (((strOf ([p3.1] : List (Int))) ++ y0.2.2.1), ()))))
else none)))
else
((fun (z1 : Bool × ByteArray × Unit) =>
(if z1.1 = true then
(if ByteArray.size (⟨#[45]⟩ : ByteArray) + ByteArray.size z1.2.1 ≤ maxStr then
some (((⟨#[45]⟩ : ByteArray) ++ z1.2.1), ((), ()))
else none)
else
some (z1.2.1, ((), ())))) (y0.2.1, (y0.2.2.1, ()))))) k (x.1, ((decide (x.1 < (0 : Int))), ((⟨#[]⟩ : ByteArray), ())))))
theorem t_s_Decimal (k : Nat) (x) : evF TTab k [⟨21, 0, yP2, (.int .u8), s_l01Figure k⟩] [(0, ⟨[0, 3, 4], (.cons (.int .i64) (.cons .bool (.cons .str .nil)))⟩, ⟨[3, 4], (.cons .bool (.cons .str .nil))⟩)] Tryd.f11 yP2 .str x = s_Decimal k x := by kernel_rfl
theorem e_s_Decimal [NamesT] (k : Nat) : EntryOk Tryd.prog ⟨11, 0, yP2, .str, s_Decimal k⟩ := entry_ok tok (by intro e he; simp only [List.mem_cons, List.not_mem_nil, or_false] at he; rcases he with rfl <;> first | exact e_s_l01Figure k) (by kernel_rfl) (fn := Tryd.f11) (k := k) (es := [⟨21, 0, yP2, (.int .u8), s_l01Figure k⟩]) (loops := [(0, ⟨[0, 3, 4], (.cons (.int .i64) (.cons .bool (.cons .str .nil)))⟩, ⟨[3, 4], (.cons .bool (.cons .str .nil))⟩)]) (by kernel_rfl) (by kernel_rfl) (fun x r h => (t_s_Decimal k x).trans h)
def s_AddrText (k : Nat) (x : Int × Unit) : Option (ByteArray × Unit × Unit) :=
((s_AddrOk k (x.1, ())).bind fun p1 =>
(if (!p1.1) = true then
some ((⟨#[]⟩ : ByteArray), ((), ()))
else
((s_Decimal k ((wi64 (Int.tdiv x.1 (16777216 : Int))), ())).bind fun p2 =>
(if ByteArray.size p2.1 + ByteArray.size (⟨#[46]⟩ : ByteArray) ≤ maxStr then
((s_Decimal k ((Int.tmod (wi64 (Int.tdiv x.1 (65536 : Int))) (256 : Int)), ())).bind fun p3 =>
(if ByteArray.size (p2.1 ++ (⟨#[46]⟩ : ByteArray)) + ByteArray.size p3.1 ≤ maxStr then
(if ByteArray.size ((p2.1 ++ (⟨#[46]⟩ : ByteArray)) ++ p3.1) + ByteArray.size (⟨#[46]⟩ : ByteArray) ≤ maxStr then
((s_Decimal k ((Int.tmod (wi64 (Int.tdiv x.1 (256 : Int))) (256 : Int)), ())).bind fun p4 =>
(if ByteArray.size (((p2.1 ++ (⟨#[46]⟩ : ByteArray)) ++ p3.1) ++ (⟨#[46]⟩ : ByteArray)) + ByteArray.size p4.1 ≤ maxStr then
(if ByteArray.size ((((p2.1 ++ (⟨#[46]⟩ : ByteArray)) ++ p3.1) ++ (⟨#[46]⟩ : ByteArray)) ++ p4.1) + ByteArray.size (⟨#[46]⟩ : ByteArray) ≤ maxStr then
((s_Decimal k ((Int.tmod x.1 (256 : Int)), ())).bind fun p5 =>
(if ByteArray.size (((((p2.1 ++ (⟨#[46]⟩ : ByteArray)) ++ p3.1) ++ (⟨#[46]⟩ : ByteArray)) ++ p4.1) ++ (⟨#[46]⟩ : ByteArray)) + ByteArray.size p5.1 ≤ maxStr then
some (((((((p2.1 ++ (⟨#[46]⟩ : ByteArray)) ++ p3.1) ++ (⟨#[46]⟩ : ByteArray)) ++ p4.1) ++ (⟨#[46]⟩ : ByteArray)) ++ p5.1), ((), ()))
else none))
else none)
else none))
else none)
else none))
else none))))
theorem t_s_AddrText (k : Nat) (x) : evF TTab k [⟨11, 0, yP2, .str, s_Decimal k⟩, ⟨29, 0, yP2, .bool, s_AddrOk k⟩] [] Tryd.f20 yP2 .str x = s_AddrText k x := by kernel_rfl
theorem e_s_AddrText [NamesT] (k : Nat) : EntryOk Tryd.prog ⟨20, 0, yP2, .str, s_AddrText k⟩ := entry_ok tok (by intro e he; simp only [List.mem_cons, List.not_mem_nil, or_false] at he; rcases he with rfl | rfl <;> first | exact e_s_Decimal k | exact e_s_AddrOk k) (by kernel_rfl) (fn := Tryd.f20) (k := k) (es := [⟨11, 0, yP2, .str, s_Decimal k⟩, ⟨29, 0, yP2, .bool, s_AddrOk k⟩]) (loops := []) (by kernel_rfl) (by kernel_rfl) (fun x r h => (t_s_AddrText k x).trans h)
def s_PrefixText (k : Nat) (x : (Int × Int × Unit) × Unit) : Option ((ByteArray × Bool × Unit) × Unit × Unit) :=
((s_PrefixOk k ((x.1.1, (x.1.2.1, ())), ())).bind fun p1 =>
(if (!p1.1) = true then
some (((⟨#[]⟩ : ByteArray), (false, ())), ((), ()))
else
((s_AddrText k (x.1.1, ())).bind fun p2 =>
(if ByteArray.size p2.1 + ByteArray.size (⟨#[47]⟩ : ByteArray) ≤ maxStr then
((s_Decimal k (x.1.2.1, ())).bind fun p3 =>
(if ByteArray.size (p2.1 ++ (⟨#[47]⟩ : ByteArray)) + ByteArray.size p3.1 ≤ maxStr then
some ((((p2.1 ++ (⟨#[47]⟩ : ByteArray)) ++ p3.1), (true, ())), ((), ()))
else none))
else none))))
theorem t_s_PrefixText (k : Nat) (x) : evF TTab k [⟨11, 0, yP2, .str, s_Decimal k⟩, ⟨17, 0, (.cons (.agg yP1) .nil), .bool, s_PrefixOk k⟩, ⟨20, 0, yP2, .str, s_AddrText k⟩] [] Tryd.f10 (.cons (.agg yP1) .nil) (.tup (.cons .str (.cons .bool .nil))) x = s_PrefixText k x := by kernel_rfl
theorem e_s_PrefixText [NamesT] (k : Nat) : EntryOk Tryd.prog ⟨10, 0, (.cons (.agg yP1) .nil), (.tup (.cons .str (.cons .bool .nil))), s_PrefixText k⟩ := entry_ok tok (by intro e he; simp only [List.mem_cons, List.not_mem_nil, or_false] at he; rcases he with rfl | rfl | rfl <;> first | exact e_s_Decimal k | exact e_s_PrefixOk k | exact e_s_AddrText k) (by kernel_rfl) (fn := Tryd.f10) (k := k) (es := [⟨11, 0, yP2, .str, s_Decimal k⟩, ⟨17, 0, (.cons (.agg yP1) .nil), .bool, s_PrefixOk k⟩, ⟨20, 0, yP2, .str, s_AddrText k⟩]) (loops := []) (by kernel_rfl) (by kernel_rfl) (fun x r h => (t_s_PrefixText k x).trans h)
def s_ShowRoutes (k : Nat) (x : (List ((Int × Int) × Int)) × Unit) : Option (ByteArray × Unit × Unit) :=
((s_RoutesOk k (x.1, ())).bind fun p1 =>
(if (!p1.1) = true then
some ((⟨#[]⟩ : ByteArray), ((), ()))
else
(whileK (fun (rec0 : ((List ((Int × Int) × Int)) × ByteArray × Int × Unit) → Option _) (y0 : (List ((Int × Int) × Int)) × ByteArray × Int × Unit) =>
(if (decide (y0.2.2.1 < (List.length y0.1 : Int))) = true then
(if 0 ≤ y0.2.2.1 ∧ y0.2.2.1 < (List.length y0.1 : Int) then
((s_PrefixText k (((Ty.rd (t := yT0) y0.1 y0.2.2.1).1.1, ((Ty.rd (t := yT0) y0.1 y0.2.2.1).1.2, ())), ())).bind fun p2 =>
(if ByteArray.size y0.2.1 + ByteArray.size p2.1.1 ≤ maxStr then
(if ByteArray.size (y0.2.1 ++ p2.1.1) + ByteArray.size (⟨#[32]⟩ : ByteArray) ≤ maxStr then
(if 0 ≤ y0.2.2.1 ∧ y0.2.2.1 < (List.length y0.1 : Int) then
((s_Decimal k ((Ty.rd (t := yT0) y0.1 y0.2.2.1).2, ())).bind fun p3 =>
(if ByteArray.size ((y0.2.1 ++ p2.1.1) ++ (⟨#[32]⟩ : ByteArray)) + ByteArray.size p3.1 ≤ maxStr then
(if ByteArray.size (((y0.2.1 ++ p2.1.1) ++ (⟨#[32]⟩ : ByteArray)) ++ p3.1) + ByteArray.size (⟨#[10]⟩ : ByteArray) ≤ maxStr then
(rec0 (y0.1, (((((y0.2.1 ++ p2.1.1) ++ (⟨#[32]⟩ : ByteArray)) ++ p3.1) ++ (⟨#[10]⟩ : ByteArray)), ((wi64 (y0.2.2.1 + (1 : Int))), ()))))
else none)
else none))
else none)
else none)
else none))
else none)
else
((fun (z1 : ByteArray × Unit) =>
some (z1.1, ((), ()))) (y0.2.1, ())))) k (x.1, ((⟨#[]⟩ : ByteArray), ((0 : Int), ()))))))
theorem t_s_ShowRoutes (k : Nat) (x) : evF TTab k [⟨9, 0, yP3, .bool, s_RoutesOk k⟩, ⟨10, 0, (.cons (.agg yP1) .nil), (.tup (.cons .str (.cons .bool .nil))), s_PrefixText k⟩, ⟨11, 0, yP2, .str, s_Decimal k⟩] [(0, ⟨[0, 3, 4], (.cons (.il true yT0) (.cons .str yP2))⟩, ⟨[3], (.cons .str .nil)⟩)] Tryd.f5 yP3 .str x = s_ShowRoutes k x := by kernel_rfl
theorem e_s_ShowRoutes [NamesT] (k : Nat) : EntryOk Tryd.prog ⟨5, 0, yP3, .str, s_ShowRoutes k⟩ := entry_ok tok (by intro e he; simp only [List.mem_cons, List.not_mem_nil, or_false] at he; rcases he with rfl | rfl | rfl <;> first | exact e_s_RoutesOk k | exact e_s_PrefixText k | exact e_s_Decimal k) (by kernel_rfl) (fn := Tryd.f5) (k := k) (es := [⟨9, 0, yP3, .bool, s_RoutesOk k⟩, ⟨10, 0, (.cons (.agg yP1) .nil), (.tup (.cons .str (.cons .bool .nil))), s_PrefixText k⟩, ⟨11, 0, yP2, .str, s_Decimal k⟩]) (loops := [(0, ⟨[0, 3, 4], (.cons (.il true yT0) (.cons .str yP2))⟩, ⟨[3], (.cons .str .nil)⟩)]) (by kernel_rfl) (by kernel_rfl) (fun x r h => (t_s_ShowRoutes k x).trans h)
def w_toPrefix (k : Nat) (x : (Int × Int × Unit) × Unit) : Option ((Int × Int × Unit) × Unit × Unit) :=
some ((x.1.1, (x.1.2.1, ())), ((), ()))
theorem t_w_toPrefix (k : Nat) (x) : evF TTab k [] [] Tryd.f22 (.cons (.agg yP1) .nil) (.agg yP1) x = w_toPrefix k x := by kernel_rfl
theorem e_w_toPrefix [NamesT] (k : Nat) : EntryOk Tryd.prog ⟨22, 0, (.cons (.agg yP1) .nil), (.agg yP1), w_toPrefix k⟩ := entry_ok tok (by simp) (by kernel_rfl) (fn := Tryd.f22) (k := k) (es := []) (loops := []) (by kernel_rfl) (by kernel_rfl) (fun x r h => (t_w_toPrefix k x).trans h)
def w_toRoute (k : Nat) (x : (Int × Int × Int × Unit) × Unit) : Option ((Int × Int × Int × Unit) × Unit × Unit) :=
((w_toPrefix k ((x.1.1, (x.1.2.1, ())), ())).bind fun p1 =>
some ((p1.1.1, (p1.1.2.1, (x.1.2.2.1, ()))), ((), ())))
theorem t_w_toRoute (k : Nat) (x) : evF TTab k [⟨22, 0, (.cons (.agg yP1) .nil), (.agg yP1), w_toPrefix k⟩] [] Tryd.f12 (.cons (.agg (.cons (.int .i64) yP1)) .nil) (.agg (.cons (.int .i64) yP1)) x = w_toRoute k x := by kernel_rfl
theorem e_w_toRoute [NamesT] (k : Nat) : EntryOk Tryd.prog ⟨12, 0, (.cons (.agg (.cons (.int .i64) yP1)) .nil), (.agg (.cons (.int .i64) yP1)), w_toRoute k⟩ := entry_ok tok (by intro e he; simp only [List.mem_cons, List.not_mem_nil, or_false] at he; rcases he with rfl <;> first | exact e_w_toPrefix k) (by kernel_rfl) (fn := Tryd.f12) (k := k) (es := [⟨22, 0, (.cons (.agg yP1) .nil), (.agg yP1), w_toPrefix k⟩]) (loops := []) (by kernel_rfl) (by kernel_rfl) (fun x r h => (t_w_toRoute k x).trans h)
def w_toRouteS (k : Nat) (x : (List ((Int × Int) × Int)) × Unit) : Option ((List ((Int × Int) × Int)) × Unit × Unit) :=
(if (List.length x.1 : Int) = (List.length x.1 : Int) then
(if 0 ≤ (List.length x.1 : Int) ∧ (List.length x.1 : Int) ≤ (capMax : Int) then
(whileK (fun (rec0 : ((List ((Int × Int) × Int)) × (List ((Int × Int) × Int)) × Int × Unit) → Option _) (y0 : (List ((Int × Int) × Int)) × (List ((Int × Int) × Int)) × Int × Unit) =>
(if (decide (y0.2.2.1 < (List.length y0.1 : Int))) = true then
(if 0 ≤ y0.2.2.1 ∧ y0.2.2.1 < (List.length y0.1 : Int) then
((w_toRoute k (((Ty.rd (t := yT0) y0.1 y0.2.2.1).1.1, ((Ty.rd (t := yT0) y0.1 y0.2.2.1).1.2, ((Ty.rd (t := yT0) y0.1 y0.2.2.1).2, ()))), ())).bind fun p1 =>
(if 0 ≤ y0.2.2.1 ∧ y0.2.2.1 < (List.length y0.2.1 : Int) then
(rec0 (y0.1, ((List.set y0.2.1 (Int.toNat y0.2.2.1) ((p1.1.1, p1.1.2.1), p1.1.2.2.1)), ((wi64 (y0.2.2.1 + (1 : Int))), ()))))
else none))
else none)
else
((fun (z1 : (List ((Int × Int) × Int)) × Unit) =>
some (z1.1, ((), ()))) (y0.2.1, ())))) k (x.1, ((List.replicate (Int.toNat (List.length x.1 : Int)) (((0 : Int), (0 : Int)), (0 : Int))), ((0 : Int), ()))))
else none)
else none)
theorem t_w_toRouteS (k : Nat) (x) : evF TTab k [⟨12, 0, (.cons (.agg (.cons (.int .i64) yP1)) .nil), (.agg (.cons (.int .i64) yP1)), w_toRoute k⟩] [(0, ⟨[0, 3, 4], (.cons (.il true yT0) (.cons (.own false 35 yT0) yP2))⟩, ⟨[3], (.cons (.own false 35 yT0) .nil)⟩)] Tryd.f6 yP3 (.own false 35 yT0) x = w_toRouteS k x := by kernel_rfl
theorem e_w_toRouteS [NamesT] (k : Nat) : EntryOk Tryd.prog ⟨6, 0, yP3, (.own false 35 yT0), w_toRouteS k⟩ := entry_ok tok (by intro e he; simp only [List.mem_cons, List.not_mem_nil, or_false] at he; rcases he with rfl <;> first | exact e_w_toRoute k) (by kernel_rfl) (fn := Tryd.f6) (k := k) (es := [⟨12, 0, (.cons (.agg (.cons (.int .i64) yP1)) .nil), (.agg (.cons (.int .i64) yP1)), w_toRoute k⟩]) (loops := [(0, ⟨[0, 3, 4], (.cons (.il true yT0) (.cons (.own false 35 yT0) yP2))⟩, ⟨[3], (.cons (.own false 35 yT0) .nil)⟩)]) (by kernel_rfl) (by kernel_rfl) (fun x r h => (t_w_toRouteS k x).trans h)
def i_within (k : Nat) (x : Int × Int × Int × Unit) : Option (Bool × Unit × Unit × Unit × Unit) :=
(if (decide (x.2.1 ≤ x.1)) = true then
some ((decide (x.1 ≤ x.2.2.1)), ((), ((), ((), ()))))
else
some (false, ((), ((), ((), ())))))
theorem t_i_within (k : Nat) (x) : evF TTab k [] [] Tryd.f32 (.cons (.int .i64) yP1) .bool x = i_within k x := by kernel_rfl
theorem e_i_within [NamesT] (k : Nat) : EntryOk Tryd.prog ⟨32, 0, (.cons (.int .i64) yP1), .bool, i_within k⟩ := entry_ok tok (by simp) (by kernel_rfl) (fn := Tryd.f32) (k := k) (es := []) (loops := []) (by kernel_rfl) (by kernel_rfl) (fun x r h => (t_i_within k x).trans h)
def i_AddrOk (k : Nat) (x : Int × Unit) : Option (Bool × Unit × Unit) :=
((i_within k (x.1, ((0 : Int), ((4294967295 : Int), ())))).bind fun p1 =>
some (p1.1, ((), ())))
theorem t_i_AddrOk (k : Nat) (x) : evF TTab k [⟨32, 0, (.cons (.int .i64) yP1), .bool, i_within k⟩] [] Tryd.f31 yP2 .bool x = i_AddrOk k x := by kernel_rfl
theorem e_i_AddrOk [NamesT] (k : Nat) : EntryOk Tryd.prog ⟨31, 0, yP2, .bool, i_AddrOk k⟩ := entry_ok tok (by intro e he; simp only [List.mem_cons, List.not_mem_nil, or_false] at he; rcases he with rfl <;> first | exact e_i_within k) (by kernel_rfl) (fn := Tryd.f31) (k := k) (es := [⟨32, 0, (.cons (.int .i64) yP1), .bool, i_within k⟩]) (loops := []) (by kernel_rfl) (by kernel_rfl) (fun x r h => (t_i_AddrOk k x).trans h)
def i_lastBits (k : Nat) (x : Int × Unit) : Option (Int × Unit × Unit) :=
(if (wi64 ((32 : Int) - x.1)) < 0 then
none
else
some ((wi64 ((wi64 ((1 : Int) * 2 ^ (min (Int.toNat (wi64 ((32 : Int) - x.1))) (IntKind.bits .i64)))) - (1 : Int))), ((), ())))
theorem t_i_lastBits (k : Nat) (x) : evF TTab k [] [] Tryd.f33 yP2 (.int .i64) x = i_lastBits k x := by kernel_rfl
theorem e_i_lastBits [NamesT] (k : Nat) : EntryOk Tryd.prog ⟨33, 0, yP2, (.int .i64), i_lastBits k⟩ := entry_ok tok (by simp) (by kernel_rfl) (fn := Tryd.f33) (k := k) (es := []) (loops := []) (by kernel_rfl) (by kernel_rfl) (fun x r h => (t_i_lastBits k x).trans h)
def i_PrefixOk (k : Nat) (x : (Int × Int × Unit) × Unit) : Option (Bool × Unit × Unit) :=
((i_AddrOk k (x.1.1, ())).bind fun p1 =>
(if p1.1 = true then
((i_within k (x.1.2.1, ((0 : Int), ((32 : Int), ())))).bind fun p2 =>
(if p2.1 = true then
((i_lastBits k (x.1.2.1, ())).bind fun p3 =>
some ((decide ((bitsI .and .i64 x.1.1 p3.1) = (0 : Int))), ((), ())))
else
some (false, ((), ()))))
else
some (false, ((), ()))))
theorem t_i_PrefixOk (k : Nat) (x) : evF TTab k [⟨31, 0, yP2, .bool, i_AddrOk k⟩, ⟨32, 0, (.cons (.int .i64) yP1), .bool, i_within k⟩, ⟨33, 0, yP2, (.int .i64), i_lastBits k⟩] [] Tryd.f23 (.cons (.agg yP1) .nil) .bool x = i_PrefixOk k x := by kernel_rfl
theorem e_i_PrefixOk [NamesT] (k : Nat) : EntryOk Tryd.prog ⟨23, 0, (.cons (.agg yP1) .nil), .bool, i_PrefixOk k⟩ := entry_ok tok (by intro e he; simp only [List.mem_cons, List.not_mem_nil, or_false] at he; rcases he with rfl | rfl | rfl <;> first | exact e_i_AddrOk k | exact e_i_within k | exact e_i_lastBits k) (by kernel_rfl) (fn := Tryd.f23) (k := k) (es := [⟨31, 0, yP2, .bool, i_AddrOk k⟩, ⟨32, 0, (.cons (.int .i64) yP1), .bool, i_within k⟩, ⟨33, 0, yP2, (.int .i64), i_lastBits k⟩]) (loops := []) (by kernel_rfl) (by kernel_rfl) (fun x r h => (t_i_PrefixOk k x).trans h)
def i_isId (k : Nat) (x : Int × Unit) : Option (Bool × Unit × Unit) :=
((i_within k (x.1, ((1 : Int), ((99 : Int), ())))).bind fun p1 =>
some (p1.1, ((), ())))
theorem t_i_isId (k : Nat) (x) : evF TTab k [⟨32, 0, (.cons (.int .i64) yP1), .bool, i_within k⟩] [] Tryd.f24 yP2 .bool x = i_isId k x := by kernel_rfl
theorem e_i_isId [NamesT] (k : Nat) : EntryOk Tryd.prog ⟨24, 0, yP2, .bool, i_isId k⟩ := entry_ok tok (by intro e he; simp only [List.mem_cons, List.not_mem_nil, or_false] at he; rcases he with rfl <;> first | exact e_i_within k) (by kernel_rfl) (fn := Tryd.f24) (k := k) (es := [⟨32, 0, (.cons (.int .i64) yP1), .bool, i_within k⟩]) (loops := []) (by kernel_rfl) (by kernel_rfl) (fun x r h => (t_i_isId k x).trans h)
def x_cmp_Or_int (k : Nat) (x : List (Int) × Unit) : Option (Int × Unit × Unit) :=
(whileK (fun (rec0 : (Int × List (Int) × Int × Int × Unit) → Option _) (y0 : Int × List (Int) × Int × Int × Unit) =>
(if (decide (y0.2.2.2.1 < y0.2.2.1)) = true then
(if 0 ≤ y0.2.2.2.1 ∧ y0.2.2.2.1 < (List.length y0.2.1 : Int) then
(if (!decide ((Ty.rd (t := (.int .i64)) y0.2.1 y0.2.2.2.1) = y0.1)) = true then
some ((Ty.rd (t := (.int .i64)) y0.2.1 y0.2.2.2.1), ((), ()))
else
(rec0 (y0.1, (y0.2.1, (y0.2.2.1, ((wi64 (y0.2.2.2.1 + (1 : Int))), ()))))))
else none)
else
((fun (z1 : Int × Unit) =>
some (z1.1, ((), ()))) (y0.1, ())))) k ((0 : Int), (x.1, ((List.length x.1 : Int), ((0 : Int), ())))))
theorem t_x_cmp_Or_int (k : Nat) (x) : evF TTab k [] [(0, ⟨[3, 6, 7, 8], (.cons (.int .i64) (.cons (.il true (.int .i64)) yP1))⟩, ⟨[3], yP2⟩)] Tryd.f34 (.cons (.il true (.int .i64)) .nil) (.int .i64) x = x_cmp_Or_int k x := by kernel_rfl
theorem e_x_cmp_Or_int [NamesT] (k : Nat) : EntryOk Tryd.prog ⟨34, 0, (.cons (.il true (.int .i64)) .nil), (.int .i64), x_cmp_Or_int k⟩ := entry_ok tok (by simp) (by kernel_rfl) (fn := Tryd.f34) (k := k) (es := []) (loops := [(0, ⟨[3, 6, 7, 8], (.cons (.int .i64) (.cons (.il true (.int .i64)) yP1))⟩, ⟨[3], yP2⟩)]) (by kernel_rfl) (by kernel_rfl) (fun x r h => (t_x_cmp_Or_int k x).trans h)
def x_cmp_isNaN_int (k : Nat) (x : Int × Unit) : Option (Bool × Unit × Unit) :=
some ((!decide (x.1 = x.1)), ((), ()))
theorem t_x_cmp_isNaN_int (k : Nat) (x) : evF TTab k [] [] Tryd.f37 yP2 .bool x = x_cmp_isNaN_int k x := by kernel_rfl
theorem e_x_cmp_isNaN_int [NamesT] (k : Nat) : EntryOk Tryd.prog ⟨37, 0, yP2, .bool, x_cmp_isNaN_int k⟩ := entry_ok tok (by simp) (by kernel_rfl) (fn := Tryd.f37) (k := k) (es := []) (loops := []) (by kernel_rfl) (by kernel_rfl) (fun x r h => (t_x_cmp_isNaN_int k x).trans h)
def x_cmp_Compare_int (k : Nat) (x : Int × Int × Unit) : Option (Int × Unit × Unit × Unit) :=
((x_cmp_isNaN_int k (x.1, ())).bind fun p1 =>
((x_cmp_isNaN_int k (x.2.1, ())).bind fun p2 =>
(if p1.1 = true then
(if p2.1 = true then
some ((0 : Int), ((), ((), ())))
else
some ((-1 : Int), ((), ((), ()))))
else
(if p2.1 = true then
some ((1 : Int), ((), ((), ())))
else
(if (decide (x.1 < x.2.1)) = true then
some ((-1 : Int), ((), ((), ())))
else
(if (decide (x.2.1 < x.1)) = true then
some ((1 : Int), ((), ((), ())))
else
some ((0 : Int), ((), ((), ())))))))))
theorem t_x_cmp_Compare_int (k : Nat) (x) : evF TTab k [⟨37, 0, yP2, .bool, x_cmp_isNaN_int k⟩] [] Tryd.f35 yP1 (.int .i64) x = x_cmp_Compare_int k x := by kernel_rfl
theorem e_x_cmp_Compare_int [NamesT] (k : Nat) : EntryOk Tryd.prog ⟨35, 0, yP1, (.int .i64), x_cmp_Compare_int k⟩ := entry_ok tok (by intro e he; simp only [List.mem_cons, List.not_mem_nil, or_false] at he; rcases he with rfl <;> first | exact e_x_cmp_isNaN_int k) (by kernel_rfl) (fn := Tryd.f35) (k := k) (es := [⟨37, 0, yP2, .bool, x_cmp_isNaN_int k⟩]) (loops := []) (by kernel_rfl) (by kernel_rfl) (fun x r h => (t_x_cmp_Compare_int k x).trans h)
def i_comparePrefixes (k : Nat) (x : (Int × Int × Unit) × (Int × Int × Unit) × Unit) : Option (Int × Unit × Unit × Unit) :=
((x_cmp_Compare_int k (x.1.1, (x.2.1.1, ()))).bind fun p1 =>
((x_cmp_Compare_int k (x.1.2.1, (x.2.1.2.1, ()))).bind fun p2 =>
((x_cmp_Or_int k (([p1.1, p2.1] : List (Int)), ())).bind fun p3 =>
some (p3.1, ((), ((), ()))))))
theorem t_i_comparePrefixes (k : Nat) (x) : evF TTab k [⟨34, 0, (.cons (.il true (.int .i64)) .nil), (.int .i64), x_cmp_Or_int k⟩, ⟨35, 0, yP1, (.int .i64), x_cmp_Compare_int k⟩] [] Tryd.f25 yP4 (.int .i64) x = i_comparePrefixes k x := by kernel_rfl
theorem e_i_comparePrefixes [NamesT] (k : Nat) : EntryOk Tryd.prog ⟨25, 0, yP4, (.int .i64), i_comparePrefixes k⟩ := entry_ok tok (by intro e he; simp only [List.mem_cons, List.not_mem_nil, or_false] at he; rcases he with rfl | rfl <;> first | exact e_x_cmp_Or_int k | exact e_x_cmp_Compare_int k) (by kernel_rfl) (fn := Tryd.f25) (k := k) (es := [⟨34, 0, (.cons (.il true (.int .i64)) .nil), (.int .i64), x_cmp_Or_int k⟩, ⟨35, 0, yP1, (.int .i64), x_cmp_Compare_int k⟩]) (loops := []) (by kernel_rfl) (by kernel_rfl) (fun x r h => (t_i_comparePrefixes k x).trans h)
def i_RoutesOk (k : Nat) (x : (List ((Int × Int) × Int)) × Unit) : Option (Bool × Unit × Unit) :=
(whileK (fun (rec0 : ((List ((Int × Int) × Int)) × (List ((Int × Int) × Int)) × Int × Int × Unit) → Option _) (y0 : (List ((Int × Int) × Int)) × (List ((Int × Int) × Int)) × Int × Int × Unit) =>
(if (decide (y0.2.2.2.1 < y0.2.2.1)) = true then
(if 0 ≤ y0.2.2.2.1 ∧ y0.2.2.2.1 < (List.length y0.2.1 : Int) then
((i_PrefixOk k (((Ty.rd (t := yT0) y0.2.1 y0.2.2.2.1).1.1, ((Ty.rd (t := yT0) y0.2.1 y0.2.2.2.1).1.2, ())), ())).bind fun p1 =>
(if (!p1.1) = false then
((i_isId k ((Ty.rd (t := yT0) y0.2.1 y0.2.2.2.1).2, ())).bind fun p2 =>
(if (!p2.1) = false then
(if (decide ((0 : Int) < y0.2.2.2.1)) = true then
(if 0 ≤ (wi64 (y0.2.2.2.1 - (1 : Int))) ∧ (wi64 (y0.2.2.2.1 - (1 : Int))) < (List.length y0.1 : Int) then
((i_comparePrefixes k (((Ty.rd (t := yT0) y0.1 (wi64 (y0.2.2.2.1 - (1 : Int)))).1.1, ((Ty.rd (t := yT0) y0.1 (wi64 (y0.2.2.2.1 - (1 : Int)))).1.2, ())), (((Ty.rd (t := yT0) y0.2.1 y0.2.2.2.1).1.1, ((Ty.rd (t := yT0) y0.2.1 y0.2.2.2.1).1.2, ())), ()))).bind fun p3 =>
(if (decide ((0 : Int) ≤ p3.1)) = true then
some (false, ((), ()))
else
(rec0 (y0.1, (y0.2.1, (y0.2.2.1, ((wi64 (y0.2.2.2.1 + (1 : Int))), ())))))))
else none)
else
(rec0 (y0.1, (y0.2.1, (y0.2.2.1, ((wi64 (y0.2.2.2.1 + (1 : Int))), ()))))))
else
some (false, ((), ()))))
else
some (false, ((), ()))))
else none)
else
((fun (z1 : (List ((Int × Int) × Int)) × Unit) =>
some ((decide ((List.length z1.1 : Int) ≤ (12 : Int))), ((), ()))) (y0.1, ())))) k (x.1, (x.1, ((List.length x.1 : Int), ((0 : Int), ())))))
theorem t_i_RoutesOk (k : Nat) (x) : evF TTab k [⟨23, 0, (.cons (.agg yP1) .nil), .bool, i_PrefixOk k⟩, ⟨24, 0, yP2, .bool, i_isId k⟩, ⟨25, 0, yP4, (.int .i64), i_comparePrefixes k⟩] [(0, ⟨[0, 5, 6, 7], (.cons (.il true yT0) (.cons (.il true yT0) yP1))⟩, ⟨[0], yP3⟩)] Tryd.f13 yP3 .bool x = i_RoutesOk k x := by kernel_rfl
theorem e_i_RoutesOk [NamesT] (k : Nat) : EntryOk Tryd.prog ⟨13, 0, yP3, .bool, i_RoutesOk k⟩ := entry_ok tok (by intro e he; simp only [List.mem_cons, List.not_mem_nil, or_false] at he; rcases he with rfl | rfl | rfl <;> first | exact e_i_PrefixOk k | exact e_i_isId k | exact e_i_comparePrefixes k) (by kernel_rfl) (fn := Tryd.f13) (k := k) (es := [⟨23, 0, (.cons (.agg yP1) .nil), .bool, i_PrefixOk k⟩, ⟨24, 0, yP2, .bool, i_isId k⟩, ⟨25, 0, yP4, (.int .i64), i_comparePrefixes k⟩]) (loops := [(0, ⟨[0, 5, 6, 7], (.cons (.il true yT0) (.cons (.il true yT0) yP1))⟩, ⟨[0], yP3⟩)]) (by kernel_rfl) (by kernel_rfl) (fun x r h => (t_i_RoutesOk k x).trans h)
def x_strconv_Itoa (k : Nat) (x : Int × Unit) : Option (ByteArray × Unit × Unit) := itoaF x
theorem e_x_strconv_Itoa [NamesT] (k : Nat) : EntryOk Tryd.prog ⟨27, 0, yP2, .str, x_strconv_Itoa k⟩ := entry_itoa Tryd.func27 (by kernel_rfl) (fun w => Lib.TabIs Tryd.prog w "internal/strconv.uint64pow10" .u64 Lib.pow10Tab) NamesT.tab (fun n h0 h1 w ht => Tryd.strconv_Itoa n h0 h1 w ht)
def i_Decimal (k : Nat) (x : Int × Unit) : Option (ByteArray × Unit × Unit) :=
((x_strconv_Itoa k (x.1, ())).bind fun p1 =>
some (p1.1, ((), ())))
theorem t_i_Decimal (k : Nat) (x) : evF TTab k [⟨27, 0, yP2, .str, x_strconv_Itoa k⟩] [] Tryd.f15 yP2 .str x = i_Decimal k x := by kernel_rfl
theorem e_i_Decimal [NamesT] (k : Nat) : EntryOk Tryd.prog ⟨15, 0, yP2, .str, i_Decimal k⟩ := entry_ok tok (by intro e he; simp only [List.mem_cons, List.not_mem_nil, or_false] at he; rcases he with rfl <;> first | exact e_x_strconv_Itoa k) (by kernel_rfl) (fn := Tryd.f15) (k := k) (es := [⟨27, 0, yP2, .str, x_strconv_Itoa k⟩]) (loops := []) (by kernel_rfl) (by kernel_rfl) (fun x r h => (t_i_Decimal k x).trans h)
def i_AddrText (k : Nat) (x : Int × Unit) : Option (ByteArray × Unit × Unit) :=
((i_AddrOk k (x.1, ())).bind fun p1 =>
(if (!p1.1) = true then
some ((⟨#[]⟩ : ByteArray), ((), ()))
else
((i_Decimal k ((Int.fdiv x.1 (2 ^ (min (Int.toNat (24 : Int)) (IntKind.bits .i64)))), ())).bind fun p2 =>
(if ByteArray.size p2.1 + ByteArray.size (⟨#[46]⟩ : ByteArray) ≤ maxStr then
((i_Decimal k ((bitsI .and .i64 (Int.fdiv x.1 (2 ^ (min (Int.toNat (16 : Int)) (IntKind.bits .i64)))) (255 : Int)), ())).bind fun p3 =>
(if ByteArray.size (p2.1 ++ (⟨#[46]⟩ : ByteArray)) + ByteArray.size p3.1 ≤ maxStr then
(if ByteArray.size ((p2.1 ++ (⟨#[46]⟩ : ByteArray)) ++ p3.1) + ByteArray.size (⟨#[46]⟩ : ByteArray) ≤ maxStr then
((i_Decimal k ((bitsI .and .i64 (Int.fdiv x.1 (2 ^ (min (Int.toNat (8 : Int)) (IntKind.bits .i64)))) (255 : Int)), ())).bind fun p4 =>
(if ByteArray.size (((p2.1 ++ (⟨#[46]⟩ : ByteArray)) ++ p3.1) ++ (⟨#[46]⟩ : ByteArray)) + ByteArray.size p4.1 ≤ maxStr then
(if ByteArray.size ((((p2.1 ++ (⟨#[46]⟩ : ByteArray)) ++ p3.1) ++ (⟨#[46]⟩ : ByteArray)) ++ p4.1) + ByteArray.size (⟨#[46]⟩ : ByteArray) ≤ maxStr then
((i_Decimal k ((bitsI .and .i64 x.1 (255 : Int)), ())).bind fun p5 =>
(if ByteArray.size (((((p2.1 ++ (⟨#[46]⟩ : ByteArray)) ++ p3.1) ++ (⟨#[46]⟩ : ByteArray)) ++ p4.1) ++ (⟨#[46]⟩ : ByteArray)) + ByteArray.size p5.1 ≤ maxStr then
some (((((((p2.1 ++ (⟨#[46]⟩ : ByteArray)) ++ p3.1) ++ (⟨#[46]⟩ : ByteArray)) ++ p4.1) ++ (⟨#[46]⟩ : ByteArray)) ++ p5.1), ((), ()))
else none))
else none)
else none))
else none)
else none))
else none))))
theorem t_i_AddrText (k : Nat) (x) : evF TTab k [⟨15, 0, yP2, .str, i_Decimal k⟩, ⟨31, 0, yP2, .bool, i_AddrOk k⟩] [] Tryd.f26 yP2 .str x = i_AddrText k x := by kernel_rfl
theorem e_i_AddrText [NamesT] (k : Nat) : EntryOk Tryd.prog ⟨26, 0, yP2, .str, i_AddrText k⟩ := entry_ok tok (by intro e he; simp only [List.mem_cons, List.not_mem_nil, or_false] at he; rcases he with rfl | rfl <;> first | exact e_i_Decimal k | exact e_i_AddrOk k) (by kernel_rfl) (fn := Tryd.f26) (k := k) (es := [⟨15, 0, yP2, .str, i_Decimal k⟩, ⟨31, 0, yP2, .bool, i_AddrOk k⟩]) (loops := []) (by kernel_rfl) (by kernel_rfl) (fun x r h => (t_i_AddrText k x).trans h)
def i_PrefixText (k : Nat) (x : (Int × Int × Unit) × Unit) : Option ((ByteArray × Bool × Unit) × Unit × Unit) :=
((i_PrefixOk k ((x.1.1, (x.1.2.1, ())), ())).bind fun p1 =>
(if (!p1.1) = true then
some (((⟨#[]⟩ : ByteArray), (false, ())), ((), ()))
else
((i_AddrText k (x.1.1, ())).bind fun p2 =>
(if ByteArray.size p2.1 + ByteArray.size (⟨#[47]⟩ : ByteArray) ≤ maxStr then
((i_Decimal k (x.1.2.1, ())).bind fun p3 =>
(if ByteArray.size (p2.1 ++ (⟨#[47]⟩ : ByteArray)) + ByteArray.size p3.1 ≤ maxStr then
some ((((p2.1 ++ (⟨#[47]⟩ : ByteArray)) ++ p3.1), (true, ())), ((), ()))
else none))
else none))))
theorem t_i_PrefixText (k : Nat) (x) : evF TTab k [⟨15, 0, yP2, .str, i_Decimal k⟩, ⟨23, 0, (.cons (.agg yP1) .nil), .bool, i_PrefixOk k⟩, ⟨26, 0, yP2, .str, i_AddrText k⟩] [] Tryd.f14 (.cons (.agg yP1) .nil) (.tup (.cons .str (.cons .bool .nil))) x = i_PrefixText k x := by kernel_rfl
theorem e_i_PrefixText [NamesT] (k : Nat) : EntryOk Tryd.prog ⟨14, 0, (.cons (.agg yP1) .nil), (.tup (.cons .str (.cons .bool .nil))), i_PrefixText k⟩ := entry_ok tok (by intro e he; simp only [List.mem_cons, List.not_mem_nil, or_false] at he; rcases he with rfl | rfl | rfl <;> first | exact e_i_Decimal k | exact e_i_PrefixOk k | exact e_i_AddrText k) (by kernel_rfl) (fn := Tryd.f14) (k := k) (es := [⟨15, 0, yP2, .str, i_Decimal k⟩, ⟨23, 0, (.cons (.agg yP1) .nil), .bool, i_PrefixOk k⟩, ⟨26, 0, yP2, .str, i_AddrText k⟩]) (loops := []) (by kernel_rfl) (by kernel_rfl) (fun x r h => (t_i_PrefixText k x).trans h)
def i_ShowRoutes (k : Nat) (x : (List ((Int × Int) × Int)) × Unit) : Option (ByteArray × Unit × Unit) :=
((i_RoutesOk k (x.1, ())).bind fun p1 =>
(if (!p1.1) = true then
some ((⟨#[]⟩ : ByteArray), ((), ()))
else
(whileK (fun (rec0 : (ByteArray × (List ((Int × Int) × Int)) × Int × Int × Unit) → Option _) (y0 : ByteArray × (List ((Int × Int) × Int)) × Int × Int × Unit) =>
(if (decide (y0.2.2.2.1 < y0.2.2.1)) = true then
(if 0 ≤ y0.2.2.2.1 ∧ y0.2.2.2.1 < (List.length y0.2.1 : Int) then
((i_PrefixText k (((Ty.rd (t := yT0) y0.2.1 y0.2.2.2.1).1.1, ((Ty.rd (t := yT0) y0.2.1 y0.2.2.2.1).1.2, ())), ())).bind fun p2 =>
(if ByteArray.size p2.1.1 + ByteArray.size (⟨#[32]⟩ : ByteArray) ≤ maxStr then
((i_Decimal k ((Ty.rd (t := yT0) y0.2.1 y0.2.2.2.1).2, ())).bind fun p3 =>
(if ByteArray.size (p2.1.1 ++ (⟨#[32]⟩ : ByteArray)) + ByteArray.size p3.1 ≤ maxStr then
(if ByteArray.size ((p2.1.1 ++ (⟨#[32]⟩ : ByteArray)) ++ p3.1) + ByteArray.size (⟨#[10]⟩ : ByteArray) ≤ maxStr then
(if ByteArray.size y0.1 + ByteArray.size (((p2.1.1 ++ (⟨#[32]⟩ : ByteArray)) ++ p3.1) ++ (⟨#[10]⟩ : ByteArray)) ≤ maxStr then
(rec0 ((y0.1 ++ (((p2.1.1 ++ (⟨#[32]⟩ : ByteArray)) ++ p3.1) ++ (⟨#[10]⟩ : ByteArray))), (y0.2.1, (y0.2.2.1, ((wi64 (y0.2.2.2.1 + (1 : Int))), ())))))
else none)
else none)
else none))
else none))
else none)
else
((fun (z1 : ByteArray × Unit) =>
some (z1.1, ((), ()))) (y0.1, ())))) k ((⟨#[]⟩ : ByteArray), (x.1, ((List.length x.1 : Int), ((0 : Int), ())))))))
theorem t_i_ShowRoutes (k : Nat) (x) : evF TTab k [⟨13, 0, yP3, .bool, i_RoutesOk k⟩, ⟨14, 0, (.cons (.agg yP1) .nil), (.tup (.cons .str (.cons .bool .nil))), i_PrefixText k⟩, ⟨15, 0, yP2, .str, i_Decimal k⟩] [(0, ⟨[3, 12, 13, 14], (.cons .str (.cons (.il true yT0) yP1))⟩, ⟨[3], (.cons .str .nil)⟩)] Tryd.f7 yP3 .str x = i_ShowRoutes k x := by kernel_rfl
theorem e_i_ShowRoutes [NamesT] (k : Nat) : EntryOk Tryd.prog ⟨7, 0, yP3, .str, i_ShowRoutes k⟩ := entry_ok tok (by intro e he; simp only [List.mem_cons, List.not_mem_nil, or_false] at he; rcases he with rfl | rfl | rfl <;> first | exact e_i_RoutesOk k | exact e_i_PrefixText k | exact e_i_Decimal k) (by kernel_rfl) (fn := Tryd.f7) (k := k) (es := [⟨13, 0, yP3, .bool, i_RoutesOk k⟩, ⟨14, 0, (.cons (.agg yP1) .nil), (.tup (.cons .str (.cons .bool .nil))), i_PrefixText k⟩, ⟨15, 0, yP2, .str, i_Decimal k⟩]) (loops := [(0, ⟨[3, 12, 13, 14], (.cons .str (.cons (.il true yT0) yP1))⟩, ⟨[3], (.cons .str .nil)⟩)]) (by kernel_rfl) (by kernel_rfl) (fun x r h => (t_i_ShowRoutes k x).trans h)
def w_eqPrefix (k : Nat) (x : (Int × Int × Unit) × (Int × Int × Unit) × Unit) : Option (Bool × Unit × Unit × Unit) :=
(if (!decide (x.1.1 = x.2.1.1)) = true then
some (false, ((), ((), ())))
else
(if (!decide (x.1.2.1 = x.2.1.2.1)) = true then
some (false, ((), ((), ())))
else
some (true, ((), ((), ())))))
theorem t_w_eqPrefix (k : Nat) (x) : evF TTab k [] [] Tryd.f28 yP4 .bool x = w_eqPrefix k x := by kernel_rfl
theorem e_w_eqPrefix [NamesT] (k : Nat) : EntryOk Tryd.prog ⟨28, 0, yP4, .bool, w_eqPrefix k⟩ := entry_ok tok (by simp) (by kernel_rfl) (fn := Tryd.f28) (k := k) (es := []) (loops := []) (by kernel_rfl) (by kernel_rfl) (fun x r h => (t_w_eqPrefix k x).trans h)
def w_eqRoute (k : Nat) (x : (Int × Int × Int × Unit) × (Int × Int × Int × Unit) × Unit) : Option (Bool × Unit × Unit × Unit) :=
((w_eqPrefix k ((x.1.1, (x.1.2.1, ())), ((x.2.1.1, (x.2.1.2.1, ())), ()))).bind fun p1 =>
(if (!p1.1) = true then
some (false, ((), ((), ())))
else
(if (!decide (x.1.2.2.1 = x.2.1.2.2.1)) = true then
some (false, ((), ((), ())))
else
some (true, ((), ((), ()))))))
theorem t_w_eqRoute (k : Nat) (x) : evF TTab k [⟨28, 0, yP4, .bool, w_eqPrefix k⟩] [] Tryd.f16 (.cons (.agg (.cons (.int .i64) yP1)) (.cons (.agg (.cons (.int .i64) yP1)) .nil)) .bool x = w_eqRoute k x := by kernel_rfl
theorem e_w_eqRoute [NamesT] (k : Nat) : EntryOk Tryd.prog ⟨16, 0, (.cons (.agg (.cons (.int .i64) yP1)) (.cons (.agg (.cons (.int .i64) yP1)) .nil)), .bool, w_eqRoute k⟩ := entry_ok tok (by intro e he; simp only [List.mem_cons, List.not_mem_nil, or_false] at he; rcases he with rfl <;> first | exact e_w_eqPrefix k) (by kernel_rfl) (fn := Tryd.f16) (k := k) (es := [⟨28, 0, yP4, .bool, w_eqPrefix k⟩]) (loops := []) (by kernel_rfl) (by kernel_rfl) (fun x r h => (t_w_eqRoute k x).trans h)
def w_eqRouteS (k : Nat) (x : (List ((Int × Int) × Int)) × (List ((Int × Int) × Int)) × Unit) : Option (Bool × Unit × Unit × Unit) :=
(if (!decide ((List.length x.1 : Int) = (List.length x.2.1 : Int))) = true then
some (false, ((), ((), ())))
else
(whileK (fun (rec0 : ((List ((Int × Int) × Int)) × (List ((Int × Int) × Int)) × Int × Unit) → Option _) (y0 : (List ((Int × Int) × Int)) × (List ((Int × Int) × Int)) × Int × Unit) =>
(if (decide (y0.2.2.1 < (List.length y0.1 : Int))) = true then
(if 0 ≤ y0.2.2.1 ∧ y0.2.2.1 < (List.length y0.1 : Int) then
(if 0 ≤ y0.2.2.1 ∧ y0.2.2.1 < (List.length y0.2.1 : Int) then
((w_eqRoute k (((Ty.rd (t := yT0) y0.1 y0.2.2.1).1.1, ((Ty.rd (t := yT0) y0.1 y0.2.2.1).1.2, ((Ty.rd (t := yT0) y0.1 y0.2.2.1).2, ()))), (((Ty.rd (t := yT0) y0.2.1 y0.2.2.1).1.1, ((Ty.rd (t := yT0) y0.2.1 y0.2.2.1).1.2, ((Ty.rd (t := yT0) y0.2.1 y0.2.2.1).2, ()))), ()))).bind fun p1 =>
(if (!p1.1) = true then
some (false, ((), ((), ())))
else
(rec0 (y0.1, (y0.2.1, ((wi64 (y0.2.2.1 + (1 : Int))), ()))))))
else none)
else none)
else
((fun (z1 : Unit) =>
some (true, ((), ((), ())))) ()))) k (x.1, (x.2.1, ((0 : Int), ())))))
theorem t_w_eqRouteS (k : Nat) (x) : evF TTab k [⟨16, 0, (.cons (.agg (.cons (.int .i64) yP1)) (.cons (.agg (.cons (.int .i64) yP1)) .nil)), .bool, w_eqRoute k⟩] [(0, ⟨[0, 1, 5], (.cons (.il true yT0) (.cons (.il true yT0) yP2))⟩, ⟨[], .nil⟩)] Tryd.f8 (.cons (.il true yT0) yP3) .bool x = w_eqRouteS k x := by kernel_rfl
theorem e_w_eqRouteS [NamesT] (k : Nat) : EntryOk Tryd.prog ⟨8, 0, (.cons (.il true yT0) yP3), .bool, w_eqRouteS k⟩ := entry_ok tok (by intro e he; simp only [List.mem_cons, List.not_mem_nil, or_false] at he; rcases he with rfl <;> first | exact e_w_eqRoute k) (by kernel_rfl) (fn := Tryd.f8) (k := k) (es := [⟨16, 0, (.cons (.agg (.cons (.int .i64) yP1)) (.cons (.agg (.cons (.int .i64) yP1)) .nil)), .bool, w_eqRoute k⟩]) (loops := [(0, ⟨[0, 1, 5], (.cons (.il true yT0) (.cons (.il true yT0) yP2))⟩, ⟨[], .nil⟩)]) (by kernel_rfl) (by kernel_rfl) (fun x r h => (t_w_eqRouteS k x).trans h)
def w_FnExactShowRoutes (k : Nat) (x : (List ((Int × Int) × Int)) × Unit) : Option (Bool × Unit × Unit) :=
((w_szRouteS k (x.1, ((1048576 : Int), ()))).bind fun p1 =>
(if (decide (p1.1 < (0 : Int))) = true then
some (true, ((), ()))
else
((w_toRouteS k (x.1, ())).bind fun p2 =>
((s_ShowRoutes k (p2.1, ())).bind fun p3 =>
((w_toRouteS k (x.1, ())).bind fun p4 =>
((i_ShowRoutes k (p4.1, ())).bind fun p5 =>
(if (!decide (p5.1 = p3.1)) = true then
some (false, ((), ()))
else
((w_toRouteS k (x.1, ())).bind fun p6 =>
((w_eqRouteS k (p4.1, (p6.1, ()))).bind fun p7 =>
(if (!p7.1) = true then
some (false, ((), ()))
else
some (true, ((), ()))))))))))))
theorem t_w_FnExactShowRoutes (k : Nat) (x) : evF TTab k [⟨4, 0, (.cons (.il true yT0) yP2), (.int .i64), w_szRouteS k⟩, ⟨5, 0, yP3, .str, s_ShowRoutes k⟩, ⟨6, 0, yP3, (.own false 35 yT0), w_toRouteS k⟩, ⟨7, 0, yP3, .str, i_ShowRoutes k⟩, ⟨8, 0, (.cons (.il true yT0) yP3), .bool, w_eqRouteS k⟩] [] Tryd.f3 yP3 .bool x = w_FnExactShowRoutes k x := by kernel_rfl
theorem e_w_FnExactShowRoutes [NamesT] (k : Nat) : EntryOk Tryd.prog ⟨3, 0, yP3, .bool, w_FnExactShowRoutes k⟩ := entry_ok tok (by intro e he; simp only [List.mem_cons, List.not_mem_nil, or_false] at he; rcases he with rfl | rfl | rfl | rfl | rfl <;> first | exact e_w_szRouteS k | exact e_s_ShowRoutes k | exact e_w_toRouteS k | exact e_i_ShowRoutes k | exact e_w_eqRouteS k) (by kernel_rfl) (fn := Tryd.f3) (k := k) (es := [⟨4, 0, (.cons (.il true yT0) yP2), (.int .i64), w_szRouteS k⟩, ⟨5, 0, yP3, .str, s_ShowRoutes k⟩, ⟨6, 0, yP3, (.own false 35 yT0), w_toRouteS k⟩, ⟨7, 0, yP3, .str, i_ShowRoutes k⟩, ⟨8, 0, (.cons (.il true yT0) yP3), .bool, w_eqRouteS k⟩]) (loops := []) (by kernel_rfl) (by kernel_rfl) (fun x r h => (t_w_FnExactShowRoutes k x).trans h)
end Go.Proofs.YtgfmfpnmomgleaaDoor
