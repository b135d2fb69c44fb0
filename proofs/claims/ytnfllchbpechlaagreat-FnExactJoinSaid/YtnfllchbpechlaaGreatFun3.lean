import Derived.Test.YtnfllchbpechlaaGreatFun2
/- What functions of the program compute, as plain functions, and that their calls do so (part 3). Conditions: the plain function answers. -/
set_option linter.unusedVariables false
namespace Go.Proofs.YtnfllchbpechlaaGreat
open Go Go.Eng Go.Proofs
def qIx(k:Nat)(x:(Int×Int×Int×ByteArray×ByteArray×Int×List (Int)×Int×Int×ByteArray×ByteArray×Int×List (Int)×Int×(List (Int×Int×Int×List (ByteArray)×List (Bool)×Int))×Int×Unit)×Unit):Option ((Int×Int×Int×ByteArray×ByteArray×Int×List (Int)×Int×Int×ByteArray×ByteArray×Int×List (Int)×Int×(List (Int×Int×Int×List (ByteArray)×List (Bool)×Int))×Int×Unit)×Unit×Unit):=
((qGX k ((x.1.2.2.1,(x.1.2.2.2.1,(x.1.2.2.2.2.1,(x.1.2.2.2.2.2.1,(x.1.2.2.2.2.2.2.1,(x.1.2.2.2.2.2.2.2.1,(x.1.2.2.2.2.2.2.2.2.1,(x.1.2.2.2.2.2.2.2.2.2.1,(x.1.2.2.2.2.2.2.2.2.2.2.1,(x.1.2.2.2.2.2.2.2.2.2.2.2.1,(x.1.2.2.2.2.2.2.2.2.2.2.2.2.1,(x.1.2.2.2.2.2.2.2.2.2.2.2.2.2.1,())))))))))))),())).bind fun p1 =>
((qGa k ((x.1.2.2.2.2.2.2.2.2.2.2.2.2.2.2.1,()),())).bind fun p2 =>
some ((x.1.1,(x.1.2.1,(p1.1.1,(p1.1.2.1,(p1.1.2.2.1,(p1.1.2.2.2.1,(p1.1.2.2.2.2.1,(p1.1.2.2.2.2.2.1,(p1.1.2.2.2.2.2.2.1,(p1.1.2.2.2.2.2.2.2.1,(p1.1.2.2.2.2.2.2.2.2.1,(p1.1.2.2.2.2.2.2.2.2.2.1,(p1.1.2.2.2.2.2.2.2.2.2.2.1,(p1.1.2.2.2.2.2.2.2.2.2.2.2.1,(p2.1.1,(x.1.2.2.2.2.2.2.2.2.2.2.2.2.2.2.2.1,())))))))))))))))),((),()))))
abbrev E_w_toUser(k:Nat):qAI:=⟨31,0,(.cons yP9 .nil),yP13,qIx k⟩
theorem t_w_toUser(k:Nat)(x):evF qBr k [E_w_toSlots k,E_w_toShelf k] [] Tryz.f31 (.cons yP9 .nil) yP13 x=qIx k x:=by kernel_rfl
theorem e_w_toUser[Names](k:Nat):qAD Tryz.prog (E_w_toUser k):=qAB tokO (qAA (e_w_toSlots k) (qAA (e_w_toShelf k) qAG)) (by kernel_rfl) (by kernel_rfl) (by kernel_rfl) fun x r h=>(t_w_toUser k x).trans h
def qGb(k:Nat)(x:(List (Int×Int×((Int×ByteArray×ByteArray×Int×List (Int)×Int)×Int×ByteArray×ByteArray×Int×List (Int)×Int)×List (Int×Int×Int×List (ByteArray)×List (Bool)×Int)×Int))×Unit):Option ((List (Int×Int×((Int×ByteArray×ByteArray×Int×List (Int)×Int)×Int×ByteArray×ByteArray×Int×List (Int)×Int)×List (Int×Int×Int×List (ByteArray)×List (Bool)×Int)×Int))×Unit×Unit):=
(if(List.length x.1:Int)=(List.length x.1:Int) then
(if 0≤(List.length x.1:Int)∧(List.length x.1:Int)≤(capMax:Int) then
(qAH (fun(rec0:((List (Int×Int×((Int×ByteArray×ByteArray×Int×List (Int)×Int)×Int×ByteArray×ByteArray×Int×List (Int)×Int)×List (Int×Int×Int×List (ByteArray)×List (Bool)×Int)×Int))×(List (Int×Int×((Int×ByteArray×ByteArray×Int×List (Int)×Int)×Int×ByteArray×ByteArray×Int×List (Int)×Int)×List (Int×Int×Int×List (ByteArray)×List (Bool)×Int)×Int))×Int×Unit)→Option _) (y0:(List (Int×Int×((Int×ByteArray×ByteArray×Int×List (Int)×Int)×Int×ByteArray×ByteArray×Int×List (Int)×Int)×List (Int×Int×Int×List (ByteArray)×List (Bool)×Int)×Int))×(List (Int×Int×((Int×ByteArray×ByteArray×Int×List (Int)×Int)×Int×ByteArray×ByteArray×Int×List (Int)×Int)×List (Int×Int×Int×List (ByteArray)×List (Bool)×Int)×Int))×Int×Unit) =>
(if(decide (y0.2.2.1<(List.length y0.1:Int)))=true then
(if 0≤y0.2.2.1∧y0.2.2.1<(List.length y0.1:Int) then
((qIx k (((Ty.rd (t:=yT0) y0.1 y0.2.2.1).1,((Ty.rd (t:=yT0) y0.1 y0.2.2.1).2.1,((Ty.rd (t:=yT0) y0.1 y0.2.2.1).2.2.1.1.1,((Ty.rd (t:=yT0) y0.1 y0.2.2.1).2.2.1.1.2.1,((Ty.rd (t:=yT0) y0.1 y0.2.2.1).2.2.1.1.2.2.1,((Ty.rd (t:=yT0) y0.1 y0.2.2.1).2.2.1.1.2.2.2.1,((Ty.rd (t:=yT0) y0.1 y0.2.2.1).2.2.1.1.2.2.2.2.1,((Ty.rd (t:=yT0) y0.1 y0.2.2.1).2.2.1.1.2.2.2.2.2,((Ty.rd (t:=yT0) y0.1 y0.2.2.1).2.2.1.2.1,((Ty.rd (t:=yT0) y0.1 y0.2.2.1).2.2.1.2.2.1,((Ty.rd (t:=yT0) y0.1 y0.2.2.1).2.2.1.2.2.2.1,((Ty.rd (t:=yT0) y0.1 y0.2.2.1).2.2.1.2.2.2.2.1,((Ty.rd (t:=yT0) y0.1 y0.2.2.1).2.2.1.2.2.2.2.2.1,((Ty.rd (t:=yT0) y0.1 y0.2.2.1).2.2.1.2.2.2.2.2.2,((Ty.rd (t:=yT0) y0.1 y0.2.2.1).2.2.2.1,((Ty.rd (t:=yT0) y0.1 y0.2.2.1).2.2.2.2,())))))))))))))))),())).bind fun p1 =>
(if 0≤y0.2.2.1∧y0.2.2.1<(List.length y0.2.1:Int) then
(rec0 (y0.1,((List.set y0.2.1 (Int.toNat y0.2.2.1) (p1.1.1,(p1.1.2.1,(((p1.1.2.2.1,(p1.1.2.2.2.1,(p1.1.2.2.2.2.1,(p1.1.2.2.2.2.2.1,(p1.1.2.2.2.2.2.2.1,p1.1.2.2.2.2.2.2.2.1))))),(p1.1.2.2.2.2.2.2.2.2.1,(p1.1.2.2.2.2.2.2.2.2.2.1,(p1.1.2.2.2.2.2.2.2.2.2.2.1,(p1.1.2.2.2.2.2.2.2.2.2.2.2.1,(p1.1.2.2.2.2.2.2.2.2.2.2.2.2.1,p1.1.2.2.2.2.2.2.2.2.2.2.2.2.2.1)))))),(p1.1.2.2.2.2.2.2.2.2.2.2.2.2.2.2.1,p1.1.2.2.2.2.2.2.2.2.2.2.2.2.2.2.2.1))))),((wi64 (y0.2.2.1+(1:Int))),()))))
else none))
else none)
else
((fun(z1:(List (Int×Int×((Int×ByteArray×ByteArray×Int×List (Int)×Int)×Int×ByteArray×ByteArray×Int×List (Int)×Int)×List (Int×Int×Int×List (ByteArray)×List (Bool)×Int)×Int))×Unit) =>
some (z1.1,((),()))) (y0.2.1,())))) k (x.1,((List.replicate (Int.toNat (List.length x.1:Int)) ((0:Int),((0:Int),((((0:Int),((⟨#[]⟩:ByteArray),((⟨#[]⟩:ByteArray),((0:Int),([],(0:Int)))))),((0:Int),((⟨#[]⟩:ByteArray),((⟨#[]⟩:ByteArray),((0:Int),([],(0:Int))))))),([],(0:Int)))))),((0:Int),()))))
else none)
else none)
abbrev E_w_toUserS(k:Nat):qAI:=⟨78,0,(.cons (.il true yT0) .nil),(.own false 45 yT1),qGb k⟩
theorem t_w_toUserS(k:Nat)(x):evF qBr k [E_w_toUser k] [(0,⟨[0,3,4],(.cons (.il true yT0) (.cons (.own false 45 yT1) yP5))⟩,⟨[3],(.cons (.own false 45 yT1) .nil)⟩)] Tryz.f78 (.cons (.il true yT0) .nil) (.own false 45 yT1) x=qGb k x:=by kernel_rfl
theorem e_w_toUserS[Names](k:Nat):qAD Tryz.prog (E_w_toUserS k):=qAB tokO (qAA (e_w_toUser k) qAG) (by kernel_rfl) (by kernel_rfl) (by kernel_rfl) fun x r h=>(t_w_toUserS k x).trans h
def qGc(k:Nat)(x:(Int×Int×(List (Int×Int×Int))×(List (Int×Int))×(List ((Int×Int)×Int))×(List (Int×Int×((Int×ByteArray×ByteArray×Int×List (Int)×Int)×Int×ByteArray×ByteArray×Int×List (Int)×Int)×List (Int×Int×Int×List (ByteArray)×List (Bool)×Int)×Int))×Unit)×Unit):Option ((Int×Int×(List (Int×Int×Int))×(List (Int×Int))×(List ((Int×Int)×Int))×(List (Int×Int×((Int×ByteArray×ByteArray×Int×List (Int)×Int)×Int×ByteArray×ByteArray×Int×List (Int)×Int)×List (Int×Int×Int×List (ByteArray)×List (Bool)×Int)×Int))×Unit)×Unit×Unit):=
((qIt k ((x.1.1,(x.1.2.1,(x.1.2.2.1,(x.1.2.2.2.1,())))),())).bind fun p1 =>
((qE4 k (x.1.2.2.2.2.1,())).bind fun p2 =>
((qGb k (x.1.2.2.2.2.2.1,())).bind fun p3 =>
some ((p1.1.1,(p1.1.2.1,(p1.1.2.2.1,(p1.1.2.2.2.1,(p2.1,(p3.1,())))))),((),())))))
abbrev E_w_toHub(k:Nat):qAI:=⟨21,0,(.cons yP11 .nil),yP26,qGc k⟩
theorem t_w_toHub(k:Nat)(x):evF qBr k [E_w_toPool k,E_w_toRouteS k,E_w_toUserS k] [] Tryz.f21 (.cons yP11 .nil) yP26 x=qGc k x:=by kernel_rfl
theorem e_w_toHub[Names](k:Nat):qAD Tryz.prog (E_w_toHub k):=qAB tokO (qAA (e_w_toPool k) (qAA (e_w_toRouteS k) (qAA (e_w_toUserS k) qAG))) (by kernel_rfl) (by kernel_rfl) (by kernel_rfl) fun x r h=>(t_w_toHub k x).trans h
def qDn(k:Nat)(x:(Int×Int×Unit)×(Int×Int×Unit)×Unit):Option (Bool×Unit×Unit×Unit):=
(if(!decide (x.1.1=x.2.1.1))=true then
some (false,((),((),())))
else
(if(!decide (x.1.2.1=x.2.1.2.1))=true then
some (false,((),((),())))
else
some (true,((),((),())))))
abbrev qGd(k:Nat):qAI:=⟨158,0,(.cons yP22 (.cons yP22 .nil)),.bool,qDn k⟩
theorem t_w_eqPrefix(k:Nat)(x):evF TTab k [] [] Tryz.f158 (.cons yP22 (.cons yP22 .nil)) .bool x=qDn k x:=by kernel_rfl
theorem e_w_eqPrefix[Names](k:Nat):qAD Tryz.prog (qGd k):=qAB tok qAG (by kernel_rfl) (by kernel_rfl) (by kernel_rfl) fun x r h=>(t_w_eqPrefix k x).trans h
def qGe(k:Nat)(x:(Int×Int×Int×Unit)×(Int×Int×Int×Unit)×Unit):Option (Bool×Unit×Unit×Unit):=
(if(!decide (x.1.1=x.2.1.1))=true then
some (false,((),((),())))
else
(if(!decide (x.1.2.1=x.2.1.2.1))=true then
some (false,((),((),())))
else
(if(!decide (x.1.2.2.1=x.2.1.2.2.1))=true then
some (false,((),((),())))
else
some (true,((),((),()))))))
abbrev E_w_eqLease(k:Nat):qAI:=⟨240,0,(.cons (.agg yP16) (.cons (.agg yP16) .nil)),.bool,qGe k⟩
theorem t_w_eqLease(k:Nat)(x):evF TTab k [] [] Tryz.f240 (.cons (.agg yP16) (.cons (.agg yP16) .nil)) .bool x=qGe k x:=by kernel_rfl
theorem e_w_eqLease[Names](k:Nat):qAD Tryz.prog (E_w_eqLease k):=qAB tok qAG (by kernel_rfl) (by kernel_rfl) (by kernel_rfl) fun x r h=>(t_w_eqLease k x).trans h
def qE5(k:Nat)(x:(List (Int×Int×Int))×(List (Int×Int×Int))×Unit):Option (Bool×Unit×Unit×Unit):=
(if(!decide ((List.length x.1:Int)=(List.length x.2.1:Int)))=true then
some (false,((),((),())))
else
(qAH (fun(rec0:((List (Int×Int×Int))×(List (Int×Int×Int))×Int×Unit)→Option _) (y0:(List (Int×Int×Int))×(List (Int×Int×Int))×Int×Unit) =>
(if(decide (y0.2.2.1<(List.length y0.1:Int)))=true then
(if 0≤y0.2.2.1∧y0.2.2.1<(List.length y0.1:Int) then
(if 0≤y0.2.2.1∧y0.2.2.1<(List.length y0.2.1:Int) then
((qGe k (((Ty.rd (t:=(.pair (.int .i64) yT3)) y0.1 y0.2.2.1).1,((Ty.rd (t:=(.pair (.int .i64) yT3)) y0.1 y0.2.2.1).2.1,((Ty.rd (t:=(.pair (.int .i64) yT3)) y0.1 y0.2.2.1).2.2,()))),(((Ty.rd (t:=(.pair (.int .i64) yT3)) y0.2.1 y0.2.2.1).1,((Ty.rd (t:=(.pair (.int .i64) yT3)) y0.2.1 y0.2.2.1).2.1,((Ty.rd (t:=(.pair (.int .i64) yT3)) y0.2.1 y0.2.2.1).2.2,()))),()))).bind fun p1 =>
(if(!p1.1)=true then
some (false,((),((),())))
else
(rec0 (y0.1,(y0.2.1,((wi64 (y0.2.2.1+(1:Int))),()))))))
else none)
else none)
else
((fun(z1:Unit) =>
some (true,((),((),())))) ()))) k (x.1,(x.2.1,((0:Int),())))))
abbrev E_w_eqLeaseS(k:Nat):qAI:=⟨159,0,(.cons yP28 (.cons yP28 .nil)),.bool,qE5 k⟩
theorem t_w_eqLeaseS(k:Nat)(x):evF TTab k [E_w_eqLease k] [(0,⟨[0,1,5],(.cons yP28 (.cons yP28 yP5))⟩,⟨[],.nil⟩)] Tryz.f159 (.cons yP28 (.cons yP28 .nil)) .bool x=qE5 k x:=by kernel_rfl
theorem e_w_eqLeaseS[Names](k:Nat):qAD Tryz.prog (E_w_eqLeaseS k):=qAB tok (qAA (e_w_eqLease k) qAG) (by kernel_rfl) (by kernel_rfl) (by kernel_rfl) fun x r h=>(t_w_eqLeaseS k x).trans h
def qGf(k:Nat)(x:(Int×Int×Unit)×(Int×Int×Unit)×Unit):Option (Bool×Unit×Unit×Unit):=
(if(!decide (x.1.1=x.2.1.1))=true then
some (false,((),((),())))
else
(if(!decide (x.1.2.1=x.2.1.2.1))=true then
some (false,((),((),())))
else
some (true,((),((),())))))
abbrev E_w_eqFixed(k:Nat):qAI:=⟨241,0,(.cons yP22 (.cons yP22 .nil)),.bool,qGf k⟩
theorem t_w_eqFixed(k:Nat)(x):evF TTab k [] [] Tryz.f241 (.cons yP22 (.cons yP22 .nil)) .bool x=qGf k x:=by kernel_rfl
theorem e_w_eqFixed[Names](k:Nat):qAD Tryz.prog (E_w_eqFixed k):=qAB tok qAG (by kernel_rfl) (by kernel_rfl) (by kernel_rfl) fun x r h=>(t_w_eqFixed k x).trans h
def qE6(k:Nat)(x:(List (Int×Int))×(List (Int×Int))×Unit):Option (Bool×Unit×Unit×Unit):=
(if(!decide ((List.length x.1:Int)=(List.length x.2.1:Int)))=true then
some (false,((),((),())))
else
(qAH (fun(rec0:((List (Int×Int))×(List (Int×Int))×Int×Unit)→Option _) (y0:(List (Int×Int))×(List (Int×Int))×Int×Unit) =>
(if(decide (y0.2.2.1<(List.length y0.1:Int)))=true then
(if 0≤y0.2.2.1∧y0.2.2.1<(List.length y0.1:Int) then
(if 0≤y0.2.2.1∧y0.2.2.1<(List.length y0.2.1:Int) then
((qGf k (((Ty.rd (t:=yT3) y0.1 y0.2.2.1).1,((Ty.rd (t:=yT3) y0.1 y0.2.2.1).2,())),(((Ty.rd (t:=yT3) y0.2.1 y0.2.2.1).1,((Ty.rd (t:=yT3) y0.2.1 y0.2.2.1).2,())),()))).bind fun p1 =>
(if(!p1.1)=true then
some (false,((),((),())))
else
(rec0 (y0.1,(y0.2.1,((wi64 (y0.2.2.1+(1:Int))),()))))))
else none)
else none)
else
((fun(z1:Unit) =>
some (true,((),((),())))) ()))) k (x.1,(x.2.1,((0:Int),())))))
abbrev E_w_eqFixedS(k:Nat):qAI:=⟨160,0,(.cons (.il true yT3) (.cons (.il true yT3) .nil)),.bool,qE6 k⟩
theorem t_w_eqFixedS(k:Nat)(x):evF TTab k [E_w_eqFixed k] [(0,⟨[0,1,5],(.cons (.il true yT3) (.cons (.il true yT3) yP5))⟩,⟨[],.nil⟩)] Tryz.f160 (.cons (.il true yT3) (.cons (.il true yT3) .nil)) .bool x=qE6 k x:=by kernel_rfl
theorem e_w_eqFixedS[Names](k:Nat):qAD Tryz.prog (E_w_eqFixedS k):=qAB tok (qAA (e_w_eqFixed k) qAG) (by kernel_rfl) (by kernel_rfl) (by kernel_rfl) fun x r h=>(t_w_eqFixedS k x).trans h
def qIy(k:Nat)(x:(Int×Int×(List (Int×Int×Int))×(List (Int×Int))×Unit)×(Int×Int×(List (Int×Int×Int))×(List (Int×Int))×Unit)×Unit):Option (Bool×Unit×Unit×Unit):=
((qDn k ((x.1.1,(x.1.2.1,())),((x.2.1.1,(x.2.1.2.1,())),()))).bind fun p1 =>
(if(!p1.1)=true then
some (false,((),((),())))
else
((qE5 k (x.1.2.2.1,(x.2.1.2.2.1,()))).bind fun p2 =>
(if(!p2.1)=true then
some (false,((),((),())))
else
((qE6 k (x.1.2.2.2.1,(x.2.1.2.2.2.1,()))).bind fun p3 =>
(if(!p3.1)=true then
some (false,((),((),())))
else
some (true,((),((),())))))))))
abbrev E_w_eqPool(k:Nat):qAI:=⟨79,0,(.cons (.agg yP6) (.cons (.agg yP6) .nil)),.bool,qIy k⟩
theorem t_w_eqPool(k:Nat)(x):evF TTab k [qGd k,E_w_eqLeaseS k,E_w_eqFixedS k] [] Tryz.f79 (.cons (.agg yP6) (.cons (.agg yP6) .nil)) .bool x=qIy k x:=by kernel_rfl
theorem e_w_eqPool[Names](k:Nat):qAD Tryz.prog (E_w_eqPool k):=qAB tok (qAA (e_w_eqPrefix k) (qAA (e_w_eqLeaseS k) (qAA (e_w_eqFixedS k) qAG))) (by kernel_rfl) (by kernel_rfl) (by kernel_rfl) fun x r h=>(t_w_eqPool k x).trans h
def qGg(k:Nat)(x:(Int×Int×Int×Unit)×(Int×Int×Int×Unit)×Unit):Option (Bool×Unit×Unit×Unit):=
((qDn k ((x.1.1,(x.1.2.1,())),((x.2.1.1,(x.2.1.2.1,())),()))).bind fun p1 =>
(if(!p1.1)=true then
some (false,((),((),())))
else
(if(!decide (x.1.2.2.1=x.2.1.2.2.1))=true then
some (false,((),((),())))
else
some (true,((),((),()))))))
abbrev E_w_eqRoute(k:Nat):qAI:=⟨161,0,(.cons (.agg yP16) (.cons (.agg yP16) .nil)),.bool,qGg k⟩
theorem t_w_eqRoute(k:Nat)(x):evF TTab k [qGd k] [] Tryz.f161 (.cons (.agg yP16) (.cons (.agg yP16) .nil)) .bool x=qGg k x:=by kernel_rfl
theorem e_w_eqRoute[Names](k:Nat):qAD Tryz.prog (E_w_eqRoute k):=qAB tok (qAA (e_w_eqPrefix k) qAG) (by kernel_rfl) (by kernel_rfl) (by kernel_rfl) fun x r h=>(t_w_eqRoute k x).trans h
def qE7(k:Nat)(x:(List ((Int×Int)×Int))×(List ((Int×Int)×Int))×Unit):Option (Bool×Unit×Unit×Unit):=
(if(!decide ((List.length x.1:Int)=(List.length x.2.1:Int)))=true then
some (false,((),((),())))
else
(qAH (fun(rec0:((List ((Int×Int)×Int))×(List ((Int×Int)×Int))×Int×Unit)→Option _) (y0:(List ((Int×Int)×Int))×(List ((Int×Int)×Int))×Int×Unit) =>
(if(decide (y0.2.2.1<(List.length y0.1:Int)))=true then
(if 0≤y0.2.2.1∧y0.2.2.1<(List.length y0.1:Int) then
(if 0≤y0.2.2.1∧y0.2.2.1<(List.length y0.2.1:Int) then
((qGg k (((Ty.rd (t:=(.pair yT3 (.int .i64))) y0.1 y0.2.2.1).1.1,((Ty.rd (t:=(.pair yT3 (.int .i64))) y0.1 y0.2.2.1).1.2,((Ty.rd (t:=(.pair yT3 (.int .i64))) y0.1 y0.2.2.1).2,()))),(((Ty.rd (t:=(.pair yT3 (.int .i64))) y0.2.1 y0.2.2.1).1.1,((Ty.rd (t:=(.pair yT3 (.int .i64))) y0.2.1 y0.2.2.1).1.2,((Ty.rd (t:=(.pair yT3 (.int .i64))) y0.2.1 y0.2.2.1).2,()))),()))).bind fun p1 =>
(if(!p1.1)=true then
some (false,((),((),())))
else
(rec0 (y0.1,(y0.2.1,((wi64 (y0.2.2.1+(1:Int))),()))))))
else none)
else none)
else
((fun(z1:Unit) =>
some (true,((),((),())))) ()))) k (x.1,(x.2.1,((0:Int),())))))
abbrev E_w_eqRouteS(k:Nat):qAI:=⟨80,0,(.cons yP19 (.cons yP19 .nil)),.bool,qE7 k⟩
theorem t_w_eqRouteS(k:Nat)(x):evF TTab k [E_w_eqRoute k] [(0,⟨[0,1,5],(.cons yP19 (.cons yP19 yP5))⟩,⟨[],.nil⟩)] Tryz.f80 (.cons yP19 (.cons yP19 .nil)) .bool x=qE7 k x:=by kernel_rfl
theorem e_w_eqRouteS[Names](k:Nat):qAD Tryz.prog (E_w_eqRouteS k):=qAB tok (qAA (e_w_eqRoute k) qAG) (by kernel_rfl) (by kernel_rfl) (by kernel_rfl) fun x r h=>(t_w_eqRouteS k x).trans h
def qIz(k:Nat)(x:List (Int)×List (Int)×Unit):Option (Bool×Unit×Unit×Unit):=
(if(!decide ((List.length x.1:Int)=(List.length x.2.1:Int)))=true then
some (false,((),((),())))
else
(qAH (fun(rec0:(List (Int)×List (Int)×Int×Unit)→Option _) (y0:List (Int)×List (Int)×Int×Unit) =>
(if(decide (y0.2.2.1<(List.length y0.1:Int)))=true then
(if 0≤y0.2.2.1∧y0.2.2.1<(List.length y0.1:Int) then
(if 0≤y0.2.2.1∧y0.2.2.1<(List.length y0.2.1:Int) then
(if(!decide ((Ty.rd (t:=(.int .i64)) y0.1 y0.2.2.1)=(Ty.rd (t:=(.int .i64)) y0.2.1 y0.2.2.1)))=true then
some (false,((),((),())))
else
(rec0 (y0.1,(y0.2.1,((wi64 (y0.2.2.1+(1:Int))),())))))
else none)
else none)
else
((fun(z1:Unit) =>
some (true,((),((),())))) ()))) k (x.1,(x.2.1,((0:Int),())))))
abbrev E_w_eqIntS(k:Nat):qAI:=⟨119,0,(.cons (.il true (.int .i64)) yP30),.bool,qIz k⟩
theorem t_w_eqIntS(k:Nat)(x):evF TTab k [] [(0,⟨[0,1,5],(.cons (.il true (.int .i64)) (.cons (.il true (.int .i64)) yP5))⟩,⟨[],.nil⟩)] Tryz.f119 (.cons (.il true (.int .i64)) yP30) .bool x=qIz k x:=by kernel_rfl
theorem e_w_eqIntS[Names](k:Nat):qAD Tryz.prog (E_w_eqIntS k):=qAB tok qAG (by kernel_rfl) (by kernel_rfl) (by kernel_rfl) fun x r h=>(t_w_eqIntS k x).trans h
def qHI(k:Nat)(x:(Int×ByteArray×ByteArray×Int×List (Int)×Int×Unit)×(Int×ByteArray×ByteArray×Int×List (Int)×Int×Unit)×Unit):Option (Bool×Unit×Unit×Unit):=
(if(!decide (x.1.1=x.2.1.1))=true then
some (false,((),((),())))
else
(if(!decide (x.1.2.1=x.2.1.2.1))=true then
some (false,((),((),())))
else
(if(!decide (x.1.2.2.1=x.2.1.2.2.1))=true then
some (false,((),((),())))
else
(if(!decide (x.1.2.2.2.1=x.2.1.2.2.2.1))=true then
some (false,((),((),())))
else
((qIz k (x.1.2.2.2.2.1,(x.2.1.2.2.2.2.1,()))).bind fun p1 =>
(if(!p1.1)=true then
some (false,((),((),())))
else
(if(!decide (x.1.2.2.2.2.2.1=x.2.1.2.2.2.2.2.1))=true then
some (false,((),((),())))
else
some (true,((),((),()))))))))))
abbrev E_w_eqSlot(k:Nat):qAI:=⟨188,0,(.cons yP15 (.cons yP15 .nil)),.bool,qHI k⟩
theorem t_w_eqSlot(k:Nat)(x):evF TTab k [E_w_eqIntS k] [] Tryz.f188 (.cons yP15 (.cons yP15 .nil)) .bool x=qHI k x:=by kernel_rfl
theorem e_w_eqSlot[Names](k:Nat):qAD Tryz.prog (E_w_eqSlot k):=qAB tok (qAA (e_w_eqIntS k) qAG) (by kernel_rfl) (by kernel_rfl) (by kernel_rfl) fun x r h=>(t_w_eqSlot k x).trans h
def qGh(k:Nat)(x:(Int×ByteArray×ByteArray×Int×List (Int)×Int×Int×ByteArray×ByteArray×Int×List (Int)×Int×Unit)×(Int×ByteArray×ByteArray×Int×List (Int)×Int×Int×ByteArray×ByteArray×Int×List (Int)×Int×Unit)×Unit):Option (Bool×Unit×Unit×Unit):=
((qHI k ((x.1.1,(x.1.2.1,(x.1.2.2.1,(x.1.2.2.2.1,(x.1.2.2.2.2.1,(x.1.2.2.2.2.2.1,())))))),((x.2.1.1,(x.2.1.2.1,(x.2.1.2.2.1,(x.2.1.2.2.2.1,(x.2.1.2.2.2.2.1,(x.2.1.2.2.2.2.2.1,())))))),()))).bind fun p1 =>
(if(!p1.1)=true then
some (false,((),((),())))
else
((qHI k ((x.1.2.2.2.2.2.2.1,(x.1.2.2.2.2.2.2.2.1,(x.1.2.2.2.2.2.2.2.2.1,(x.1.2.2.2.2.2.2.2.2.2.1,(x.1.2.2.2.2.2.2.2.2.2.2.1,(x.1.2.2.2.2.2.2.2.2.2.2.2.1,())))))),((x.2.1.2.2.2.2.2.2.1,(x.2.1.2.2.2.2.2.2.2.1,(x.2.1.2.2.2.2.2.2.2.2.1,(x.2.1.2.2.2.2.2.2.2.2.2.1,(x.2.1.2.2.2.2.2.2.2.2.2.2.1,(x.2.1.2.2.2.2.2.2.2.2.2.2.2.1,())))))),()))).bind fun p2 =>
(if(!p2.1)=true then
some (false,((),((),())))
else
some (true,((),((),())))))))
abbrev E_w_eqSlots(k:Nat):qAI:=⟨102,0,(.cons yP8 (.cons yP8 .nil)),.bool,qGh k⟩
theorem t_w_eqSlots(k:Nat)(x):evF TTab k [E_w_eqSlot k] [] Tryz.f102 (.cons yP8 (.cons yP8 .nil)) .bool x=qGh k x:=by kernel_rfl
theorem e_w_eqSlots[Names](k:Nat):qAD Tryz.prog (E_w_eqSlots k):=qAB tok (qAA (e_w_eqSlot k) qAG) (by kernel_rfl) (by kernel_rfl) (by kernel_rfl) fun x r h=>(t_w_eqSlots k x).trans h
def qEB(k:Nat)(x:List (ByteArray)×List (ByteArray)×Unit):Option (Bool×Unit×Unit×Unit):=
(if(!decide ((List.length x.1:Int)=(List.length x.2.1:Int)))=true then
some (false,((),((),())))
else
(qAH (fun(rec0:(List (ByteArray)×List (ByteArray)×Int×Unit)→Option _) (y0:List (ByteArray)×List (ByteArray)×Int×Unit) =>
(if(decide (y0.2.2.1<(List.length y0.1:Int)))=true then
(if 0≤y0.2.2.1∧y0.2.2.1<(List.length y0.1:Int) then
(if 0≤y0.2.2.1∧y0.2.2.1<(List.length y0.2.1:Int) then
(if(!decide ((Ty.rd (t:=.str) y0.1 y0.2.2.1)=(Ty.rd (t:=.str) y0.2.1 y0.2.2.1)))=true then
some (false,((),((),())))
else
(rec0 (y0.1,(y0.2.1,((wi64 (y0.2.2.1+(1:Int))),())))))
else none)
else none)
else
((fun(z1:Unit) =>
some (true,((),((),())))) ()))) k (x.1,(x.2.1,((0:Int),())))))
abbrev qI0(k:Nat):qAI:=⟨299,0,(.cons (.il true .str) (.cons (.il true .str) .nil)),.bool,qEB k⟩
theorem t_w_eqStringS(k:Nat)(x):evF TTab k [] [(0,⟨[0,1,5],(.cons (.il true .str) (.cons (.il true .str) yP5))⟩,⟨[],.nil⟩)] Tryz.f299 (.cons (.il true .str) (.cons (.il true .str) .nil)) .bool x=qEB k x:=by kernel_rfl
theorem e_w_eqStringS[Names](k:Nat):qAD Tryz.prog (qI0 k):=qAB tok qAG (by kernel_rfl) (by kernel_rfl) (by kernel_rfl) fun x r h=>(t_w_eqStringS k x).trans h
def qGi(k:Nat)(x:List (Bool)×List (Bool)×Unit):Option (Bool×Unit×Unit×Unit):=
(if(!decide ((List.length x.1:Int)=(List.length x.2.1:Int)))=true then
some (false,((),((),())))
else
(qAH (fun(rec0:(List (Bool)×List (Bool)×Int×Unit)→Option _) (y0:List (Bool)×List (Bool)×Int×Unit) =>
(if(decide (y0.2.2.1<(List.length y0.1:Int)))=true then
(if 0≤y0.2.2.1∧y0.2.2.1<(List.length y0.1:Int) then
(if 0≤y0.2.2.1∧y0.2.2.1<(List.length y0.2.1:Int) then
(if(!decide ((Ty.rd (t:=.bool) y0.1 y0.2.2.1)=(Ty.rd (t:=.bool) y0.2.1 y0.2.2.1)))=true then
some (false,((),((),())))
else
(rec0 (y0.1,(y0.2.1,((wi64 (y0.2.2.1+(1:Int))),())))))
else none)
else none)
else
((fun(z1:Unit) =>
some (true,((),((),())))) ()))) k (x.1,(x.2.1,((0:Int),())))))
abbrev E_w_eqBoolS(k:Nat):qAI:=⟨300,0,(.cons (.il true .bool) (.cons (.il true .bool) .nil)),.bool,qGi k⟩
theorem t_w_eqBoolS(k:Nat)(x):evF TTab k [] [(0,⟨[0,1,5],(.cons (.il true .bool) (.cons (.il true .bool) yP5))⟩,⟨[],.nil⟩)] Tryz.f300 (.cons (.il true .bool) (.cons (.il true .bool) .nil)) .bool x=qGi k x:=by kernel_rfl
theorem e_w_eqBoolS[Names](k:Nat):qAD Tryz.prog (E_w_eqBoolS k):=qAB tok qAG (by kernel_rfl) (by kernel_rfl) (by kernel_rfl) fun x r h=>(t_w_eqBoolS k x).trans h
def qI1(k:Nat)(x:(Int×Int×Int×List (ByteArray)×List (Bool)×Int×Unit)×(Int×Int×Int×List (ByteArray)×List (Bool)×Int×Unit)×Unit):Option (Bool×Unit×Unit×Unit):=
(if(!decide (x.1.1=x.2.1.1))=true then
some (false,((),((),())))
else
(if(!decide (x.1.2.1=x.2.1.2.1))=true then
some (false,((),((),())))
else
(if(!decide (x.1.2.2.1=x.2.1.2.2.1))=true then
some (false,((),((),())))
else
((qEB k (x.1.2.2.2.1,(x.2.1.2.2.2.1,()))).bind fun p1 =>
(if(!p1.1)=true then
some (false,((),((),())))
else
((qGi k (x.1.2.2.2.2.1,(x.2.1.2.2.2.2.1,()))).bind fun p2 =>
(if(!p2.1)=true then
some (false,((),((),())))
else
(if(!decide (x.1.2.2.2.2.2.1=x.2.1.2.2.2.2.2.1))=true then
some (false,((),((),())))
else
some (true,((),((),())))))))))))
abbrev E_w_eqHeld(k:Nat):qAI:=⟨260,0,(.cons yP23 (.cons yP23 .nil)),.bool,qI1 k⟩
theorem t_w_eqHeld(k:Nat)(x):evF TTab k [qI0 k,E_w_eqBoolS k] [] Tryz.f260 (.cons yP23 (.cons yP23 .nil)) .bool x=qI1 k x:=by kernel_rfl
theorem e_w_eqHeld[Names](k:Nat):qAD Tryz.prog (E_w_eqHeld k):=qAB tok (qAA (e_w_eqStringS k) (qAA (e_w_eqBoolS k) qAG)) (by kernel_rfl) (by kernel_rfl) (by kernel_rfl) fun x r h=>(t_w_eqHeld k x).trans h
def qGj(k:Nat)(x:(List (Int×Int×Int×List (ByteArray)×List (Bool)×Int))×(List (Int×Int×Int×List (ByteArray)×List (Bool)×Int))×Unit):Option (Bool×Unit×Unit×Unit):=
(if(!decide ((List.length x.1:Int)=(List.length x.2.1:Int)))=true then
some (false,((),((),())))
else
(qAH (fun(rec0:((List (Int×Int×Int×List (ByteArray)×List (Bool)×Int))×(List (Int×Int×Int×List (ByteArray)×List (Bool)×Int))×Int×Unit)→Option _) (y0:(List (Int×Int×Int×List (ByteArray)×List (Bool)×Int))×(List (Int×Int×Int×List (ByteArray)×List (Bool)×Int))×Int×Unit) =>
(if(decide (y0.2.2.1<(List.length y0.1:Int)))=true then
(if 0≤y0.2.2.1∧y0.2.2.1<(List.length y0.1:Int) then
(if 0≤y0.2.2.1∧y0.2.2.1<(List.length y0.2.1:Int) then
((qI1 k (((Ty.rd (t:=yT4) y0.1 y0.2.2.1).1,((Ty.rd (t:=yT4) y0.1 y0.2.2.1).2.1,((Ty.rd (t:=yT4) y0.1 y0.2.2.1).2.2.1,((Ty.rd (t:=yT4) y0.1 y0.2.2.1).2.2.2.1,((Ty.rd (t:=yT4) y0.1 y0.2.2.1).2.2.2.2.1,((Ty.rd (t:=yT4) y0.1 y0.2.2.1).2.2.2.2.2,())))))),(((Ty.rd (t:=yT4) y0.2.1 y0.2.2.1).1,((Ty.rd (t:=yT4) y0.2.1 y0.2.2.1).2.1,((Ty.rd (t:=yT4) y0.2.1 y0.2.2.1).2.2.1,((Ty.rd (t:=yT4) y0.2.1 y0.2.2.1).2.2.2.1,((Ty.rd (t:=yT4) y0.2.1 y0.2.2.1).2.2.2.2.1,((Ty.rd (t:=yT4) y0.2.1 y0.2.2.1).2.2.2.2.2,())))))),()))).bind fun p1 =>
(if(!p1.1)=true then
some (false,((),((),())))
else
(rec0 (y0.1,(y0.2.1,((wi64 (y0.2.2.1+(1:Int))),()))))))
else none)
else none)
else
((fun(z1:Unit) =>
some (true,((),((),())))) ()))) k (x.1,(x.2.1,((0:Int),())))))
abbrev E_w_eqHeldS(k:Nat):qAI:=⟨189,0,(.cons (.il true yT4) (.cons (.il true yT4) .nil)),.bool,qGj k⟩
theorem t_w_eqHeldS(k:Nat)(x):evF qBr k [E_w_eqHeld k] [(0,⟨[0,1,5],(.cons (.il true yT4) (.cons (.il true yT4) yP5))⟩,⟨[],.nil⟩)] Tryz.f189 (.cons (.il true yT4) (.cons (.il true yT4) .nil)) .bool x=qGj k x:=by kernel_rfl
theorem e_w_eqHeldS[Names](k:Nat):qAD Tryz.prog (E_w_eqHeldS k):=qAB tokO (qAA (e_w_eqHeld k) qAG) (by kernel_rfl) (by kernel_rfl) (by kernel_rfl) fun x r h=>(t_w_eqHeldS k x).trans h
def qGk(k:Nat)(x:((List (Int×Int×Int×List (ByteArray)×List (Bool)×Int))×Unit)×((List (Int×Int×Int×List (ByteArray)×List (Bool)×Int))×Unit)×Unit):Option (Bool×Unit×Unit×Unit):=
((qGj k (x.1.1,(x.2.1.1,()))).bind fun p1 =>
(if(!p1.1)=true then
some (false,((),((),())))
else
some (true,((),((),())))))
abbrev E_w_eqShelf(k:Nat):qAI:=⟨103,0,(.cons (.agg (.cons (.il true yT4) .nil)) (.cons (.agg (.cons (.il true yT4) .nil)) .nil)),.bool,qGk k⟩
theorem t_w_eqShelf(k:Nat)(x):evF qBr k [E_w_eqHeldS k] [] Tryz.f103 (.cons (.agg (.cons (.il true yT4) .nil)) (.cons (.agg (.cons (.il true yT4) .nil)) .nil)) .bool x=qGk k x:=by kernel_rfl
theorem e_w_eqShelf[Names](k:Nat):qAD Tryz.prog (E_w_eqShelf k):=qAB tokO (qAA (e_w_eqHeldS k) qAG) (by kernel_rfl) (by kernel_rfl) (by kernel_rfl) fun x r h=>(t_w_eqShelf k x).trans h
def qEU(k:Nat)(x:(Int×Int×Int×ByteArray×ByteArray×Int×List (Int)×Int×Int×ByteArray×ByteArray×Int×List (Int)×Int×(List (Int×Int×Int×List (ByteArray)×List (Bool)×Int))×Int×Unit)×(Int×Int×Int×ByteArray×ByteArray×Int×List (Int)×Int×Int×ByteArray×ByteArray×Int×List (Int)×Int×(List (Int×Int×Int×List (ByteArray)×List (Bool)×Int))×Int×Unit)×Unit):Option (Bool×Unit×Unit×Unit):=
(if(!decide (x.1.1=x.2.1.1))=true then
some (false,((),((),())))
else
(if(!decide (x.1.2.1=x.2.1.2.1))=true then
some (false,((),((),())))
else
((qGh k ((x.1.2.2.1,(x.1.2.2.2.1,(x.1.2.2.2.2.1,(x.1.2.2.2.2.2.1,(x.1.2.2.2.2.2.2.1,(x.1.2.2.2.2.2.2.2.1,(x.1.2.2.2.2.2.2.2.2.1,(x.1.2.2.2.2.2.2.2.2.2.1,(x.1.2.2.2.2.2.2.2.2.2.2.1,(x.1.2.2.2.2.2.2.2.2.2.2.2.1,(x.1.2.2.2.2.2.2.2.2.2.2.2.2.1,(x.1.2.2.2.2.2.2.2.2.2.2.2.2.2.1,())))))))))))),((x.2.1.2.2.1,(x.2.1.2.2.2.1,(x.2.1.2.2.2.2.1,(x.2.1.2.2.2.2.2.1,(x.2.1.2.2.2.2.2.2.1,(x.2.1.2.2.2.2.2.2.2.1,(x.2.1.2.2.2.2.2.2.2.2.1,(x.2.1.2.2.2.2.2.2.2.2.2.1,(x.2.1.2.2.2.2.2.2.2.2.2.2.1,(x.2.1.2.2.2.2.2.2.2.2.2.2.2.1,(x.2.1.2.2.2.2.2.2.2.2.2.2.2.2.1,(x.2.1.2.2.2.2.2.2.2.2.2.2.2.2.2.1,())))))))))))),()))).bind fun p1 =>
(if(!p1.1)=true then
some (false,((),((),())))
else
((qGk k ((x.1.2.2.2.2.2.2.2.2.2.2.2.2.2.2.1,()),((x.2.1.2.2.2.2.2.2.2.2.2.2.2.2.2.2.1,()),()))).bind fun p2 =>
(if(!p2.1)=true then
some (false,((),((),())))
else
(if(!decide (x.1.2.2.2.2.2.2.2.2.2.2.2.2.2.2.2.1=x.2.1.2.2.2.2.2.2.2.2.2.2.2.2.2.2.2.1))=true then
some (false,((),((),())))
else
some (true,((),((),()))))))))))
abbrev E_w_eqUser(k:Nat):qAI:=⟨34,0,(.cons yP9 (.cons yP9 .nil)),.bool,qEU k⟩
theorem t_w_eqUser(k:Nat)(x):evF qBr k [E_w_eqSlots k,E_w_eqShelf k] [] Tryz.f34 (.cons yP9 (.cons yP9 .nil)) .bool x=qEU k x:=by kernel_rfl
theorem e_w_eqUser[Names](k:Nat):qAD Tryz.prog (E_w_eqUser k):=qAB tokO (qAA (e_w_eqSlots k) (qAA (e_w_eqShelf k) qAG)) (by kernel_rfl) (by kernel_rfl) (by kernel_rfl) fun x r h=>(t_w_eqUser k x).trans h
def qGl(k:Nat)(x:(List (Int×Int×((Int×ByteArray×ByteArray×Int×List (Int)×Int)×Int×ByteArray×ByteArray×Int×List (Int)×Int)×List (Int×Int×Int×List (ByteArray)×List (Bool)×Int)×Int))×(List (Int×Int×((Int×ByteArray×ByteArray×Int×List (Int)×Int)×Int×ByteArray×ByteArray×Int×List (Int)×Int)×List (Int×Int×Int×List (ByteArray)×List (Bool)×Int)×Int))×Unit):Option (Bool×Unit×Unit×Unit):=
(if(!decide ((List.length x.1:Int)=(List.length x.2.1:Int)))=true then
some (false,((),((),())))
else
(qAH (fun(rec0:((List (Int×Int×((Int×ByteArray×ByteArray×Int×List (Int)×Int)×Int×ByteArray×ByteArray×Int×List (Int)×Int)×List (Int×Int×Int×List (ByteArray)×List (Bool)×Int)×Int))×(List (Int×Int×((Int×ByteArray×ByteArray×Int×List (Int)×Int)×Int×ByteArray×ByteArray×Int×List (Int)×Int)×List (Int×Int×Int×List (ByteArray)×List (Bool)×Int)×Int))×Int×Unit)→Option _) (y0:(List (Int×Int×((Int×ByteArray×ByteArray×Int×List (Int)×Int)×Int×ByteArray×ByteArray×Int×List (Int)×Int)×List (Int×Int×Int×List (ByteArray)×List (Bool)×Int)×Int))×(List (Int×Int×((Int×ByteArray×ByteArray×Int×List (Int)×Int)×Int×ByteArray×ByteArray×Int×List (Int)×Int)×List (Int×Int×Int×List (ByteArray)×List (Bool)×Int)×Int))×Int×Unit) =>
(if(decide (y0.2.2.1<(List.length y0.1:Int)))=true then
(if 0≤y0.2.2.1∧y0.2.2.1<(List.length y0.1:Int) then
(if 0≤y0.2.2.1∧y0.2.2.1<(List.length y0.2.1:Int) then
((qEU k (((Ty.rd (t:=yT0) y0.1 y0.2.2.1).1,((Ty.rd (t:=yT0) y0.1 y0.2.2.1).2.1,((Ty.rd (t:=yT0) y0.1 y0.2.2.1).2.2.1.1.1,((Ty.rd (t:=yT0) y0.1 y0.2.2.1).2.2.1.1.2.1,((Ty.rd (t:=yT0) y0.1 y0.2.2.1).2.2.1.1.2.2.1,((Ty.rd (t:=yT0) y0.1 y0.2.2.1).2.2.1.1.2.2.2.1,((Ty.rd (t:=yT0) y0.1 y0.2.2.1).2.2.1.1.2.2.2.2.1,((Ty.rd (t:=yT0) y0.1 y0.2.2.1).2.2.1.1.2.2.2.2.2,((Ty.rd (t:=yT0) y0.1 y0.2.2.1).2.2.1.2.1,((Ty.rd (t:=yT0) y0.1 y0.2.2.1).2.2.1.2.2.1,((Ty.rd (t:=yT0) y0.1 y0.2.2.1).2.2.1.2.2.2.1,((Ty.rd (t:=yT0) y0.1 y0.2.2.1).2.2.1.2.2.2.2.1,((Ty.rd (t:=yT0) y0.1 y0.2.2.1).2.2.1.2.2.2.2.2.1,((Ty.rd (t:=yT0) y0.1 y0.2.2.1).2.2.1.2.2.2.2.2.2,((Ty.rd (t:=yT0) y0.1 y0.2.2.1).2.2.2.1,((Ty.rd (t:=yT0) y0.1 y0.2.2.1).2.2.2.2,())))))))))))))))),(((Ty.rd (t:=yT0) y0.2.1 y0.2.2.1).1,((Ty.rd (t:=yT0) y0.2.1 y0.2.2.1).2.1,((Ty.rd (t:=yT0) y0.2.1 y0.2.2.1).2.2.1.1.1,((Ty.rd (t:=yT0) y0.2.1 y0.2.2.1).2.2.1.1.2.1,((Ty.rd (t:=yT0) y0.2.1 y0.2.2.1).2.2.1.1.2.2.1,((Ty.rd (t:=yT0) y0.2.1 y0.2.2.1).2.2.1.1.2.2.2.1,((Ty.rd (t:=yT0) y0.2.1 y0.2.2.1).2.2.1.1.2.2.2.2.1,((Ty.rd (t:=yT0) y0.2.1 y0.2.2.1).2.2.1.1.2.2.2.2.2,((Ty.rd (t:=yT0) y0.2.1 y0.2.2.1).2.2.1.2.1,((Ty.rd (t:=yT0) y0.2.1 y0.2.2.1).2.2.1.2.2.1,((Ty.rd (t:=yT0) y0.2.1 y0.2.2.1).2.2.1.2.2.2.1,((Ty.rd (t:=yT0) y0.2.1 y0.2.2.1).2.2.1.2.2.2.2.1,((Ty.rd (t:=yT0) y0.2.1 y0.2.2.1).2.2.1.2.2.2.2.2.1,((Ty.rd (t:=yT0) y0.2.1 y0.2.2.1).2.2.1.2.2.2.2.2.2,((Ty.rd (t:=yT0) y0.2.1 y0.2.2.1).2.2.2.1,((Ty.rd (t:=yT0) y0.2.1 y0.2.2.1).2.2.2.2,())))))))))))))))),()))).bind fun p1 =>
(if(!p1.1)=true then
some (false,((),((),())))
else
(rec0 (y0.1,(y0.2.1,((wi64 (y0.2.2.1+(1:Int))),()))))))
else none)
else none)
else
((fun(z1:Unit) =>
some (true,((),((),())))) ()))) k (x.1,(x.2.1,((0:Int),())))))
abbrev E_w_eqUserS(k:Nat):qAI:=⟨81,0,(.cons (.il true yT0) (.cons (.il true yT0) .nil)),.bool,qGl k⟩
theorem t_w_eqUserS(k:Nat)(x):evF qBr k [E_w_eqUser k] [(0,⟨[0,1,5],(.cons (.il true yT0) (.cons (.il true yT0) yP5))⟩,⟨[],.nil⟩)] Tryz.f81 (.cons (.il true yT0) (.cons (.il true yT0) .nil)) .bool x=qGl k x:=by kernel_rfl
theorem e_w_eqUserS[Names](k:Nat):qAD Tryz.prog (E_w_eqUserS k):=qAB tokO (qAA (e_w_eqUser k) qAG) (by kernel_rfl) (by kernel_rfl) (by kernel_rfl) fun x r h=>(t_w_eqUserS k x).trans h
def qGm(k:Nat)(x:(Int×Int×(List (Int×Int×Int))×(List (Int×Int))×(List ((Int×Int)×Int))×(List (Int×Int×((Int×ByteArray×ByteArray×Int×List (Int)×Int)×Int×ByteArray×ByteArray×Int×List (Int)×Int)×List (Int×Int×Int×List (ByteArray)×List (Bool)×Int)×Int))×Unit)×(Int×Int×(List (Int×Int×Int))×(List (Int×Int))×(List ((Int×Int)×Int))×(List (Int×Int×((Int×ByteArray×ByteArray×Int×List (Int)×Int)×Int×ByteArray×ByteArray×Int×List (Int)×Int)×List (Int×Int×Int×List (ByteArray)×List (Bool)×Int)×Int))×Unit)×Unit):Option (Bool×Unit×Unit×Unit):=
((qIy k ((x.1.1,(x.1.2.1,(x.1.2.2.1,(x.1.2.2.2.1,())))),((x.2.1.1,(x.2.1.2.1,(x.2.1.2.2.1,(x.2.1.2.2.2.1,())))),()))).bind fun p1 =>
(if(!p1.1)=true then
some (false,((),((),())))
else
((qE7 k (x.1.2.2.2.2.1,(x.2.1.2.2.2.2.1,()))).bind fun p2 =>
(if(!p2.1)=true then
some (false,((),((),())))
else
((qGl k (x.1.2.2.2.2.2.1,(x.2.1.2.2.2.2.2.1,()))).bind fun p3 =>
(if(!p3.1)=true then
some (false,((),((),())))
else
some (true,((),((),())))))))))
abbrev E_w_eqHub(k:Nat):qAI:=⟨24,0,(.cons yP11 (.cons yP11 .nil)),.bool,qGm k⟩
theorem t_w_eqHub(k:Nat)(x):evF qBr k [E_w_eqPool k,E_w_eqRouteS k,E_w_eqUserS k] [] Tryz.f24 (.cons yP11 (.cons yP11 .nil)) .bool x=qGm k x:=by kernel_rfl
theorem e_w_eqHub[Names](k:Nat):qAD Tryz.prog (E_w_eqHub k):=qAB tokO (qAA (e_w_eqPool k) (qAA (e_w_eqRouteS k) (qAA (e_w_eqUserS k) qAG))) (by kernel_rfl) (by kernel_rfl) (by kernel_rfl) fun x r h=>(t_w_eqHub k x).trans h
def qDI(k:Nat)(x:(List (Int×Int×Int))×Int×Unit):Option (Int×(List (Int×Int×Int))×Unit×Unit):=
(qAH (fun(rec0:((List (Int×Int×Int))×Int×Int×Unit)→Option _) (y0:(List (Int×Int×Int))×Int×Int×Unit) =>
(if(decide (y0.2.2.1<(List.length y0.1:Int)))=true then
(if 0≤y0.2.2.1∧y0.2.2.1<(List.length y0.1:Int) then
(if 0≤y0.2.2.1∧y0.2.2.1<(List.length (List.set y0.1 (Int.toNat y0.2.2.1) (y0.2.1,(Ty.rd (t:=(.pair (.int .i64) yT3)) y0.1 y0.2.2.1).2)):Int) then
(jn (List.set (List.set y0.1 (Int.toNat y0.2.2.1) (y0.2.1,(Ty.rd (t:=(.pair (.int .i64) yT3)) y0.1 y0.2.2.1).2)) (Int.toNat y0.2.2.1) ((Ty.rd (t:=(.pair (.int .i64) yT3)) (List.set y0.1 (Int.toNat y0.2.2.1) (y0.2.1,(Ty.rd (t:=(.pair (.int .i64) yT3)) y0.1 y0.2.2.1).2)) y0.2.2.1).1,((wi64 (y0.2.1+(1:Int))),(Ty.rd (t:=(.pair (.int .i64) yT3)) (List.set y0.1 (Int.toNat y0.2.2.1) (y0.2.1,(Ty.rd (t:=(.pair (.int .i64) yT3)) y0.1 y0.2.2.1).2)) y0.2.2.1).2.2))) (fun(q4:List (Int×Int×Int)) =>
(if 0≤y0.2.2.1∧y0.2.2.1<(List.length q4:Int) then
(rec0 ((List.set q4 (Int.toNat y0.2.2.1) ((Ty.rd (t:=(.pair (.int .i64) yT3)) q4 y0.2.2.1).1,((Ty.rd (t:=(.pair (.int .i64) yT3)) q4 y0.2.2.1).2.1,(wi64 ((wi64 (y0.2.1+(1:Int)))+(1:Int)))))),((wi64 ((wi64 ((wi64 (y0.2.1+(1:Int)))+(1:Int)))+(1:Int))),((wi64 (y0.2.2.1+(1:Int))),()))))
else none)))
else none)
else none)
else
((fun(z1:(List (Int×Int×Int))×Int×Unit) =>
some (z1.2.1,(z1.1,((),())))) (y0.1,(y0.2.1,()))))) k (x.1,(x.2.1,((0:Int),()))))
abbrev qHa(k:Nat):qAI:=⟨162,0,(.cons (.mut false 135 (.pair (.int .i64) yT3)) yP5),(.int .i64),qDI k⟩
theorem t_w_markLeaseS(k:Nat)(x):evF TTab k [] [(0,⟨[0,1,5],(.cons yP21 (.cons (.int .i64) yP5))⟩,⟨[0,1],(.cons yP21 yP5)⟩)] Tryz.f162 (.cons (.mut false 135 (.pair (.int .i64) yT3)) yP5) (.int .i64) x=qDI k x:=by kernel_rfl
theorem e_w_markLeaseS[Names](k:Nat):qAD Tryz.prog (qHa k):=qAB tok qAG (by kernel_rfl) (by kernel_rfl) (by kernel_rfl) fun x r h=>(t_w_markLeaseS k x).trans h
def qDJ(k:Nat)(x:(List (Int×Int))×Int×Unit):Option (Int×(List (Int×Int))×Unit×Unit):=
(qAH (fun(rec0:((List (Int×Int))×Int×Int×Unit)→Option _) (y0:(List (Int×Int))×Int×Int×Unit) =>
(if(decide (y0.2.2.1<(List.length y0.1:Int)))=true then
(if 0≤y0.2.2.1∧y0.2.2.1<(List.length y0.1:Int) then
(if 0≤y0.2.2.1∧y0.2.2.1<(List.length (List.set y0.1 (Int.toNat y0.2.2.1) (y0.2.1,(Ty.rd (t:=yT3) y0.1 y0.2.2.1).2)):Int) then
(rec0 ((List.set (List.set y0.1 (Int.toNat y0.2.2.1) (y0.2.1,(Ty.rd (t:=yT3) y0.1 y0.2.2.1).2)) (Int.toNat y0.2.2.1) ((Ty.rd (t:=yT3) (List.set y0.1 (Int.toNat y0.2.2.1) (y0.2.1,(Ty.rd (t:=yT3) y0.1 y0.2.2.1).2)) y0.2.2.1).1,(wi64 (y0.2.1+(1:Int))))),((wi64 ((wi64 (y0.2.1+(1:Int)))+(1:Int))),((wi64 (y0.2.2.1+(1:Int))),()))))
else none)
else none)
else
((fun(z1:(List (Int×Int))×Int×Unit) =>
some (z1.2.1,(z1.1,((),())))) (y0.1,(y0.2.1,()))))) k (x.1,(x.2.1,((0:Int),()))))
abbrev qHb(k:Nat):qAI:=⟨163,0,(.cons (.mut false 252 yT3) yP5),(.int .i64),qDJ k⟩
theorem t_w_markFixedS(k:Nat)(x):evF TTab k [] [(0,⟨[0,1,5],(.cons (.own false 252 yT3) (.cons (.int .i64) yP5))⟩,⟨[0,1],(.cons (.own false 252 yT3) yP5)⟩)] Tryz.f163 (.cons (.mut false 252 yT3) yP5) (.int .i64) x=qDJ k x:=by kernel_rfl
theorem e_w_markFixedS[Names](k:Nat):qAD Tryz.prog (qHb k):=qAB tok qAG (by kernel_rfl) (by kernel_rfl) (by kernel_rfl) fun x r h=>(t_w_markFixedS k x).trans h
def qE8(k:Nat)(x:(Int×Int×(List (Int×Int×Int))×(List (Int×Int))×Unit)×Int×Unit):Option (Int×(Unit×Unit×(List (Int×Int×Int))×(List (Int×Int))×Unit)×Unit×Unit):=
((qDI k (x.1.2.2.1,(x.2.1,()))).bind fun p1 =>
((qDJ k (x.1.2.2.2.1,(p1.1,()))).bind fun p2 =>
some (p2.1,(((),((),(p1.2.1,(p2.2.1,())))),((),())))))
abbrev E_w_markPool(k:Nat):qAI:=⟨82,0,(.cons (.mag (.cons (.int .i64) (.cons (.int .i64) (.cons (.mut false 135 (.pair (.int .i64) yT3)) (.cons (.mut false 252 yT3) .nil))))) yP5),(.int .i64),qE8 k⟩
theorem t_w_markPool(k:Nat)(x):evF TTab k [qHa k,qHb k] [] Tryz.f82 (.cons (.mag (.cons (.int .i64) (.cons (.int .i64) (.cons (.mut false 135 (.pair (.int .i64) yT3)) (.cons (.mut false 252 yT3) .nil))))) yP5) (.int .i64) x=qE8 k x:=by kernel_rfl
theorem e_w_markPool[Names](k:Nat):qAD Tryz.prog (E_w_markPool k):=qAB tok (qAA (e_w_markLeaseS k) (qAA (e_w_markFixedS k) qAG)) (by kernel_rfl) (by kernel_rfl) (by kernel_rfl) fun x r h=>(t_w_markPool k x).trans h
def qDK(k:Nat)(x:(List ((Int×Int)×Int))×Int×Unit):Option (Int×(List ((Int×Int)×Int))×Unit×Unit):=
(qAH (fun(rec0:((List ((Int×Int)×Int))×Int×Int×Unit)→Option _) (y0:(List ((Int×Int)×Int))×Int×Int×Unit) =>
(if(decide (y0.2.2.1<(List.length y0.1:Int)))=true then
(if 0≤y0.2.2.1∧y0.2.2.1<(List.length y0.1:Int) then
(if 0≤y0.2.2.1∧y0.2.2.1<(List.length (List.set y0.1 (Int.toNat y0.2.2.1) ((y0.2.1,(Ty.rd (t:=(.pair yT3 (.int .i64))) y0.1 y0.2.2.1).1.2),(Ty.rd (t:=(.pair yT3 (.int .i64))) y0.1 y0.2.2.1).2)):Int) then
(jn (List.set (List.set y0.1 (Int.toNat y0.2.2.1) ((y0.2.1,(Ty.rd (t:=(.pair yT3 (.int .i64))) y0.1 y0.2.2.1).1.2),(Ty.rd (t:=(.pair yT3 (.int .i64))) y0.1 y0.2.2.1).2)) (Int.toNat y0.2.2.1) (((Ty.rd (t:=(.pair yT3 (.int .i64))) (List.set y0.1 (Int.toNat y0.2.2.1) ((y0.2.1,(Ty.rd (t:=(.pair yT3 (.int .i64))) y0.1 y0.2.2.1).1.2),(Ty.rd (t:=(.pair yT3 (.int .i64))) y0.1 y0.2.2.1).2)) y0.2.2.1).1.1,(wi64 (y0.2.1+(1:Int)))),(Ty.rd (t:=(.pair yT3 (.int .i64))) (List.set y0.1 (Int.toNat y0.2.2.1) ((y0.2.1,(Ty.rd (t:=(.pair yT3 (.int .i64))) y0.1 y0.2.2.1).1.2),(Ty.rd (t:=(.pair yT3 (.int .i64))) y0.1 y0.2.2.1).2)) y0.2.2.1).2)) (fun(q5:List ((Int×Int)×Int)) =>
(if 0≤y0.2.2.1∧y0.2.2.1<(List.length q5:Int) then
(rec0 ((List.set q5 (Int.toNat y0.2.2.1) ((Ty.rd (t:=(.pair yT3 (.int .i64))) q5 y0.2.2.1).1,(wi64 ((wi64 (y0.2.1+(1:Int)))+(1:Int))))),((wi64 ((wi64 ((wi64 (y0.2.1+(1:Int)))+(1:Int)))+(1:Int))),((wi64 (y0.2.2.1+(1:Int))),()))))
else none)))
else none)
else none)
else
((fun(z1:(List ((Int×Int)×Int))×Int×Unit) =>
some (z1.2.1,(z1.1,((),())))) (y0.1,(y0.2.1,()))))) k (x.1,(x.2.1,((0:Int),()))))
abbrev qHc(k:Nat):qAI:=⟨83,0,(.cons (.mut false 53 (.pair yT3 (.int .i64))) yP5),(.int .i64),qDK k⟩
theorem t_w_markRouteS(k:Nat)(x):evF TTab k [] [(0,⟨[0,1,5],(.cons yP17 (.cons (.int .i64) yP5))⟩,⟨[0,1],(.cons yP17 yP5)⟩)] Tryz.f83 (.cons (.mut false 53 (.pair yT3 (.int .i64))) yP5) (.int .i64) x=qDK k x:=by kernel_rfl
theorem e_w_markRouteS[Names](k:Nat):qAD Tryz.prog (qHc k):=qAB tok qAG (by kernel_rfl) (by kernel_rfl) (by kernel_rfl) fun x r h=>(t_w_markRouteS k x).trans h
def qCx(k:Nat)(x:List (Int)×Int×Unit):Option (Int×List (Int)×Unit×Unit):=
(qAH (fun(rec0:(List (Int)×Int×Int×Unit)→Option _) (y0:List (Int)×Int×Int×Unit) =>
(if(decide (y0.2.2.1<(List.length y0.1:Int)))=true then
(if 0≤y0.2.2.1∧y0.2.2.1<(List.length y0.1:Int) then
(rec0 ((List.set y0.1 (Int.toNat y0.2.2.1) y0.2.1),((wi64 (y0.2.1+(1:Int))),((wi64 (y0.2.2.1+(1:Int))),()))))
else none)
else
((fun(z1:List (Int)×Int×Unit) =>
some (z1.2.1,(z1.1,((),())))) (y0.1,(y0.2.1,()))))) k (x.1,(x.2.1,((0:Int),()))))
abbrev qGn(k:Nat):qAI:=⟨106,0,(.cons (.mut false 3 (.int .i64)) yP5),(.int .i64),qCx k⟩
theorem t_w_markIntS(k:Nat)(x):evF TTab k [] [(0,⟨[0,1,5],(.cons yP25 (.cons (.int .i64) yP5))⟩,⟨[0,1],(.cons yP25 yP5)⟩)] Tryz.f106 (.cons (.mut false 3 (.int .i64)) yP5) (.int .i64) x=qCx k x:=by kernel_rfl
theorem e_w_markIntS[Names](k:Nat):qAD Tryz.prog (qGn k):=qAB tok qAG (by kernel_rfl) (by kernel_rfl) (by kernel_rfl) fun x r h=>(t_w_markIntS k x).trans h
def qA4(k:Nat)(x:Int×Unit):Option (ByteArray×Unit×Unit):=
(if(decide (x.1≤(0:Int)))=true then
some ((⟨#[109,48]⟩:ByteArray),((),()))
else
(qAH (fun(rec0:(Int×ByteArray×Unit)→Option _) (y0:Int×ByteArray×Unit) =>
(if(decide ((0:Int)<y0.1))=true then
(if ByteArray.size (qAg ([(wu8 ((wi64 ((48:Int)+(Int.tmod y0.1 (10:Int))))))]:List (Int)))+ByteArray.size y0.2.1≤maxStr then
(rec0 ((wi64 (Int.tdiv y0.1 (10:Int))),(((qAg ([(wu8 ((wi64 ((48:Int)+(Int.tmod y0.1 (10:Int))))))]:List (Int)))++y0.2.1),())))
else none)
else
((fun(z1:ByteArray×Unit) =>
(if ByteArray.size (⟨#[109]⟩:ByteArray)+ByteArray.size z1.1≤maxStr then
some (((⟨#[109]⟩:ByteArray)++z1.1),((),()))
else none)) (y0.2.1,())))) k (x.1,((⟨#[]⟩:ByteArray),()))))
abbrev qDL(k:Nat):qAI:=⟨107,0,yP5,.str,qA4 k⟩
theorem t_w_markText(k:Nat)(x):evF TTab k [] [(0,⟨[0,3],(.cons (.int .i64) (.cons .str .nil))⟩,⟨[3],(.cons .str .nil)⟩)] Tryz.f107 yP5 .str x=qA4 k x:=by kernel_rfl
theorem qEV[Names](k:Nat):qAD Tryz.prog (qDL k):=qAB tok qAG (by kernel_rfl) (by kernel_rfl) (by kernel_rfl) fun x r h=>(t_w_markText k x).trans h
def qCc(k:Nat)(x:List (ByteArray)×Int×Unit):Option (Int×List (ByteArray)×Unit×Unit):=
(qAH (fun(rec0:(List (ByteArray)×Int×Int×Unit)→Option _) (y0:List (ByteArray)×Int×Int×Unit) =>
(if(decide (y0.2.2.1<(List.length y0.1:Int)))=true then
((qA4 k (y0.2.1,())).bind fun p1 =>
(if 0≤y0.2.2.1∧y0.2.2.1<(List.length y0.1:Int) then
(rec0 ((List.set y0.1 (Int.toNat y0.2.2.1) p1.1),((wi64 (y0.2.1+(1:Int))),((wi64 (y0.2.2.1+(1:Int))),()))))
else none))
else
((fun(z1:List (ByteArray)×Int×Unit) =>
some (z1.2.1,(z1.1,((),())))) (y0.1,(y0.2.1,()))))) k (x.1,(x.2.1,((0:Int),()))))
abbrev qGo(k:Nat):qAI:=⟨242,0,(.cons (.mut false 9 .str) yP5),(.int .i64),qCc k⟩
theorem t_w_markStringS(k:Nat)(x):evF TTab k [qDL k] [(0,⟨[0,1,5],(.cons (.own false 9 .str) (.cons (.int .i64) yP5))⟩,⟨[0,1],(.cons (.own false 9 .str) yP5)⟩)] Tryz.f242 (.cons (.mut false 9 .str) yP5) (.int .i64) x=qCc k x:=by kernel_rfl
theorem e_w_markStringS[Names](k:Nat):qAD Tryz.prog (qGo k):=qAB tok (qAA (qEV k) qAG) (by kernel_rfl) (by kernel_rfl) (by kernel_rfl) fun x r h=>(t_w_markStringS k x).trans h
def qEC(k:Nat)(x:List (Bool)×Int×Unit):Option (Int×List (Bool)×Unit×Unit):=
(qAH (fun(rec0:(List (Bool)×Int×Int×Unit)→Option _) (y0:List (Bool)×Int×Int×Unit) =>
(if(decide (y0.2.2.1<(List.length y0.1:Int)))=true then
(if 0≤y0.2.2.1∧y0.2.2.1<(List.length y0.1:Int) then
(rec0 ((List.set y0.1 (Int.toNat y0.2.2.1) (decide ((Int.tmod y0.2.1 (3:Int))=(0:Int)))),((wi64 (y0.2.1+(1:Int))),((wi64 (y0.2.2.1+(1:Int))),()))))
else none)
else
((fun(z1:List (Bool)×Int×Unit) =>
some (z1.2.1,(z1.1,((),())))) (y0.1,(y0.2.1,()))))) k (x.1,(x.2.1,((0:Int),()))))
abbrev qI2(k:Nat):qAI:=⟨243,0,(.cons (.mut false 4 .bool) yP5),(.int .i64),qEC k⟩
theorem t_w_markBoolS(k:Nat)(x):evF TTab k [] [(0,⟨[0,1,5],(.cons (.own false 4 .bool) (.cons (.int .i64) yP5))⟩,⟨[0,1],(.cons (.own false 4 .bool) yP5)⟩)] Tryz.f243 (.cons (.mut false 4 .bool) yP5) (.int .i64) x=qEC k x:=by kernel_rfl
theorem e_w_markBoolS[Names](k:Nat):qAD Tryz.prog (qI2 k):=qAB tok qAG (by kernel_rfl) (by kernel_rfl) (by kernel_rfl) fun x r h=>(t_w_markBoolS k x).trans h
def qCy(k:Nat)(x:(List (Int×Int×Int×List (ByteArray)×List (Bool)×Int))×Int×Unit):Option (Int×(List (Int×Int×Int×List (ByteArray)×List (Bool)×Int))×Unit×Unit):=
(qAH (fun(rec0:((List (Int×Int×Int×List (ByteArray)×List (Bool)×Int))×Int×Int×Unit)→Option _) (y0:(List (Int×Int×Int×List (ByteArray)×List (Bool)×Int))×Int×Int×Unit) =>
(if(decide (y0.2.2.1<(List.length y0.1:Int)))=true then
(if 0≤y0.2.2.1∧y0.2.2.1<(List.length y0.1:Int) then
(if 0≤y0.2.2.1∧y0.2.2.1<(List.length (List.set y0.1 (Int.toNat y0.2.2.1) (y0.2.1,(Ty.rd (t:=yT7) y0.1 y0.2.2.1).2)):Int) then
(jn (List.set (List.set y0.1 (Int.toNat y0.2.2.1) (y0.2.1,(Ty.rd (t:=yT7) y0.1 y0.2.2.1).2)) (Int.toNat y0.2.2.1) ((Ty.rd (t:=yT7) (List.set y0.1 (Int.toNat y0.2.2.1) (y0.2.1,(Ty.rd (t:=yT7) y0.1 y0.2.2.1).2)) y0.2.2.1).1,((wi64 (y0.2.1+(1:Int))),(Ty.rd (t:=yT7) (List.set y0.1 (Int.toNat y0.2.2.1) (y0.2.1,(Ty.rd (t:=yT7) y0.1 y0.2.2.1).2)) y0.2.2.1).2.2))) (fun(q6:List (Int×Int×Int×List (ByteArray)×List (Bool)×Int)) =>
(if 0≤y0.2.2.1∧y0.2.2.1<(List.length q6:Int) then
(jn (List.set q6 (Int.toNat y0.2.2.1) ((Ty.rd (t:=yT7) q6 y0.2.2.1).1,((Ty.rd (t:=yT7) q6 y0.2.2.1).2.1,((wi64 ((wi64 (y0.2.1+(1:Int)))+(1:Int))),(Ty.rd (t:=yT7) q6 y0.2.2.1).2.2.2)))) (fun(q7:List (Int×Int×Int×List (ByteArray)×List (Bool)×Int)) =>
(if 0≤y0.2.2.1∧y0.2.2.1<(List.length q7:Int) then
((qCc k ((Ty.rd (t:=yT7) q7 y0.2.2.1).2.2.2.1,((wi64 ((wi64 ((wi64 (y0.2.1+(1:Int)))+(1:Int)))+(1:Int))),()))).bind fun p1 =>
(jn (List.set q7 (Int.toNat y0.2.2.1) ((Ty.rd (t:=yT7) q7 y0.2.2.1).1,((Ty.rd (t:=yT7) q7 y0.2.2.1).2.1,((Ty.rd (t:=yT7) q7 y0.2.2.1).2.2.1,(p1.2.1,(Ty.rd (t:=yT7) q7 y0.2.2.1).2.2.2.2))))) (fun(q8:List (Int×Int×Int×List (ByteArray)×List (Bool)×Int)) =>
(if 0≤y0.2.2.1∧y0.2.2.1<(List.length q8:Int) then
((qEC k ((Ty.rd (t:=yT7) q8 y0.2.2.1).2.2.2.2.1,(p1.1,()))).bind fun p2 =>
(jn (List.set q8 (Int.toNat y0.2.2.1) ((Ty.rd (t:=yT7) q8 y0.2.2.1).1,((Ty.rd (t:=yT7) q8 y0.2.2.1).2.1,((Ty.rd (t:=yT7) q8 y0.2.2.1).2.2.1,((Ty.rd (t:=yT7) q8 y0.2.2.1).2.2.2.1,(p2.2.1,(Ty.rd (t:=yT7) q8 y0.2.2.1).2.2.2.2.2)))))) (fun(q9:List (Int×Int×Int×List (ByteArray)×List (Bool)×Int)) =>
(if 0≤y0.2.2.1∧y0.2.2.1<(List.length q9:Int) then
(jn (List.set q9 (Int.toNat y0.2.2.1) ((Ty.rd (t:=yT7) q9 y0.2.2.1).1,((Ty.rd (t:=yT7) q9 y0.2.2.1).2.1,((Ty.rd (t:=yT7) q9 y0.2.2.1).2.2.1,((Ty.rd (t:=yT7) q9 y0.2.2.1).2.2.2.1,((Ty.rd (t:=yT7) q9 y0.2.2.1).2.2.2.2.1,p2.1)))))) (fun(q10:List (Int×Int×Int×List (ByteArray)×List (Bool)×Int)) =>
(rec0 (q10,((wi64 (p2.1+(1:Int))),((wi64 (y0.2.2.1+(1:Int))),()))))))
else none))))
else none))))
else none)))
else none)))
else none)
else none)
else
((fun(z1:(List (Int×Int×Int×List (ByteArray)×List (Bool)×Int))×Int×Unit) =>
some (z1.2.1,(z1.1,((),())))) (y0.1,(y0.2.1,()))))) k (x.1,(x.2.1,((0:Int),()))))
abbrev qFW(k:Nat):qAI:=⟨164,0,(.cons (.mut false 229 yT7) yP5),(.int .i64),qCy k⟩
theorem t_w_markHeldS(k:Nat)(x):evF qBr k [qGo k,qI2 k] [(0,⟨[0,1,5],(.cons (.own false 229 yT7) (.cons (.int .i64) yP5))⟩,⟨[0,1],(.cons (.own false 229 yT7) yP5)⟩)] Tryz.f164 (.cons (.mut false 229 yT7) yP5) (.int .i64) x=qCy k x:=by kernel_rfl
theorem qI3[Names](k:Nat):qAD Tryz.prog (qFW k):=qAB tokO (qAA (e_w_markStringS k) (qAA (e_w_markBoolS k) qAG)) (by kernel_rfl) (by kernel_rfl) (by kernel_rfl) fun x r h=>(t_w_markHeldS k x).trans h
def qED(k:Nat)(x:(List (Int×Int×((Int×ByteArray×ByteArray×Int×List (Int)×Int)×Int×ByteArray×ByteArray×Int×List (Int)×Int)×List (Int×Int×Int×List (ByteArray)×List (Bool)×Int)×Int))×Int×Unit):Option (Int×(List (Int×Int×((Int×ByteArray×ByteArray×Int×List (Int)×Int)×Int×ByteArray×ByteArray×Int×List (Int)×Int)×List (Int×Int×Int×List (ByteArray)×List (Bool)×Int)×Int))×Unit×Unit):=
(qAH (fun(rec0:((List (Int×Int×((Int×ByteArray×ByteArray×Int×List (Int)×Int)×Int×ByteArray×ByteArray×Int×List (Int)×Int)×List (Int×Int×Int×List (ByteArray)×List (Bool)×Int)×Int))×Int×Int×Unit)→Option _) (y0:(List (Int×Int×((Int×ByteArray×ByteArray×Int×List (Int)×Int)×Int×ByteArray×ByteArray×Int×List (Int)×Int)×List (Int×Int×Int×List (ByteArray)×List (Bool)×Int)×Int))×Int×Int×Unit) =>
(if(decide (y0.2.2.1<(List.length y0.1:Int)))=true then
(if 0≤y0.2.2.1∧y0.2.2.1<(List.length y0.1:Int) then
(if 0≤y0.2.2.1∧y0.2.2.1<(List.length (List.set y0.1 (Int.toNat y0.2.2.1) (y0.2.1,(Ty.rd (t:=yT1) y0.1 y0.2.2.1).2)):Int) then
(jn (List.set (List.set y0.1 (Int.toNat y0.2.2.1) (y0.2.1,(Ty.rd (t:=yT1) y0.1 y0.2.2.1).2)) (Int.toNat y0.2.2.1) ((Ty.rd (t:=yT1) (List.set y0.1 (Int.toNat y0.2.2.1) (y0.2.1,(Ty.rd (t:=yT1) y0.1 y0.2.2.1).2)) y0.2.2.1).1,((wi64 (y0.2.1+(1:Int))),(Ty.rd (t:=yT1) (List.set y0.1 (Int.toNat y0.2.2.1) (y0.2.1,(Ty.rd (t:=yT1) y0.1 y0.2.2.1).2)) y0.2.2.1).2.2))) (fun(q11:List (Int×Int×((Int×ByteArray×ByteArray×Int×List (Int)×Int)×Int×ByteArray×ByteArray×Int×List (Int)×Int)×List (Int×Int×Int×List (ByteArray)×List (Bool)×Int)×Int)) =>
(if 0≤y0.2.2.1∧y0.2.2.1<(List.length q11:Int) then
(jn (List.set q11 (Int.toNat y0.2.2.1) ((Ty.rd (t:=yT1) q11 y0.2.2.1).1,((Ty.rd (t:=yT1) q11 y0.2.2.1).2.1,((((wi64 ((wi64 (y0.2.1+(1:Int)))+(1:Int))),(Ty.rd (t:=yT1) q11 y0.2.2.1).2.2.1.1.2),(Ty.rd (t:=yT1) q11 y0.2.2.1).2.2.1.2),(Ty.rd (t:=yT1) q11 y0.2.2.1).2.2.2)))) (fun(q12:List (Int×Int×((Int×ByteArray×ByteArray×Int×List (Int)×Int)×Int×ByteArray×ByteArray×Int×List (Int)×Int)×List (Int×Int×Int×List (ByteArray)×List (Bool)×Int)×Int)) =>
((qA4 k ((wi64 ((wi64 ((wi64 (y0.2.1+(1:Int)))+(1:Int)))+(1:Int))),())).bind fun p1 =>
(if 0≤y0.2.2.1∧y0.2.2.1<(List.length q12:Int) then
(jn (List.set q12 (Int.toNat y0.2.2.1) ((Ty.rd (t:=yT1) q12 y0.2.2.1).1,((Ty.rd (t:=yT1) q12 y0.2.2.1).2.1,((((Ty.rd (t:=yT1) q12 y0.2.2.1).2.2.1.1.1,(p1.1,(Ty.rd (t:=yT1) q12 y0.2.2.1).2.2.1.1.2.2)),(Ty.rd (t:=yT1) q12 y0.2.2.1).2.2.1.2),(Ty.rd (t:=yT1) q12 y0.2.2.1).2.2.2)))) (fun(q13:List (Int×Int×((Int×ByteArray×ByteArray×Int×List (Int)×Int)×Int×ByteArray×ByteArray×Int×List (Int)×Int)×List (Int×Int×Int×List (ByteArray)×List (Bool)×Int)×Int)) =>
((qA4 k ((wi64 ((wi64 ((wi64 ((wi64 (y0.2.1+(1:Int)))+(1:Int)))+(1:Int)))+(1:Int))),())).bind fun p2 =>
(if 0≤y0.2.2.1∧y0.2.2.1<(List.length q13:Int) then
(jn (List.set q13 (Int.toNat y0.2.2.1) ((Ty.rd (t:=yT1) q13 y0.2.2.1).1,((Ty.rd (t:=yT1) q13 y0.2.2.1).2.1,((((Ty.rd (t:=yT1) q13 y0.2.2.1).2.2.1.1.1,((Ty.rd (t:=yT1) q13 y0.2.2.1).2.2.1.1.2.1,(p2.1,(Ty.rd (t:=yT1) q13 y0.2.2.1).2.2.1.1.2.2.2))),(Ty.rd (t:=yT1) q13 y0.2.2.1).2.2.1.2),(Ty.rd (t:=yT1) q13 y0.2.2.1).2.2.2)))) (fun(q14:List (Int×Int×((Int×ByteArray×ByteArray×Int×List (Int)×Int)×Int×ByteArray×ByteArray×Int×List (Int)×Int)×List (Int×Int×Int×List (ByteArray)×List (Bool)×Int)×Int)) =>
(if 0≤y0.2.2.1∧y0.2.2.1<(List.length q14:Int) then
(jn (List.set q14 (Int.toNat y0.2.2.1) ((Ty.rd (t:=yT1) q14 y0.2.2.1).1,((Ty.rd (t:=yT1) q14 y0.2.2.1).2.1,((((Ty.rd (t:=yT1) q14 y0.2.2.1).2.2.1.1.1,((Ty.rd (t:=yT1) q14 y0.2.2.1).2.2.1.1.2.1,((Ty.rd (t:=yT1) q14 y0.2.2.1).2.2.1.1.2.2.1,((wi64 ((wi64 ((wi64 ((wi64 ((wi64 (y0.2.1+(1:Int)))+(1:Int)))+(1:Int)))+(1:Int)))+(1:Int))),(Ty.rd (t:=yT1) q14 y0.2.2.1).2.2.1.1.2.2.2.2)))),(Ty.rd (t:=yT1) q14 y0.2.2.1).2.2.1.2),(Ty.rd (t:=yT1) q14 y0.2.2.1).2.2.2)))) (fun(q15:List (Int×Int×((Int×ByteArray×ByteArray×Int×List (Int)×Int)×Int×ByteArray×ByteArray×Int×List (Int)×Int)×List (Int×Int×Int×List (ByteArray)×List (Bool)×Int)×Int)) =>
(if 0≤y0.2.2.1∧y0.2.2.1<(List.length q15:Int) then
((qCx k ((Ty.rd (t:=yT1) q15 y0.2.2.1).2.2.1.1.2.2.2.2.1,((wi64 ((wi64 ((wi64 ((wi64 ((wi64 ((wi64 (y0.2.1+(1:Int)))+(1:Int)))+(1:Int)))+(1:Int)))+(1:Int)))+(1:Int))),()))).bind fun p3 =>
(jn (List.set q15 (Int.toNat y0.2.2.1) ((Ty.rd (t:=yT1) q15 y0.2.2.1).1,((Ty.rd (t:=yT1) q15 y0.2.2.1).2.1,((((Ty.rd (t:=yT1) q15 y0.2.2.1).2.2.1.1.1,((Ty.rd (t:=yT1) q15 y0.2.2.1).2.2.1.1.2.1,((Ty.rd (t:=yT1) q15 y0.2.2.1).2.2.1.1.2.2.1,((Ty.rd (t:=yT1) q15 y0.2.2.1).2.2.1.1.2.2.2.1,(p3.2.1,(Ty.rd (t:=yT1) q15 y0.2.2.1).2.2.1.1.2.2.2.2.2))))),(Ty.rd (t:=yT1) q15 y0.2.2.1).2.2.1.2),(Ty.rd (t:=yT1) q15 y0.2.2.1).2.2.2)))) (fun(q16:List (Int×Int×((Int×ByteArray×ByteArray×Int×List (Int)×Int)×Int×ByteArray×ByteArray×Int×List (Int)×Int)×List (Int×Int×Int×List (ByteArray)×List (Bool)×Int)×Int)) =>
(if 0≤y0.2.2.1∧y0.2.2.1<(List.length q16:Int) then
(jn (List.set q16 (Int.toNat y0.2.2.1) ((Ty.rd (t:=yT1) q16 y0.2.2.1).1,((Ty.rd (t:=yT1) q16 y0.2.2.1).2.1,((((Ty.rd (t:=yT1) q16 y0.2.2.1).2.2.1.1.1,((Ty.rd (t:=yT1) q16 y0.2.2.1).2.2.1.1.2.1,((Ty.rd (t:=yT1) q16 y0.2.2.1).2.2.1.1.2.2.1,((Ty.rd (t:=yT1) q16 y0.2.2.1).2.2.1.1.2.2.2.1,((Ty.rd (t:=yT1) q16 y0.2.2.1).2.2.1.1.2.2.2.2.1,p3.1))))),(Ty.rd (t:=yT1) q16 y0.2.2.1).2.2.1.2),(Ty.rd (t:=yT1) q16 y0.2.2.1).2.2.2)))) (fun(q17:List (Int×Int×((Int×ByteArray×ByteArray×Int×List (Int)×Int)×Int×ByteArray×ByteArray×Int×List (Int)×Int)×List (Int×Int×Int×List (ByteArray)×List (Bool)×Int)×Int)) =>
(if 0≤y0.2.2.1∧y0.2.2.1<(List.length q17:Int) then
(jn (List.set q17 (Int.toNat y0.2.2.1) ((Ty.rd (t:=yT1) q17 y0.2.2.1).1,((Ty.rd (t:=yT1) q17 y0.2.2.1).2.1,(((Ty.rd (t:=yT1) q17 y0.2.2.1).2.2.1.1,((wi64 (p3.1+(1:Int))),(Ty.rd (t:=yT1) q17 y0.2.2.1).2.2.1.2.2)),(Ty.rd (t:=yT1) q17 y0.2.2.1).2.2.2)))) (fun(q18:List (Int×Int×((Int×ByteArray×ByteArray×Int×List (Int)×Int)×Int×ByteArray×ByteArray×Int×List (Int)×Int)×List (Int×Int×Int×List (ByteArray)×List (Bool)×Int)×Int)) =>
((qA4 k ((wi64 ((wi64 (p3.1+(1:Int)))+(1:Int))),())).bind fun p4 =>
(if 0≤y0.2.2.1∧y0.2.2.1<(List.length q18:Int) then
(jn (List.set q18 (Int.toNat y0.2.2.1) ((Ty.rd (t:=yT1) q18 y0.2.2.1).1,((Ty.rd (t:=yT1) q18 y0.2.2.1).2.1,(((Ty.rd (t:=yT1) q18 y0.2.2.1).2.2.1.1,((Ty.rd (t:=yT1) q18 y0.2.2.1).2.2.1.2.1,(p4.1,(Ty.rd (t:=yT1) q18 y0.2.2.1).2.2.1.2.2.2))),(Ty.rd (t:=yT1) q18 y0.2.2.1).2.2.2)))) (fun(q19:List (Int×Int×((Int×ByteArray×ByteArray×Int×List (Int)×Int)×Int×ByteArray×ByteArray×Int×List (Int)×Int)×List (Int×Int×Int×List (ByteArray)×List (Bool)×Int)×Int)) =>
((qA4 k ((wi64 ((wi64 ((wi64 (p3.1+(1:Int)))+(1:Int)))+(1:Int))),())).bind fun p5 =>
(if 0≤y0.2.2.1∧y0.2.2.1<(List.length q19:Int) then
(jn (List.set q19 (Int.toNat y0.2.2.1) ((Ty.rd (t:=yT1) q19 y0.2.2.1).1,((Ty.rd (t:=yT1) q19 y0.2.2.1).2.1,(((Ty.rd (t:=yT1) q19 y0.2.2.1).2.2.1.1,((Ty.rd (t:=yT1) q19 y0.2.2.1).2.2.1.2.1,((Ty.rd (t:=yT1) q19 y0.2.2.1).2.2.1.2.2.1,(p5.1,(Ty.rd (t:=yT1) q19 y0.2.2.1).2.2.1.2.2.2.2)))),(Ty.rd (t:=yT1) q19 y0.2.2.1).2.2.2)))) (fun(q20:List (Int×Int×((Int×ByteArray×ByteArray×Int×List (Int)×Int)×Int×ByteArray×ByteArray×Int×List (Int)×Int)×List (Int×Int×Int×List (ByteArray)×List (Bool)×Int)×Int)) =>
(if 0≤y0.2.2.1∧y0.2.2.1<(List.length q20:Int) then
(jn (List.set q20 (Int.toNat y0.2.2.1) ((Ty.rd (t:=yT1) q20 y0.2.2.1).1,((Ty.rd (t:=yT1) q20 y0.2.2.1).2.1,(((Ty.rd (t:=yT1) q20 y0.2.2.1).2.2.1.1,((Ty.rd (t:=yT1) q20 y0.2.2.1).2.2.1.2.1,((Ty.rd (t:=yT1) q20 y0.2.2.1).2.2.1.2.2.1,((Ty.rd (t:=yT1) q20 y0.2.2.1).2.2.1.2.2.2.1,((wi64 ((wi64 ((wi64 ((wi64 (p3.1+(1:Int)))+(1:Int)))+(1:Int)))+(1:Int))),(Ty.rd (t:=yT1) q20 y0.2.2.1).2.2.1.2.2.2.2.2))))),(Ty.rd (t:=yT1) q20 y0.2.2.1).2.2.2)))) (fun(q21:List (Int×Int×((Int×ByteArray×ByteArray×Int×List (Int)×Int)×Int×ByteArray×ByteArray×Int×List (Int)×Int)×List (Int×Int×Int×List (ByteArray)×List (Bool)×Int)×Int)) =>
(if 0≤y0.2.2.1∧y0.2.2.1<(List.length q21:Int) then
((qCx k ((Ty.rd (t:=yT1) q21 y0.2.2.1).2.2.1.2.2.2.2.2.1,((wi64 ((wi64 ((wi64 ((wi64 ((wi64 (p3.1+(1:Int)))+(1:Int)))+(1:Int)))+(1:Int)))+(1:Int))),()))).bind fun p6 =>
(jn (List.set q21 (Int.toNat y0.2.2.1) ((Ty.rd (t:=yT1) q21 y0.2.2.1).1,((Ty.rd (t:=yT1) q21 y0.2.2.1).2.1,(((Ty.rd (t:=yT1) q21 y0.2.2.1).2.2.1.1,((Ty.rd (t:=yT1) q21 y0.2.2.1).2.2.1.2.1,((Ty.rd (t:=yT1) q21 y0.2.2.1).2.2.1.2.2.1,((Ty.rd (t:=yT1) q21 y0.2.2.1).2.2.1.2.2.2.1,((Ty.rd (t:=yT1) q21 y0.2.2.1).2.2.1.2.2.2.2.1,(p6.2.1,(Ty.rd (t:=yT1) q21 y0.2.2.1).2.2.1.2.2.2.2.2.2)))))),(Ty.rd (t:=yT1) q21 y0.2.2.1).2.2.2)))) (fun(q22:List (Int×Int×((Int×ByteArray×ByteArray×Int×List (Int)×Int)×Int×ByteArray×ByteArray×Int×List (Int)×Int)×List (Int×Int×Int×List (ByteArray)×List (Bool)×Int)×Int)) =>
(if 0≤y0.2.2.1∧y0.2.2.1<(List.length q22:Int) then
(jn (List.set q22 (Int.toNat y0.2.2.1) ((Ty.rd (t:=yT1) q22 y0.2.2.1).1,((Ty.rd (t:=yT1) q22 y0.2.2.1).2.1,(((Ty.rd (t:=yT1) q22 y0.2.2.1).2.2.1.1,((Ty.rd (t:=yT1) q22 y0.2.2.1).2.2.1.2.1,((Ty.rd (t:=yT1) q22 y0.2.2.1).2.2.1.2.2.1,((Ty.rd (t:=yT1) q22 y0.2.2.1).2.2.1.2.2.2.1,((Ty.rd (t:=yT1) q22 y0.2.2.1).2.2.1.2.2.2.2.1,((Ty.rd (t:=yT1) q22 y0.2.2.1).2.2.1.2.2.2.2.2.1,p6.1)))))),(Ty.rd (t:=yT1) q22 y0.2.2.1).2.2.2)))) (fun(q23:List (Int×Int×((Int×ByteArray×ByteArray×Int×List (Int)×Int)×Int×ByteArray×ByteArray×Int×List (Int)×Int)×List (Int×Int×Int×List (ByteArray)×List (Bool)×Int)×Int)) =>
(if 0≤y0.2.2.1∧y0.2.2.1<(List.length q23:Int) then
((qCy k ((Ty.rd (t:=yT1) q23 y0.2.2.1).2.2.2.1,((wi64 (p6.1+(1:Int))),()))).bind fun p7 =>
(jn (List.set q23 (Int.toNat y0.2.2.1) ((Ty.rd (t:=yT1) q23 y0.2.2.1).1,((Ty.rd (t:=yT1) q23 y0.2.2.1).2.1,((Ty.rd (t:=yT1) q23 y0.2.2.1).2.2.1,(p7.2.1,(Ty.rd (t:=yT1) q23 y0.2.2.1).2.2.2.2))))) (fun(q24:List (Int×Int×((Int×ByteArray×ByteArray×Int×List (Int)×Int)×Int×ByteArray×ByteArray×Int×List (Int)×Int)×List (Int×Int×Int×List (ByteArray)×List (Bool)×Int)×Int)) =>
(if 0≤y0.2.2.1∧y0.2.2.1<(List.length q24:Int) then
(jn (List.set q24 (Int.toNat y0.2.2.1) ((Ty.rd (t:=yT1) q24 y0.2.2.1).1,((Ty.rd (t:=yT1) q24 y0.2.2.1).2.1,((Ty.rd (t:=yT1) q24 y0.2.2.1).2.2.1,((Ty.rd (t:=yT1) q24 y0.2.2.1).2.2.2.1,p7.1))))) (fun(q25:List (Int×Int×((Int×ByteArray×ByteArray×Int×List (Int)×Int)×Int×ByteArray×ByteArray×Int×List (Int)×Int)×List (Int×Int×Int×List (ByteArray)×List (Bool)×Int)×Int)) =>
(rec0 (q25,((wi64 (p7.1+(1:Int))),((wi64 (y0.2.2.1+(1:Int))),()))))))
else none))))
else none)))
else none))))
else none)))
else none)))
else none))))
else none))))
else none)))
else none))))
else none)))
else none)))
else none))))
else none))))
else none)))
else none)
else none)
else
((fun(z1:(List (Int×Int×((Int×ByteArray×ByteArray×Int×List (Int)×Int)×Int×ByteArray×ByteArray×Int×List (Int)×Int)×List (Int×Int×Int×List (ByteArray)×List (Bool)×Int)×Int))×Int×Unit) =>
some (z1.2.1,(z1.1,((),())))) (y0.1,(y0.2.1,()))))) k (x.1,(x.2.1,((0:Int),()))))
abbrev qI4(k:Nat):qAI:=⟨84,0,(.cons (.mut false 45 yT1) yP5),(.int .i64),qED k⟩
theorem t_w_markUserS(k:Nat)(x):evF qBr k [qGn k,qDL k,qFW k] [(0,⟨[0,1,5],(.cons (.own false 45 yT1) (.cons (.int .i64) yP5))⟩,⟨[0,1],(.cons (.own false 45 yT1) yP5)⟩)] Tryz.f84 (.cons (.mut false 45 yT1) yP5) (.int .i64) x=qED k x:=by kernel_rfl
theorem e_w_markUserS[Names](k:Nat):qAD Tryz.prog (qI4 k):=qAB tokO (qAA (e_w_markIntS k) (qAA (qEV k) (qAA (qI3 k) qAG))) (by kernel_rfl) (by kernel_rfl) (by kernel_rfl) fun x r h=>(t_w_markUserS k x).trans h
def qDM(k:Nat)(x:(Int×Int×(List (Int×Int×Int))×(List (Int×Int))×(List ((Int×Int)×Int))×(List (Int×Int×((Int×ByteArray×ByteArray×Int×List (Int)×Int)×Int×ByteArray×ByteArray×Int×List (Int)×Int)×List (Int×Int×Int×List (ByteArray)×List (Bool)×Int)×Int))×Unit)×Int×Unit):Option (Int×(Unit×Unit×(List (Int×Int×Int))×(List (Int×Int))×(List ((Int×Int)×Int))×(List (Int×Int×((Int×ByteArray×ByteArray×Int×List (Int)×Int)×Int×ByteArray×ByteArray×Int×List (Int)×Int)×List (Int×Int×Int×List (ByteArray)×List (Bool)×Int)×Int))×Unit)×Unit×Unit):=
((qE8 k ((x.1.1,(x.1.2.1,(x.1.2.2.1,(x.1.2.2.2.1,())))),(x.2.1,()))).bind fun p1 =>
((qDK k (x.1.2.2.2.2.1,(p1.1,()))).bind fun p2 =>
((qED k (x.1.2.2.2.2.2.1,(p2.1,()))).bind fun p3 =>
some (p3.1,(((),((),(p1.2.1.2.2.1,(p1.2.1.2.2.2.1,(p2.2.1,(p3.2.1,())))))),((),()))))))
abbrev E_w_markHub(k:Nat):qAI:=⟨25,0,(.cons (.mag (.cons (.int .i64) (.cons (.int .i64) (.cons (.mut false 135 (.pair (.int .i64) yT3)) (.cons (.mut false 252 yT3) (.cons (.mut false 53 (.pair yT3 (.int .i64))) (.cons (.mut false 45 yT1) .nil))))))) yP5),(.int .i64),qDM k⟩
theorem t_w_markHub(k:Nat)(x):evF qBr k [E_w_markPool k,qHc k,qI4 k] [] Tryz.f25 (.cons (.mag (.cons (.int .i64) (.cons (.int .i64) (.cons (.mut false 135 (.pair (.int .i64) yT3)) (.cons (.mut false 252 yT3) (.cons (.mut false 53 (.pair yT3 (.int .i64))) (.cons (.mut false 45 yT1) .nil))))))) yP5) (.int .i64) x=qDM k x:=by kernel_rfl
theorem e_w_markHub[Names](k:Nat):qAD Tryz.prog (E_w_markHub k):=qAB tokO (qAA (e_w_markPool k) (qAA (e_w_markRouteS k) (qAA (e_w_markUserS k) qAG))) (by kernel_rfl) (by kernel_rfl) (by kernel_rfl) fun x r h=>(t_w_markHub k x).trans h
def qDN(k:Nat)(x:(List (Int×Int×Int))×Int×Unit):Option (Int×Unit×Unit×Unit):=
(qAH (fun(rec0:((List (Int×Int×Int))×Int×Int×Unit)→Option _) (y0:(List (Int×Int×Int))×Int×Int×Unit) =>
(if(decide (y0.2.2.1<(List.length y0.1:Int)))=true then
(if 0≤y0.2.2.1∧y0.2.2.1<(List.length y0.1:Int) then
(if(!decide ((Ty.rd (t:=(.pair (.int .i64) yT3)) y0.1 y0.2.2.1).1=y0.2.1))=true then
some ((-1:Int),((),((),())))
else
(if 0≤y0.2.2.1∧y0.2.2.1<(List.length y0.1:Int) then
(if(!decide ((Ty.rd (t:=(.pair (.int .i64) yT3)) y0.1 y0.2.2.1).2.1=(wi64 (y0.2.1+(1:Int)))))=true then
some ((-1:Int),((),((),())))
else
(if 0≤y0.2.2.1∧y0.2.2.1<(List.length y0.1:Int) then
(if(!decide ((Ty.rd (t:=(.pair (.int .i64) yT3)) y0.1 y0.2.2.1).2.2=(wi64 ((wi64 (y0.2.1+(1:Int)))+(1:Int)))))=true then
some ((-1:Int),((),((),())))
else
(rec0 (y0.1,((wi64 ((wi64 ((wi64 (y0.2.1+(1:Int)))+(1:Int)))+(1:Int))),((wi64 (y0.2.2.1+(1:Int))),())))))
else none))
else none))
else none)
else
((fun(z1:Int×Unit) =>
some (z1.1,((),((),())))) (y0.2.1,())))) k (x.1,(x.2.1,((0:Int),()))))
abbrev qHd(k:Nat):qAI:=⟨165,0,(.cons yP28 yP5),(.int .i64),qDN k⟩
theorem t_w_heldLeaseS(k:Nat)(x):evF TTab k [] [(0,⟨[0,1,5],(.cons yP28 (.cons (.int .i64) yP5))⟩,⟨[1],yP5⟩)] Tryz.f165 (.cons yP28 yP5) (.int .i64) x=qDN k x:=by kernel_rfl
theorem e_w_heldLeaseS[Names](k:Nat):qAD Tryz.prog (qHd k):=qAB tok qAG (by kernel_rfl) (by kernel_rfl) (by kernel_rfl) fun x r h=>(t_w_heldLeaseS k x).trans h
def qDO(k:Nat)(x:(List (Int×Int))×Int×Unit):Option (Int×Unit×Unit×Unit):=
(qAH (fun(rec0:((List (Int×Int))×Int×Int×Unit)→Option _) (y0:(List (Int×Int))×Int×Int×Unit) =>
(if(decide (y0.2.2.1<(List.length y0.1:Int)))=true then
(if 0≤y0.2.2.1∧y0.2.2.1<(List.length y0.1:Int) then
(if(!decide ((Ty.rd (t:=yT3) y0.1 y0.2.2.1).1=y0.2.1))=true then
some ((-1:Int),((),((),())))
else
(if 0≤y0.2.2.1∧y0.2.2.1<(List.length y0.1:Int) then
(if(!decide ((Ty.rd (t:=yT3) y0.1 y0.2.2.1).2=(wi64 (y0.2.1+(1:Int)))))=true then
some ((-1:Int),((),((),())))
else
(rec0 (y0.1,((wi64 ((wi64 (y0.2.1+(1:Int)))+(1:Int))),((wi64 (y0.2.2.1+(1:Int))),())))))
else none))
else none)
else
((fun(z1:Int×Unit) =>
some (z1.1,((),((),())))) (y0.2.1,())))) k (x.1,(x.2.1,((0:Int),()))))
abbrev qHe(k:Nat):qAI:=⟨166,0,(.cons (.il true yT3) yP5),(.int .i64),qDO k⟩
theorem t_w_heldFixedS(k:Nat)(x):evF TTab k [] [(0,⟨[0,1,5],(.cons (.il true yT3) (.cons (.int .i64) yP5))⟩,⟨[1],yP5⟩)] Tryz.f166 (.cons (.il true yT3) yP5) (.int .i64) x=qDO k x:=by kernel_rfl
theorem e_w_heldFixedS[Names](k:Nat):qAD Tryz.prog (qHe k):=qAB tok qAG (by kernel_rfl) (by kernel_rfl) (by kernel_rfl) fun x r h=>(t_w_heldFixedS k x).trans h
def qE9(k:Nat)(x:(Int×Int×(List (Int×Int×Int))×(List (Int×Int))×Unit)×Int×Unit):Option (Int×Unit×Unit×Unit):=
((qDN k (x.1.2.2.1,(x.2.1,()))).bind fun p1 =>
(if(decide (p1.1<(0:Int)))=true then
some ((-1:Int),((),((),())))
else
((qDO k (x.1.2.2.2.1,(p1.1,()))).bind fun p2 =>
(if(decide (p2.1<(0:Int)))=true then
some ((-1:Int),((),((),())))
else
some (p2.1,((),((),())))))))
abbrev E_w_heldPool(k:Nat):qAI:=⟨85,0,(.cons (.agg yP6) yP5),(.int .i64),qE9 k⟩
theorem t_w_heldPool(k:Nat)(x):evF TTab k [qHd k,qHe k] [] Tryz.f85 (.cons (.agg yP6) yP5) (.int .i64) x=qE9 k x:=by kernel_rfl
theorem e_w_heldPool[Names](k:Nat):qAD Tryz.prog (E_w_heldPool k):=qAB tok (qAA (e_w_heldLeaseS k) (qAA (e_w_heldFixedS k) qAG)) (by kernel_rfl) (by kernel_rfl) (by kernel_rfl) fun x r h=>(t_w_heldPool k x).trans h
def qDP(k:Nat)(x:(List ((Int×Int)×Int))×Int×Unit):Option (Int×Unit×Unit×Unit):=
(qAH (fun(rec0:((List ((Int×Int)×Int))×Int×Int×Unit)→Option _) (y0:(List ((Int×Int)×Int))×Int×Int×Unit) =>
(if(decide (y0.2.2.1<(List.length y0.1:Int)))=true then
(if 0≤y0.2.2.1∧y0.2.2.1<(List.length y0.1:Int) then
(if(!decide ((Ty.rd (t:=(.pair yT3 (.int .i64))) y0.1 y0.2.2.1).1.1=y0.2.1))=true then
some ((-1:Int),((),((),())))
else
(if 0≤y0.2.2.1∧y0.2.2.1<(List.length y0.1:Int) then
(if(!decide ((Ty.rd (t:=(.pair yT3 (.int .i64))) y0.1 y0.2.2.1).1.2=(wi64 (y0.2.1+(1:Int)))))=true then
some ((-1:Int),((),((),())))
else
(if 0≤y0.2.2.1∧y0.2.2.1<(List.length y0.1:Int) then
(if(!decide ((Ty.rd (t:=(.pair yT3 (.int .i64))) y0.1 y0.2.2.1).2=(wi64 ((wi64 (y0.2.1+(1:Int)))+(1:Int)))))=true then
some ((-1:Int),((),((),())))
else
(rec0 (y0.1,((wi64 ((wi64 ((wi64 (y0.2.1+(1:Int)))+(1:Int)))+(1:Int))),((wi64 (y0.2.2.1+(1:Int))),())))))
else none))
else none))
else none)
else
((fun(z1:Int×Unit) =>
some (z1.1,((),((),())))) (y0.2.1,())))) k (x.1,(x.2.1,((0:Int),()))))
abbrev qHf(k:Nat):qAI:=⟨86,0,(.cons yP19 yP5),(.int .i64),qDP k⟩
theorem t_w_heldRouteS(k:Nat)(x):evF TTab k [] [(0,⟨[0,1,5],(.cons yP19 (.cons (.int .i64) yP5))⟩,⟨[1],yP5⟩)] Tryz.f86 (.cons yP19 yP5) (.int .i64) x=qDP k x:=by kernel_rfl
theorem e_w_heldRouteS[Names](k:Nat):qAD Tryz.prog (qHf k):=qAB tok qAG (by kernel_rfl) (by kernel_rfl) (by kernel_rfl) fun x r h=>(t_w_heldRouteS k x).trans h
def qCz(k:Nat)(x:List (Int)×Int×Unit):Option (Int×Unit×Unit×Unit):=
(qAH (fun(rec0:(List (Int)×Int×Int×Unit)→Option _) (y0:List (Int)×Int×Int×Unit) =>
(if(decide (y0.2.2.1<(List.length y0.1:Int)))=true then
(if 0≤y0.2.2.1∧y0.2.2.1<(List.length y0.1:Int) then
(if(!decide ((Ty.rd (t:=(.int .i64)) y0.1 y0.2.2.1)=y0.2.1))=true then
some ((-1:Int),((),((),())))
else
(rec0 (y0.1,((wi64 (y0.2.1+(1:Int))),((wi64 (y0.2.2.1+(1:Int))),())))))
else none)
else
((fun(z1:Int×Unit) =>
some (z1.1,((),((),())))) (y0.2.1,())))) k (x.1,(x.2.1,((0:Int),()))))
abbrev qGp(k:Nat):qAI:=⟨110,0,(.cons (.il true (.int .i64)) yP5),(.int .i64),qCz k⟩
theorem t_w_heldIntS(k:Nat)(x):evF TTab k [] [(0,⟨[0,1,5],(.cons (.il true (.int .i64)) (.cons (.int .i64) yP5))⟩,⟨[1],yP5⟩)] Tryz.f110 (.cons (.il true (.int .i64)) yP5) (.int .i64) x=qCz k x:=by kernel_rfl
theorem e_w_heldIntS[Names](k:Nat):qAD Tryz.prog (qGp k):=qAB tok qAG (by kernel_rfl) (by kernel_rfl) (by kernel_rfl) fun x r h=>(t_w_heldIntS k x).trans h
def qCd(k:Nat)(x:List (ByteArray)×Int×Unit):Option (Int×Unit×Unit×Unit):=
(qAH (fun(rec0:(List (ByteArray)×Int×Int×Unit)→Option _) (y0:List (ByteArray)×Int×Int×Unit) =>
(if(decide (y0.2.2.1<(List.length y0.1:Int)))=true then
(if 0≤y0.2.2.1∧y0.2.2.1<(List.length y0.1:Int) then
((qA4 k (y0.2.1,())).bind fun p1 =>
(if(!decide ((Ty.rd (t:=.str) y0.1 y0.2.2.1)=p1.1))=true then
some ((-1:Int),((),((),())))
else
(rec0 (y0.1,((wi64 (y0.2.1+(1:Int))),((wi64 (y0.2.2.1+(1:Int))),()))))))
else none)
else
((fun(z1:Int×Unit) =>
some (z1.1,((),((),())))) (y0.2.1,())))) k (x.1,(x.2.1,((0:Int),()))))
abbrev qGq(k:Nat):qAI:=⟨244,0,(.cons (.il true .str) yP5),(.int .i64),qCd k⟩
theorem t_w_heldStringS(k:Nat)(x):evF TTab k [qDL k] [(0,⟨[0,1,5],(.cons (.il true .str) (.cons (.int .i64) yP5))⟩,⟨[1],yP5⟩)] Tryz.f244 (.cons (.il true .str) yP5) (.int .i64) x=qCd k x:=by kernel_rfl
theorem e_w_heldStringS[Names](k:Nat):qAD Tryz.prog (qGq k):=qAB tok (qAA (qEV k) qAG) (by kernel_rfl) (by kernel_rfl) (by kernel_rfl) fun x r h=>(t_w_heldStringS k x).trans h
def qEE(k:Nat)(x:List (Bool)×Int×Unit):Option (Int×Unit×Unit×Unit):=
(qAH (fun(rec0:(List (Bool)×Int×Int×Unit)→Option _) (y0:List (Bool)×Int×Int×Unit) =>
(if(decide (y0.2.2.1<(List.length y0.1:Int)))=true then
(if 0≤y0.2.2.1∧y0.2.2.1<(List.length y0.1:Int) then
(if(!decide ((Ty.rd (t:=.bool) y0.1 y0.2.2.1)=(decide ((Int.tmod y0.2.1 (3:Int))=(0:Int)))))=true then
some ((-1:Int),((),((),())))
else
(rec0 (y0.1,((wi64 (y0.2.1+(1:Int))),((wi64 (y0.2.2.1+(1:Int))),())))))
else none)
else
((fun(z1:Int×Unit) =>
some (z1.1,((),((),())))) (y0.2.1,())))) k (x.1,(x.2.1,((0:Int),()))))
abbrev qI5(k:Nat):qAI:=⟨245,0,(.cons (.il true .bool) yP5),(.int .i64),qEE k⟩
theorem t_w_heldBoolS(k:Nat)(x):evF TTab k [] [(0,⟨[0,1,5],(.cons (.il true .bool) (.cons (.int .i64) yP5))⟩,⟨[1],yP5⟩)] Tryz.f245 (.cons (.il true .bool) yP5) (.int .i64) x=qEE k x:=by kernel_rfl
theorem e_w_heldBoolS[Names](k:Nat):qAD Tryz.prog (qI5 k):=qAB tok qAG (by kernel_rfl) (by kernel_rfl) (by kernel_rfl) fun x r h=>(t_w_heldBoolS k x).trans h
def qC0(k:Nat)(x:(List (Int×Int×Int×List (ByteArray)×List (Bool)×Int))×Int×Unit):Option (Int×Unit×Unit×Unit):=
(qAH (fun(rec0:((List (Int×Int×Int×List (ByteArray)×List (Bool)×Int))×Int×Int×Unit)→Option _) (y0:(List (Int×Int×Int×List (ByteArray)×List (Bool)×Int))×Int×Int×Unit) =>
(if(decide (y0.2.2.1<(List.length y0.1:Int)))=true then
(if 0≤y0.2.2.1∧y0.2.2.1<(List.length y0.1:Int) then
(if(!decide ((Ty.rd (t:=yT4) y0.1 y0.2.2.1).1=y0.2.1))=true then
some ((-1:Int),((),((),())))
else
(if 0≤y0.2.2.1∧y0.2.2.1<(List.length y0.1:Int) then
(if(!decide ((Ty.rd (t:=yT4) y0.1 y0.2.2.1).2.1=(wi64 (y0.2.1+(1:Int)))))=true then
some ((-1:Int),((),((),())))
else
(if 0≤y0.2.2.1∧y0.2.2.1<(List.length y0.1:Int) then
(if(!decide ((Ty.rd (t:=yT4) y0.1 y0.2.2.1).2.2.1=(wi64 ((wi64 (y0.2.1+(1:Int)))+(1:Int)))))=true then
some ((-1:Int),((),((),())))
else
(if 0≤y0.2.2.1∧y0.2.2.1<(List.length y0.1:Int) then
((qCd k ((Ty.rd (t:=yT4) y0.1 y0.2.2.1).2.2.2.1,((wi64 ((wi64 ((wi64 (y0.2.1+(1:Int)))+(1:Int)))+(1:Int))),()))).bind fun p1 =>
(if(decide (p1.1<(0:Int)))=true then
some ((-1:Int),((),((),())))
else
(if 0≤y0.2.2.1∧y0.2.2.1<(List.length y0.1:Int) then
((qEE k ((Ty.rd (t:=yT4) y0.1 y0.2.2.1).2.2.2.2.1,(p1.1,()))).bind fun p2 =>
(if(decide (p2.1<(0:Int)))=true then
some ((-1:Int),((),((),())))
else
(if 0≤y0.2.2.1∧y0.2.2.1<(List.length y0.1:Int) then
(if(!decide ((Ty.rd (t:=yT4) y0.1 y0.2.2.1).2.2.2.2.2=p2.1))=true then
some ((-1:Int),((),((),())))
else
(rec0 (y0.1,((wi64 (p2.1+(1:Int))),((wi64 (y0.2.2.1+(1:Int))),())))))
else none)))
else none)))
else none))
else none))
else none))
else none)
else
((fun(z1:Int×Unit) =>
some (z1.1,((),((),())))) (y0.2.1,())))) k (x.1,(x.2.1,((0:Int),()))))
abbrev qFX(k:Nat):qAI:=⟨167,0,(.cons (.il true yT4) yP5),(.int .i64),qC0 k⟩
theorem t_w_heldHeldS(k:Nat)(x):evF qBr k [qGq k,qI5 k] [(0,⟨[0,1,5],(.cons (.il true yT4) (.cons (.int .i64) yP5))⟩,⟨[1],yP5⟩)] Tryz.f167 (.cons (.il true yT4) yP5) (.int .i64) x=qC0 k x:=by kernel_rfl
theorem qI6[Names](k:Nat):qAD Tryz.prog (qFX k):=qAB tokO (qAA (e_w_heldStringS k) (qAA (e_w_heldBoolS k) qAG)) (by kernel_rfl) (by kernel_rfl) (by kernel_rfl) fun x r h=>(t_w_heldHeldS k x).trans h
def qEF(k:Nat)(x:(List (Int×Int×((Int×ByteArray×ByteArray×Int×List (Int)×Int)×Int×ByteArray×ByteArray×Int×List (Int)×Int)×List (Int×Int×Int×List (ByteArray)×List (Bool)×Int)×Int))×Int×Unit):Option (Int×Unit×Unit×Unit):=
(qAH (fun(rec0:((List (Int×Int×((Int×ByteArray×ByteArray×Int×List (Int)×Int)×Int×ByteArray×ByteArray×Int×List (Int)×Int)×List (Int×Int×Int×List (ByteArray)×List (Bool)×Int)×Int))×Int×Int×Unit)→Option _) (y0:(List (Int×Int×((Int×ByteArray×ByteArray×Int×List (Int)×Int)×Int×ByteArray×ByteArray×Int×List (Int)×Int)×List (Int×Int×Int×List (ByteArray)×List (Bool)×Int)×Int))×Int×Int×Unit) =>
(if(decide (y0.2.2.1<(List.length y0.1:Int)))=true then
(if 0≤y0.2.2.1∧y0.2.2.1<(List.length y0.1:Int) then
(if(!decide ((Ty.rd (t:=yT0) y0.1 y0.2.2.1).1=y0.2.1))=true then
some ((-1:Int),((),((),())))
else
(if 0≤y0.2.2.1∧y0.2.2.1<(List.length y0.1:Int) then
(if(!decide ((Ty.rd (t:=yT0) y0.1 y0.2.2.1).2.1=(wi64 (y0.2.1+(1:Int)))))=true then
some ((-1:Int),((),((),())))
else
(if 0≤y0.2.2.1∧y0.2.2.1<(List.length y0.1:Int) then
(if(!decide ((Ty.rd (t:=yT0) y0.1 y0.2.2.1).2.2.1.1.1=(wi64 ((wi64 (y0.2.1+(1:Int)))+(1:Int)))))=true then
some ((-1:Int),((),((),())))
else
(if 0≤y0.2.2.1∧y0.2.2.1<(List.length y0.1:Int) then
((qA4 k ((wi64 ((wi64 ((wi64 (y0.2.1+(1:Int)))+(1:Int)))+(1:Int))),())).bind fun p1 =>
(if(!decide ((Ty.rd (t:=yT0) y0.1 y0.2.2.1).2.2.1.1.2.1=p1.1))=true then
some ((-1:Int),((),((),())))
else
(if 0≤y0.2.2.1∧y0.2.2.1<(List.length y0.1:Int) then
((qA4 k ((wi64 ((wi64 ((wi64 ((wi64 (y0.2.1+(1:Int)))+(1:Int)))+(1:Int)))+(1:Int))),())).bind fun p2 =>
(if(!decide ((Ty.rd (t:=yT0) y0.1 y0.2.2.1).2.2.1.1.2.2.1=p2.1))=true then
some ((-1:Int),((),((),())))
else
(if 0≤y0.2.2.1∧y0.2.2.1<(List.length y0.1:Int) then
(if(!decide ((Ty.rd (t:=yT0) y0.1 y0.2.2.1).2.2.1.1.2.2.2.1=(wi64 ((wi64 ((wi64 ((wi64 ((wi64 (y0.2.1+(1:Int)))+(1:Int)))+(1:Int)))+(1:Int)))+(1:Int)))))=true then
some ((-1:Int),((),((),())))
else
(if 0≤y0.2.2.1∧y0.2.2.1<(List.length y0.1:Int) then
((qCz k ((Ty.rd (t:=yT0) y0.1 y0.2.2.1).2.2.1.1.2.2.2.2.1,((wi64 ((wi64 ((wi64 ((wi64 ((wi64 ((wi64 (y0.2.1+(1:Int)))+(1:Int)))+(1:Int)))+(1:Int)))+(1:Int)))+(1:Int))),()))).bind fun p3 =>
(if(decide (p3.1<(0:Int)))=true then
some ((-1:Int),((),((),())))
else
(if 0≤y0.2.2.1∧y0.2.2.1<(List.length y0.1:Int) then
(if(!decide ((Ty.rd (t:=yT0) y0.1 y0.2.2.1).2.2.1.1.2.2.2.2.2=p3.1))=true then
some ((-1:Int),((),((),())))
else
(if 0≤y0.2.2.1∧y0.2.2.1<(List.length y0.1:Int) then
(if(!decide ((Ty.rd (t:=yT0) y0.1 y0.2.2.1).2.2.1.2.1=(wi64 (p3.1+(1:Int)))))=true then
some ((-1:Int),((),((),())))
else
(if 0≤y0.2.2.1∧y0.2.2.1<(List.length y0.1:Int) then
((qA4 k ((wi64 ((wi64 (p3.1+(1:Int)))+(1:Int))),())).bind fun p4 =>
(if(!decide ((Ty.rd (t:=yT0) y0.1 y0.2.2.1).2.2.1.2.2.1=p4.1))=true then
some ((-1:Int),((),((),())))
else
(if 0≤y0.2.2.1∧y0.2.2.1<(List.length y0.1:Int) then
((qA4 k ((wi64 ((wi64 ((wi64 (p3.1+(1:Int)))+(1:Int)))+(1:Int))),())).bind fun p5 =>
(if(!decide ((Ty.rd (t:=yT0) y0.1 y0.2.2.1).2.2.1.2.2.2.1=p5.1))=true then
some ((-1:Int),((),((),())))
else
(if 0≤y0.2.2.1∧y0.2.2.1<(List.length y0.1:Int) then
(if(!decide ((Ty.rd (t:=yT0) y0.1 y0.2.2.1).2.2.1.2.2.2.2.1=(wi64 ((wi64 ((wi64 ((wi64 (p3.1+(1:Int)))+(1:Int)))+(1:Int)))+(1:Int)))))=true then
some ((-1:Int),((),((),())))
else
(if 0≤y0.2.2.1∧y0.2.2.1<(List.length y0.1:Int) then
((qCz k ((Ty.rd (t:=yT0) y0.1 y0.2.2.1).2.2.1.2.2.2.2.2.1,((wi64 ((wi64 ((wi64 ((wi64 ((wi64 (p3.1+(1:Int)))+(1:Int)))+(1:Int)))+(1:Int)))+(1:Int))),()))).bind fun p6 =>
(if(decide (p6.1<(0:Int)))=true then
some ((-1:Int),((),((),())))
else
(if 0≤y0.2.2.1∧y0.2.2.1<(List.length y0.1:Int) then
(if(!decide ((Ty.rd (t:=yT0) y0.1 y0.2.2.1).2.2.1.2.2.2.2.2.2=p6.1))=true then
some ((-1:Int),((),((),())))
else
(if 0≤y0.2.2.1∧y0.2.2.1<(List.length y0.1:Int) then
((qC0 k ((Ty.rd (t:=yT0) y0.1 y0.2.2.1).2.2.2.1,((wi64 (p6.1+(1:Int))),()))).bind fun p7 =>
(if(decide (p7.1<(0:Int)))=true then
some ((-1:Int),((),((),())))
else
(if 0≤y0.2.2.1∧y0.2.2.1<(List.length y0.1:Int) then
(if(!decide ((Ty.rd (t:=yT0) y0.1 y0.2.2.1).2.2.2.2=p7.1))=true then
some ((-1:Int),((),((),())))
else
(rec0 (y0.1,((wi64 (p7.1+(1:Int))),((wi64 (y0.2.2.1+(1:Int))),())))))
else none)))
else none))
else none)))
else none))
else none)))
else none)))
else none))
else none))
else none)))
else none))
else none)))
else none)))
else none))
else none))
else none))
else none)
else
((fun(z1:Int×Unit) =>
some (z1.1,((),((),())))) (y0.2.1,())))) k (x.1,(x.2.1,((0:Int),()))))
abbrev qI7(k:Nat):qAI:=⟨87,0,(.cons (.il true yT0) yP5),(.int .i64),qEF k⟩
theorem t_w_heldUserS(k:Nat)(x):evF qBr k [qDL k,qGp k,qFX k] [(0,⟨[0,1,5],(.cons (.il true yT0) (.cons (.int .i64) yP5))⟩,⟨[1],yP5⟩)] Tryz.f87 (.cons (.il true yT0) yP5) (.int .i64) x=qEF k x:=by kernel_rfl
theorem e_w_heldUserS[Names](k:Nat):qAD Tryz.prog (qI7 k):=qAB tokO (qAA (qEV k) (qAA (e_w_heldIntS k) (qAA (qI6 k) qAG))) (by kernel_rfl) (by kernel_rfl) (by kernel_rfl) fun x r h=>(t_w_heldUserS k x).trans h
def qDQ(k:Nat)(x:(Int×Int×(List (Int×Int×Int))×(List (Int×Int))×(List ((Int×Int)×Int))×(List (Int×Int×((Int×ByteArray×ByteArray×Int×List (Int)×Int)×Int×ByteArray×ByteArray×Int×List (Int)×Int)×List (Int×Int×Int×List (ByteArray)×List (Bool)×Int)×Int))×Unit)×Int×Unit):Option (Int×Unit×Unit×Unit):=
((qE9 k ((x.1.1,(x.1.2.1,(x.1.2.2.1,(x.1.2.2.2.1,())))),(x.2.1,()))).bind fun p1 =>
(if(decide (p1.1<(0:Int)))=true then
some ((-1:Int),((),((),())))
else
((qDP k (x.1.2.2.2.2.1,(p1.1,()))).bind fun p2 =>
(if(decide (p2.1<(0:Int)))=true then
some ((-1:Int),((),((),())))
else
((qEF k (x.1.2.2.2.2.2.1,(p2.1,()))).bind fun p3 =>
(if(decide (p3.1<(0:Int)))=true then
some ((-1:Int),((),((),())))
else
some (p3.1,((),((),())))))))))
abbrev E_w_heldHub(k:Nat):qAI:=⟨26,0,(.cons yP11 yP5),(.int .i64),qDQ k⟩
theorem t_w_heldHub(k:Nat)(x):evF qBr k [E_w_heldPool k,qHf k,qI7 k] [] Tryz.f26 (.cons yP11 yP5) (.int .i64) x=qDQ k x:=by kernel_rfl
theorem e_w_heldHub[Names](k:Nat):qAD Tryz.prog (E_w_heldHub k):=qAB tokO (qAA (e_w_heldPool k) (qAA (e_w_heldRouteS k) (qAA (e_w_heldUserS k) qAG))) (by kernel_rfl) (by kernel_rfl) (by kernel_rfl) fun x r h=>(t_w_heldHub k x).trans h
def qFA(k:Nat)(x:(Int×ByteArray×ByteArray×Int×List (Int)×Int×Unit)×Int×Unit):Option (Int×(Unit×Unit×Unit×Unit×List (Int)×Unit×Unit)×Unit×Unit):=
((qCx k (x.1.2.2.2.2.1,(x.2.1,()))).bind fun p1 =>
some (p1.1,(((),((),((),((),(p1.2.1,((),())))))),((),()))))
abbrev E_w_markSlot(k:Nat):qAI:=⟨190,0,(.cons (.mag (.cons (.int .i64) (.cons .str (.cons .str (.cons (.int .i64) (.cons (.mut false 3 (.int .i64)) yP5)))))) yP5),(.int .i64),qFA k⟩
theorem t_w_markSlot(k:Nat)(x):evF TTab k [qGn k] [] Tryz.f190 (.cons (.mag (.cons (.int .i64) (.cons .str (.cons .str (.cons (.int .i64) (.cons (.mut false 3 (.int .i64)) yP5)))))) yP5) (.int .i64) x=qFA k x:=by kernel_rfl
theorem e_w_markSlot[Names](k:Nat):qAD Tryz.prog (E_w_markSlot k):=qAB tok (qAA (e_w_markIntS k) qAG) (by kernel_rfl) (by kernel_rfl) (by kernel_rfl) fun x r h=>(t_w_markSlot k x).trans h
def qFY(k:Nat)(x:(Int×ByteArray×ByteArray×Int×List (Int)×Int×Int×ByteArray×ByteArray×Int×List (Int)×Int×Unit)×Int×Unit):Option (Int×(Unit×Unit×Unit×Unit×List (Int)×Unit×Unit×Unit×Unit×Unit×List (Int)×Unit×Unit)×Unit×Unit):=
((qFA k ((x.1.1,(x.1.2.1,(x.1.2.2.1,(x.1.2.2.2.1,(x.1.2.2.2.2.1,(x.1.2.2.2.2.2.1,())))))),(x.2.1,()))).bind fun p1 =>
((qFA k ((x.1.2.2.2.2.2.2.1,(x.1.2.2.2.2.2.2.2.1,(x.1.2.2.2.2.2.2.2.2.1,(x.1.2.2.2.2.2.2.2.2.2.1,(x.1.2.2.2.2.2.2.2.2.2.2.1,(x.1.2.2.2.2.2.2.2.2.2.2.2.1,())))))),(p1.1,()))).bind fun p2 =>
some (p2.1,(((),((),((),((),(p1.2.1.2.2.2.2.1,((),((),((),((),((),(p2.2.1.2.2.2.2.1,((),())))))))))))),((),())))))
abbrev qI8(k:Nat):qAI:=⟨104,0,(.cons (.mag (.cons (.int .i64) (.cons .str (.cons .str (.cons (.int .i64) (.cons (.mut false 3 (.int .i64)) (.cons (.int .i64) (.cons (.int .i64) (.cons .str (.cons .str (.cons (.int .i64) (.cons (.mut false 3 (.int .i64)) yP5)))))))))))) yP5),(.int .i64),qFY k⟩
theorem t_w_markSlots(k:Nat)(x):evF TTab k [E_w_markSlot k] [] Tryz.f104 (.cons (.mag (.cons (.int .i64) (.cons .str (.cons .str (.cons (.int .i64) (.cons (.mut false 3 (.int .i64)) (.cons (.int .i64) (.cons (.int .i64) (.cons .str (.cons .str (.cons (.int .i64) (.cons (.mut false 3 (.int .i64)) yP5)))))))))))) yP5) (.int .i64) x=qFY k x:=by kernel_rfl
theorem e_w_markSlots[Names](k:Nat):qAD Tryz.prog (qI8 k):=qAB tok (qAA (e_w_markSlot k) qAG) (by kernel_rfl) (by kernel_rfl) (by kernel_rfl) fun x r h=>(t_w_markSlots k x).trans h
def qFZ(k:Nat)(x:((List (Int×Int×Int×List (ByteArray)×List (Bool)×Int))×Unit)×Int×Unit):Option (Int×((List (Int×Int×Int×List (ByteArray)×List (Bool)×Int))×Unit)×Unit×Unit):=
((qCy k (x.1.1,(x.2.1,()))).bind fun p1 =>
some (p1.1,((p1.2.1,()),((),()))))
abbrev qI9(k:Nat):qAI:=⟨105,0,(.cons (.mag (.cons (.mut false 229 yT7) .nil)) yP5),(.int .i64),qFZ k⟩
theorem t_w_markShelf(k:Nat)(x):evF qBr k [qFW k] [] Tryz.f105 (.cons (.mag (.cons (.mut false 229 yT7) .nil)) yP5) (.int .i64) x=qFZ k x:=by kernel_rfl
theorem e_w_markShelf[Names](k:Nat):qAD Tryz.prog (qI9 k):=qAB tokO (qAA (qI3 k) qAG) (by kernel_rfl) (by kernel_rfl) (by kernel_rfl) fun x r h=>(t_w_markShelf k x).trans h
def qFB(k:Nat)(x:(Int×Int×Int×ByteArray×ByteArray×Int×List (Int)×Int×Int×ByteArray×ByteArray×Int×List (Int)×Int×(List (Int×Int×Int×List (ByteArray)×List (Bool)×Int))×Int×Unit)×Int×Unit):Option (Int×(Unit×Unit×Unit×Unit×Unit×Unit×List (Int)×Unit×Unit×Unit×Unit×Unit×List (Int)×Unit×(List (Int×Int×Int×List (ByteArray)×List (Bool)×Int))×Unit×Unit)×Unit×Unit):=
((qFY k ((x.1.2.2.1,(x.1.2.2.2.1,(x.1.2.2.2.2.1,(x.1.2.2.2.2.2.1,(x.1.2.2.2.2.2.2.1,(x.1.2.2.2.2.2.2.2.1,(x.1.2.2.2.2.2.2.2.2.1,(x.1.2.2.2.2.2.2.2.2.2.1,(x.1.2.2.2.2.2.2.2.2.2.2.1,(x.1.2.2.2.2.2.2.2.2.2.2.2.1,(x.1.2.2.2.2.2.2.2.2.2.2.2.2.1,(x.1.2.2.2.2.2.2.2.2.2.2.2.2.2.1,())))))))))))),(x.2.1,()))).bind fun p1 =>
((qFZ k ((x.1.2.2.2.2.2.2.2.2.2.2.2.2.2.2.1,()),(p1.1,()))).bind fun p2 =>
some (p2.1,(((),((),((),((),((),((),(p1.2.1.2.2.2.2.1,((),((),((),((),((),(p1.2.1.2.2.2.2.2.2.2.2.2.2.1,((),(p2.2.1.1,((),())))))))))))))))),((),())))))
abbrev E_w_markUser(k:Nat):qAI:=⟨36,0,(.cons (.mag (.cons (.int .i64) (.cons (.int .i64) (.cons (.int .i64) (.cons .str (.cons .str (.cons (.int .i64) (.cons (.mut false 3 (.int .i64)) (.cons (.int .i64) (.cons (.int .i64) (.cons .str (.cons .str (.cons (.int .i64) (.cons (.mut false 3 (.int .i64)) (.cons (.int .i64) (.cons (.mut false 229 yT7) yP5)))))))))))))))) yP5),(.int .i64),qFB k⟩
theorem t_w_markUser(k:Nat)(x):evF qBr k [qI8 k,qI9 k] [] Tryz.f36 (.cons (.mag (.cons (.int .i64) (.cons (.int .i64) (.cons (.int .i64) (.cons .str (.cons .str (.cons (.int .i64) (.cons (.mut false 3 (.int .i64)) (.cons (.int .i64) (.cons (.int .i64) (.cons .str (.cons .str (.cons (.int .i64) (.cons (.mut false 3 (.int .i64)) (.cons (.int .i64) (.cons (.mut false 229 yT7) yP5)))))))))))))))) yP5) (.int .i64) x=qFB k x:=by kernel_rfl
theorem e_w_markUser[Names](k:Nat):qAD Tryz.prog (E_w_markUser k):=qAB tokO (qAA (e_w_markSlots k) (qAA (e_w_markShelf k) qAG)) (by kernel_rfl) (by kernel_rfl) (by kernel_rfl) fun x r h=>(t_w_markUser k x).trans h
def qFC(k:Nat)(x:(Int×ByteArray×ByteArray×Int×List (Int)×Int×Unit)×Int×Unit):Option (Int×Unit×Unit×Unit):=
((qCz k (x.1.2.2.2.2.1,(x.2.1,()))).bind fun p1 =>
(if(decide (p1.1<(0:Int)))=true then
some ((-1:Int),((),((),())))
else
some (p1.1,((),((),())))))
abbrev E_w_heldSlot(k:Nat):qAI:=⟨191,0,(.cons yP15 yP5),(.int .i64),qFC k⟩
theorem t_w_heldSlot(k:Nat)(x):evF TTab k [qGp k] [] Tryz.f191 (.cons yP15 yP5) (.int .i64) x=qFC k x:=by kernel_rfl
theorem e_w_heldSlot[Names](k:Nat):qAD Tryz.prog (E_w_heldSlot k):=qAB tok (qAA (e_w_heldIntS k) qAG) (by kernel_rfl) (by kernel_rfl) (by kernel_rfl) fun x r h=>(t_w_heldSlot k x).trans h
def qFa(k:Nat)(x:(Int×ByteArray×ByteArray×Int×List (Int)×Int×Int×ByteArray×ByteArray×Int×List (Int)×Int×Unit)×Int×Unit):Option (Int×Unit×Unit×Unit):=
((qFC k ((x.1.1,(x.1.2.1,(x.1.2.2.1,(x.1.2.2.2.1,(x.1.2.2.2.2.1,(x.1.2.2.2.2.2.1,())))))),(x.2.1,()))).bind fun p1 =>
(if(decide (p1.1<(0:Int)))=true then
some ((-1:Int),((),((),())))
else
((qFC k ((x.1.2.2.2.2.2.2.1,(x.1.2.2.2.2.2.2.2.1,(x.1.2.2.2.2.2.2.2.2.1,(x.1.2.2.2.2.2.2.2.2.2.1,(x.1.2.2.2.2.2.2.2.2.2.2.1,(x.1.2.2.2.2.2.2.2.2.2.2.2.1,())))))),(p1.1,()))).bind fun p2 =>
(if(decide (p2.1<(0:Int)))=true then
some ((-1:Int),((),((),())))
else
some (p2.1,((),((),())))))))
abbrev qJA(k:Nat):qAI:=⟨108,0,(.cons yP8 yP5),(.int .i64),qFa k⟩
theorem t_w_heldSlots(k:Nat)(x):evF TTab k [E_w_heldSlot k] [] Tryz.f108 (.cons yP8 yP5) (.int .i64) x=qFa k x:=by kernel_rfl
theorem e_w_heldSlots[Names](k:Nat):qAD Tryz.prog (qJA k):=qAB tok (qAA (e_w_heldSlot k) qAG) (by kernel_rfl) (by kernel_rfl) (by kernel_rfl) fun x r h=>(t_w_heldSlots k x).trans h
def qFb(k:Nat)(x:((List (Int×Int×Int×List (ByteArray)×List (Bool)×Int))×Unit)×Int×Unit):Option (Int×Unit×Unit×Unit):=
((qC0 k (x.1.1,(x.2.1,()))).bind fun p1 =>
(if(decide (p1.1<(0:Int)))=true then
some ((-1:Int),((),((),())))
else
some (p1.1,((),((),())))))
abbrev qJB(k:Nat):qAI:=⟨109,0,(.cons (.agg (.cons (.il true yT4) .nil)) yP5),(.int .i64),qFb k⟩
theorem t_w_heldShelf(k:Nat)(x):evF qBr k [qFX k] [] Tryz.f109 (.cons (.agg (.cons (.il true yT4) .nil)) yP5) (.int .i64) x=qFb k x:=by kernel_rfl
theorem e_w_heldShelf[Names](k:Nat):qAD Tryz.prog (qJB k):=qAB tokO (qAA (qI6 k) qAG) (by kernel_rfl) (by kernel_rfl) (by kernel_rfl) fun x r h=>(t_w_heldShelf k x).trans h
def qDo(k:Nat)(x:(Int×Int×Int×ByteArray×ByteArray×Int×List (Int)×Int×Int×ByteArray×ByteArray×Int×List (Int)×Int×(List (Int×Int×Int×List (ByteArray)×List (Bool)×Int))×Int×Unit)×Int×Unit):Option (Int×Unit×Unit×Unit):=
((qFa k ((x.1.2.2.1,(x.1.2.2.2.1,(x.1.2.2.2.2.1,(x.1.2.2.2.2.2.1,(x.1.2.2.2.2.2.2.1,(x.1.2.2.2.2.2.2.2.1,(x.1.2.2.2.2.2.2.2.2.1,(x.1.2.2.2.2.2.2.2.2.2.1,(x.1.2.2.2.2.2.2.2.2.2.2.1,(x.1.2.2.2.2.2.2.2.2.2.2.2.1,(x.1.2.2.2.2.2.2.2.2.2.2.2.2.1,(x.1.2.2.2.2.2.2.2.2.2.2.2.2.2.1,())))))))))))),(x.2.1,()))).bind fun p1 =>
(if(decide (p1.1<(0:Int)))=true then
some ((-1:Int),((),((),())))
else
((qFb k ((x.1.2.2.2.2.2.2.2.2.2.2.2.2.2.2.1,()),(p1.1,()))).bind fun p2 =>
(if(decide (p2.1<(0:Int)))=true then
some ((-1:Int),((),((),())))
else
some (p2.1,((),((),())))))))
abbrev E_w_heldUser(k:Nat):qAI:=⟨38,0,(.cons yP9 yP5),(.int .i64),qDo k⟩
theorem t_w_heldUser(k:Nat)(x):evF qBr k [qJA k,qJB k] [] Tryz.f38 (.cons yP9 yP5) (.int .i64) x=qDo k x:=by kernel_rfl
theorem e_w_heldUser[Names](k:Nat):qAD Tryz.prog (E_w_heldUser k):=qAB tokO (qAA (e_w_heldSlots k) (qAA (e_w_heldShelf k) qAG)) (by kernel_rfl) (by kernel_rfl) (by kernel_rfl) fun x r h=>(t_w_heldUser k x).trans h
def w_FnExactJoin(k:Nat)(x:(Int×Int×(List (Int×Int×Int))×(List (Int×Int))×(List ((Int×Int)×Int))×(List (Int×Int×((Int×ByteArray×ByteArray×Int×List (Int)×Int)×Int×ByteArray×ByteArray×Int×List (Int)×Int)×List (Int×Int×Int×List (ByteArray)×List (Bool)×Int)×Int))×Unit)×Int×ByteArray×Int×Unit):Option (Bool×Unit×Unit×Unit×Unit×Unit):=
(if(decide ((1048576:Int)<(ByteArray.size x.2.2.1:Int)))=true then
some (true,((),((),((),((),())))))
else
((w_szHub k ((x.1.1,(x.1.2.1,(x.1.2.2.1,(x.1.2.2.2.1,(x.1.2.2.2.2.1,(x.1.2.2.2.2.2.1,())))))),((1048576:Int),()))).bind fun p1 =>
(if(decide (p1.1<(0:Int)))=true then
some (true,((),((),((),((),())))))
else
((qGc k ((x.1.1,(x.1.2.1,(x.1.2.2.1,(x.1.2.2.2.1,(x.1.2.2.2.2.1,(x.1.2.2.2.2.2.1,())))))),())).bind fun p2 =>
((s_Join k ((p2.1.1,(p2.1.2.1,(p2.1.2.2.1,(p2.1.2.2.2.1,(p2.1.2.2.2.2.1,(p2.1.2.2.2.2.2.1,())))))),(x.2.1,(x.2.2.1,(x.2.2.2.1,()))))).bind fun p3 =>
((qGc k ((x.1.1,(x.1.2.1,(x.1.2.2.1,(x.1.2.2.2.1,(x.1.2.2.2.2.1,(x.1.2.2.2.2.2.1,())))))),())).bind fun p4 =>
((i_Join k ((p4.1.1,(p4.1.2.1,(p4.1.2.2.1,(p4.1.2.2.2.1,(p4.1.2.2.2.2.1,(p4.1.2.2.2.2.2.1,())))))),(x.2.1,(x.2.2.1,(x.2.2.2.1,()))))).bind fun p5 =>
((qGm k ((p5.1.1.1,(p5.1.1.2.1,(p5.1.1.2.2.1,(p5.1.1.2.2.2.1,(p5.1.1.2.2.2.2.1,(p5.1.1.2.2.2.2.2.1,())))))),((p3.1.1.1,(p3.1.1.2.1,(p3.1.1.2.2.1,(p3.1.1.2.2.2.1,(p3.1.1.2.2.2.2.1,(p3.1.1.2.2.2.2.2.1,())))))),()))).bind fun p6 =>
(if(!p6.1)=false then
((qEU k (p5.1.2.1,(p3.1.2.1,()))).bind fun p7 =>
(if(!p7.1)=false then
(if(!decide (p5.1.2.2.1=p3.1.2.2.1))=true then
some (false,((),((),((),((),())))))
else
((qGc k ((x.1.1,(x.1.2.1,(x.1.2.2.1,(x.1.2.2.2.1,(x.1.2.2.2.2.1,(x.1.2.2.2.2.2.1,())))))),())).bind fun p8 =>
((qGm k ((p4.1.1,(p4.1.2.1,(p4.1.2.2.1,(p4.1.2.2.2.1,(p4.1.2.2.2.2.1,(p4.1.2.2.2.2.2.1,())))))),((p8.1.1,(p8.1.2.1,(p8.1.2.2.1,(p8.1.2.2.2.1,(p8.1.2.2.2.2.1,(p8.1.2.2.2.2.2.1,())))))),()))).bind fun p9 =>
(if(!p9.1)=true then
some (false,((),((),((),((),())))))
else
((qDM k ((p4.1.1,(p4.1.2.1,(p4.1.2.2.1,(p4.1.2.2.2.1,(p4.1.2.2.2.2.1,(p4.1.2.2.2.2.2.1,())))))),((1:Int),()))).bind fun p10 =>
(if(decide (p10.1<(0:Int)))=false then
((qGm k ((p5.1.1.1,(p5.1.1.2.1,(p5.1.1.2.2.1,(p5.1.1.2.2.2.1,(p5.1.1.2.2.2.2.1,(p5.1.1.2.2.2.2.2.1,())))))),((p3.1.1.1,(p3.1.1.2.1,(p3.1.1.2.2.1,(p3.1.1.2.2.2.1,(p3.1.1.2.2.2.2.1,(p3.1.1.2.2.2.2.2.1,())))))),()))).bind fun p11 =>
(if(!p11.1)=false then
((qEU k (p5.1.2.1,(p3.1.2.1,()))).bind fun p12 =>
(if(!p12.1)=false then
(if(!decide (p5.1.2.2.1=p3.1.2.2.1))=true then
some (false,((),((),((),((),())))))
else
((qDM k ((p5.1.1.1,(p5.1.1.2.1,(p5.1.1.2.2.1,(p5.1.1.2.2.2.1,(p5.1.1.2.2.2.2.1,(p5.1.1.2.2.2.2.2.1,())))))),((1:Int),()))).bind fun p13 =>
((qFB k (p5.1.2.1,(p13.1,()))).bind fun p14 =>
((qDQ k ((p5.1.1.1,(p5.1.1.2.1,(p13.2.1.2.2.1,(p13.2.1.2.2.2.1,(p13.2.1.2.2.2.2.1,(p13.2.1.2.2.2.2.2.1,())))))),((1:Int),()))).bind fun p15 =>
(if(decide (p15.1<(0:Int)))=true then
some (false,((),((),((),((),())))))
else
((qDo k ((p5.1.2.1.1,(p5.1.2.1.2.1,(p5.1.2.1.2.2.1,(p5.1.2.1.2.2.2.1,(p5.1.2.1.2.2.2.2.1,(p5.1.2.1.2.2.2.2.2.1,(p14.2.1.2.2.2.2.2.2.1,(p5.1.2.1.2.2.2.2.2.2.2.1,(p5.1.2.1.2.2.2.2.2.2.2.2.1,(p5.1.2.1.2.2.2.2.2.2.2.2.2.1,(p5.1.2.1.2.2.2.2.2.2.2.2.2.2.1,(p5.1.2.1.2.2.2.2.2.2.2.2.2.2.2.1,(p14.2.1.2.2.2.2.2.2.2.2.2.2.2.2.1,(p5.1.2.1.2.2.2.2.2.2.2.2.2.2.2.2.2.1,(p14.2.1.2.2.2.2.2.2.2.2.2.2.2.2.2.2.1,(p5.1.2.1.2.2.2.2.2.2.2.2.2.2.2.2.2.2.2.1,())))))))))))))))),(p15.1,()))).bind fun p16 =>
(if(decide (p16.1<(0:Int)))=true then
some (false,((),((),((),((),())))))
else
(if(!decide (p16.1=p14.1))=true then
some (false,((),((),((),((),())))))
else
((qGc k ((x.1.1,(x.1.2.1,(x.1.2.2.1,(x.1.2.2.2.1,(x.1.2.2.2.2.1,(x.1.2.2.2.2.2.1,())))))),())).bind fun p17 =>
((i_Join k ((p17.1.1,(p17.1.2.1,(p17.1.2.2.1,(p17.1.2.2.2.1,(p17.1.2.2.2.2.1,(p17.1.2.2.2.2.2.1,())))))),(x.2.1,(x.2.2.1,(x.2.2.2.1,()))))).bind fun p18 =>
((qGm k ((p18.1.1.1,(p18.1.1.2.1,(p18.1.1.2.2.1,(p18.1.1.2.2.2.1,(p18.1.1.2.2.2.2.1,(p18.1.1.2.2.2.2.2.1,())))))),((p3.1.1.1,(p3.1.1.2.1,(p3.1.1.2.2.1,(p3.1.1.2.2.2.1,(p3.1.1.2.2.2.2.1,(p3.1.1.2.2.2.2.2.1,())))))),()))).bind fun p19 =>
(if(!p19.1)=false then
((qEU k (p18.1.2.1,(p3.1.2.1,()))).bind fun p20 =>
(if(!p20.1)=false then
(if(!decide (p18.1.2.2.1=p3.1.2.2.1))=true then
some (false,((),((),((),((),())))))
else
((qDQ k ((p5.1.1.1,(p5.1.1.2.1,(p13.2.1.2.2.1,(p13.2.1.2.2.2.1,(p13.2.1.2.2.2.2.1,(p13.2.1.2.2.2.2.2.1,())))))),((1:Int),()))).bind fun p21 =>
(if(decide (p21.1<(0:Int)))=true then
some (false,((),((),((),((),())))))
else
((qDo k ((p5.1.2.1.1,(p5.1.2.1.2.1,(p5.1.2.1.2.2.1,(p5.1.2.1.2.2.2.1,(p5.1.2.1.2.2.2.2.1,(p5.1.2.1.2.2.2.2.2.1,(p14.2.1.2.2.2.2.2.2.1,(p5.1.2.1.2.2.2.2.2.2.2.1,(p5.1.2.1.2.2.2.2.2.2.2.2.1,(p5.1.2.1.2.2.2.2.2.2.2.2.2.1,(p5.1.2.1.2.2.2.2.2.2.2.2.2.2.1,(p5.1.2.1.2.2.2.2.2.2.2.2.2.2.2.1,(p14.2.1.2.2.2.2.2.2.2.2.2.2.2.2.1,(p5.1.2.1.2.2.2.2.2.2.2.2.2.2.2.2.2.1,(p14.2.1.2.2.2.2.2.2.2.2.2.2.2.2.2.2.1,(p5.1.2.1.2.2.2.2.2.2.2.2.2.2.2.2.2.2.2.1,())))))))))))))))),(p21.1,()))).bind fun p22 =>
(if(decide (p22.1<(0:Int)))=true then
some (false,((),((),((),((),())))))
else
(if(!decide (p22.1=p14.1))=true then
some (false,((),((),((),((),())))))
else
some (true,((),((),((),((),())))))))))))
else
some (false,((),((),((),((),())))))))
else
some (false,((),((),((),((),())))))))))))))))))
else
some (false,((),((),((),((),())))))))
else
some (false,((),((),((),((),())))))))
else
some (false,((),((),((),((),())))))))))))
else
some (false,((),((),((),((),())))))))
else
some (false,((),((),((),((),()))))))))))))))
abbrev E_w_FnExactJoin(k:Nat):qAI:=⟨8,0,(.cons yP11 (.cons (.int .i64) (.cons .str yP5))),.bool,w_FnExactJoin k⟩
theorem t_w_FnExactJoin(k:Nat)(x):evF qBr k [E_i_Join k,E_s_Join k,E_w_szHub k,E_w_toHub k,E_w_eqHub k,E_w_markHub k,E_w_heldHub k,E_w_eqUser k,E_w_markUser k,E_w_heldUser k] [] Tryz.f8 (.cons yP11 (.cons (.int .i64) (.cons .str yP5))) .bool x=w_FnExactJoin k x:=by kernel_rfl
theorem e_w_FnExactJoin[Names](k:Nat):qAD Tryz.prog (E_w_FnExactJoin k):=qAB tokO (qAA (e_i_Join k) (qAA (e_s_Join k) (qAA (e_w_szHub k) (qAA (e_w_toHub k) (qAA (e_w_eqHub k) (qAA (e_w_markHub k) (qAA (e_w_heldHub k) (qAA (e_w_eqUser k) (qAA (e_w_markUser k) (qAA (e_w_heldUser k) qAG)))))))))) (by kernel_rfl) (by kernel_rfl) (by kernel_rfl) fun x r h=>(t_w_FnExactJoin k x).trans h
end Go.Proofs.YtnfllchbpechlaaGreat
