import Derived.Test.YtnfllchbpechlaaGreatFun1
/- What functions of the program compute, as plain functions, and that their calls do so (part 2). Conditions: the plain function answers. -/
set_option linter.unusedVariables false
namespace Go.Proofs.YtnfllchbpechlaaGreat
open Go Go.Eng Go.Proofs
def qER(k:Nat)(x:(Int×Int×Unit)×Int×Unit):Option (Bool×Unit×Unit×Unit):=
((qEs k ((x.1.1,(x.1.2.1,())),(x.2.1,()))).bind fun p1 =>
(if p1.1=true then
(if(!decide (x.2.1=x.1.1))=true then
((qCu k (x.1.2.1,())).bind fun p2 =>
some ((!decide (x.2.1=(qAX .or .i64 x.1.1 p2.1))),((),((),()))))
else
some (false,((),((),()))))
else
some (false,((),((),())))))
abbrev qHD(k:Nat):qAI:=⟨213,0,(.cons yP22 yP5),.bool,qER k⟩
theorem t_i_isHost(k:Nat)(x):evF TTab k [E_i_InPrefix k,qEP k] [] Tryz.f213 (.cons yP22 yP5) .bool x=qER k x:=by kernel_rfl
theorem e_i_isHost[Names](k:Nat):qAD Tryz.prog (qHD k):=qAB tok (qAA (e_i_InPrefix k) (qAA (qGH k) qAG)) (by kernel_rfl) (by kernel_rfl) (by kernel_rfl) fun x r h=>(t_i_isHost k x).trans h
def qBh(k:Nat)(x:(Int×Int×(List (Int×Int×Int))×(List (Int×Int))×Unit)×Int×Unit):Option (Int×Unit×Unit×Unit):=
(qAH (fun(rec0:(Int×(List (Int×Int))×Int×Int×Unit)→Option _) (y0:Int×(List (Int×Int))×Int×Int×Unit) =>
(if(decide (y0.2.2.2.1<y0.2.2.1))=true then
(if 0≤y0.2.2.2.1∧y0.2.2.2.1<(List.length y0.2.1:Int) then
(if(decide ((Ty.rd (t:=yT3) y0.2.1 y0.2.2.2.1).2=y0.1))=true then
some ((Ty.rd (t:=yT3) y0.2.1 y0.2.2.2.1).1,((),((),())))
else
(rec0 (y0.1,(y0.2.1,(y0.2.2.1,((wi64 (y0.2.2.2.1+(1:Int))),()))))))
else none)
else
((fun(z1:Unit) =>
some ((0:Int),((),((),())))) ()))) k (x.2.1,(x.1.2.2.2.1,((List.length x.1.2.2.2.1:Int),((0:Int),())))))
abbrev qES(k:Nat):qAI:=⟨214,0,(.cons (.agg yP6) yP5),(.int .i64),qBh k⟩
theorem t_i_fixedFor(k:Nat)(x):evF TTab k [] [(0,⟨[1,8,9,10],(.cons (.int .i64) (.cons (.il true yT3) (.cons (.int .i64) yP5)))⟩,⟨[],.nil⟩)] Tryz.f214 (.cons (.agg yP6) yP5) (.int .i64) x=qBh k x:=by kernel_rfl
theorem qGJ[Names](k:Nat):qAD Tryz.prog (qES k):=qAB tok qAG (by kernel_rfl) (by kernel_rfl) (by kernel_rfl) fun x r h=>(t_i_fixedFor k x).trans h
def qGK(k:Nat)(x:(Int×Int×(List (Int×Int×Int))×(List (Int×Int))×Unit)×Unit):Option (Bool×Unit×Unit):=
(qAH (fun(rec0:((Int×Int×(List (Int×Int×Int))×(List (Int×Int))×Unit)×(List (Int×Int))×Int×Int×Unit)→Option _) (y0:(Int×Int×(List (Int×Int×Int))×(List (Int×Int))×Unit)×(List (Int×Int))×Int×Int×Unit) =>
(if(decide (y0.2.2.2.1<y0.2.2.1))=true then
(if 0≤y0.2.2.2.1∧y0.2.2.2.1<(List.length y0.2.1:Int) then
((qId k ((Ty.rd (t:=yT3) y0.2.1 y0.2.2.2.1).1,())).bind fun p1 =>
(if(!p1.1)=false then
((qER k ((y0.1.1,(y0.1.2.1,())),((Ty.rd (t:=yT3) y0.2.1 y0.2.2.2.1).2,()))).bind fun p2 =>
(if(!p2.1)=false then
(if(decide ((0:Int)<y0.2.2.2.1))=true then
(if 0≤(wi64 (y0.2.2.2.1-(1:Int)))∧(wi64 (y0.2.2.2.1-(1:Int)))<(List.length y0.1.2.2.2.1:Int) then
(if(decide ((Ty.rd (t:=yT3) y0.2.1 y0.2.2.2.1).1≤(Ty.rd (t:=yT3) y0.1.2.2.2.1 (wi64 (y0.2.2.2.1-(1:Int)))).1))=false then
((qBh k ((y0.1.1,(y0.1.2.1,(y0.1.2.2.1,(y0.1.2.2.2.1,())))),((Ty.rd (t:=yT3) y0.2.1 y0.2.2.2.1).2,()))).bind fun p3 =>
(if(!decide (p3.1=(Ty.rd (t:=yT3) y0.2.1 y0.2.2.2.1).1))=true then
some (false,((),()))
else
(rec0 ((y0.1.1,(y0.1.2.1,(y0.1.2.2.1,(y0.1.2.2.2.1,())))),(y0.2.1,(y0.2.2.1,((wi64 (y0.2.2.2.1+(1:Int))),())))))))
else
some (false,((),())))
else none)
else
((qBh k ((y0.1.1,(y0.1.2.1,(y0.1.2.2.1,(y0.1.2.2.2.1,())))),((Ty.rd (t:=yT3) y0.2.1 y0.2.2.2.1).2,()))).bind fun p4 =>
(if(!decide (p4.1=(Ty.rd (t:=yT3) y0.2.1 y0.2.2.2.1).1))=true then
some (false,((),()))
else
(rec0 ((y0.1.1,(y0.1.2.1,(y0.1.2.2.1,(y0.1.2.2.2.1,())))),(y0.2.1,(y0.2.2.1,((wi64 (y0.2.2.2.1+(1:Int))),()))))))))
else
some (false,((),()))))
else
some (false,((),()))))
else none)
else
((fun(z1:(Int×Int×(List (Int×Int×Int))×(List (Int×Int))×Unit)×Unit) =>
some ((decide ((List.length z1.1.2.2.2.1:Int)≤(4:Int))),((),()))) ((y0.1.1,(y0.1.2.1,(y0.1.2.2.1,(y0.1.2.2.2.1,())))),())))) k ((x.1.1,(x.1.2.1,(x.1.2.2.1,(x.1.2.2.2.1,())))),(x.1.2.2.2.1,((List.length x.1.2.2.2.1:Int),((0:Int),())))))
abbrev E_i_fixesOk(k:Nat):qAI:=⟨212,0,(.cons (.agg yP6) .nil),.bool,qGK k⟩
theorem t_i_fixesOk(k:Nat)(x):evF TTab k [qIe k,qHD k,qES k] [(0,⟨[1,6,7,8],(.cons (.ptr 0 yP6) (.cons (.il true yT3) (.cons (.int .i64) yP5)))⟩,⟨[1],(.cons (.ptr 0 yP6) .nil)⟩)] Tryz.f212 (.cons (.agg yP6) .nil) .bool x=qGK k x:=by kernel_rfl
theorem e_i_fixesOk[Names](k:Nat):qAD Tryz.prog (E_i_fixesOk k):=qAB tok (qAA (e_i_isId k) (qAA (e_i_isHost k) (qAA (qGJ k) qAG))) (by kernel_rfl) (by kernel_rfl) (by kernel_rfl) fun x r h=>(t_i_fixesOk k x).trans h
def qIh(k:Nat)(x:(Int×Int×(List (Int×Int×Int))×(List (Int×Int))×Unit)×Unit):Option (Bool×Unit×Unit):=
((qCv k ((x.1.1,(x.1.2.1,())),())).bind fun p1 =>
(if(!p1.1)=false then
((qBK k (x.1.2.1,((24:Int),((30:Int),())))).bind fun p2 =>
(if(!p2.1)=false then
((qGK k ((x.1.1,(x.1.2.1,(x.1.2.2.1,(x.1.2.2.2.1,())))),())).bind fun p3 =>
(if(!p3.1)=false then
(if(decide ((6:Int)<(List.length x.1.2.2.1:Int)))=true then
some (false,((),()))
else
(qAH (fun(rec0:((Int×Int×(List (Int×Int×Int))×(List (Int×Int))×Unit)×(List (Int×Int×Int))×Int×Int×Unit)→Option _) (y0:(Int×Int×(List (Int×Int×Int))×(List (Int×Int))×Unit)×(List (Int×Int×Int))×Int×Int×Unit) =>
(if(decide (y0.2.2.2.1<y0.2.2.1))=true then
(if 0≤y0.2.2.2.1∧y0.2.2.2.1<(List.length y0.2.1:Int) then
(if(decide ((0:Int)<y0.2.2.2.1))=true then
(if 0≤(wi64 (y0.2.2.2.1-(1:Int)))∧(wi64 (y0.2.2.2.1-(1:Int)))<(List.length y0.1.2.2.1:Int) then
(if(decide ((Ty.rd (t:=(.pair (.int .i64) yT3)) y0.2.1 y0.2.2.2.1).1≤(Ty.rd (t:=(.pair (.int .i64) yT3)) y0.1.2.2.1 (wi64 (y0.2.2.2.1-(1:Int)))).1))=false then
((qER k ((y0.1.1,(y0.1.2.1,())),((Ty.rd (t:=(.pair (.int .i64) yT3)) y0.2.1 y0.2.2.2.1).1,()))).bind fun p4 =>
(if(!p4.1)=false then
((qId k ((Ty.rd (t:=(.pair (.int .i64) yT3)) y0.2.1 y0.2.2.2.1).2.1,())).bind fun p5 =>
(if(!p5.1)=false then
((qBK k ((Ty.rd (t:=(.pair (.int .i64) yT3)) y0.2.1 y0.2.2.2.1).2.2,((0:Int),((1000000000:Int),())))).bind fun p6 =>
(if(!p6.1)=true then
some (false,((),()))
else
((qBh k ((y0.1.1,(y0.1.2.1,(y0.1.2.2.1,(y0.1.2.2.2.1,())))),((Ty.rd (t:=(.pair (.int .i64) yT3)) y0.2.1 y0.2.2.2.1).1,()))).bind fun p12 =>
((qD4 k ((y0.1.1,(y0.1.2.1,(y0.1.2.2.1,(y0.1.2.2.2.1,())))),((Ty.rd (t:=(.pair (.int .i64) yT3)) y0.2.1 y0.2.2.2.1).2.1,()))).bind fun p13 =>
(if(!decide (p13.1=y0.2.2.2.1))=false then
(if(!decide (p12.1=(0:Int)))=true then
(if(!decide (p12.1=(Ty.rd (t:=(.pair (.int .i64) yT3)) y0.2.1 y0.2.2.2.1).2.1))=true then
some (false,((),()))
else
(rec0 ((y0.1.1,(y0.1.2.1,(y0.1.2.2.1,(y0.1.2.2.2.1,())))),(y0.2.1,(y0.2.2.1,((wi64 (y0.2.2.2.1+(1:Int))),()))))))
else
(rec0 ((y0.1.1,(y0.1.2.1,(y0.1.2.2.1,(y0.1.2.2.2.1,())))),(y0.2.1,(y0.2.2.1,((wi64 (y0.2.2.2.1+(1:Int))),()))))))
else
some (false,((),())))))))
else
some (false,((),()))))
else
some (false,((),()))))
else
some (false,((),())))
else none)
else
((qER k ((y0.1.1,(y0.1.2.1,())),((Ty.rd (t:=(.pair (.int .i64) yT3)) y0.2.1 y0.2.2.2.1).1,()))).bind fun p7 =>
(if(!p7.1)=false then
((qId k ((Ty.rd (t:=(.pair (.int .i64) yT3)) y0.2.1 y0.2.2.2.1).2.1,())).bind fun p8 =>
(if(!p8.1)=false then
((qBK k ((Ty.rd (t:=(.pair (.int .i64) yT3)) y0.2.1 y0.2.2.2.1).2.2,((0:Int),((1000000000:Int),())))).bind fun p9 =>
(if(!p9.1)=true then
some (false,((),()))
else
((qBh k ((y0.1.1,(y0.1.2.1,(y0.1.2.2.1,(y0.1.2.2.2.1,())))),((Ty.rd (t:=(.pair (.int .i64) yT3)) y0.2.1 y0.2.2.2.1).1,()))).bind fun p14 =>
((qD4 k ((y0.1.1,(y0.1.2.1,(y0.1.2.2.1,(y0.1.2.2.2.1,())))),((Ty.rd (t:=(.pair (.int .i64) yT3)) y0.2.1 y0.2.2.2.1).2.1,()))).bind fun p15 =>
(if(!decide (p15.1=y0.2.2.2.1))=false then
(if(!decide (p14.1=(0:Int)))=true then
(if(!decide (p14.1=(Ty.rd (t:=(.pair (.int .i64) yT3)) y0.2.1 y0.2.2.2.1).2.1))=true then
some (false,((),()))
else
(rec0 ((y0.1.1,(y0.1.2.1,(y0.1.2.2.1,(y0.1.2.2.2.1,())))),(y0.2.1,(y0.2.2.1,((wi64 (y0.2.2.2.1+(1:Int))),()))))))
else
(rec0 ((y0.1.1,(y0.1.2.1,(y0.1.2.2.1,(y0.1.2.2.2.1,())))),(y0.2.1,(y0.2.2.1,((wi64 (y0.2.2.2.1+(1:Int))),()))))))
else
some (false,((),())))))))
else
some (false,((),()))))
else
some (false,((),())))))
else none)
else
((fun(z1:Unit) =>
some (true,((),()))) ()))) k ((x.1.1,(x.1.2.1,(x.1.2.2.1,(x.1.2.2.2.1,())))),(x.1.2.2.1,((List.length x.1.2.2.1:Int),((0:Int),()))))))
else
some (false,((),()))))
else
some (false,((),()))))
else
some (false,((),()))))
abbrev E_i_PoolOk(k:Nat):qAI:=⟨124,0,(.cons (.agg yP6) .nil),.bool,qIh k⟩
theorem t_i_PoolOk(k:Nat)(x):evF TTab k [qBV k,qIe k,qHx k,qEQ k,E_i_fixesOk k,qHD k,qES k] [(0,⟨[1,29,30,31],(.cons (.ptr 0 yP6) (.cons yP28 (.cons (.int .i64) yP5)))⟩,⟨[],.nil⟩)] Tryz.f124 (.cons (.agg yP6) .nil) .bool x=qIh k x:=by kernel_rfl
theorem e_i_PoolOk[Names](k:Nat):qAD Tryz.prog (E_i_PoolOk k):=qAB tok (qAA (qBg k) (qAA (e_i_isId k) (qAA (e_i_leaseOf k) (qAA (qGI k) (qAA (e_i_fixesOk k) (qAA (e_i_isHost k) (qAA (qGJ k) qAG))))))) (by kernel_rfl) (by kernel_rfl) (by kernel_rfl) fun x r h=>(t_i_PoolOk k x).trans h
def qDk(k:Nat)(x:(Int×Int×(List (Int×Int×Int))×(List (Int×Int))×Unit)×Int×Unit):Option (Int×Unit×Unit×Unit):=
(qAH (fun(rec0:(Int×(List (Int×Int×Int))×Int×Int×Unit)→Option _) (y0:Int×(List (Int×Int×Int))×Int×Int×Unit) =>
(if(decide (y0.2.2.2.1<y0.2.2.1))=true then
(if 0≤y0.2.2.2.1∧y0.2.2.2.1<(List.length y0.2.1:Int) then
(if(decide ((Ty.rd (t:=(.pair (.int .i64) yT3)) y0.2.1 y0.2.2.2.1).1=y0.1))=true then
some ((Ty.rd (t:=(.pair (.int .i64) yT3)) y0.2.1 y0.2.2.2.1).2.1,((),((),())))
else
(rec0 (y0.1,(y0.2.1,(y0.2.2.1,((wi64 (y0.2.2.2.1+(1:Int))),()))))))
else none)
else
((fun(z1:Unit) =>
some ((0:Int),((),((),())))) ()))) k (x.2.1,(x.1.2.2.1,((List.length x.1.2.2.1:Int),((0:Int),())))))
abbrev E_i_HolderOf(k:Nat):qAI:=⟨219,0,(.cons (.agg yP6) yP5),(.int .i64),qDk k⟩
theorem t_i_HolderOf(k:Nat)(x):evF TTab k [] [(0,⟨[1,8,9,10],(.cons (.int .i64) (.cons yP28 (.cons (.int .i64) yP5)))⟩,⟨[],.nil⟩)] Tryz.f219 (.cons (.agg yP6) yP5) (.int .i64) x=qDk k x:=by kernel_rfl
theorem e_i_HolderOf[Names](k:Nat):qAD Tryz.prog (E_i_HolderOf k):=qAB tok qAG (by kernel_rfl) (by kernel_rfl) (by kernel_rfl) fun x r h=>(t_i_HolderOf k x).trans h
def qGL(k:Nat)(x:(Int×Int×(List (Int×Int×Int))×(List (Int×Int))×Unit)×Int×Unit):Option (Int×Unit×Unit×Unit):=
(qAH (fun(rec0:(Int×(Int×Int×(List (Int×Int×Int))×(List (Int×Int))×Unit)×(List (Int×Int))×Int×Int×Unit)→Option _) (y0:Int×(Int×Int×(List (Int×Int×Int))×(List (Int×Int))×Unit)×(List (Int×Int))×Int×Int×Unit) =>
(if(decide (y0.2.2.2.2.1<y0.2.2.2.1))=true then
(if 0≤y0.2.2.2.2.1∧y0.2.2.2.2.1<(List.length y0.2.2.1:Int) then
(if(decide ((Ty.rd (t:=yT3) y0.2.2.1 y0.2.2.2.2.1).1=y0.1))=true then
some ((Ty.rd (t:=yT3) y0.2.2.1 y0.2.2.2.2.1).2,((),((),())))
else
(rec0 (y0.1,((y0.2.1.1,(y0.2.1.2.1,(y0.2.1.2.2.1,(y0.2.1.2.2.2.1,())))),(y0.2.2.1,(y0.2.2.2.1,((wi64 (y0.2.2.2.2.1+(1:Int))),())))))))
else none)
else
((fun(z1:(Int×Int×(List (Int×Int×Int))×(List (Int×Int))×Unit)×Unit) =>
(qAH (fun(rec2:((Int×Int×(List (Int×Int×Int))×(List (Int×Int))×Unit)×Int×Unit)→Option _) (y2:(Int×Int×(List (Int×Int×Int))×(List (Int×Int))×Unit)×Int×Unit) =>
((qER k ((y2.1.1,(y2.1.2.1,())),(y2.2.1,()))).bind fun p1 =>
(if p1.1=true then
((qDk k ((y2.1.1,(y2.1.2.1,(y2.1.2.2.1,(y2.1.2.2.2.1,())))),(y2.2.1,()))).bind fun p2 =>
(if(decide (p2.1=(0:Int)))=true then
((qBh k ((y2.1.1,(y2.1.2.1,(y2.1.2.2.1,(y2.1.2.2.2.1,())))),(y2.2.1,()))).bind fun p3 =>
(if(decide (p3.1=(0:Int)))=true then
some (y2.2.1,((),((),())))
else
(rec2 ((y2.1.1,(y2.1.2.1,(y2.1.2.2.1,(y2.1.2.2.2.1,())))),((wi64 (y2.2.1+(1:Int))),())))))
else
(rec2 ((y2.1.1,(y2.1.2.1,(y2.1.2.2.1,(y2.1.2.2.2.1,())))),((wi64 (y2.2.1+(1:Int))),())))))
else
((fun(z2:Unit) =>
some ((-1:Int),((),((),())))) ())))) k ((z1.1.1,(z1.1.2.1,(z1.1.2.2.1,(z1.1.2.2.2.1,())))),((wi64 (z1.1.1+(1:Int))),())))) ((y0.2.1.1,(y0.2.1.2.1,(y0.2.1.2.2.1,(y0.2.1.2.2.2.1,())))),())))) k (x.2.1,((x.1.1,(x.1.2.1,(x.1.2.2.1,(x.1.2.2.2.1,())))),(x.1.2.2.2.1,((List.length x.1.2.2.2.1:Int),((0:Int),()))))))
abbrev E_i_addrFor(k:Nat):qAI:=⟨135,0,(.cons (.agg yP6) yP5),(.int .i64),qGL k⟩
theorem t_i_addrFor(k:Nat)(x):evF TTab k [qHD k,qES k,E_i_HolderOf k] [(0,⟨[1,2,9,10,11],(.cons (.int .i64) (.cons (.ptr 0 yP6) (.cons (.il true yT3) (.cons (.int .i64) yP5))))⟩,⟨[2],(.cons (.ptr 0 yP6) .nil)⟩),(2,⟨[2,7],(.cons (.ptr 0 yP6) yP5)⟩,⟨[],.nil⟩)] Tryz.f135 (.cons (.agg yP6) yP5) (.int .i64) x=qGL k x:=by kernel_rfl
theorem e_i_addrFor[Names](k:Nat):qAD Tryz.prog (E_i_addrFor k):=qAB tok (qAA (e_i_isHost k) (qAA (qGJ k) (qAA (e_i_HolderOf k) qAG))) (by kernel_rfl) (by kernel_rfl) (by kernel_rfl) fun x r h=>(t_i_addrFor k x).trans h
def qAQ(k:Nat)(x:(List (Int×Int×Int))×Int×(List (Int×Int×Int))×Unit):Option ((List (Int×Int×Int))×Unit×Unit×Unit×Unit):=insF 24 (.pair (.int .i64) yT3) x
abbrev qBt(k:Nat):qAI:=⟨136,0,(.cons yP21 (.cons (.int .i64) (.cons yP21 .nil))),yP21,qAQ k⟩
theorem qBj:InsL Tryz.prog ⟨fun n=>if n=29 then 220 else if n=30 then 221 else n,fun n=>if n=9 then 135 else if n=24 then 26 else n,fun n=>n⟩ 136 3 24 (Tryz.t135.zero.getD default) where
 mixed:=by kernel_rfl
 f22:=⟨Tryz.f136.name,Tryz.func136.trans (by kernel_rfl)⟩
 f29:=⟨_,Tryz.func220,by kernel_rfl,by kernel_rfl,by kernel_rfl,by kernel_rfl⟩
 t0:=Tryz.underlying0
 a0:=Tryz.isAgg0
 z0:=Tryz.sizeOf0
 v0:=Tryz.zeroValue0
 t3:=Tryz.underlying3
 a3:=Tryz.isAgg3
 z3:=Tryz.sizeOf3
 v3:=Tryz.zeroValue3
 t4:=Tryz.underlying4
 a4:=Tryz.isAgg4
 z4:=Tryz.sizeOf4
 v4:=Tryz.zeroValue4
 t24:=Tryz.underlying26
 a24:=Tryz.isAgg26
 z24:=Tryz.sizeOf26
 v24:=Tryz.zeroValue26
 z9:=Tryz.sizeOf135
 i9:=by kernel_rfl
theorem qBu[Names](k:Nat):qAD Tryz.prog ⟨136,0,(.cons yP21 (.cons (.int .i64) (.cons yP21 .nil))),yP21,qAQ k⟩:=entry_insert (t:=(.pair (.int .i64) yT3)) qBj (by decide) (by decide) (by kernel_rfl) Tryz.func136 (by kernel_rfl)
def i_Grant(k:Nat)(x:(Int×Int×(List (Int×Int×Int))×(List (Int×Int))×Unit)×Int×Int×Unit):Option (((Int×Int×(List (Int×Int×Int))×(List (Int×Int))×Unit)×Int×Bool×Unit)×Unit×Unit×Unit×Unit):=
((qDj k ((x.1.1,(x.1.2.1,(x.1.2.2.1,(x.1.2.2.2.1,())))),())).bind fun p1 =>
((qIh k ((x.1.1,(x.1.2.1,(x.1.2.2.1,(x.1.2.2.2.1,())))),())).bind fun p2 =>
(if(!p2.1)=false then
((qId k (x.2.1,())).bind fun p3 =>
(if(!p3.1)=false then
((qBK k (x.2.2.1,((0:Int),((999999980:Int),())))).bind fun p4 =>
(if(!p4.1)=true then
some (((p1.1.1,(p1.1.2.1,(p1.1.2.2.1,(p1.1.2.2.2.1,())))),((0:Int),(false,()))),((),((),((),()))))
else
((qD4 k ((x.1.1,(x.1.2.1,(x.1.2.2.1,(x.1.2.2.2.1,())))),(x.2.1,()))).bind fun p5 =>
(if(decide ((0:Int)≤p5.1))=true then
(if 0≤p5.1∧p5.1<(List.length p1.1.2.2.1:Int) then
(if 0≤p5.1∧p5.1<(List.length x.1.2.2.1:Int) then
some (((p1.1.1,(p1.1.2.1,((List.set p1.1.2.2.1 (Int.toNat p5.1) ((Ty.rd (t:=(.pair (.int .i64) yT3)) p1.1.2.2.1 p5.1).1,((Ty.rd (t:=(.pair (.int .i64) yT3)) p1.1.2.2.1 p5.1).2.1,(wi64 (x.2.2.1+(20:Int)))))),(p1.1.2.2.2.1,())))),((Ty.rd (t:=(.pair (.int .i64) yT3)) x.1.2.2.1 p5.1).1,(true,()))),((),((),((),()))))
else none)
else none)
else
((qGL k ((x.1.1,(x.1.2.1,(x.1.2.2.1,(x.1.2.2.2.1,())))),(x.2.1,()))).bind fun p6 =>
(if(decide ((6:Int)≤(List.length x.1.2.2.1:Int)))=false then
(if(decide (p6.1<(0:Int)))=true then
some (((p1.1.1,(p1.1.2.1,(p1.1.2.2.1,(p1.1.2.2.2.1,())))),((0:Int),(false,()))),((),((),((),()))))
else
(qAH (fun(rec0:(Int×Int×(Int×Int×(List (Int×Int×Int))×(List (Int×Int))×Unit)×(Int×Int×(List (Int×Int×Int))×(List (Int×Int))×Unit)×Int×Int×Unit)→Option _) (y0:Int×Int×(Int×Int×(List (Int×Int×Int))×(List (Int×Int))×Unit)×(Int×Int×(List (Int×Int×Int))×(List (Int×Int))×Unit)×Int×Int×Unit) =>
(if(decide (y0.2.2.2.2.2.1<(List.length y0.2.2.2.1.2.2.1:Int)))=true then
(if 0≤y0.2.2.2.2.2.1∧y0.2.2.2.2.2.1<(List.length y0.2.2.2.1.2.2.1:Int) then
(if(decide ((Ty.rd (t:=(.pair (.int .i64) yT3)) y0.2.2.2.1.2.2.1 y0.2.2.2.2.2.1).1<y0.2.2.2.2.1))=true then
(rec0 (y0.1,(y0.2.1,((y0.2.2.1.1,(y0.2.2.1.2.1,(y0.2.2.1.2.2.1,(y0.2.2.1.2.2.2.1,())))),((y0.2.2.2.1.1,(y0.2.2.2.1.2.1,(y0.2.2.2.1.2.2.1,(y0.2.2.2.1.2.2.2.1,())))),(y0.2.2.2.2.1,((wi64 (y0.2.2.2.2.2.1+(1:Int))),())))))))
else
((fun(z1:Int×Int×(Int×Int×(List (Int×Int×Int))×(List (Int×Int))×Unit)×(Int×Int×(List (Int×Int×Int))×(List (Int×Int))×Unit)×Int×Int×Unit) =>
((qAQ k (z1.2.2.2.1.2.2.1,(z1.2.2.2.2.2.1,(([(z1.2.2.2.2.1,(z1.1,(wi64 (z1.2.1+(20:Int)))))]:List (Int×Int×Int)),())))).bind fun p7 =>
some (((z1.2.2.2.1.1,(z1.2.2.2.1.2.1,(p7.1,(z1.2.2.2.1.2.2.2.1,())))),(z1.2.2.2.2.1,(true,()))),((),((),((),())))))) (y0.1,(y0.2.1,((y0.2.2.1.1,(y0.2.2.1.2.1,(y0.2.2.1.2.2.1,(y0.2.2.1.2.2.2.1,())))),((y0.2.2.2.1.1,(y0.2.2.2.1.2.1,(y0.2.2.2.1.2.2.1,(y0.2.2.2.1.2.2.2.1,())))),(y0.2.2.2.2.1,(y0.2.2.2.2.2.1,()))))))))
else none)
else
((fun(z1:Int×Int×(Int×Int×(List (Int×Int×Int))×(List (Int×Int))×Unit)×(Int×Int×(List (Int×Int×Int))×(List (Int×Int))×Unit)×Int×Int×Unit) =>
((qAQ k (z1.2.2.2.1.2.2.1,(z1.2.2.2.2.2.1,(([(z1.2.2.2.2.1,(z1.1,(wi64 (z1.2.1+(20:Int)))))]:List (Int×Int×Int)),())))).bind fun p7 =>
some (((z1.2.2.2.1.1,(z1.2.2.2.1.2.1,(p7.1,(z1.2.2.2.1.2.2.2.1,())))),(z1.2.2.2.2.1,(true,()))),((),((),((),())))))) (y0.1,(y0.2.1,((y0.2.2.1.1,(y0.2.2.1.2.1,(y0.2.2.1.2.2.1,(y0.2.2.1.2.2.2.1,())))),((y0.2.2.2.1.1,(y0.2.2.2.1.2.1,(y0.2.2.2.1.2.2.1,(y0.2.2.2.1.2.2.2.1,())))),(y0.2.2.2.2.1,(y0.2.2.2.2.2.1,()))))))))) k (x.2.1,(x.2.2.1,(((0:Int),((0:Int),([],([],())))),((p1.1.1,(p1.1.2.1,(p1.1.2.2.1,(p1.1.2.2.2.1,())))),(p6.1,((0:Int),()))))))))
else
some (((p1.1.1,(p1.1.2.1,(p1.1.2.2.1,(p1.1.2.2.2.1,())))),((0:Int),(false,()))),((),((),((),()))))))))))
else
some (((p1.1.1,(p1.1.2.1,(p1.1.2.2.1,(p1.1.2.2.2.1,())))),((0:Int),(false,()))),((),((),((),()))))))
else
some (((p1.1.1,(p1.1.2.1,(p1.1.2.2.1,(p1.1.2.2.2.1,())))),((0:Int),(false,()))),((),((),((),())))))))
abbrev E_i_Grant(k:Nat):qAI:=⟨57,0,(.cons (.agg yP6) (.cons (.int .i64) yP5)),(.tup (.cons (.agg yP12) (.cons (.int .i64) (.cons .bool .nil)))),i_Grant k⟩
theorem t_i_Grant(k:Nat)(x):evF TTab k [qBV k,E_i_PoolOk k,qGF k,qIe k,qHx k,E_i_addrFor k,qBt k] [(0,⟨[1,2,6,9,11,12],(.cons (.int .i64) (.cons (.int .i64) (.cons (.ptr 0 yP12) (.cons (.ptr 0 yP12) (.cons (.int .i64) yP5)))))⟩,⟨[1,2,6,9,11,12],(.cons (.int .i64) (.cons (.int .i64) (.cons (.ptr 0 yP12) (.cons (.ptr 0 yP12) (.cons (.int .i64) yP5)))))⟩)] Tryz.f57 (.cons (.agg yP6) (.cons (.int .i64) yP5)) (.tup (.cons (.agg yP12) (.cons (.int .i64) (.cons .bool .nil)))) x=i_Grant k x:=by kernel_rfl
theorem e_i_Grant[Names](k:Nat):qAD Tryz.prog (E_i_Grant k):=qAB tok (qAA (qBg k) (qAA (e_i_PoolOk k) (qAA (e_i_copyPool k) (qAA (e_i_isId k) (qAA (e_i_leaseOf k) (qAA (e_i_addrFor k) (qAA (qBu k) qAG))))))) (by kernel_rfl) (by kernel_rfl) (by kernel_rfl) fun x r h=>(t_i_Grant k x).trans h
def qBG(k:Nat)(x:(Int×Int×Int×Unit)×(Int×Int×Unit)×Unit):Option (Bool×Unit×(Int×Int×Unit)×Unit):=
some ((decide (x.1.1=x.2.1.1)&&decide (x.1.2.1=x.2.1.2.1)),((),((x.2.1.1,(x.2.1.2.1,())),())))
abbrev qCL(k:Nat):qAI:=⟨222,0,(.cons (.agg yP16) (.cons (.ptr 0 (.cons (.int .i64) yP5)) .nil)),.bool,qBG k⟩
theorem qHy(k:Nat)(x):evF TTab k [] [] Tryz.f222 (.cons (.agg yP16) (.cons (.ptr 0 (.cons (.int .i64) yP5)) .nil)) .bool x=qBG k x:=by kernel_rfl
theorem qD5[Names](k:Nat):qAD Tryz.prog (qCL k):=qAB tok qAG (by kernel_rfl) (by kernel_rfl) (by kernel_rfl) fun x r h=>(qHy k x).trans h
def qAM(k:Nat)(x:(List ((Int×Int)×Int))×((Int×Int×Unit)×Unit)×Unit):Option (Int×Unit×((Int×Int×Unit)×Unit)×Unit):=
(qAH (fun(rec0:((List ((Int×Int)×Int))×((Int×Int×Unit)×Unit)×Int×Int×Unit)→Option _) (y0:(List ((Int×Int)×Int))×((Int×Int×Unit)×Unit)×Int×Int×Unit) =>
(if(decide (y0.2.2.2.1<y0.2.2.1))=true then
(if 0≤y0.2.2.2.1∧y0.2.2.2.1<(List.length y0.1:Int) then
((qBG k (((Ty.rd (t:=(.pair yT3 (.int .i64))) y0.1 y0.2.2.2.1).1.1,((Ty.rd (t:=(.pair yT3 (.int .i64))) y0.1 y0.2.2.2.1).1.2,((Ty.rd (t:=(.pair yT3 (.int .i64))) y0.1 y0.2.2.2.1).2,()))),((y0.2.1.1.1,(y0.2.1.1.2.1,())),()))).bind fun p1 =>
(if p1.1=true then
some (y0.2.2.2.1,((),(((p1.2.2.1.1,(p1.2.2.1.2.1,())),()),())))
else
(rec0 (y0.1,(((p1.2.2.1.1,(p1.2.2.1.2.1,())),()),(y0.2.2.1,((wi64 (y0.2.2.2.1+(1:Int))),())))))))
else none)
else
((fun(z1:((Int×Int×Unit)×Unit)×Unit) =>
some ((-1:Int),((),(((z1.1.1.1,(z1.1.1.2.1,())),()),())))) (((y0.2.1.1.1,(y0.2.1.1.2.1,())),()),())))) k (x.1,(((x.2.1.1.1,(x.2.1.1.2.1,())),()),((List.length x.1:Int),((0:Int),())))))
abbrev qAe(k:Nat):qAI:=⟨235,223,(.cons yP19 (.cons (.fn 222 (.cons (.ptr 0 (.cons (.int .i64) yP5)) .nil)) .nil)),(.int .i64),qAM k⟩
theorem qAy(k:Nat)(x):evF TTab k [qCL k] [(0,⟨[0,1,7,8],(.cons yP19 (.cons (.fn 222 (.cons (.ptr 0 (.cons (.int .i64) yP5)) .nil)) (.cons (.int .i64) yP5)))⟩,⟨[1],(.cons (.fn 222 (.cons (.ptr 0 (.cons (.int .i64) yP5)) .nil)) .nil)⟩)] Tryz.f235 (.cons yP19 (.cons (.fn 222 (.cons (.ptr 0 (.cons (.int .i64) yP5)) .nil)) .nil)) (.int .i64) x=qAM k x:=by kernel_rfl
theorem qAz[Names](k:Nat):qAD Tryz.prog (qAe k):=qAB tok (qAA (qD5 k) qAG) (by kernel_rfl) (by kernel_rfl) (by kernel_rfl) fun x r h=>(qAy k x).trans h
def qAL(k:Nat)(x:(List ((Int×Int)×Int))×((Int×Int×Unit)×Unit)×Unit):Option ((List ((Int×Int)×Int))×Unit×((Int×Int×Unit)×Unit)×Unit):=
((qAM k (x.1,(((x.2.1.1.1,(x.2.1.1.2.1,())),()),()))).bind fun p1 =>
(if(decide (p1.1=(-1:Int)))=true then
some (x.1,((),(((p1.2.2.1.1.1,(p1.2.2.1.1.2.1,())),()),())))
else
(qAH (fun(rec0:((List ((Int×Int)×Int))×((Int×Int×Unit)×Unit)×Int×Int×Unit)→Option _) (y0:(List ((Int×Int)×Int))×((Int×Int×Unit)×Unit)×Int×Int×Unit) =>
(if(decide (y0.2.2.2.1<(List.length y0.1:Int)))=true then
(if 0≤y0.2.2.2.1∧y0.2.2.2.1<(List.length y0.1:Int) then
((qBG k (((Ty.rd (t:=(.pair yT3 (.int .i64))) y0.1 y0.2.2.2.1).1.1,((Ty.rd (t:=(.pair yT3 (.int .i64))) y0.1 y0.2.2.2.1).1.2,((Ty.rd (t:=(.pair yT3 (.int .i64))) y0.1 y0.2.2.2.1).2,()))),((y0.2.1.1.1,(y0.2.1.1.2.1,())),()))).bind fun p2 =>
(if(!p2.1)=true then
(if 0≤y0.2.2.1∧y0.2.2.1<(List.length y0.1:Int) then
(rec0 ((List.set y0.1 (Int.toNat y0.2.2.1) (((Ty.rd (t:=(.pair yT3 (.int .i64))) y0.1 y0.2.2.2.1).1.1,(Ty.rd (t:=(.pair yT3 (.int .i64))) y0.1 y0.2.2.2.1).1.2),(Ty.rd (t:=(.pair yT3 (.int .i64))) y0.1 y0.2.2.2.1).2)),(((p2.2.2.1.1,(p2.2.2.1.2.1,())),()),((wi64 (y0.2.2.1+(1:Int))),((wi64 (y0.2.2.2.1+(1:Int))),())))))
else none)
else
(rec0 (y0.1,(((p2.2.2.1.1,(p2.2.2.1.2.1,())),()),(y0.2.2.1,((wi64 (y0.2.2.2.1+(1:Int))),())))))))
else none)
else
((fun(z1:(List ((Int×Int)×Int))×((Int×Int×Unit)×Unit)×Int×Unit) =>
(if 0≤z1.2.2.1∧z1.2.2.1≤(List.length z1.1:Int) then
(if 0≤z1.2.2.1∧z1.2.2.1≤(List.length (List.take (Int.toNat z1.2.2.1) z1.1++(List.replicate (Int.toNat ((List.length z1.1:Int)-z1.2.2.1)) (((0:Int),(0:Int)),(0:Int))++List.drop (Int.toNat (List.length z1.1:Int)) z1.1)):Int) then
some ((List.drop (Int.toNat (0:Int)) (List.take (Int.toNat z1.2.2.1) (List.take (Int.toNat z1.2.2.1) z1.1++(List.replicate (Int.toNat ((List.length z1.1:Int)-z1.2.2.1)) (((0:Int),(0:Int)),(0:Int))++List.drop (Int.toNat (List.length z1.1:Int)) z1.1)))),((),(((z1.2.1.1.1,(z1.2.1.1.2.1,())),()),())))
else none)
else none)) (y0.1,(((y0.2.1.1.1,(y0.2.1.1.2.1,())),()),(y0.2.2.1,())))))) k (x.1,(((p1.2.2.1.1.1,(p1.2.2.1.1.2.1,())),()),(p1.1,((wi64 (p1.1+(1:Int))),())))))))
abbrev qAd(k:Nat):qAI:=⟨150,223,(.cons yP17 (.cons (.fn 222 (.cons (.ptr 0 (.cons (.int .i64) yP5)) .nil)) .nil)),yP17,qAL k⟩
theorem qAt(k:Nat)(x):evF TTab k [qCL k,qAe k] [(0,⟨[0,1,5,6],(.cons yP17 (.cons (.fn 222 (.cons (.ptr 0 (.cons (.int .i64) yP5)) .nil)) (.cons (.int .i64) yP5)))⟩,⟨[0,1,5],(.cons yP17 (.cons (.fn 222 (.cons (.ptr 0 (.cons (.int .i64) yP5)) .nil)) yP5))⟩)] Tryz.f150 (.cons yP17 (.cons (.fn 222 (.cons (.ptr 0 (.cons (.int .i64) yP5)) .nil)) .nil)) yP17 x=qAL k x:=by kernel_rfl
theorem qAu[Names](k:Nat):qAD Tryz.prog (qAd k):=qAB tok (qAA (qD5 k) (qAA (qAz k) qAG)) (by kernel_rfl) (by kernel_rfl) (by kernel_rfl) fun x r h=>(qAt k x).trans h
def qBv(k:Nat)(x:(List ((Int×Int)×Int))×(Int×Int×Unit)×Unit):Option ((List ((Int×Int)×Int))×Unit×Unit×Unit):=
((qBE k (x.1,())).bind fun p1 =>
((qAL k (p1.1,(((x.2.1.1,(x.2.1.2.1,())),()),()))).bind fun p2 =>
some (p2.1,((),((),())))))
abbrev qEt(k:Nat):qAI:=⟨137,0,(.cons yP19 (.cons yP22 .nil)),yP17,qBv k⟩
theorem t_i_withoutPrefix(k:Nat)(x):evF TTab k [qC9 k,qAd k] [] Tryz.f137 (.cons yP19 (.cons yP22 .nil)) yP17 x=qBv k x:=by kernel_rfl
theorem e_i_withoutPrefix[Names](k:Nat):qAD Tryz.prog (qEt k):=qAB tok (qAA (qEa k) (qAA (qAu k) qAG)) (by kernel_rfl) (by kernel_rfl) (by kernel_rfl) fun x r h=>(t_i_withoutPrefix k x).trans h
def qDF(k:Nat)(x:List (Int)×Unit):Option (Int×Unit×Unit):=
(qAH (fun(rec0:(Int×List (Int)×Int×Int×Unit)→Option _) (y0:Int×List (Int)×Int×Int×Unit) =>
(if(decide (y0.2.2.2.1<y0.2.2.1))=true then
(if 0≤y0.2.2.2.1∧y0.2.2.2.1<(List.length y0.2.1:Int) then
(if(!decide ((Ty.rd (t:=(.int .i64)) y0.2.1 y0.2.2.2.1)=y0.1))=true then
some ((Ty.rd (t:=(.int .i64)) y0.2.1 y0.2.2.2.1),((),()))
else
(rec0 (y0.1,(y0.2.1,(y0.2.2.1,((wi64 (y0.2.2.2.1+(1:Int))),()))))))
else none)
else
((fun(z1:Int×Unit) =>
some (z1.1,((),()))) (y0.1,())))) k ((0:Int),(x.1,((List.length x.1:Int),((0:Int),())))))
abbrev qHW(k:Nat):qAI:=⟨223,0,yP30,(.int .i64),qDF k⟩
theorem t_x_cmp_Or_int(k:Nat)(x):evF TTab k [] [(0,⟨[3,6,7,8],(.cons (.int .i64) (.cons (.il true (.int .i64)) (.cons (.int .i64) yP5)))⟩,⟨[3],yP5⟩)] Tryz.f223 yP30 (.int .i64) x=qDF k x:=by kernel_rfl
theorem e_x_cmp_Or_int[Names](k:Nat):qAD Tryz.prog (qHW k):=qAB tok qAG (by kernel_rfl) (by kernel_rfl) (by kernel_rfl) fun x r h=>(t_x_cmp_Or_int k x).trans h
def qBw(k:Nat)(x:Int×Unit):Option (Bool×Unit×Unit):=
some ((!decide (x.1=x.1)),((),()))
abbrev qEu(k:Nat):qAI:=⟨282,0,yP5,.bool,qBw k⟩
theorem t_x_cmp_isNaN_int(k:Nat)(x):evF TTab k [] [] Tryz.f282 yP5 .bool x=qBw k x:=by kernel_rfl
theorem e_x_cmp_isNaN_int[Names](k:Nat):qAD Tryz.prog (qEu k):=qAB tok qAG (by kernel_rfl) (by kernel_rfl) (by kernel_rfl) fun x r h=>(t_x_cmp_isNaN_int k x).trans h
def qBH(k:Nat)(x:Int×Int×Unit):Option (Int×Unit×Unit×Unit):=
((qBw k (x.1,())).bind fun p1 =>
((qBw k (x.2.1,())).bind fun p2 =>
(if p1.1=true then
(if p2.1=true then
some ((0:Int),((),((),())))
else
some ((-1:Int),((),((),()))))
else
(if p2.1=true then
some ((1:Int),((),((),())))
else
(if(decide (x.1<x.2.1))=true then
some ((-1:Int),((),((),())))
else
(if(decide (x.2.1<x.1))=true then
some ((1:Int),((),((),())))
else
some ((0:Int),((),((),())))))))))
abbrev qD6(k:Nat):qAI:=⟨224,0,(.cons (.int .i64) yP5),(.int .i64),qBH k⟩
theorem qHz(k:Nat)(x):evF TTab k [qEu k] [] Tryz.f224 (.cons (.int .i64) yP5) (.int .i64) x=qBH k x:=by kernel_rfl
theorem qH0[Names](k:Nat):qAD Tryz.prog (qD6 k):=qAB tok (qAA (e_x_cmp_isNaN_int k) qAG) (by kernel_rfl) (by kernel_rfl) (by kernel_rfl) fun x r h=>(qHz k x).trans h
def qBI(k:Nat)(x:(Int×Int×Unit)×(Int×Int×Unit)×Unit):Option (Int×Unit×Unit×Unit):=
((qBH k (x.1.1,(x.2.1.1,()))).bind fun p1 =>
((qBH k (x.1.2.1,(x.2.1.2.1,()))).bind fun p2 =>
((qDF k (([p1.1,p2.1]:List (Int)),())).bind fun p3 =>
some (p3.1,((),((),()))))))
abbrev qCM(k:Nat):qAI:=⟨138,0,(.cons yP22 (.cons yP22 .nil)),(.int .i64),qBI k⟩
theorem qH1(k:Nat)(x):evF TTab k [qHW k,qD6 k] [] Tryz.f138 (.cons yP22 (.cons yP22 .nil)) (.int .i64) x=qBI k x:=by kernel_rfl
theorem qD7[Names](k:Nat):qAD Tryz.prog (qCM k):=qAB tok (qAA (e_x_cmp_Or_int k) (qAA (qH0 k) qAG)) (by kernel_rfl) (by kernel_rfl) (by kernel_rfl) fun x r h=>(qH1 k x).trans h
def qAW(k:Nat)(x:(List ((Int×Int)×Int))×Int×(List ((Int×Int)×Int))×Unit):Option ((List ((Int×Int)×Int))×Unit×Unit×Unit×Unit):=insF 24 (.pair yT3 (.int .i64)) x
abbrev qBx(k:Nat):qAI:=⟨139,0,(.cons yP17 (.cons (.int .i64) (.cons yP17 .nil))),yP17,qAW k⟩
theorem qBk:InsL Tryz.prog ⟨fun n=>if n=29 then 225 else if n=30 then 226 else n,fun n=>if n=9 then 53 else if n=24 then 30 else n,fun n=>n⟩ 139 3 24 (Tryz.t53.zero.getD default) where
 mixed:=by kernel_rfl
 f22:=⟨Tryz.f139.name,Tryz.func139.trans (by kernel_rfl)⟩
 f29:=⟨_,Tryz.func225,by kernel_rfl,by kernel_rfl,by kernel_rfl,by kernel_rfl⟩
 t0:=Tryz.underlying0
 a0:=Tryz.isAgg0
 z0:=Tryz.sizeOf0
 v0:=Tryz.zeroValue0
 t3:=Tryz.underlying3
 a3:=Tryz.isAgg3
 z3:=Tryz.sizeOf3
 v3:=Tryz.zeroValue3
 t4:=Tryz.underlying4
 a4:=Tryz.isAgg4
 z4:=Tryz.sizeOf4
 v4:=Tryz.zeroValue4
 t24:=Tryz.underlying30
 a24:=Tryz.isAgg30
 z24:=Tryz.sizeOf30
 v24:=Tryz.zeroValue30
 z9:=Tryz.sizeOf53
 i9:=by kernel_rfl
theorem qBy[Names](k:Nat):qAD Tryz.prog ⟨139,0,(.cons yP17 (.cons (.int .i64) (.cons yP17 .nil))),yP17,qAW k⟩:=entry_insert (t:=(.pair yT3 (.int .i64))) qBk (by decide) (by decide) (by kernel_rfl) Tryz.func139 (by kernel_rfl)
def qCR(k:Nat)(x:(List ((Int×Int)×Int))×Unit):Option (Bool×Unit×Unit):=
(qAH (fun(rec0:((List ((Int×Int)×Int))×(List ((Int×Int)×Int))×Int×Int×Unit)→Option _) (y0:(List ((Int×Int)×Int))×(List ((Int×Int)×Int))×Int×Int×Unit) =>
(if(decide (y0.2.2.2.1<y0.2.2.1))=true then
(if 0≤y0.2.2.2.1∧y0.2.2.2.1<(List.length y0.2.1:Int) then
((qCv k (((Ty.rd (t:=(.pair yT3 (.int .i64))) y0.2.1 y0.2.2.2.1).1.1,((Ty.rd (t:=(.pair yT3 (.int .i64))) y0.2.1 y0.2.2.2.1).1.2,())),())).bind fun p1 =>
(if(!p1.1)=false then
((qId k ((Ty.rd (t:=(.pair yT3 (.int .i64))) y0.2.1 y0.2.2.2.1).2,())).bind fun p2 =>
(if(!p2.1)=false then
(if(decide ((0:Int)<y0.2.2.2.1))=true then
(if 0≤(wi64 (y0.2.2.2.1-(1:Int)))∧(wi64 (y0.2.2.2.1-(1:Int)))<(List.length y0.1:Int) then
((qBI k (((Ty.rd (t:=(.pair yT3 (.int .i64))) y0.1 (wi64 (y0.2.2.2.1-(1:Int)))).1.1,((Ty.rd (t:=(.pair yT3 (.int .i64))) y0.1 (wi64 (y0.2.2.2.1-(1:Int)))).1.2,())),(((Ty.rd (t:=(.pair yT3 (.int .i64))) y0.2.1 y0.2.2.2.1).1.1,((Ty.rd (t:=(.pair yT3 (.int .i64))) y0.2.1 y0.2.2.2.1).1.2,())),()))).bind fun p3 =>
(if(decide ((0:Int)≤p3.1))=true then
some (false,((),()))
else
(rec0 (y0.1,(y0.2.1,(y0.2.2.1,((wi64 (y0.2.2.2.1+(1:Int))),())))))))
else none)
else
(rec0 (y0.1,(y0.2.1,(y0.2.2.1,((wi64 (y0.2.2.2.1+(1:Int))),()))))))
else
some (false,((),()))))
else
some (false,((),()))))
else none)
else
((fun(z1:(List ((Int×Int)×Int))×Unit) =>
some ((decide ((List.length z1.1:Int)≤(12:Int))),((),()))) (y0.1,())))) k (x.1,(x.1,((List.length x.1:Int),((0:Int),())))))
abbrev E_i_RoutesOk(k:Nat):qAI:=⟨140,0,(.cons yP19 .nil),.bool,qCR k⟩
theorem t_i_RoutesOk(k:Nat)(x):evF TTab k [qIe k,qCM k,qEQ k] [(0,⟨[0,5,6,7],(.cons yP19 (.cons yP19 (.cons (.int .i64) yP5)))⟩,⟨[0],(.cons yP19 .nil)⟩)] Tryz.f140 (.cons yP19 .nil) .bool x=qCR k x:=by kernel_rfl
theorem e_i_RoutesOk[Names](k:Nat):qAD Tryz.prog (E_i_RoutesOk k):=qAB tok (qAA (e_i_isId k) (qAA (qD7 k) (qAA (qGI k) qAG))) (by kernel_rfl) (by kernel_rfl) (by kernel_rfl) fun x r h=>(t_i_RoutesOk k x).trans h
def qEv(k:Nat)(x:(List ((Int×Int)×Int))×(Int×Int×Int×Unit)×Unit):Option (((List ((Int×Int)×Int))×Bool×Unit)×Unit×Unit×Unit):=
((qBv k (x.1,((x.2.1.1,(x.2.1.2.1,())),()))).bind fun p1 =>
(jn (fun(z1:(List ((Int×Int)×Int))×(Int×Int×Int×Unit)×(List ((Int×Int)×Int))×Int×Unit) =>
((qAW k (z1.2.2.1,(z1.2.2.2.1,(([((z1.2.1.1,z1.2.1.2.1),z1.2.1.2.2.1)]:List ((Int×Int)×Int)),())))).bind fun p3 =>
((qCR k (z1.1,())).bind fun p4 =>
(if(!p4.1)=false then
((qCR k (p3.1,())).bind fun p5 =>
(if(!p5.1)=true then
((qBE k (z1.1,())).bind fun p6 =>
some ((p6.1,(false,())),((),((),()))))
else
some ((p3.1,(true,())),((),((),())))))
else
((qBE k (z1.1,())).bind fun p7 =>
some ((p7.1,(false,())),((),((),())))))))) (fun(E1:((List ((Int×Int)×Int))×(Int×Int×Int×Unit)×(List ((Int×Int)×Int))×Int×Unit)→Option _) =>
(qAH (fun(rec0:((List ((Int×Int)×Int))×(Int×Int×Int×Unit)×(List ((Int×Int)×Int))×Int×Unit)→Option _) (y0:(List ((Int×Int)×Int))×(Int×Int×Int×Unit)×(List ((Int×Int)×Int))×Int×Unit) =>
(if(decide (y0.2.2.2.1<(List.length y0.2.2.1:Int)))=true then
(if 0≤y0.2.2.2.1∧y0.2.2.2.1<(List.length y0.2.2.1:Int) then
((qBI k (((Ty.rd (t:=(.pair yT3 (.int .i64))) y0.2.2.1 y0.2.2.2.1).1.1,((Ty.rd (t:=(.pair yT3 (.int .i64))) y0.2.2.1 y0.2.2.2.1).1.2,())),((y0.2.1.1,(y0.2.1.2.1,())),()))).bind fun p2 =>
(if(decide (p2.1<(0:Int)))=true then
(rec0 (y0.1,((y0.2.1.1,(y0.2.1.2.1,(y0.2.1.2.2.1,()))),(y0.2.2.1,((wi64 (y0.2.2.2.1+(1:Int))),())))))
else
(E1 (y0.1,((y0.2.1.1,(y0.2.1.2.1,(y0.2.1.2.2.1,()))),(y0.2.2.1,(y0.2.2.2.1,())))))))
else none)
else
(E1 (y0.1,((y0.2.1.1,(y0.2.1.2.1,(y0.2.1.2.2.1,()))),(y0.2.2.1,(y0.2.2.2.1,()))))))) k (x.1,((x.2.1.1,(x.2.1.2.1,(x.2.1.2.2.1,()))),(p1.1,((0:Int),()))))))))
abbrev E_i_PutRoute(k:Nat):qAI:=⟨58,0,(.cons yP19 (.cons (.agg yP16) .nil)),(.tup (.cons yP17 (.cons .bool .nil))),qEv k⟩
theorem t_i_PutRoute(k:Nat)(x):evF TTab k [qC9 k,qEt k,qCM k,qBx k,E_i_RoutesOk k] [(0,⟨[0,3,6,7],(.cons yP19 (.cons (.ptr 0 yP16) (.cons yP17 yP5)))⟩,⟨[0,3,6,7],(.cons yP19 (.cons (.ptr 0 yP16) (.cons yP17 yP5)))⟩)] Tryz.f58 (.cons yP19 (.cons (.agg yP16) .nil)) (.tup (.cons yP17 (.cons .bool .nil))) x=qEv k x:=by kernel_rfl
theorem e_i_PutRoute[Names](k:Nat):qAD Tryz.prog (E_i_PutRoute k):=qAB tok (qAA (qEa k) (qAA (e_i_withoutPrefix k) (qAA (qD7 k) (qAA (qBy k) (qAA (e_i_RoutesOk k) qAG))))) (by kernel_rfl) (by kernel_rfl) (by kernel_rfl) fun x r h=>(t_i_PutRoute k x).trans h
def qBz(k:Nat)(x:Int×Unit):Option (ByteArray×Unit×Unit):=
((qBK k (x.1,((0:Int),((4294967295:Int),())))).bind fun p1 =>
(if(!p1.1)=true then
some ((⟨#[]⟩:ByteArray),((),()))
else
some ((qAg ([(wu8 ((qAX .and .i64 (Int.fdiv x.1 (2^(min (Int.toNat (24:Int)) (IntKind.bits .i64)))) (255:Int)))),(wu8 ((qAX .and .i64 (Int.fdiv x.1 (2^(min (Int.toNat (16:Int)) (IntKind.bits .i64)))) (255:Int)))),(wu8 ((qAX .and .i64 (Int.fdiv x.1 (2^(min (Int.toNat (8:Int)) (IntKind.bits .i64)))) (255:Int)))),(wu8 ((qAX .and .i64 x.1 (255:Int))))]:List (Int))),((),()))))
abbrev qEb(k:Nat):qAI:=⟨181,0,yP5,.str,qBz k⟩
theorem t_i_NumberText(k:Nat)(x):evF TTab k [qBV k] [] Tryz.f181 yP5 .str x=qBz k x:=by kernel_rfl
theorem qHX[Names](k:Nat):qAD Tryz.prog (qEb k):=qAB tok (qAA (qBg k) qAG) (by kernel_rfl) (by kernel_rfl) (by kernel_rfl) fun x r h=>(t_i_NumberText k x).trans h
def qCw(k:Nat)(x:List (Int)×Unit):Option (ByteArray×Unit×Unit):=
(qAH (fun(rec0:(ByteArray×List (Int)×Int×Int×Unit)→Option _) (y0:ByteArray×List (Int)×Int×Int×Unit) =>
(if(decide (y0.2.2.2.1<y0.2.2.1))=true then
(if 0≤y0.2.2.2.1∧y0.2.2.2.1<(List.length y0.2.1:Int) then
((qBz k ((Ty.rd (t:=(.int .i64)) y0.2.1 y0.2.2.2.1),())).bind fun p1 =>
(if ByteArray.size y0.1+ByteArray.size p1.1≤maxStr then
(rec0 ((y0.1++p1.1),(y0.2.1,(y0.2.2.1,((wi64 (y0.2.2.2.1+(1:Int))),())))))
else none))
else none)
else
((fun(z1:ByteArray×Unit) =>
some (z1.1,((),()))) (y0.1,())))) k ((⟨#[]⟩:ByteArray),(x.1,((List.length x.1:Int),((0:Int),())))))
abbrev qFT(k:Nat):qAI:=⟨285,0,yP30,.str,qCw k⟩
theorem t_i_wordsText(k:Nat)(x):evF TTab k [qEb k] [(0,⟨[3,6,7,8],(.cons .str (.cons (.il true (.int .i64)) (.cons (.int .i64) yP5)))⟩,⟨[3],(.cons .str .nil)⟩)] Tryz.f285 yP30 .str x=qCw k x:=by kernel_rfl
theorem qIi[Names](k:Nat):qAD Tryz.prog (qFT k):=qAB tok (qAA (qHX k) qAG) (by kernel_rfl) (by kernel_rfl) (by kernel_rfl) fun x r h=>(t_i_wordsText k x).trans h
def qFU(k:Nat)(x:Unit):Option ((Int×Int×Int×Int×Int×Int×Int×Int×Int×Int×Int×Int×Int×Int×Int×Int×Int×Int×Int×Int×Int×Int×Int×Int×Int×Int×Int×Int×Int×Int×Int×Int×Int×Int×Int×Int×Int×Int×Int×Int×Int×Int×Int×Int×Int×Int×Int×Int×Int×Int×Int×Int×Int×Int×Int×Int×Int×Int×Int×Int×Int×Int×Int×Int×Unit)×Unit):=
some (((1116352408:Int),((1899447441:Int),((3049323471:Int),((3921009573:Int),((961987163:Int),((1508970993:Int),((2453635748:Int),((2870763221:Int),((3624381080:Int),((310598401:Int),((607225278:Int),((1426881987:Int),((1925078388:Int),((2162078206:Int),((2614888103:Int),((3248222580:Int),((3835390401:Int),((4022224774:Int),((264347078:Int),((604807628:Int),((770255983:Int),((1249150122:Int),((1555081692:Int),((1996064986:Int),((2554220882:Int),((2821834349:Int),((2952996808:Int),((3210313671:Int),((3336571891:Int),((3584528711:Int),((113926993:Int),((338241895:Int),((666307205:Int),((773529912:Int),((1294757372:Int),((1396182291:Int),((1695183700:Int),((1986661051:Int),((2177026350:Int),((2456956037:Int),((2730485921:Int),((2820302411:Int),((3259730800:Int),((3345764771:Int),((3516065817:Int),((3600352804:Int),((4094571909:Int),((275423344:Int),((430227734:Int),((506948616:Int),((659060556:Int),((883997877:Int),((958139571:Int),((1322822218:Int),((1537002063:Int),((1747873779:Int),((1955562222:Int),((2024104815:Int),((2227730452:Int),((2361852424:Int),((2428436474:Int),((2756734187:Int),((3204031479:Int),((3329325298:Int),())))))))))))))))))))))))))))))))))))))))))))))))))))))))))))))))),())
abbrev qIj(k:Nat):qAI:=⟨315,0,.nil,(.agg yP14),qFU k⟩
theorem t_i_constants(k:Nat)(x):evF TTab k [] [] Tryz.f315 .nil (.agg yP14) x=qFU k x:=by kernel_rfl
theorem e_i_constants[Names](k:Nat):qAD Tryz.prog (qIj k):=qAB tok qAG (by kernel_rfl) (by kernel_rfl) (by kernel_rfl) fun x r h=>(t_i_constants k x).trans h
def qDG(k:Nat)(x:ByteArray×Unit):Option ((Int×Bool×Unit)×Unit×Unit):=
(if(!decide ((ByteArray.size x.1:Int)=(4:Int)))=true then
some (((0:Int),(false,())),((),()))
else
(if 0≤(0:Int)∧(0:Int)<(ByteArray.size x.1:Int) then
(if 0≤(1:Int)∧(1:Int)<(ByteArray.size x.1:Int) then
(if 0≤(2:Int)∧(2:Int)<(ByteArray.size x.1:Int) then
(if 0≤(3:Int)∧(3:Int)<(ByteArray.size x.1:Int) then
some (((qAX .or .i64 (qAX .or .i64 (qAX .or .i64 (wi64 ((wi64 ((bt x.1 (0:Int))))*2^(min (Int.toNat (24:Int)) (IntKind.bits .i64)))) (wi64 ((wi64 ((bt x.1 (1:Int))))*2^(min (Int.toNat (16:Int)) (IntKind.bits .i64))))) (wi64 ((wi64 ((bt x.1 (2:Int))))*2^(min (Int.toNat (8:Int)) (IntKind.bits .i64))))) (wi64 ((bt x.1 (3:Int))))),(true,())),((),()))
else none)
else none)
else none)
else none))
abbrev qHY(k:Nat):qAI:=⟨207,0,(.cons .str .nil),(.tup (.cons (.int .i64) (.cons .bool .nil))),qDG k⟩
theorem t_i_ReadNumber(k:Nat)(x):evF TTab k [] [] Tryz.f207 (.cons .str .nil) (.tup (.cons (.int .i64) (.cons .bool .nil))) x=qDG k x:=by kernel_rfl
theorem e_i_ReadNumber[Names](k:Nat):qAD Tryz.prog (qHY k):=qAB tok qAG (by kernel_rfl) (by kernel_rfl) (by kernel_rfl) fun x r h=>(t_i_ReadNumber k x).trans h
def qEw(k:Nat)(x:ByteArray×Unit):Option (List (Int)×Unit×Unit):=
(qAH (fun(rec0:(ByteArray×List (Int)×Int×Unit)→Option _) (y0:ByteArray×List (Int)×Int×Unit) =>
(if(decide ((wi64 (y0.2.2.1+(4:Int)))≤(ByteArray.size y0.1:Int)))=true then
(if 0≤(wi64 (y0.2.2.1+(4:Int)))∧(wi64 (y0.2.2.1+(4:Int)))≤(ByteArray.size y0.1:Int) then
(if 0≤y0.2.2.1∧y0.2.2.1≤(wi64 (y0.2.2.1+(4:Int))) then
((qDG k ((ByteArray.extract y0.1 (Int.toNat y0.2.2.1) (Int.toNat (wi64 (y0.2.2.1+(4:Int))))),())).bind fun p1 =>
(if List.length y0.2.1+List.length ([p1.1.1]:List (Int))≤capMax then
(rec0 (y0.1,((y0.2.1++([p1.1.1]:List (Int))),((wi64 (y0.2.2.1+(4:Int))),()))))
else none))
else none)
else none)
else
((fun(z1:List (Int)×Unit) =>
some (z1.1,((),()))) (y0.2.1,())))) k (x.1,(([]:List (Int)),((0:Int),()))))
abbrev qH2(k:Nat):qAI:=⟨317,0,(.cons .str .nil),yP25,qEw k⟩
theorem t_i_wordsOf(k:Nat)(x):evF TTab k [qHY k] [(0,⟨[0,3,4],(.cons .str (.cons yP25 yP5))⟩,⟨[3],(.cons yP25 .nil)⟩)] Tryz.f317 (.cons .str .nil) yP25 x=qEw k x:=by kernel_rfl
theorem e_i_wordsOf[Names](k:Nat):qAD Tryz.prog (qH2 k):=qAB tok (qAA (e_i_ReadNumber k) qAG) (by kernel_rfl) (by kernel_rfl) (by kernel_rfl) fun x r h=>(t_i_wordsOf k x).trans h
def qAZ(k:Nat)(x:Int×Int×Unit):Option (Int×Unit×Unit×Unit):=
(if x.2.1<0 then
none
else
(if(wi64 ((32:Int)-x.2.1))<0 then
none
else
some ((qAX .and .i64 (qAX .or .i64 (Int.fdiv x.1 (2^(min (Int.toNat x.2.1) (IntKind.bits .i64)))) (wi64 (x.1*2^(min (Int.toNat (wi64 ((32:Int)-x.2.1))) (IntKind.bits .i64))))) (4294967295:Int)),((),((),())))))
abbrev qFV(k:Nat):qAI:=⟨318,0,(.cons (.int .i64) yP5),(.int .i64),qAZ k⟩
theorem t_i_turnRight(k:Nat)(x):evF TTab k [] [] Tryz.f318 (.cons (.int .i64) yP5) (.int .i64) x=qAZ k x:=by kernel_rfl
theorem qIk[Names](k:Nat):qAD Tryz.prog (qFV k):=qAB tok qAG (by kernel_rfl) (by kernel_rfl) (by kernel_rfl) fun x r h=>(t_i_turnRight k x).trans h
def qEx(k:Nat)(x:ByteArray×Unit):Option (List (Int)×Unit×Unit):=
((qEw k (x.1,())).bind fun p1 =>
(qAH (fun(rec0:(List (Int)×Int×Unit)→Option _) (y0:List (Int)×Int×Unit) =>
(if(decide (y0.2.1<(64:Int)))=true then
(if 0≤(wi64 (y0.2.1-(15:Int)))∧(wi64 (y0.2.1-(15:Int)))<(List.length y0.1:Int) then
(if 0≤(wi64 (y0.2.1-(2:Int)))∧(wi64 (y0.2.1-(2:Int)))<(List.length y0.1:Int) then
((qAZ k ((Ty.rd (t:=(.int .i64)) y0.1 (wi64 (y0.2.1-(15:Int)))),((7:Int),()))).bind fun p2 =>
((qAZ k ((Ty.rd (t:=(.int .i64)) y0.1 (wi64 (y0.2.1-(15:Int)))),((18:Int),()))).bind fun p3 =>
((qAZ k ((Ty.rd (t:=(.int .i64)) y0.1 (wi64 (y0.2.1-(2:Int)))),((17:Int),()))).bind fun p4 =>
((qAZ k ((Ty.rd (t:=(.int .i64)) y0.1 (wi64 (y0.2.1-(2:Int)))),((19:Int),()))).bind fun p5 =>
(if 0≤(wi64 (y0.2.1-(7:Int)))∧(wi64 (y0.2.1-(7:Int)))<(List.length y0.1:Int) then
(if 0≤(wi64 (y0.2.1-(16:Int)))∧(wi64 (y0.2.1-(16:Int)))<(List.length y0.1:Int) then
(if List.length y0.1+List.length ([(qAX .and .i64 (wi64 ((wi64 ((wi64 ((qAX .xor .i64 (qAX .xor .i64 p4.1 p5.1) (Int.fdiv (Ty.rd (t:=(.int .i64)) y0.1 (wi64 (y0.2.1-(2:Int)))) (2^(min (Int.toNat (10:Int)) (IntKind.bits .i64)))))+(Ty.rd (t:=(.int .i64)) y0.1 (wi64 (y0.2.1-(7:Int))))))+(qAX .xor .i64 (qAX .xor .i64 p2.1 p3.1) (Int.fdiv (Ty.rd (t:=(.int .i64)) y0.1 (wi64 (y0.2.1-(15:Int)))) (2^(min (Int.toNat (3:Int)) (IntKind.bits .i64)))))))+(Ty.rd (t:=(.int .i64)) y0.1 (wi64 (y0.2.1-(16:Int)))))) (4294967295:Int))]:List (Int))≤capMax then
(rec0 ((y0.1++([(qAX .and .i64 (wi64 ((wi64 ((wi64 ((qAX .xor .i64 (qAX .xor .i64 p4.1 p5.1) (Int.fdiv (Ty.rd (t:=(.int .i64)) y0.1 (wi64 (y0.2.1-(2:Int)))) (2^(min (Int.toNat (10:Int)) (IntKind.bits .i64)))))+(Ty.rd (t:=(.int .i64)) y0.1 (wi64 (y0.2.1-(7:Int))))))+(qAX .xor .i64 (qAX .xor .i64 p2.1 p3.1) (Int.fdiv (Ty.rd (t:=(.int .i64)) y0.1 (wi64 (y0.2.1-(15:Int)))) (2^(min (Int.toNat (3:Int)) (IntKind.bits .i64)))))))+(Ty.rd (t:=(.int .i64)) y0.1 (wi64 (y0.2.1-(16:Int)))))) (4294967295:Int))]:List (Int))),((wi64 (y0.2.1+(1:Int))),())))
else none)
else none)
else none)))))
else none)
else none)
else
((fun(z1:List (Int)×Unit) =>
some (z1.1,((),()))) (y0.1,())))) k (p1.1,((16:Int),()))))
abbrev E_i_expanded(k:Nat):qAI:=⟨316,0,(.cons .str .nil),yP25,qEx k⟩
theorem t_i_expanded(k:Nat)(x):evF TTab k [qH2 k,qFV k] [(0,⟨[3,4],(.cons yP25 yP5)⟩,⟨[3],(.cons yP25 .nil)⟩)] Tryz.f316 (.cons .str .nil) yP25 x=qEx k x:=by kernel_rfl
theorem e_i_expanded[Names](k:Nat):qAD Tryz.prog (E_i_expanded k):=qAB tok (qAA (e_i_wordsOf k) (qAA (qIk k) qAG)) (by kernel_rfl) (by kernel_rfl) (by kernel_rfl) fun x r h=>(t_i_expanded k x).trans h
def i_round(k:Nat)(x:ByteArray×ByteArray×Unit):Option (ByteArray×Unit×Unit×Unit):=
((qFU k ()).bind fun p1 =>
((qEx k (x.2.1,())).bind fun p2 =>
((qEw k (x.1,())).bind fun p3 =>
(if 0≤(0:Int)∧(0:Int)<(List.length p3.1:Int) then
(if 0≤(1:Int)∧(1:Int)<(List.length p3.1:Int) then
(if 0≤(2:Int)∧(2:Int)<(List.length p3.1:Int) then
(if 0≤(3:Int)∧(3:Int)<(List.length p3.1:Int) then
(if 0≤(4:Int)∧(4:Int)<(List.length p3.1:Int) then
(if 0≤(5:Int)∧(5:Int)<(List.length p3.1:Int) then
(if 0≤(6:Int)∧(6:Int)<(List.length p3.1:Int) then
(if 0≤(7:Int)∧(7:Int)<(List.length p3.1:Int) then
(qAH (fun(rec0:((Int×Int×Int×Int×Int×Int×Int×Int×Int×Int×Int×Int×Int×Int×Int×Int×Int×Int×Int×Int×Int×Int×Int×Int×Int×Int×Int×Int×Int×Int×Int×Int×Int×Int×Int×Int×Int×Int×Int×Int×Int×Int×Int×Int×Int×Int×Int×Int×Int×Int×Int×Int×Int×Int×Int×Int×Int×Int×Int×Int×Int×Int×Int×Int×Unit)×List (Int)×List (Int)×Int×Int×Int×Int×Int×Int×Int×Int×Int×Unit)→Option _) (y0:(Int×Int×Int×Int×Int×Int×Int×Int×Int×Int×Int×Int×Int×Int×Int×Int×Int×Int×Int×Int×Int×Int×Int×Int×Int×Int×Int×Int×Int×Int×Int×Int×Int×Int×Int×Int×Int×Int×Int×Int×Int×Int×Int×Int×Int×Int×Int×Int×Int×Int×Int×Int×Int×Int×Int×Int×Int×Int×Int×Int×Int×Int×Int×Int×Unit)×List (Int)×List (Int)×Int×Int×Int×Int×Int×Int×Int×Int×Int×Unit) =>
(if(decide (y0.2.2.2.2.2.2.2.2.2.2.2.1<(64:Int)))=true then
((qAZ k (y0.2.2.2.2.2.2.2.1,((6:Int),()))).bind fun p4 =>
((qAZ k (y0.2.2.2.2.2.2.2.1,((11:Int),()))).bind fun p5 =>
((qAZ k (y0.2.2.2.2.2.2.2.1,((25:Int),()))).bind fun p6 =>
(if 0≤y0.2.2.2.2.2.2.2.2.2.2.2.1∧y0.2.2.2.2.2.2.2.2.2.2.2.1<(64:Int) then
(if y0.2.2.2.2.2.2.2.2.2.2.2.1<(List.length ([y0.1.1,y0.1.2.1,y0.1.2.2.1,y0.1.2.2.2.1,y0.1.2.2.2.2.1,y0.1.2.2.2.2.2.1,y0.1.2.2.2.2.2.2.1,y0.1.2.2.2.2.2.2.2.1,y0.1.2.2.2.2.2.2.2.2.1,y0.1.2.2.2.2.2.2.2.2.2.1,y0.1.2.2.2.2.2.2.2.2.2.2.1,y0.1.2.2.2.2.2.2.2.2.2.2.2.1,y0.1.2.2.2.2.2.2.2.2.2.2.2.2.1,y0.1.2.2.2.2.2.2.2.2.2.2.2.2.2.1,y0.1.2.2.2.2.2.2.2.2.2.2.2.2.2.2.1,y0.1.2.2.2.2.2.2.2.2.2.2.2.2.2.2.2.1,y0.1.2.2.2.2.2.2.2.2.2.2.2.2.2.2.2.2.1,y0.1.2.2.2.2.2.2.2.2.2.2.2.2.2.2.2.2.2.1,y0.1.2.2.2.2.2.2.2.2.2.2.2.2.2.2.2.2.2.2.1,y0.1.2.2.2.2.2.2.2.2.2.2.2.2.2.2.2.2.2.2.2.1,y0.1.2.2.2.2.2.2.2.2.2.2.2.2.2.2.2.2.2.2.2.2.1,y0.1.2.2.2.2.2.2.2.2.2.2.2.2.2.2.2.2.2.2.2.2.2.1,y0.1.2.2.2.2.2.2.2.2.2.2.2.2.2.2.2.2.2.2.2.2.2.2.1,y0.1.2.2.2.2.2.2.2.2.2.2.2.2.2.2.2.2.2.2.2.2.2.2.2.1,y0.1.2.2.2.2.2.2.2.2.2.2.2.2.2.2.2.2.2.2.2.2.2.2.2.2.1,y0.1.2.2.2.2.2.2.2.2.2.2.2.2.2.2.2.2.2.2.2.2.2.2.2.2.2.1,y0.1.2.2.2.2.2.2.2.2.2.2.2.2.2.2.2.2.2.2.2.2.2.2.2.2.2.2.1,y0.1.2.2.2.2.2.2.2.2.2.2.2.2.2.2.2.2.2.2.2.2.2.2.2.2.2.2.2.1,y0.1.2.2.2.2.2.2.2.2.2.2.2.2.2.2.2.2.2.2.2.2.2.2.2.2.2.2.2.2.1,y0.1.2.2.2.2.2.2.2.2.2.2.2.2.2.2.2.2.2.2.2.2.2.2.2.2.2.2.2.2.2.1,y0.1.2.2.2.2.2.2.2.2.2.2.2.2.2.2.2.2.2.2.2.2.2.2.2.2.2.2.2.2.2.2.1,y0.1.2.2.2.2.2.2.2.2.2.2.2.2.2.2.2.2.2.2.2.2.2.2.2.2.2.2.2.2.2.2.2.1,y0.1.2.2.2.2.2.2.2.2.2.2.2.2.2.2.2.2.2.2.2.2.2.2.2.2.2.2.2.2.2.2.2.2.1,y0.1.2.2.2.2.2.2.2.2.2.2.2.2.2.2.2.2.2.2.2.2.2.2.2.2.2.2.2.2.2.2.2.2.2.1,y0.1.2.2.2.2.2.2.2.2.2.2.2.2.2.2.2.2.2.2.2.2.2.2.2.2.2.2.2.2.2.2.2.2.2.2.1,y0.1.2.2.2.2.2.2.2.2.2.2.2.2.2.2.2.2.2.2.2.2.2.2.2.2.2.2.2.2.2.2.2.2.2.2.2.1,y0.1.2.2.2.2.2.2.2.2.2.2.2.2.2.2.2.2.2.2.2.2.2.2.2.2.2.2.2.2.2.2.2.2.2.2.2.2.1,y0.1.2.2.2.2.2.2.2.2.2.2.2.2.2.2.2.2.2.2.2.2.2.2.2.2.2.2.2.2.2.2.2.2.2.2.2.2.2.1,y0.1.2.2.2.2.2.2.2.2.2.2.2.2.2.2.2.2.2.2.2.2.2.2.2.2.2.2.2.2.2.2.2.2.2.2.2.2.2.2.1,y0.1.2.2.2.2.2.2.2.2.2.2.2.2.2.2.2.2.2.2.2.2.2.2.2.2.2.2.2.2.2.2.2.2.2.2.2.2.2.2.2.1,y0.1.2.2.2.2.2.2.2.2.2.2.2.2.2.2.2.2.2.2.2.2.2.2.2.2.2.2.2.2.2.2.2.2.2.2.2.2.2.2.2.2.1,y0.1.2.2.2.2.2.2.2.2.2.2.2.2.2.2.2.2.2.2.2.2.2.2.2.2.2.2.2.2.2.2.2.2.2.2.2.2.2.2.2.2.2.1,y0.1.2.2.2.2.2.2.2.2.2.2.2.2.2.2.2.2.2.2.2.2.2.2.2.2.2.2.2.2.2.2.2.2.2.2.2.2.2.2.2.2.2.2.1,y0.1.2.2.2.2.2.2.2.2.2.2.2.2.2.2.2.2.2.2.2.2.2.2.2.2.2.2.2.2.2.2.2.2.2.2.2.2.2.2.2.2.2.2.2.1,y0.1.2.2.2.2.2.2.2.2.2.2.2.2.2.2.2.2.2.2.2.2.2.2.2.2.2.2.2.2.2.2.2.2.2.2.2.2.2.2.2.2.2.2.2.2.1,y0.1.2.2.2.2.2.2.2.2.2.2.2.2.2.2.2.2.2.2.2.2.2.2.2.2.2.2.2.2.2.2.2.2.2.2.2.2.2.2.2.2.2.2.2.2.2.1,y0.1.2.2.2.2.2.2.2.2.2.2.2.2.2.2.2.2.2.2.2.2.2.2.2.2.2.2.2.2.2.2.2.2.2.2.2.2.2.2.2.2.2.2.2.2.2.2.1,y0.1.2.2.2.2.2.2.2.2.2.2.2.2.2.2.2.2.2.2.2.2.2.2.2.2.2.2.2.2.2.2.2.2.2.2.2.2.2.2.2.2.2.2.2.2.2.2.2.1,y0.1.2.2.2.2.2.2.2.2.2.2.2.2.2.2.2.2.2.2.2.2.2.2.2.2.2.2.2.2.2.2.2.2.2.2.2.2.2.2.2.2.2.2.2.2.2.2.2.2.1,y0.1.2.2.2.2.2.2.2.2.2.2.2.2.2.2.2.2.2.2.2.2.2.2.2.2.2.2.2.2.2.2.2.2.2.2.2.2.2.2.2.2.2.2.2.2.2.2.2.2.2.1,y0.1.2.2.2.2.2.2.2.2.2.2.2.2.2.2.2.2.2.2.2.2.2.2.2.2.2.2.2.2.2.2.2.2.2.2.2.2.2.2.2.2.2.2.2.2.2.2.2.2.2.2.1,y0.1.2.2.2.2.2.2.2.2.2.2.2.2.2.2.2.2.2.2.2.2.2.2.2.2.2.2.2.2.2.2.2.2.2.2.2.2.2.2.2.2.2.2.2.2.2.2.2.2.2.2.2.1,y0.1.2.2.2.2.2.2.2.2.2.2.2.2.2.2.2.2.2.2.2.2.2.2.2.2.2.2.2.2.2.2.2.2.2.2.2.2.2.2.2.2.2.2.2.2.2.2.2.2.2.2.2.2.1,y0.1.2.2.2.2.2.2.2.2.2.2.2.2.2.2.2.2.2.2.2.2.2.2.2.2.2.2.2.2.2.2.2.2.2.2.2.2.2.2.2.2.2.2.2.2.2.2.2.2.2.2.2.2.2.1,y0.1.2.2.2.2.2.2.2.2.2.2.2.2.2.2.2.2.2.2.2.2.2.2.2.2.2.2.2.2.2.2.2.2.2.2.2.2.2.2.2.2.2.2.2.2.2.2.2.2.2.2.2.2.2.2.1,y0.1.2.2.2.2.2.2.2.2.2.2.2.2.2.2.2.2.2.2.2.2.2.2.2.2.2.2.2.2.2.2.2.2.2.2.2.2.2.2.2.2.2.2.2.2.2.2.2.2.2.2.2.2.2.2.2.1,y0.1.2.2.2.2.2.2.2.2.2.2.2.2.2.2.2.2.2.2.2.2.2.2.2.2.2.2.2.2.2.2.2.2.2.2.2.2.2.2.2.2.2.2.2.2.2.2.2.2.2.2.2.2.2.2.2.2.1,y0.1.2.2.2.2.2.2.2.2.2.2.2.2.2.2.2.2.2.2.2.2.2.2.2.2.2.2.2.2.2.2.2.2.2.2.2.2.2.2.2.2.2.2.2.2.2.2.2.2.2.2.2.2.2.2.2.2.2.1,y0.1.2.2.2.2.2.2.2.2.2.2.2.2.2.2.2.2.2.2.2.2.2.2.2.2.2.2.2.2.2.2.2.2.2.2.2.2.2.2.2.2.2.2.2.2.2.2.2.2.2.2.2.2.2.2.2.2.2.2.1,y0.1.2.2.2.2.2.2.2.2.2.2.2.2.2.2.2.2.2.2.2.2.2.2.2.2.2.2.2.2.2.2.2.2.2.2.2.2.2.2.2.2.2.2.2.2.2.2.2.2.2.2.2.2.2.2.2.2.2.2.2.1,y0.1.2.2.2.2.2.2.2.2.2.2.2.2.2.2.2.2.2.2.2.2.2.2.2.2.2.2.2.2.2.2.2.2.2.2.2.2.2.2.2.2.2.2.2.2.2.2.2.2.2.2.2.2.2.2.2.2.2.2.2.2.1,y0.1.2.2.2.2.2.2.2.2.2.2.2.2.2.2.2.2.2.2.2.2.2.2.2.2.2.2.2.2.2.2.2.2.2.2.2.2.2.2.2.2.2.2.2.2.2.2.2.2.2.2.2.2.2.2.2.2.2.2.2.2.2.1,y0.1.2.2.2.2.2.2.2.2.2.2.2.2.2.2.2.2.2.2.2.2.2.2.2.2.2.2.2.2.2.2.2.2.2.2.2.2.2.2.2.2.2.2.2.2.2.2.2.2.2.2.2.2.2.2.2.2.2.2.2.2.2.2.1,y0.1.2.2.2.2.2.2.2.2.2.2.2.2.2.2.2.2.2.2.2.2.2.2.2.2.2.2.2.2.2.2.2.2.2.2.2.2.2.2.2.2.2.2.2.2.2.2.2.2.2.2.2.2.2.2.2.2.2.2.2.2.2.2.2.1]:List Int):Int) then
(if 0≤y0.2.2.2.2.2.2.2.2.2.2.2.1∧y0.2.2.2.2.2.2.2.2.2.2.2.1<(List.length y0.2.1:Int) then
((qAZ k (y0.2.2.2.1,((2:Int),()))).bind fun p7 =>
((qAZ k (y0.2.2.2.1,((13:Int),()))).bind fun p8 =>
((qAZ k (y0.2.2.2.1,((22:Int),()))).bind fun p9 =>
(rec0 (y0.1,(y0.2.1,(y0.2.2.1,((qAX .and .i64 (wi64 ((wi64 ((wi64 ((wi64 ((wi64 (y0.2.2.2.2.2.2.2.2.2.2.1+(qAX .xor .i64 (qAX .xor .i64 p4.1 p5.1) p6.1)))+(qAX .xor .i64 (qAX .and .i64 y0.2.2.2.2.2.2.2.1 y0.2.2.2.2.2.2.2.2.1) (qAX .and .i64 (qAX .xor .i64 (4294967295:Int) y0.2.2.2.2.2.2.2.1) y0.2.2.2.2.2.2.2.2.2.1))))+(Ty.rd (t:=.int .i64) ([y0.1.1,y0.1.2.1,y0.1.2.2.1,y0.1.2.2.2.1,y0.1.2.2.2.2.1,y0.1.2.2.2.2.2.1,y0.1.2.2.2.2.2.2.1,y0.1.2.2.2.2.2.2.2.1,y0.1.2.2.2.2.2.2.2.2.1,y0.1.2.2.2.2.2.2.2.2.2.1,y0.1.2.2.2.2.2.2.2.2.2.2.1,y0.1.2.2.2.2.2.2.2.2.2.2.2.1,y0.1.2.2.2.2.2.2.2.2.2.2.2.2.1,y0.1.2.2.2.2.2.2.2.2.2.2.2.2.2.1,y0.1.2.2.2.2.2.2.2.2.2.2.2.2.2.2.1,y0.1.2.2.2.2.2.2.2.2.2.2.2.2.2.2.2.1,y0.1.2.2.2.2.2.2.2.2.2.2.2.2.2.2.2.2.1,y0.1.2.2.2.2.2.2.2.2.2.2.2.2.2.2.2.2.2.1,y0.1.2.2.2.2.2.2.2.2.2.2.2.2.2.2.2.2.2.2.1,y0.1.2.2.2.2.2.2.2.2.2.2.2.2.2.2.2.2.2.2.2.1,y0.1.2.2.2.2.2.2.2.2.2.2.2.2.2.2.2.2.2.2.2.2.1,y0.1.2.2.2.2.2.2.2.2.2.2.2.2.2.2.2.2.2.2.2.2.2.1,y0.1.2.2.2.2.2.2.2.2.2.2.2.2.2.2.2.2.2.2.2.2.2.2.1,y0.1.2.2.2.2.2.2.2.2.2.2.2.2.2.2.2.2.2.2.2.2.2.2.2.1,y0.1.2.2.2.2.2.2.2.2.2.2.2.2.2.2.2.2.2.2.2.2.2.2.2.2.1,y0.1.2.2.2.2.2.2.2.2.2.2.2.2.2.2.2.2.2.2.2.2.2.2.2.2.2.1,y0.1.2.2.2.2.2.2.2.2.2.2.2.2.2.2.2.2.2.2.2.2.2.2.2.2.2.2.1,y0.1.2.2.2.2.2.2.2.2.2.2.2.2.2.2.2.2.2.2.2.2.2.2.2.2.2.2.2.1,y0.1.2.2.2.2.2.2.2.2.2.2.2.2.2.2.2.2.2.2.2.2.2.2.2.2.2.2.2.2.1,y0.1.2.2.2.2.2.2.2.2.2.2.2.2.2.2.2.2.2.2.2.2.2.2.2.2.2.2.2.2.2.1,y0.1.2.2.2.2.2.2.2.2.2.2.2.2.2.2.2.2.2.2.2.2.2.2.2.2.2.2.2.2.2.2.1,y0.1.2.2.2.2.2.2.2.2.2.2.2.2.2.2.2.2.2.2.2.2.2.2.2.2.2.2.2.2.2.2.2.1,y0.1.2.2.2.2.2.2.2.2.2.2.2.2.2.2.2.2.2.2.2.2.2.2.2.2.2.2.2.2.2.2.2.2.1,y0.1.2.2.2.2.2.2.2.2.2.2.2.2.2.2.2.2.2.2.2.2.2.2.2.2.2.2.2.2.2.2.2.2.2.1,y0.1.2.2.2.2.2.2.2.2.2.2.2.2.2.2.2.2.2.2.2.2.2.2.2.2.2.2.2.2.2.2.2.2.2.2.1,y0.1.2.2.2.2.2.2.2.2.2.2.2.2.2.2.2.2.2.2.2.2.2.2.2.2.2.2.2.2.2.2.2.2.2.2.2.1,y0.1.2.2.2.2.2.2.2.2.2.2.2.2.2.2.2.2.2.2.2.2.2.2.2.2.2.2.2.2.2.2.2.2.2.2.2.2.1,y0.1.2.2.2.2.2.2.2.2.2.2.2.2.2.2.2.2.2.2.2.2.2.2.2.2.2.2.2.2.2.2.2.2.2.2.2.2.2.1,y0.1.2.2.2.2.2.2.2.2.2.2.2.2.2.2.2.2.2.2.2.2.2.2.2.2.2.2.2.2.2.2.2.2.2.2.2.2.2.2.1,y0.1.2.2.2.2.2.2.2.2.2.2.2.2.2.2.2.2.2.2.2.2.2.2.2.2.2.2.2.2.2.2.2.2.2.2.2.2.2.2.2.1,y0.1.2.2.2.2.2.2.2.2.2.2.2.2.2.2.2.2.2.2.2.2.2.2.2.2.2.2.2.2.2.2.2.2.2.2.2.2.2.2.2.2.1,y0.1.2.2.2.2.2.2.2.2.2.2.2.2.2.2.2.2.2.2.2.2.2.2.2.2.2.2.2.2.2.2.2.2.2.2.2.2.2.2.2.2.2.1,y0.1.2.2.2.2.2.2.2.2.2.2.2.2.2.2.2.2.2.2.2.2.2.2.2.2.2.2.2.2.2.2.2.2.2.2.2.2.2.2.2.2.2.2.1,y0.1.2.2.2.2.2.2.2.2.2.2.2.2.2.2.2.2.2.2.2.2.2.2.2.2.2.2.2.2.2.2.2.2.2.2.2.2.2.2.2.2.2.2.2.1,y0.1.2.2.2.2.2.2.2.2.2.2.2.2.2.2.2.2.2.2.2.2.2.2.2.2.2.2.2.2.2.2.2.2.2.2.2.2.2.2.2.2.2.2.2.2.1,y0.1.2.2.2.2.2.2.2.2.2.2.2.2.2.2.2.2.2.2.2.2.2.2.2.2.2.2.2.2.2.2.2.2.2.2.2.2.2.2.2.2.2.2.2.2.2.1,y0.1.2.2.2.2.2.2.2.2.2.2.2.2.2.2.2.2.2.2.2.2.2.2.2.2.2.2.2.2.2.2.2.2.2.2.2.2.2.2.2.2.2.2.2.2.2.2.1,y0.1.2.2.2.2.2.2.2.2.2.2.2.2.2.2.2.2.2.2.2.2.2.2.2.2.2.2.2.2.2.2.2.2.2.2.2.2.2.2.2.2.2.2.2.2.2.2.2.1,y0.1.2.2.2.2.2.2.2.2.2.2.2.2.2.2.2.2.2.2.2.2.2.2.2.2.2.2.2.2.2.2.2.2.2.2.2.2.2.2.2.2.2.2.2.2.2.2.2.2.1,y0.1.2.2.2.2.2.2.2.2.2.2.2.2.2.2.2.2.2.2.2.2.2.2.2.2.2.2.2.2.2.2.2.2.2.2.2.2.2.2.2.2.2.2.2.2.2.2.2.2.2.1,y0.1.2.2.2.2.2.2.2.2.2.2.2.2.2.2.2.2.2.2.2.2.2.2.2.2.2.2.2.2.2.2.2.2.2.2.2.2.2.2.2.2.2.2.2.2.2.2.2.2.2.2.1,y0.1.2.2.2.2.2.2.2.2.2.2.2.2.2.2.2.2.2.2.2.2.2.2.2.2.2.2.2.2.2.2.2.2.2.2.2.2.2.2.2.2.2.2.2.2.2.2.2.2.2.2.2.1,y0.1.2.2.2.2.2.2.2.2.2.2.2.2.2.2.2.2.2.2.2.2.2.2.2.2.2.2.2.2.2.2.2.2.2.2.2.2.2.2.2.2.2.2.2.2.2.2.2.2.2.2.2.2.1,y0.1.2.2.2.2.2.2.2.2.2.2.2.2.2.2.2.2.2.2.2.2.2.2.2.2.2.2.2.2.2.2.2.2.2.2.2.2.2.2.2.2.2.2.2.2.2.2.2.2.2.2.2.2.2.1,y0.1.2.2.2.2.2.2.2.2.2.2.2.2.2.2.2.2.2.2.2.2.2.2.2.2.2.2.2.2.2.2.2.2.2.2.2.2.2.2.2.2.2.2.2.2.2.2.2.2.2.2.2.2.2.2.1,y0.1.2.2.2.2.2.2.2.2.2.2.2.2.2.2.2.2.2.2.2.2.2.2.2.2.2.2.2.2.2.2.2.2.2.2.2.2.2.2.2.2.2.2.2.2.2.2.2.2.2.2.2.2.2.2.2.1,y0.1.2.2.2.2.2.2.2.2.2.2.2.2.2.2.2.2.2.2.2.2.2.2.2.2.2.2.2.2.2.2.2.2.2.2.2.2.2.2.2.2.2.2.2.2.2.2.2.2.2.2.2.2.2.2.2.2.1,y0.1.2.2.2.2.2.2.2.2.2.2.2.2.2.2.2.2.2.2.2.2.2.2.2.2.2.2.2.2.2.2.2.2.2.2.2.2.2.2.2.2.2.2.2.2.2.2.2.2.2.2.2.2.2.2.2.2.2.1,y0.1.2.2.2.2.2.2.2.2.2.2.2.2.2.2.2.2.2.2.2.2.2.2.2.2.2.2.2.2.2.2.2.2.2.2.2.2.2.2.2.2.2.2.2.2.2.2.2.2.2.2.2.2.2.2.2.2.2.2.1,y0.1.2.2.2.2.2.2.2.2.2.2.2.2.2.2.2.2.2.2.2.2.2.2.2.2.2.2.2.2.2.2.2.2.2.2.2.2.2.2.2.2.2.2.2.2.2.2.2.2.2.2.2.2.2.2.2.2.2.2.2.1,y0.1.2.2.2.2.2.2.2.2.2.2.2.2.2.2.2.2.2.2.2.2.2.2.2.2.2.2.2.2.2.2.2.2.2.2.2.2.2.2.2.2.2.2.2.2.2.2.2.2.2.2.2.2.2.2.2.2.2.2.2.2.1,y0.1.2.2.2.2.2.2.2.2.2.2.2.2.2.2.2.2.2.2.2.2.2.2.2.2.2.2.2.2.2.2.2.2.2.2.2.2.2.2.2.2.2.2.2.2.2.2.2.2.2.2.2.2.2.2.2.2.2.2.2.2.2.1,y0.1.2.2.2.2.2.2.2.2.2.2.2.2.2.2.2.2.2.2.2.2.2.2.2.2.2.2.2.2.2.2.2.2.2.2.2.2.2.2.2.2.2.2.2.2.2.2.2.2.2.2.2.2.2.2.2.2.2.2.2.2.2.2.1,y0.1.2.2.2.2.2.2.2.2.2.2.2.2.2.2.2.2.2.2.2.2.2.2.2.2.2.2.2.2.2.2.2.2.2.2.2.2.2.2.2.2.2.2.2.2.2.2.2.2.2.2.2.2.2.2.2.2.2.2.2.2.2.2.2.1]:List Int) y0.2.2.2.2.2.2.2.2.2.2.2.1)))+(Ty.rd (t:=(.int .i64)) y0.2.1 y0.2.2.2.2.2.2.2.2.2.2.2.1)))+(wi64 ((qAX .xor .i64 (qAX .xor .i64 p7.1 p8.1) p9.1)+(qAX .xor .i64 (qAX .xor .i64 (qAX .and .i64 y0.2.2.2.1 y0.2.2.2.2.1) (qAX .and .i64 y0.2.2.2.1 y0.2.2.2.2.2.1)) (qAX .and .i64 y0.2.2.2.2.1 y0.2.2.2.2.2.1)))))) (4294967295:Int)),(y0.2.2.2.1,(y0.2.2.2.2.1,(y0.2.2.2.2.2.1,((qAX .and .i64 (wi64 (y0.2.2.2.2.2.2.1+(wi64 ((wi64 ((wi64 ((wi64 (y0.2.2.2.2.2.2.2.2.2.2.1+(qAX .xor .i64 (qAX .xor .i64 p4.1 p5.1) p6.1)))+(qAX .xor .i64 (qAX .and .i64 y0.2.2.2.2.2.2.2.1 y0.2.2.2.2.2.2.2.2.1) (qAX .and .i64 (qAX .xor .i64 (4294967295:Int) y0.2.2.2.2.2.2.2.1) y0.2.2.2.2.2.2.2.2.2.1))))+(Ty.rd (t:=.int .i64) ([y0.1.1,y0.1.2.1,y0.1.2.2.1,y0.1.2.2.2.1,y0.1.2.2.2.2.1,y0.1.2.2.2.2.2.1,y0.1.2.2.2.2.2.2.1,y0.1.2.2.2.2.2.2.2.1,y0.1.2.2.2.2.2.2.2.2.1,y0.1.2.2.2.2.2.2.2.2.2.1,y0.1.2.2.2.2.2.2.2.2.2.2.1,y0.1.2.2.2.2.2.2.2.2.2.2.2.1,y0.1.2.2.2.2.2.2.2.2.2.2.2.2.1,y0.1.2.2.2.2.2.2.2.2.2.2.2.2.2.1,y0.1.2.2.2.2.2.2.2.2.2.2.2.2.2.2.1,y0.1.2.2.2.2.2.2.2.2.2.2.2.2.2.2.2.1,y0.1.2.2.2.2.2.2.2.2.2.2.2.2.2.2.2.2.1,y0.1.2.2.2.2.2.2.2.2.2.2.2.2.2.2.2.2.2.1,y0.1.2.2.2.2.2.2.2.2.2.2.2.2.2.2.2.2.2.2.1,y0.1.2.2.2.2.2.2.2.2.2.2.2.2.2.2.2.2.2.2.2.1,y0.1.2.2.2.2.2.2.2.2.2.2.2.2.2.2.2.2.2.2.2.2.1,y0.1.2.2.2.2.2.2.2.2.2.2.2.2.2.2.2.2.2.2.2.2.2.1,y0.1.2.2.2.2.2.2.2.2.2.2.2.2.2.2.2.2.2.2.2.2.2.2.1,y0.1.2.2.2.2.2.2.2.2.2.2.2.2.2.2.2.2.2.2.2.2.2.2.2.1,y0.1.2.2.2.2.2.2.2.2.2.2.2.2.2.2.2.2.2.2.2.2.2.2.2.2.1,y0.1.2.2.2.2.2.2.2.2.2.2.2.2.2.2.2.2.2.2.2.2.2.2.2.2.2.1,y0.1.2.2.2.2.2.2.2.2.2.2.2.2.2.2.2.2.2.2.2.2.2.2.2.2.2.2.1,y0.1.2.2.2.2.2.2.2.2.2.2.2.2.2.2.2.2.2.2.2.2.2.2.2.2.2.2.2.1,y0.1.2.2.2.2.2.2.2.2.2.2.2.2.2.2.2.2.2.2.2.2.2.2.2.2.2.2.2.2.1,y0.1.2.2.2.2.2.2.2.2.2.2.2.2.2.2.2.2.2.2.2.2.2.2.2.2.2.2.2.2.2.1,y0.1.2.2.2.2.2.2.2.2.2.2.2.2.2.2.2.2.2.2.2.2.2.2.2.2.2.2.2.2.2.2.1,y0.1.2.2.2.2.2.2.2.2.2.2.2.2.2.2.2.2.2.2.2.2.2.2.2.2.2.2.2.2.2.2.2.1,y0.1.2.2.2.2.2.2.2.2.2.2.2.2.2.2.2.2.2.2.2.2.2.2.2.2.2.2.2.2.2.2.2.2.1,y0.1.2.2.2.2.2.2.2.2.2.2.2.2.2.2.2.2.2.2.2.2.2.2.2.2.2.2.2.2.2.2.2.2.2.1,y0.1.2.2.2.2.2.2.2.2.2.2.2.2.2.2.2.2.2.2.2.2.2.2.2.2.2.2.2.2.2.2.2.2.2.2.1,y0.1.2.2.2.2.2.2.2.2.2.2.2.2.2.2.2.2.2.2.2.2.2.2.2.2.2.2.2.2.2.2.2.2.2.2.2.1,y0.1.2.2.2.2.2.2.2.2.2.2.2.2.2.2.2.2.2.2.2.2.2.2.2.2.2.2.2.2.2.2.2.2.2.2.2.2.1,y0.1.2.2.2.2.2.2.2.2.2.2.2.2.2.2.2.2.2.2.2.2.2.2.2.2.2.2.2.2.2.2.2.2.2.2.2.2.2.1,y0.1.2.2.2.2.2.2.2.2.2.2.2.2.2.2.2.2.2.2.2.2.2.2.2.2.2.2.2.2.2.2.2.2.2.2.2.2.2.2.1,y0.1.2.2.2.2.2.2.2.2.2.2.2.2.2.2.2.2.2.2.2.2.2.2.2.2.2.2.2.2.2.2.2.2.2.2.2.2.2.2.2.1,y0.1.2.2.2.2.2.2.2.2.2.2.2.2.2.2.2.2.2.2.2.2.2.2.2.2.2.2.2.2.2.2.2.2.2.2.2.2.2.2.2.2.1,y0.1.2.2.2.2.2.2.2.2.2.2.2.2.2.2.2.2.2.2.2.2.2.2.2.2.2.2.2.2.2.2.2.2.2.2.2.2.2.2.2.2.2.1,y0.1.2.2.2.2.2.2.2.2.2.2.2.2.2.2.2.2.2.2.2.2.2.2.2.2.2.2.2.2.2.2.2.2.2.2.2.2.2.2.2.2.2.2.1,y0.1.2.2.2.2.2.2.2.2.2.2.2.2.2.2.2.2.2.2.2.2.2.2.2.2.2.2.2.2.2.2.2.2.2.2.2.2.2.2.2.2.2.2.2.1,y0.1.2.2.2.2.2.2.2.2.2.2.2.2.2.2.2.2.2.2.2.2.2.2.2.2.2.2.2.2.2.2.2.2.2.2.2.2.2.2.2.2.2.2.2.2.1,y0.1.2.2.2.2.2.2.2.2.2.2.2.2.2.2.2.2.2.2.2.2.2.2.2.2.2.2.2.2.2.2.2.2.2.2.2.2.2.2.2.2.2.2.2.2.2.1,y0.1.2.2.2.2.2.2.2.2.2.2.2.2.2.2.2.2.2.2.2.2.2.2.2.2.2.2.2.2.2.2.2.2.2.2.2.2.2.2.2.2.2.2.2.2.2.2.1,y0.1.2.2.2.2.2.2.2.2.2.2.2.2.2.2.2.2.2.2.2.2.2.2.2.2.2.2.2.2.2.2.2.2.2.2.2.2.2.2.2.2.2.2.2.2.2.2.2.1,y0.1.2.2.2.2.2.2.2.2.2.2.2.2.2.2.2.2.2.2.2.2.2.2.2.2.2.2.2.2.2.2.2.2.2.2.2.2.2.2.2.2.2.2.2.2.2.2.2.2.1,y0.1.2.2.2.2.2.2.2.2.2.2.2.2.2.2.2.2.2.2.2.2.2.2.2.2.2.2.2.2.2.2.2.2.2.2.2.2.2.2.2.2.2.2.2.2.2.2.2.2.2.1,y0.1.2.2.2.2.2.2.2.2.2.2.2.2.2.2.2.2.2.2.2.2.2.2.2.2.2.2.2.2.2.2.2.2.2.2.2.2.2.2.2.2.2.2.2.2.2.2.2.2.2.2.1,y0.1.2.2.2.2.2.2.2.2.2.2.2.2.2.2.2.2.2.2.2.2.2.2.2.2.2.2.2.2.2.2.2.2.2.2.2.2.2.2.2.2.2.2.2.2.2.2.2.2.2.2.2.1,y0.1.2.2.2.2.2.2.2.2.2.2.2.2.2.2.2.2.2.2.2.2.2.2.2.2.2.2.2.2.2.2.2.2.2.2.2.2.2.2.2.2.2.2.2.2.2.2.2.2.2.2.2.2.1,y0.1.2.2.2.2.2.2.2.2.2.2.2.2.2.2.2.2.2.2.2.2.2.2.2.2.2.2.2.2.2.2.2.2.2.2.2.2.2.2.2.2.2.2.2.2.2.2.2.2.2.2.2.2.2.1,y0.1.2.2.2.2.2.2.2.2.2.2.2.2.2.2.2.2.2.2.2.2.2.2.2.2.2.2.2.2.2.2.2.2.2.2.2.2.2.2.2.2.2.2.2.2.2.2.2.2.2.2.2.2.2.2.1,y0.1.2.2.2.2.2.2.2.2.2.2.2.2.2.2.2.2.2.2.2.2.2.2.2.2.2.2.2.2.2.2.2.2.2.2.2.2.2.2.2.2.2.2.2.2.2.2.2.2.2.2.2.2.2.2.2.1,y0.1.2.2.2.2.2.2.2.2.2.2.2.2.2.2.2.2.2.2.2.2.2.2.2.2.2.2.2.2.2.2.2.2.2.2.2.2.2.2.2.2.2.2.2.2.2.2.2.2.2.2.2.2.2.2.2.2.1,y0.1.2.2.2.2.2.2.2.2.2.2.2.2.2.2.2.2.2.2.2.2.2.2.2.2.2.2.2.2.2.2.2.2.2.2.2.2.2.2.2.2.2.2.2.2.2.2.2.2.2.2.2.2.2.2.2.2.2.1,y0.1.2.2.2.2.2.2.2.2.2.2.2.2.2.2.2.2.2.2.2.2.2.2.2.2.2.2.2.2.2.2.2.2.2.2.2.2.2.2.2.2.2.2.2.2.2.2.2.2.2.2.2.2.2.2.2.2.2.2.1,y0.1.2.2.2.2.2.2.2.2.2.2.2.2.2.2.2.2.2.2.2.2.2.2.2.2.2.2.2.2.2.2.2.2.2.2.2.2.2.2.2.2.2.2.2.2.2.2.2.2.2.2.2.2.2.2.2.2.2.2.2.1,y0.1.2.2.2.2.2.2.2.2.2.2.2.2.2.2.2.2.2.2.2.2.2.2.2.2.2.2.2.2.2.2.2.2.2.2.2.2.2.2.2.2.2.2.2.2.2.2.2.2.2.2.2.2.2.2.2.2.2.2.2.2.1,y0.1.2.2.2.2.2.2.2.2.2.2.2.2.2.2.2.2.2.2.2.2.2.2.2.2.2.2.2.2.2.2.2.2.2.2.2.2.2.2.2.2.2.2.2.2.2.2.2.2.2.2.2.2.2.2.2.2.2.2.2.2.2.1,y0.1.2.2.2.2.2.2.2.2.2.2.2.2.2.2.2.2.2.2.2.2.2.2.2.2.2.2.2.2.2.2.2.2.2.2.2.2.2.2.2.2.2.2.2.2.2.2.2.2.2.2.2.2.2.2.2.2.2.2.2.2.2.2.1,y0.1.2.2.2.2.2.2.2.2.2.2.2.2.2.2.2.2.2.2.2.2.2.2.2.2.2.2.2.2.2.2.2.2.2.2.2.2.2.2.2.2.2.2.2.2.2.2.2.2.2.2.2.2.2.2.2.2.2.2.2.2.2.2.2.1]:List Int) y0.2.2.2.2.2.2.2.2.2.2.2.1)))+(Ty.rd (t:=(.int .i64)) y0.2.1 y0.2.2.2.2.2.2.2.2.2.2.2.1))))) (4294967295:Int)),(y0.2.2.2.2.2.2.2.1,(y0.2.2.2.2.2.2.2.2.1,(y0.2.2.2.2.2.2.2.2.2.1,((wi64 (y0.2.2.2.2.2.2.2.2.2.2.2.1+(1:Int))),()))))))))))))))))
else none)
else none)
else none))))
else
((fun(z1:List (Int)×Int×Int×Int×Int×Int×Int×Int×Int×Unit) =>
(qAH (fun(rec2:(List (Int)×List (Int)×Int×Int×Unit)→Option _) (y2:List (Int)×List (Int)×Int×Int×Unit) =>
(if(decide (y2.2.2.2.1<y2.2.2.1))=true then
(if 0≤y2.2.2.2.1∧y2.2.2.2.1<(List.length y2.2.1:Int) then
(if 0≤y2.2.2.2.1∧y2.2.2.2.1<(List.length y2.1:Int) then
(if 0≤y2.2.2.2.1∧y2.2.2.2.1<(List.length y2.1:Int) then
(rec2 ((List.set y2.1 (Int.toNat y2.2.2.2.1) (qAX .and .i64 (wi64 ((Ty.rd (t:=(.int .i64)) y2.1 y2.2.2.2.1)+(Ty.rd (t:=(.int .i64)) y2.2.1 y2.2.2.2.1))) (4294967295:Int))),(y2.2.1,(y2.2.2.1,((wi64 (y2.2.2.2.1+(1:Int))),())))))
else none)
else none)
else none)
else
((fun(z2:List (Int)×Unit) =>
((qCw k (z2.1,())).bind fun p10 =>
some (p10.1,((),((),()))))) (y2.1,())))) k (z1.1,(([z1.2.1,z1.2.2.1,z1.2.2.2.1,z1.2.2.2.2.1,z1.2.2.2.2.2.1,z1.2.2.2.2.2.2.1,z1.2.2.2.2.2.2.2.1,z1.2.2.2.2.2.2.2.2.1]:List (Int)),((List.length ([z1.2.1,z1.2.2.1,z1.2.2.2.1,z1.2.2.2.2.1,z1.2.2.2.2.2.1,z1.2.2.2.2.2.2.1,z1.2.2.2.2.2.2.2.1,z1.2.2.2.2.2.2.2.2.1]:List (Int)):Int),((0:Int),())))))) (y0.2.2.1,(y0.2.2.2.1,(y0.2.2.2.2.1,(y0.2.2.2.2.2.1,(y0.2.2.2.2.2.2.1,(y0.2.2.2.2.2.2.2.1,(y0.2.2.2.2.2.2.2.2.1,(y0.2.2.2.2.2.2.2.2.2.1,(y0.2.2.2.2.2.2.2.2.2.2.1,())))))))))))) k (p1.1,(p2.1,(p3.1,((Ty.rd (t:=(.int .i64)) p3.1 (0:Int)),((Ty.rd (t:=(.int .i64)) p3.1 (1:Int)),((Ty.rd (t:=(.int .i64)) p3.1 (2:Int)),((Ty.rd (t:=(.int .i64)) p3.1 (3:Int)),((Ty.rd (t:=(.int .i64)) p3.1 (4:Int)),((Ty.rd (t:=(.int .i64)) p3.1 (5:Int)),((Ty.rd (t:=(.int .i64)) p3.1 (6:Int)),((Ty.rd (t:=(.int .i64)) p3.1 (7:Int)),((0:Int),())))))))))))))
else none)
else none)
else none)
else none)
else none)
else none)
else none)
else none))))
abbrev E_i_round(k:Nat):qAI:=⟨284,0,(.cons .str (.cons .str .nil)),.str,i_round k⟩
theorem t_i_round(k:Nat)(x):evF TTab k [qFT k,qIj k,E_i_expanded k,qH2 k,qFV k] [(0,⟨[5,6,7,8,9,10,11,12,13,14,15,52],(.cons (.ptr 0 yP14) (.cons yP25 (.cons yP25 (.cons (.int .i64) (.cons (.int .i64) (.cons (.int .i64) (.cons (.int .i64) (.cons (.int .i64) (.cons (.int .i64) yP16)))))))))⟩,⟨[7,8,9,10,11,12,13,14,15],(.cons yP25 (.cons (.int .i64) (.cons (.int .i64) (.cons (.int .i64) (.cons (.int .i64) (.cons (.int .i64) yP16))))))⟩),(2,⟨[7,128,129,130],(.cons yP25 (.cons yP25 (.cons (.int .i64) yP5)))⟩,⟨[7],(.cons yP25 .nil)⟩)] Tryz.f284 (.cons .str (.cons .str .nil)) .str x=i_round k x:=by kernel_rfl
theorem e_i_round[Names](k:Nat):qAD Tryz.prog (E_i_round k):=qAB tok (qAA (qIi k) (qAA (e_i_constants k) (qAA (e_i_expanded k) (qAA (e_i_wordsOf k) (qAA (qIk k) qAG))))) (by kernel_rfl) (by kernel_rfl) (by kernel_rfl) fun x r h=>(t_i_round k x).trans h
def i_rounds(k:Nat)(x:ByteArray×ByteArray×Unit):Option ((ByteArray×ByteArray×Unit)×Unit×Unit×Unit):=
(qAH (fun(rec0:(ByteArray×ByteArray×Unit)→Option _) (y0:ByteArray×ByteArray×Unit) =>
(if(decide ((64:Int)≤(ByteArray.size y0.2.1:Int)))=true then
(if 0≤(64:Int)∧(64:Int)≤(ByteArray.size y0.2.1:Int) then
((i_round k (y0.1,((ByteArray.extract y0.2.1 (Int.toNat (0:Int)) (Int.toNat (64:Int))),()))).bind fun p1 =>
(if 0≤(64:Int)∧(64:Int)≤(ByteArray.size y0.2.1:Int) then
(rec0 (p1.1,((ByteArray.extract y0.2.1 (Int.toNat (64:Int)) (Int.toNat (ByteArray.size y0.2.1:Int))),())))
else none))
else none)
else
((fun(z1:ByteArray×ByteArray×Unit) =>
some ((z1.1,(z1.2.1,())),((),((),())))) (y0.1,(y0.2.1,()))))) k (x.1,(x.2.1,())))
abbrev E_i_rounds(k:Nat):qAI:=⟨227,0,(.cons .str (.cons .str .nil)),(.tup (.cons .str (.cons .str .nil))),i_rounds k⟩
theorem t_i_rounds(k:Nat)(x):evF TTab k [E_i_round k] [(0,⟨[0,1],(.cons .str (.cons .str .nil))⟩,⟨[0,1],(.cons .str (.cons .str .nil))⟩)] Tryz.f227 (.cons .str (.cons .str .nil)) (.tup (.cons .str (.cons .str .nil))) x=i_rounds k x:=by kernel_rfl
theorem e_i_rounds[Names](k:Nat):qAD Tryz.prog (E_i_rounds k):=qAB tok (qAA (e_i_round k) qAG) (by kernel_rfl) (by kernel_rfl) (by kernel_rfl) fun x r h=>(t_i_rounds k x).trans h
def qDH(k:Nat)(x:Unit):Option (ByteArray×Unit):=
((qCw k (([(1779033703:Int),(3144134277:Int),(1013904242:Int),(2773480762:Int),(1359893119:Int),(2600822924:Int),(528734635:Int),(1541459225:Int)]:List (Int)),())).bind fun p1 =>
some (p1.1,()))
abbrev qHZ(k:Nat):qAI:=⟨228,0,.nil,.str,qDH k⟩
theorem t_i_firstState(k:Nat)(x):evF TTab k [qFT k] [] Tryz.f228 .nil .str x=qDH k x:=by kernel_rfl
theorem e_i_firstState[Names](k:Nat):qAD Tryz.prog (qHZ k):=qAB tok (qAA (qIi k) qAG) (by kernel_rfl) (by kernel_rfl) (by kernel_rfl) fun x r h=>(t_i_firstState k x).trans h
def qDV(k:Nat)(x:ByteArray×Int×Unit):Option (ByteArray×Unit×Unit×Unit):=repF x
abbrev qET(k:Nat):qAI:=⟨286,0,(.cons .str yP5),.str,qDV k⟩
theorem qIl[Names](k:Nat):qAD Tryz.prog (qET k):=entry_repeat Tryz.func286 (by kernel_rfl) Tryz.strings_Repeat
def qGM(k:Nat)(x:Int×Unit):Option (ByteArray×Unit×Unit):=
((qDV k ((⟨#[0]⟩:ByteArray),((Int.tmod (wi64 ((119:Int)-(Int.tmod x.1 (64:Int)))) (64:Int)),()))).bind fun p1 =>
(if ByteArray.size (⟨#[128]⟩:ByteArray)+ByteArray.size p1.1≤maxStr then
((qBz k ((Int.fdiv (wi64 ((8:Int)*x.1)) (2^(min (Int.toNat (32:Int)) (IntKind.bits .i64)))),())).bind fun p2 =>
(if ByteArray.size ((⟨#[128]⟩:ByteArray)++p1.1)+ByteArray.size p2.1≤maxStr then
((qBz k ((qAX .and .i64 (wi64 ((8:Int)*x.1)) (4294967295:Int)),())).bind fun p3 =>
(if ByteArray.size (((⟨#[128]⟩:ByteArray)++p1.1)++p2.1)+ByteArray.size p3.1≤maxStr then
some (((((⟨#[128]⟩:ByteArray)++p1.1)++p2.1)++p3.1),((),()))
else none))
else none))
else none))
abbrev E_i_padding(k:Nat):qAI:=⟨229,0,yP5,.str,qGM k⟩
theorem t_i_padding(k:Nat)(x):evF TTab k [qEb k,qET k] [] Tryz.f229 yP5 .str x=qGM k x:=by kernel_rfl
theorem e_i_padding[Names](k:Nat):qAD Tryz.prog (E_i_padding k):=qAB tok (qAA (qHX k) (qAA (qIl k) qAG)) (by kernel_rfl) (by kernel_rfl) (by kernel_rfl) fun x r h=>(t_i_padding k x).trans h
def qDl(k:Nat)(x:ByteArray×Unit):Option (ByteArray×Unit×Unit):=
((qDH k ()).bind fun p1 =>
((qGM k ((ByteArray.size x.1:Int),())).bind fun p2 =>
(if ByteArray.size x.1+ByteArray.size p2.1≤maxStr then
((i_rounds k (p1.1,((x.1++p2.1),()))).bind fun p3 =>
some (p3.1.1,((),())))
else none)))
abbrev E_i_DigestOf(k:Nat):qAI:=⟨141,0,(.cons .str .nil),.str,qDl k⟩
theorem t_i_DigestOf(k:Nat)(x):evF TTab k [E_i_rounds k,qHZ k,E_i_padding k] [] Tryz.f141 (.cons .str .nil) .str x=qDl k x:=by kernel_rfl
theorem e_i_DigestOf[Names](k:Nat):qAD Tryz.prog (E_i_DigestOf k):=qAB tok (qAA (e_i_rounds k) (qAA (e_i_firstState k) (qAA (e_i_padding k) qAG))) (by kernel_rfl) (by kernel_rfl) (by kernel_rfl) fun x r h=>(t_i_DigestOf k x).trans h
def qIm(k:Nat)(x:List (Int)×Unit):Option (Bool×Unit×Unit):=
(qAH (fun(rec0:(List (Int)×List (Int)×Int×Int×Unit)→Option _) (y0:List (Int)×List (Int)×Int×Int×Unit) =>
(if(decide (y0.2.2.2.1<y0.2.2.1))=true then
(if 0≤y0.2.2.2.1∧y0.2.2.2.1<(List.length y0.2.1:Int) then
((qBK k ((Ty.rd (t:=(.int .i64)) y0.2.1 y0.2.2.2.1),((1:Int),((1000000000:Int),())))).bind fun p1 =>
(if(!p1.1)=false then
(if(decide ((0:Int)<y0.2.2.2.1))=true then
(if 0≤(wi64 (y0.2.2.2.1-(1:Int)))∧(wi64 (y0.2.2.2.1-(1:Int)))<(List.length y0.1:Int) then
(if(decide ((Ty.rd (t:=(.int .i64)) y0.1 (wi64 (y0.2.2.2.1-(1:Int))))≤(Ty.rd (t:=(.int .i64)) y0.2.1 y0.2.2.2.1)))=false then
(if 0≤(0:Int)∧(0:Int)<(List.length y0.1:Int) then
(if(decide ((Ty.rd (t:=(.int .i64)) y0.2.1 y0.2.2.2.1)≤(wi64 ((Ty.rd (t:=(.int .i64)) y0.1 (0:Int))-(6:Int)))))=true then
some (false,((),()))
else
(rec0 (y0.1,(y0.2.1,(y0.2.2.1,((wi64 (y0.2.2.2.1+(1:Int))),()))))))
else none)
else
some (false,((),())))
else none)
else
(if 0≤(0:Int)∧(0:Int)<(List.length y0.1:Int) then
(if(decide ((Ty.rd (t:=(.int .i64)) y0.2.1 y0.2.2.2.1)≤(wi64 ((Ty.rd (t:=(.int .i64)) y0.1 (0:Int))-(6:Int)))))=true then
some (false,((),()))
else
(rec0 (y0.1,(y0.2.1,(y0.2.2.1,((wi64 (y0.2.2.2.1+(1:Int))),()))))))
else none))
else
some (false,((),()))))
else none)
else
((fun(z1:List (Int)×Unit) =>
some ((decide ((List.length z1.1:Int)≤(6:Int))),((),()))) (y0.1,())))) k (x.1,(x.1,((List.length x.1:Int),((0:Int),())))))
abbrev E_i_SeenOk(k:Nat):qAI:=⟨295,0,yP30,.bool,qIm k⟩
theorem t_i_SeenOk(k:Nat)(x):evF TTab k [qBV k] [(0,⟨[0,5,6,7],(.cons (.il true (.int .i64)) (.cons (.il true (.int .i64)) (.cons (.int .i64) yP5)))⟩,⟨[0],yP30⟩)] Tryz.f295 yP30 .bool x=qIm k x:=by kernel_rfl
theorem e_i_SeenOk[Names](k:Nat):qAD Tryz.prog (E_i_SeenOk k):=qAB tok (qAA (qBg k) qAG) (by kernel_rfl) (by kernel_rfl) (by kernel_rfl) fun x r h=>(t_i_SeenOk k x).trans h
def qHE(k:Nat)(x:(Int×ByteArray×ByteArray×Int×List (Int)×Int×Unit)×Unit):Option (Bool×Unit×Unit):=
(if(decide (x.1.1=(0:Int)))=true then
(if(decide (x.1.2.1=(⟨#[]⟩:ByteArray)))=true then
(if(decide (x.1.2.2.1=(⟨#[]⟩:ByteArray)))=true then
(if(decide (x.1.2.2.2.1=(0:Int)))=true then
(if(decide ((List.length x.1.2.2.2.2.1:Int)=(0:Int)))=true then
some ((decide (x.1.2.2.2.2.2.1=(0:Int))),((),()))
else
some (false,((),())))
else
some (false,((),())))
else
some (false,((),())))
else
some (false,((),())))
else
(if(decide ((ByteArray.size x.1.2.1:Int)=(32:Int)))=true then
((qBK k (x.1.1,((1:Int),((1000000000:Int),())))).bind fun p1 =>
(if p1.1=true then
(if(decide ((ByteArray.size x.1.2.2.1:Int)=(32:Int)))=true then
((qBK k (x.1.2.2.2.1,((0:Int),((12:Int),())))).bind fun p2 =>
(if p2.1=true then
((qIm k (x.1.2.2.2.2.1,())).bind fun p3 =>
(if p3.1=true then
((qBK k (x.1.2.2.2.2.2.1,((0:Int),((1000000000:Int),())))).bind fun p4 =>
some (p4.1,((),())))
else
some (false,((),()))))
else
some (false,((),()))))
else
some (false,((),())))
else
some (false,((),()))))
else
((qBK k (x.1.1,((1:Int),((1000000000:Int),())))).bind fun p5 =>
(if p5.1=true then
some (false,((),()))
else
some (false,((),()))))))
abbrev E_i_SlotOk(k:Nat):qAI:=⟨256,0,(.cons yP15 .nil),.bool,qHE k⟩
theorem t_i_SlotOk(k:Nat)(x):evF TTab k [qBV k,E_i_SeenOk k] [] Tryz.f256 (.cons yP15 .nil) .bool x=qHE k x:=by kernel_rfl
theorem e_i_SlotOk[Names](k:Nat):qAD Tryz.prog (E_i_SlotOk k):=qAB tok (qAA (qBg k) (qAA (e_i_SeenOk k) qAG)) (by kernel_rfl) (by kernel_rfl) (by kernel_rfl) fun x r h=>(t_i_SlotOk k x).trans h
def qGN(k:Nat)(x:(Int×ByteArray×ByteArray×Int×List (Int)×Int×Int×ByteArray×ByteArray×Int×List (Int)×Int×Unit)×Unit):Option (Bool×Unit×Unit):=
((qHE k ((x.1.1,(x.1.2.1,(x.1.2.2.1,(x.1.2.2.2.1,(x.1.2.2.2.2.1,(x.1.2.2.2.2.2.1,())))))),())).bind fun p1 =>
(if p1.1=true then
((qHE k ((x.1.2.2.2.2.2.2.1,(x.1.2.2.2.2.2.2.2.1,(x.1.2.2.2.2.2.2.2.2.1,(x.1.2.2.2.2.2.2.2.2.2.1,(x.1.2.2.2.2.2.2.2.2.2.2.1,(x.1.2.2.2.2.2.2.2.2.2.2.2.1,())))))),())).bind fun p2 =>
(if p2.1=true then
(if(decide (x.1.2.2.2.2.2.2.1=(0:Int)))=false then
some ((decide (x.1.2.2.2.2.2.2.1<x.1.1)),((),()))
else
some (true,((),())))
else
some (false,((),()))))
else
some (false,((),()))))
abbrev E_i_SlotsOk(k:Nat):qAI:=⟨185,0,(.cons yP8 .nil),.bool,qGN k⟩
theorem t_i_SlotsOk(k:Nat)(x):evF TTab k [E_i_SlotOk k] [] Tryz.f185 (.cons yP8 .nil) .bool x=qGN k x:=by kernel_rfl
theorem e_i_SlotsOk[Names](k:Nat):qAD Tryz.prog (E_i_SlotsOk k):=qAB tok (qAA (e_i_SlotOk k) qAG) (by kernel_rfl) (by kernel_rfl) (by kernel_rfl) fun x r h=>(t_i_SlotsOk k x).trans h
def qEy(k:Nat)(x:(Int×ByteArray×ByteArray×Int×List (Int)×Int×Int×ByteArray×ByteArray×Int×List (Int)×Int×Unit)×ByteArray×ByteArray×Int×Unit):Option (((Int×ByteArray×ByteArray×Int×List (Int)×Int×Int×ByteArray×ByteArray×Int×List (Int)×Int×Unit)×Bool×Unit)×Unit×Unit×Unit×Unit×Unit):=
((qCt k ((x.1.1,(x.1.2.1,(x.1.2.2.1,(x.1.2.2.2.1,(x.1.2.2.2.2.1,(x.1.2.2.2.2.2.1,(x.1.2.2.2.2.2.2.1,(x.1.2.2.2.2.2.2.2.1,(x.1.2.2.2.2.2.2.2.2.1,(x.1.2.2.2.2.2.2.2.2.2.1,(x.1.2.2.2.2.2.2.2.2.2.2.1,(x.1.2.2.2.2.2.2.2.2.2.2.2.1,())))))))))))),())).bind fun p1 =>
((qGN k ((x.1.1,(x.1.2.1,(x.1.2.2.1,(x.1.2.2.2.1,(x.1.2.2.2.2.1,(x.1.2.2.2.2.2.1,(x.1.2.2.2.2.2.2.1,(x.1.2.2.2.2.2.2.2.1,(x.1.2.2.2.2.2.2.2.2.1,(x.1.2.2.2.2.2.2.2.2.2.1,(x.1.2.2.2.2.2.2.2.2.2.2.1,(x.1.2.2.2.2.2.2.2.2.2.2.2.1,())))))))))))),())).bind fun p2 =>
(if(!p2.1)=false then
(if(!decide ((ByteArray.size x.2.1:Int)=(32:Int)))=false then
(if(!decide ((ByteArray.size x.2.2.1:Int)=(32:Int)))=false then
((qBK k (x.2.2.2.1,((0:Int),((999999990:Int),())))).bind fun p3 =>
(if(!p3.1)=false then
(if(decide (x.1.1=(1000000000:Int)))=true then
some (((p1.1.1,(p1.1.2.1,(p1.1.2.2.1,(p1.1.2.2.2.1,(p1.1.2.2.2.2.1,(p1.1.2.2.2.2.2.1,(p1.1.2.2.2.2.2.2.1,(p1.1.2.2.2.2.2.2.2.1,(p1.1.2.2.2.2.2.2.2.2.1,(p1.1.2.2.2.2.2.2.2.2.2.1,(p1.1.2.2.2.2.2.2.2.2.2.2.1,(p1.1.2.2.2.2.2.2.2.2.2.2.2.1,())))))))))))),(false,())),((),((),((),((),())))))
else
(if(!decide (x.1.1=(0:Int)))=true then
some ((((wi64 (x.1.1+(1:Int))),(x.2.1,(x.2.2.1,((0:Int),([],((0:Int),(p1.1.1,(p1.1.2.1,(p1.1.2.2.1,(p1.1.2.2.2.1,(p1.1.2.2.2.2.1,((wi64 (x.2.2.2.1+(10:Int))),())))))))))))),(true,())),((),((),((),((),())))))
else
some ((((wi64 (x.1.1+(1:Int))),(x.2.1,(x.2.2.1,((0:Int),([],((0:Int),(p1.1.1,(p1.1.2.1,(p1.1.2.2.1,(p1.1.2.2.2.1,(p1.1.2.2.2.2.1,(p1.1.2.2.2.2.2.1,())))))))))))),(true,())),((),((),((),((),())))))))
else
some (((p1.1.1,(p1.1.2.1,(p1.1.2.2.1,(p1.1.2.2.2.1,(p1.1.2.2.2.2.1,(p1.1.2.2.2.2.2.1,(p1.1.2.2.2.2.2.2.1,(p1.1.2.2.2.2.2.2.2.1,(p1.1.2.2.2.2.2.2.2.2.1,(p1.1.2.2.2.2.2.2.2.2.2.1,(p1.1.2.2.2.2.2.2.2.2.2.2.1,(p1.1.2.2.2.2.2.2.2.2.2.2.2.1,())))))))))))),(false,())),((),((),((),((),())))))))
else
some (((p1.1.1,(p1.1.2.1,(p1.1.2.2.1,(p1.1.2.2.2.1,(p1.1.2.2.2.2.1,(p1.1.2.2.2.2.2.1,(p1.1.2.2.2.2.2.2.1,(p1.1.2.2.2.2.2.2.2.1,(p1.1.2.2.2.2.2.2.2.2.1,(p1.1.2.2.2.2.2.2.2.2.2.1,(p1.1.2.2.2.2.2.2.2.2.2.2.1,(p1.1.2.2.2.2.2.2.2.2.2.2.2.1,())))))))))))),(false,())),((),((),((),((),()))))))
else
some (((p1.1.1,(p1.1.2.1,(p1.1.2.2.1,(p1.1.2.2.2.1,(p1.1.2.2.2.2.1,(p1.1.2.2.2.2.2.1,(p1.1.2.2.2.2.2.2.1,(p1.1.2.2.2.2.2.2.2.1,(p1.1.2.2.2.2.2.2.2.2.1,(p1.1.2.2.2.2.2.2.2.2.2.1,(p1.1.2.2.2.2.2.2.2.2.2.2.1,(p1.1.2.2.2.2.2.2.2.2.2.2.2.1,())))))))))))),(false,())),((),((),((),((),()))))))
else
some (((p1.1.1,(p1.1.2.1,(p1.1.2.2.1,(p1.1.2.2.2.1,(p1.1.2.2.2.2.1,(p1.1.2.2.2.2.2.1,(p1.1.2.2.2.2.2.2.1,(p1.1.2.2.2.2.2.2.2.1,(p1.1.2.2.2.2.2.2.2.2.1,(p1.1.2.2.2.2.2.2.2.2.2.1,(p1.1.2.2.2.2.2.2.2.2.2.2.1,(p1.1.2.2.2.2.2.2.2.2.2.2.2.1,())))))))))))),(false,())),((),((),((),((),()))))))))
abbrev E_i_Install(k:Nat):qAI:=⟨142,0,(.cons yP8 yP29),(.tup (.cons yP10 (.cons .bool .nil))),qEy k⟩
theorem t_i_Install(k:Nat)(x):evF TTab k [qBV k,qFR k,E_i_SlotsOk k] [] Tryz.f142 (.cons yP8 yP29) (.tup (.cons yP10 (.cons .bool .nil))) x=qEy k x:=by kernel_rfl
theorem e_i_Install[Names](k:Nat):qAD Tryz.prog (E_i_Install k):=qAB tok (qAA (qBg k) (qAA (qIY k) (qAA (e_i_SlotsOk k) qAG))) (by kernel_rfl) (by kernel_rfl) (by kernel_rfl) fun x r h=>(t_i_Install k x).trans h
def qD8(k:Nat)(x:ByteArray×Unit):Option (((Int×ByteArray×ByteArray×Int×List (Int)×Int×Int×ByteArray×ByteArray×Int×List (Int)×Int×Unit)×(Int×ByteArray×ByteArray×Int×List (Int)×Int×Int×ByteArray×ByteArray×Int×List (Int)×Int×Unit)×Unit)×Unit×Unit):=
(if ByteArray.size x.1+ByteArray.size (⟨#[97]⟩:ByteArray)≤maxStr then
((qDl k ((x.1++(⟨#[97]⟩:ByteArray)),())).bind fun p1 =>
(if ByteArray.size x.1+ByteArray.size (⟨#[98]⟩:ByteArray)≤maxStr then
((qDl k ((x.1++(⟨#[98]⟩:ByteArray)),())).bind fun p2 =>
((qEy k (((0:Int),((⟨#[]⟩:ByteArray),((⟨#[]⟩:ByteArray),((0:Int),([],((0:Int),((0:Int),((⟨#[]⟩:ByteArray),((⟨#[]⟩:ByteArray),((0:Int),([],((0:Int),())))))))))))),(p1.1,(p2.1,((0:Int),()))))).bind fun p3 =>
((qEy k (((0:Int),((⟨#[]⟩:ByteArray),((⟨#[]⟩:ByteArray),((0:Int),([],((0:Int),((0:Int),((⟨#[]⟩:ByteArray),((⟨#[]⟩:ByteArray),((0:Int),([],((0:Int),())))))))))))),(p2.1,(p1.1,((0:Int),()))))).bind fun p4 =>
some (((p3.1.1.1,(p3.1.1.2.1,(p3.1.1.2.2.1,(p3.1.1.2.2.2.1,(p3.1.1.2.2.2.2.1,(p3.1.1.2.2.2.2.2.1,(p3.1.1.2.2.2.2.2.2.1,(p3.1.1.2.2.2.2.2.2.2.1,(p3.1.1.2.2.2.2.2.2.2.2.1,(p3.1.1.2.2.2.2.2.2.2.2.2.1,(p3.1.1.2.2.2.2.2.2.2.2.2.2.1,(p3.1.1.2.2.2.2.2.2.2.2.2.2.2.1,())))))))))))),((p4.1.1.1,(p4.1.1.2.1,(p4.1.1.2.2.1,(p4.1.1.2.2.2.1,(p4.1.1.2.2.2.2.1,(p4.1.1.2.2.2.2.2.1,(p4.1.1.2.2.2.2.2.2.1,(p4.1.1.2.2.2.2.2.2.2.1,(p4.1.1.2.2.2.2.2.2.2.2.1,(p4.1.1.2.2.2.2.2.2.2.2.2.1,(p4.1.1.2.2.2.2.2.2.2.2.2.2.1,(p4.1.1.2.2.2.2.2.2.2.2.2.2.2.1,())))))))))))),())),((),())))))
else none))
else none)
abbrev qIn(k:Nat):qAI:=⟨59,0,(.cons .str .nil),(.tup (.cons yP10 (.cons yP10 .nil))),qD8 k⟩
theorem t_i_PairSlots(k:Nat)(x):evF TTab k [E_i_DigestOf k,E_i_Install k] [] Tryz.f59 (.cons .str .nil) (.tup (.cons yP10 (.cons yP10 .nil))) x=qD8 k x:=by kernel_rfl
theorem e_i_PairSlots[Names](k:Nat):qAD Tryz.prog (qIn k):=qAB tok (qAA (e_i_DigestOf k) (qAA (e_i_Install k) qAG)) (by kernel_rfl) (by kernel_rfl) (by kernel_rfl) fun x r h=>(t_i_PairSlots k x).trans h
def qAf(k:Nat)(x:Unit×Int×Unit):Option ((List (Int×Int×((Int×ByteArray×ByteArray×Int×Nat×Int)×Int×ByteArray×ByteArray×Int×Nat×Int)×Nat×Int))×Unit×Unit×Unit):=growF 208 yT2 x
abbrev qCN(k:Nat):qAI:=⟨230,0,(.cons .nils yP5),(.own false 45 yT2),qAf k⟩
theorem qB8:Go.Proofs.Lays8.n4 Tryz.prog ⟨fun n=>if n=4 then 230 else n,fun n=>if n=25 then 45 else if n=22 then 31 else n,fun n=>n⟩ where
 mixed:=by kernel_rfl
 f4:=⟨Tryz.f230.name,by kernel_rfl,Tryz.func230.trans (by kernel_rfl)⟩
 t0:=Tryz.underlying0
 a0:=Tryz.isAgg0
 z0:=Tryz.sizeOf0
 v0:=Tryz.zeroValue0
 t3:=Tryz.underlying3
 a3:=Tryz.isAgg3
 z3:=Tryz.sizeOf3
 v3:=Tryz.zeroValue3
 t4:=Tryz.underlying4
 a4:=Tryz.isAgg4
 z4:=Tryz.sizeOf4
 v4:=Tryz.zeroValue4
 t9:=Tryz.underlying9
 a9:=Tryz.isAgg9
 z9:=Tryz.sizeOf9
 v9:=Tryz.zeroValue9
 t20:=Tryz.underlying20
 a20:=Tryz.isAgg20
 z20:=Tryz.sizeOf20
 v20:=Tryz.zeroValue20
 t22:=Tryz.underlying31
 a22:=Tryz.isAgg31
 z22:=Tryz.sizeOf31
 v22:=Tryz.zeroValue31
theorem qCO[Names](k:Nat):qAD Tryz.prog ⟨230,0,(.cons .nils yP5),(.own false 45 yT2),qAf k⟩:=entry_grow (t:=yT2) qB8 (i0:=Tryz.t45) (z0:=Tryz.t45.zero.getD default) (by kernel_rfl) (by kernel_rfl) (by kernel_rfl) (by decide) (by kernel_rfl) (by kernel_rfl) Tryz.func230 (by kernel_rfl)
def qAa(k:Nat)(x:(List (List (Int×Int×((Int×ByteArray×ByteArray×Int×Nat×Int)×Int×ByteArray×ByteArray×Int×Nat×Int)×Nat×Int)))×Unit):Option ((List (Int×Int×((Int×ByteArray×ByteArray×Int×Nat×Int)×Int×ByteArray×ByteArray×Int×Nat×Int)×Nat×Int))×Unit×Unit):=
(qAH (fun(rec0:((List (List (Int×Int×((Int×ByteArray×ByteArray×Int×Nat×Int)×Int×ByteArray×ByteArray×Int×Nat×Int)×Nat×Int)))×Int×(List (List (Int×Int×((Int×ByteArray×ByteArray×Int×Nat×Int)×Int×ByteArray×ByteArray×Int×Nat×Int)×Nat×Int)))×Int×Int×Unit)→Option _) (y0:(List (List (Int×Int×((Int×ByteArray×ByteArray×Int×Nat×Int)×Int×ByteArray×ByteArray×Int×Nat×Int)×Nat×Int)))×Int×(List (List (Int×Int×((Int×ByteArray×ByteArray×Int×Nat×Int)×Int×ByteArray×ByteArray×Int×Nat×Int)×Nat×Int)))×Int×Int×Unit) =>
(if(decide (y0.2.2.2.2.1<y0.2.2.2.1))=true then
(if 0≤y0.2.2.2.2.1∧y0.2.2.2.2.1<(List.length y0.2.2.1:Int) then
(if(decide ((wi64 (y0.2.1+(List.length (Ty.rd (t:=(.list yT2)) y0.2.2.1 y0.2.2.2.2.1):Int)))<(0:Int)))=true then
none
else
(rec0 (y0.1,((wi64 (y0.2.1+(List.length (Ty.rd (t:=(.list yT2)) y0.2.2.1 y0.2.2.2.2.1):Int))),(y0.2.2.1,(y0.2.2.2.1,((wi64 (y0.2.2.2.2.1+(1:Int))),())))))))
else none)
else
((fun(z1:(List (List (Int×Int×((Int×ByteArray×ByteArray×Int×Nat×Int)×Int×ByteArray×ByteArray×Int×Nat×Int)×Nat×Int)))×Int×Unit) =>
((qAf k ((),(z1.2.1,()))).bind fun p1 =>
(qAH (fun(rec2:((List (Int×Int×((Int×ByteArray×ByteArray×Int×Nat×Int)×Int×ByteArray×ByteArray×Int×Nat×Int)×Nat×Int))×(List (List (Int×Int×((Int×ByteArray×ByteArray×Int×Nat×Int)×Int×ByteArray×ByteArray×Int×Nat×Int)×Nat×Int)))×Int×Int×Unit)→Option _) (y2:(List (Int×Int×((Int×ByteArray×ByteArray×Int×Nat×Int)×Int×ByteArray×ByteArray×Int×Nat×Int)×Nat×Int))×(List (List (Int×Int×((Int×ByteArray×ByteArray×Int×Nat×Int)×Int×ByteArray×ByteArray×Int×Nat×Int)×Nat×Int)))×Int×Int×Unit) =>
(if(decide (y2.2.2.2.1<y2.2.2.1))=true then
(if 0≤y2.2.2.2.1∧y2.2.2.2.1<(List.length y2.2.1:Int) then
(if List.length y2.1+List.length (Ty.rd (t:=(.list yT2)) y2.2.1 y2.2.2.2.1)≤capMax then
(rec2 ((y2.1++(Ty.rd (t:=(.list yT2)) y2.2.1 y2.2.2.2.1)),(y2.2.1,(y2.2.2.1,((wi64 (y2.2.2.2.1+(1:Int))),())))))
else none)
else none)
else
((fun(z2:(List (Int×Int×((Int×ByteArray×ByteArray×Int×Nat×Int)×Int×ByteArray×ByteArray×Int×Nat×Int)×Nat×Int))×Unit) =>
some (z2.1,((),()))) (y2.1,())))) k (p1.1,(z1.1,((List.length z1.1:Int),((0:Int),()))))))) (y0.1,(y0.2.1,()))))) k (x.1,((0:Int),(x.1,((List.length x.1:Int),((0:Int),()))))))
abbrev qBB(k:Nat):qAI:=⟨143,0,(.cons (.il false (.list yT2)) .nil),(.own false 45 yT2),qAa k⟩
theorem qB9(k:Nat)(x):evF TTabN k [qCN k] [(0,⟨[0,3,9,10,11],(.cons (.il false (.list yT2)) (.cons (.int .i64) (.cons (.il false (.list yT2)) (.cons (.int .i64) yP5))))⟩,⟨[0,3],(.cons (.il false (.list yT2)) yP5)⟩),(2,⟨[6,25,26,27],(.cons (.own false 45 yT2) (.cons (.il false (.list yT2)) (.cons (.int .i64) yP5)))⟩,⟨[6],(.cons (.own false 45 yT2) .nil)⟩)] Tryz.f143 (.cons (.il false (.list yT2)) .nil) (.own false 45 yT2) x=qAa k x:=by kernel_rfl
theorem qCA[Names](k:Nat):qAD Tryz.prog (qBB k):=qAB tokN (qAA (qCO k) qAG) (by kernel_rfl) (by kernel_rfl) (by kernel_rfl) fun x r h=>(qB9 k x).trans h
def qB0(k:Nat)(x:(List (Int×Int×((Int×ByteArray×ByteArray×Int×Nat×Int)×Int×ByteArray×ByteArray×Int×Nat×Int)×Nat×Int))×(Int×Int×Int×ByteArray×ByteArray×Int×Nat×Int×Int×ByteArray×ByteArray×Int×Nat×Int×Nat×Int×Unit)×Unit):Option ((List (Int×Int×((Int×ByteArray×ByteArray×Int×Nat×Int)×Int×ByteArray×ByteArray×Int×Nat×Int)×Nat×Int))×Unit×Unit×Unit):=
(qAH (fun(rec0:((Int×Int×Int×ByteArray×ByteArray×Int×Nat×Int×Int×ByteArray×ByteArray×Int×Nat×Int×Nat×Int×Unit)×(List (Int×Int×((Int×ByteArray×ByteArray×Int×Nat×Int)×Int×ByteArray×ByteArray×Int×Nat×Int)×Nat×Int))×(List (Int×Int×((Int×ByteArray×ByteArray×Int×Nat×Int)×Int×ByteArray×ByteArray×Int×Nat×Int)×Nat×Int))×(List (Int×Int×((Int×ByteArray×ByteArray×Int×Nat×Int)×Int×ByteArray×ByteArray×Int×Nat×Int)×Nat×Int))×Int×Int×Unit)→Option _) (y0:(Int×Int×Int×ByteArray×ByteArray×Int×Nat×Int×Int×ByteArray×ByteArray×Int×Nat×Int×Nat×Int×Unit)×(List (Int×Int×((Int×ByteArray×ByteArray×Int×Nat×Int)×Int×ByteArray×ByteArray×Int×Nat×Int)×Nat×Int))×(List (Int×Int×((Int×ByteArray×ByteArray×Int×Nat×Int)×Int×ByteArray×ByteArray×Int×Nat×Int)×Nat×Int))×(List (Int×Int×((Int×ByteArray×ByteArray×Int×Nat×Int)×Int×ByteArray×ByteArray×Int×Nat×Int)×Nat×Int))×Int×Int×Unit) =>
(if(decide (y0.2.2.2.2.2.1<y0.2.2.2.2.1))=true then
(if 0≤y0.2.2.2.2.2.1∧y0.2.2.2.2.2.1<(List.length y0.2.2.2.1:Int) then
(if(decide ((Ty.rd (t:=yT2) y0.2.2.2.1 y0.2.2.2.2.2.1).1<y0.1.1))=true then
(if List.length y0.2.1+List.length ([((Ty.rd (t:=yT2) y0.2.2.2.1 y0.2.2.2.2.2.1).1,((Ty.rd (t:=yT2) y0.2.2.2.1 y0.2.2.2.2.2.1).2.1,((((Ty.rd (t:=yT2) y0.2.2.2.1 y0.2.2.2.2.2.1).2.2.1.1.1,((Ty.rd (t:=yT2) y0.2.2.2.1 y0.2.2.2.2.2.1).2.2.1.1.2.1,((Ty.rd (t:=yT2) y0.2.2.2.1 y0.2.2.2.2.2.1).2.2.1.1.2.2.1,((Ty.rd (t:=yT2) y0.2.2.2.1 y0.2.2.2.2.2.1).2.2.1.1.2.2.2.1,((Ty.rd (t:=yT2) y0.2.2.2.1 y0.2.2.2.2.2.1).2.2.1.1.2.2.2.2.1,(Ty.rd (t:=yT2) y0.2.2.2.1 y0.2.2.2.2.2.1).2.2.1.1.2.2.2.2.2))))),((Ty.rd (t:=yT2) y0.2.2.2.1 y0.2.2.2.2.2.1).2.2.1.2.1,((Ty.rd (t:=yT2) y0.2.2.2.1 y0.2.2.2.2.2.1).2.2.1.2.2.1,((Ty.rd (t:=yT2) y0.2.2.2.1 y0.2.2.2.2.2.1).2.2.1.2.2.2.1,((Ty.rd (t:=yT2) y0.2.2.2.1 y0.2.2.2.2.2.1).2.2.1.2.2.2.2.1,((Ty.rd (t:=yT2) y0.2.2.2.1 y0.2.2.2.2.2.1).2.2.1.2.2.2.2.2.1,(Ty.rd (t:=yT2) y0.2.2.2.1 y0.2.2.2.2.2.1).2.2.1.2.2.2.2.2.2)))))),((Ty.rd (t:=yT2) y0.2.2.2.1 y0.2.2.2.2.2.1).2.2.2.1,(Ty.rd (t:=yT2) y0.2.2.2.1 y0.2.2.2.2.2.1).2.2.2.2))))]:List (Int×Int×((Int×ByteArray×ByteArray×Int×Nat×Int)×Int×ByteArray×ByteArray×Int×Nat×Int)×Nat×Int))≤capMax then
(rec0 (y0.1,((y0.2.1++([((Ty.rd (t:=yT2) y0.2.2.2.1 y0.2.2.2.2.2.1).1,((Ty.rd (t:=yT2) y0.2.2.2.1 y0.2.2.2.2.2.1).2.1,((((Ty.rd (t:=yT2) y0.2.2.2.1 y0.2.2.2.2.2.1).2.2.1.1.1,((Ty.rd (t:=yT2) y0.2.2.2.1 y0.2.2.2.2.2.1).2.2.1.1.2.1,((Ty.rd (t:=yT2) y0.2.2.2.1 y0.2.2.2.2.2.1).2.2.1.1.2.2.1,((Ty.rd (t:=yT2) y0.2.2.2.1 y0.2.2.2.2.2.1).2.2.1.1.2.2.2.1,((Ty.rd (t:=yT2) y0.2.2.2.1 y0.2.2.2.2.2.1).2.2.1.1.2.2.2.2.1,(Ty.rd (t:=yT2) y0.2.2.2.1 y0.2.2.2.2.2.1).2.2.1.1.2.2.2.2.2))))),((Ty.rd (t:=yT2) y0.2.2.2.1 y0.2.2.2.2.2.1).2.2.1.2.1,((Ty.rd (t:=yT2) y0.2.2.2.1 y0.2.2.2.2.2.1).2.2.1.2.2.1,((Ty.rd (t:=yT2) y0.2.2.2.1 y0.2.2.2.2.2.1).2.2.1.2.2.2.1,((Ty.rd (t:=yT2) y0.2.2.2.1 y0.2.2.2.2.2.1).2.2.1.2.2.2.2.1,((Ty.rd (t:=yT2) y0.2.2.2.1 y0.2.2.2.2.2.1).2.2.1.2.2.2.2.2.1,(Ty.rd (t:=yT2) y0.2.2.2.1 y0.2.2.2.2.2.1).2.2.1.2.2.2.2.2.2)))))),((Ty.rd (t:=yT2) y0.2.2.2.1 y0.2.2.2.2.2.1).2.2.2.1,(Ty.rd (t:=yT2) y0.2.2.2.1 y0.2.2.2.2.2.1).2.2.2.2))))]:List (Int×Int×((Int×ByteArray×ByteArray×Int×Nat×Int)×Int×ByteArray×ByteArray×Int×Nat×Int)×Nat×Int))),(y0.2.2.1,(y0.2.2.2.1,(y0.2.2.2.2.1,((wi64 (y0.2.2.2.2.2.1+(1:Int))),())))))))
else none)
else
(if List.length y0.2.2.1+List.length ([((Ty.rd (t:=yT2) y0.2.2.2.1 y0.2.2.2.2.2.1).1,((Ty.rd (t:=yT2) y0.2.2.2.1 y0.2.2.2.2.2.1).2.1,((((Ty.rd (t:=yT2) y0.2.2.2.1 y0.2.2.2.2.2.1).2.2.1.1.1,((Ty.rd (t:=yT2) y0.2.2.2.1 y0.2.2.2.2.2.1).2.2.1.1.2.1,((Ty.rd (t:=yT2) y0.2.2.2.1 y0.2.2.2.2.2.1).2.2.1.1.2.2.1,((Ty.rd (t:=yT2) y0.2.2.2.1 y0.2.2.2.2.2.1).2.2.1.1.2.2.2.1,((Ty.rd (t:=yT2) y0.2.2.2.1 y0.2.2.2.2.2.1).2.2.1.1.2.2.2.2.1,(Ty.rd (t:=yT2) y0.2.2.2.1 y0.2.2.2.2.2.1).2.2.1.1.2.2.2.2.2))))),((Ty.rd (t:=yT2) y0.2.2.2.1 y0.2.2.2.2.2.1).2.2.1.2.1,((Ty.rd (t:=yT2) y0.2.2.2.1 y0.2.2.2.2.2.1).2.2.1.2.2.1,((Ty.rd (t:=yT2) y0.2.2.2.1 y0.2.2.2.2.2.1).2.2.1.2.2.2.1,((Ty.rd (t:=yT2) y0.2.2.2.1 y0.2.2.2.2.2.1).2.2.1.2.2.2.2.1,((Ty.rd (t:=yT2) y0.2.2.2.1 y0.2.2.2.2.2.1).2.2.1.2.2.2.2.2.1,(Ty.rd (t:=yT2) y0.2.2.2.1 y0.2.2.2.2.2.1).2.2.1.2.2.2.2.2.2)))))),((Ty.rd (t:=yT2) y0.2.2.2.1 y0.2.2.2.2.2.1).2.2.2.1,(Ty.rd (t:=yT2) y0.2.2.2.1 y0.2.2.2.2.2.1).2.2.2.2))))]:List (Int×Int×((Int×ByteArray×ByteArray×Int×Nat×Int)×Int×ByteArray×ByteArray×Int×Nat×Int)×Nat×Int))≤capMax then
(rec0 (y0.1,(y0.2.1,((y0.2.2.1++([((Ty.rd (t:=yT2) y0.2.2.2.1 y0.2.2.2.2.2.1).1,((Ty.rd (t:=yT2) y0.2.2.2.1 y0.2.2.2.2.2.1).2.1,((((Ty.rd (t:=yT2) y0.2.2.2.1 y0.2.2.2.2.2.1).2.2.1.1.1,((Ty.rd (t:=yT2) y0.2.2.2.1 y0.2.2.2.2.2.1).2.2.1.1.2.1,((Ty.rd (t:=yT2) y0.2.2.2.1 y0.2.2.2.2.2.1).2.2.1.1.2.2.1,((Ty.rd (t:=yT2) y0.2.2.2.1 y0.2.2.2.2.2.1).2.2.1.1.2.2.2.1,((Ty.rd (t:=yT2) y0.2.2.2.1 y0.2.2.2.2.2.1).2.2.1.1.2.2.2.2.1,(Ty.rd (t:=yT2) y0.2.2.2.1 y0.2.2.2.2.2.1).2.2.1.1.2.2.2.2.2))))),((Ty.rd (t:=yT2) y0.2.2.2.1 y0.2.2.2.2.2.1).2.2.1.2.1,((Ty.rd (t:=yT2) y0.2.2.2.1 y0.2.2.2.2.2.1).2.2.1.2.2.1,((Ty.rd (t:=yT2) y0.2.2.2.1 y0.2.2.2.2.2.1).2.2.1.2.2.2.1,((Ty.rd (t:=yT2) y0.2.2.2.1 y0.2.2.2.2.2.1).2.2.1.2.2.2.2.1,((Ty.rd (t:=yT2) y0.2.2.2.1 y0.2.2.2.2.2.1).2.2.1.2.2.2.2.2.1,(Ty.rd (t:=yT2) y0.2.2.2.1 y0.2.2.2.2.2.1).2.2.1.2.2.2.2.2.2)))))),((Ty.rd (t:=yT2) y0.2.2.2.1 y0.2.2.2.2.2.1).2.2.2.1,(Ty.rd (t:=yT2) y0.2.2.2.1 y0.2.2.2.2.2.1).2.2.2.2))))]:List (Int×Int×((Int×ByteArray×ByteArray×Int×Nat×Int)×Int×ByteArray×ByteArray×Int×Nat×Int)×Nat×Int))),(y0.2.2.2.1,(y0.2.2.2.2.1,((wi64 (y0.2.2.2.2.2.1+(1:Int))),())))))))
else none))
else none)
else
((fun(z1:(Int×Int×Int×ByteArray×ByteArray×Int×Nat×Int×Int×ByteArray×ByteArray×Int×Nat×Int×Nat×Int×Unit)×(List (Int×Int×((Int×ByteArray×ByteArray×Int×Nat×Int)×Int×ByteArray×ByteArray×Int×Nat×Int)×Nat×Int))×(List (Int×Int×((Int×ByteArray×ByteArray×Int×Nat×Int)×Int×ByteArray×ByteArray×Int×Nat×Int)×Nat×Int))×Unit) =>
((qAa k (([z1.2.1,([(z1.1.1,(z1.1.2.1,(((z1.1.2.2.1,(z1.1.2.2.2.1,(z1.1.2.2.2.2.1,(z1.1.2.2.2.2.2.1,(z1.1.2.2.2.2.2.2.1,z1.1.2.2.2.2.2.2.2.1))))),(z1.1.2.2.2.2.2.2.2.2.1,(z1.1.2.2.2.2.2.2.2.2.2.1,(z1.1.2.2.2.2.2.2.2.2.2.2.1,(z1.1.2.2.2.2.2.2.2.2.2.2.2.1,(z1.1.2.2.2.2.2.2.2.2.2.2.2.2.1,z1.1.2.2.2.2.2.2.2.2.2.2.2.2.2.1)))))),(z1.1.2.2.2.2.2.2.2.2.2.2.2.2.2.2.1,z1.1.2.2.2.2.2.2.2.2.2.2.2.2.2.2.2.1))))]:List (Int×Int×((Int×ByteArray×ByteArray×Int×Nat×Int)×Int×ByteArray×ByteArray×Int×Nat×Int)×Nat×Int)),z1.2.2.1]:List (List (Int×Int×((Int×ByteArray×ByteArray×Int×Nat×Int)×Int×ByteArray×ByteArray×Int×Nat×Int)×Nat×Int))),())).bind fun p1 =>
some (p1.1,((),((),()))))) (y0.1,(y0.2.1,(y0.2.2.1,())))))) k (x.2.1,(([]:List (Int×Int×((Int×ByteArray×ByteArray×Int×Nat×Int)×Int×ByteArray×ByteArray×Int×Nat×Int)×Nat×Int)),(([]:List (Int×Int×((Int×ByteArray×ByteArray×Int×Nat×Int)×Int×ByteArray×ByteArray×Int×Nat×Int)×Nat×Int)),(x.1,((List.length x.1:Int),((0:Int),())))))))
abbrev E_i_withUser_n(k:Nat):qAI:=⟨60,0,(.cons (.own false 45 yT2) (.cons (.agg yP24) .nil)),(.own false 45 yT2),qB0 k⟩
theorem t_i_withUser_n(k:Nat)(x):evF TTabN k [qBB k] [(0,⟨[3,5,6,11,12,13],(.cons (.ptr 0 yP24) (.cons (.own false 45 yT2) (.cons (.own false 45 yT2) (.cons (.own false 45 yT2) (.cons (.int .i64) yP5)))))⟩,⟨[3,5,6],(.cons (.ptr 0 yP24) (.cons (.own false 45 yT2) (.cons (.own false 45 yT2) .nil)))⟩)] Tryz.f60 (.cons (.own false 45 yT2) (.cons (.agg yP24) .nil)) (.own false 45 yT2) x=qB0 k x:=by kernel_rfl
theorem e_i_withUser_n[Names](k:Nat):qAD Tryz.prog (E_i_withUser_n k):=qAB tokN (qAA (qCA k) qAG) (by kernel_rfl) (by kernel_rfl) (by kernel_rfl) fun x r h=>(t_i_withUser_n k x).trans h
def qHF(k:Nat)(x:(List (Int×Int×((Int×ByteArray×ByteArray×Int×List (Int)×Int)×Int×ByteArray×ByteArray×Int×List (Int)×Int)×List (Int×Int×Int×List (ByteArray)×List (Bool)×Int)×Int))×(Int×Int×Int×ByteArray×ByteArray×Int×List (Int)×Int×Int×ByteArray×ByteArray×Int×List (Int)×Int×(List (Int×Int×Int×List (ByteArray)×List (Bool)×Int))×Int×Unit)×Unit):Option ((List (Int×Int×((Int×ByteArray×ByteArray×Int×List (Int)×Int)×Int×ByteArray×ByteArray×Int×List (Int)×Int)×List (Int×Int×Int×List (ByteArray)×List (Bool)×Int)×Int))×Unit×Unit×Unit):=
namesF (.cons (.own false 45 yT1) (.cons yP13 .nil)) (.own false 45 yT1) (qB0 k) x
abbrev E_i_withUser(k:Nat):qAI:=⟨60,0,(.cons (.own false 45 yT1) (.cons yP13 .nil)),(.own false 45 yT1),qHF k⟩
theorem e_i_withUser[Names](k:Nat):qAD Tryz.prog (E_i_withUser k):=namesF_entry (p:=(.cons (.own false 45 yT1) (.cons yP13 .nil))) (q:=(.own false 45 yT1)) (by kernel_rfl) (by kernel_rfl) (fun N=>@e_i_withUser_n N k) inferInstance
def i_Join(k:Nat)(x:(Int×Int×(List (Int×Int×Int))×(List (Int×Int))×(List ((Int×Int)×Int))×(List (Int×Int×((Int×ByteArray×ByteArray×Int×List (Int)×Int)×Int×ByteArray×ByteArray×Int×List (Int)×Int)×List (Int×Int×Int×List (ByteArray)×List (Bool)×Int)×Int))×Unit)×Int×ByteArray×Int×Unit):Option (((Int×Int×(List (Int×Int×Int))×(List (Int×Int))×(List ((Int×Int)×Int))×(List (Int×Int×((Int×ByteArray×ByteArray×Int×List (Int)×Int)×Int×ByteArray×ByteArray×Int×List (Int)×Int)×List (Int×Int×Int×List (ByteArray)×List (Bool)×Int)×Int))×Unit)×(Int×Int×Int×ByteArray×ByteArray×Int×List (Int)×Int×Int×ByteArray×ByteArray×Int×List (Int)×Int×(List (Int×Int×Int×List (ByteArray)×List (Bool)×Int))×Int×Unit)×Bool×Unit)×Unit×Unit×Unit×Unit×Unit):=
((qGG k ((x.1.1,(x.1.2.1,(x.1.2.2.1,(x.1.2.2.2.1,(x.1.2.2.2.2.1,(x.1.2.2.2.2.2.1,())))))),())).bind fun p1 =>
((qBK k (x.2.1,((1:Int),((98:Int),())))).bind fun p2 =>
(if(!p2.1)=false then
((qIc k (x.1.2.2.2.2.2.1,(x.2.1,()))).bind fun p3 =>
(if(decide ((0:Int)≤p3.1))=false then
(if(decide ((3:Int)≤(List.length x.1.2.2.2.2.2.1:Int)))=true then
some (((p1.1.1,(p1.1.2.1,(p1.1.2.2.1,(p1.1.2.2.2.1,(p1.1.2.2.2.2.1,(p1.1.2.2.2.2.2.1,())))))),(((0:Int),((0:Int),((0:Int),((⟨#[]⟩:ByteArray),((⟨#[]⟩:ByteArray),((0:Int),([],((0:Int),((0:Int),((⟨#[]⟩:ByteArray),((⟨#[]⟩:ByteArray),((0:Int),([],((0:Int),([],((0:Int),())))))))))))))))),(false,()))),((),((),((),((),())))))
else
((i_Grant k ((x.1.1,(x.1.2.1,(x.1.2.2.1,(x.1.2.2.2.1,())))),(x.2.1,(x.2.2.2.1,())))).bind fun p4 =>
((qEv k (x.1.2.2.2.2.1,((p4.1.2.1,((32:Int),(x.2.1,()))),()))).bind fun p5 =>
(if(!p4.1.2.2.1)=false then
(if(!p5.1.2.1)=true then
some (((p1.1.1,(p1.1.2.1,(p1.1.2.2.1,(p1.1.2.2.2.1,(p1.1.2.2.2.2.1,(p1.1.2.2.2.2.2.1,())))))),(((0:Int),((0:Int),((0:Int),((⟨#[]⟩:ByteArray),((⟨#[]⟩:ByteArray),((0:Int),([],((0:Int),((0:Int),((⟨#[]⟩:ByteArray),((⟨#[]⟩:ByteArray),((0:Int),([],((0:Int),([],((0:Int),())))))))))))))))),(false,()))),((),((),((),((),())))))
else
((qD8 k (x.2.2.1,())).bind fun p6 =>
((qHF k (p1.1.2.2.2.2.2.1,((x.2.1,(p4.1.2.1,(p6.1.2.1.1,(p6.1.2.1.2.1,(p6.1.2.1.2.2.1,(p6.1.2.1.2.2.2.1,(p6.1.2.1.2.2.2.2.1,(p6.1.2.1.2.2.2.2.2.1,(p6.1.2.1.2.2.2.2.2.2.1,(p6.1.2.1.2.2.2.2.2.2.2.1,(p6.1.2.1.2.2.2.2.2.2.2.2.1,(p6.1.2.1.2.2.2.2.2.2.2.2.2.1,(p6.1.2.1.2.2.2.2.2.2.2.2.2.2.1,(p6.1.2.1.2.2.2.2.2.2.2.2.2.2.2.1,([],((0:Int),())))))))))))))))),()))).bind fun p7 =>
some (((p4.1.1.1,(p4.1.1.2.1,(p4.1.1.2.2.1,(p4.1.1.2.2.2.1,(p5.1.1,(p7.1,())))))),((x.2.1,(p4.1.2.1,(p6.1.1.1,(p6.1.1.2.1,(p6.1.1.2.2.1,(p6.1.1.2.2.2.1,(p6.1.1.2.2.2.2.1,(p6.1.1.2.2.2.2.2.1,(p6.1.1.2.2.2.2.2.2.1,(p6.1.1.2.2.2.2.2.2.2.1,(p6.1.1.2.2.2.2.2.2.2.2.1,(p6.1.1.2.2.2.2.2.2.2.2.2.1,(p6.1.1.2.2.2.2.2.2.2.2.2.2.1,(p6.1.1.2.2.2.2.2.2.2.2.2.2.2.1,([],((0:Int),())))))))))))))))),(true,()))),((),((),((),((),()))))))))
else
some (((p1.1.1,(p1.1.2.1,(p1.1.2.2.1,(p1.1.2.2.2.1,(p1.1.2.2.2.2.1,(p1.1.2.2.2.2.2.1,())))))),(((0:Int),((0:Int),((0:Int),((⟨#[]⟩:ByteArray),((⟨#[]⟩:ByteArray),((0:Int),([],((0:Int),((0:Int),((⟨#[]⟩:ByteArray),((⟨#[]⟩:ByteArray),((0:Int),([],((0:Int),([],((0:Int),())))))))))))))))),(false,()))),((),((),((),((),())))))))))
else
some (((p1.1.1,(p1.1.2.1,(p1.1.2.2.1,(p1.1.2.2.2.1,(p1.1.2.2.2.2.1,(p1.1.2.2.2.2.2.1,())))))),(((0:Int),((0:Int),((0:Int),((⟨#[]⟩:ByteArray),((⟨#[]⟩:ByteArray),((0:Int),([],((0:Int),((0:Int),((⟨#[]⟩:ByteArray),((⟨#[]⟩:ByteArray),((0:Int),([],((0:Int),([],((0:Int),())))))))))))))))),(false,()))),((),((),((),((),())))))))
else
some (((p1.1.1,(p1.1.2.1,(p1.1.2.2.1,(p1.1.2.2.2.1,(p1.1.2.2.2.2.1,(p1.1.2.2.2.2.2.1,())))))),(((0:Int),((0:Int),((0:Int),((⟨#[]⟩:ByteArray),((⟨#[]⟩:ByteArray),((0:Int),([],((0:Int),((0:Int),((⟨#[]⟩:ByteArray),((⟨#[]⟩:ByteArray),((0:Int),([],((0:Int),([],((0:Int),())))))))))))))))),(false,()))),((),((),((),((),()))))))))
abbrev E_i_Join(k:Nat):qAI:=⟨13,0,(.cons yP11 (.cons (.int .i64) (.cons .str yP5))),(.tup (.cons yP26 (.cons yP13 (.cons .bool .nil)))),i_Join k⟩
theorem t_i_Join(k:Nat)(x):evF qBr k [E_i_copyHub k,qBV k,E_i_userAt k,E_i_Grant k,E_i_PutRoute k,qIn k,E_i_withUser k] [] Tryz.f13 (.cons yP11 (.cons (.int .i64) (.cons .str yP5))) (.tup (.cons yP26 (.cons yP13 (.cons .bool .nil)))) x=i_Join k x:=by kernel_rfl
theorem e_i_Join[Names](k:Nat):qAD Tryz.prog (E_i_Join k):=qAB tokO (qAA (e_i_copyHub k) (qAA (qBg k) (qAA (e_i_userAt k) (qAA (e_i_Grant k) (qAA (e_i_PutRoute k) (qAA (e_i_PairSlots k) (qAA (e_i_withUser k) qAG))))))) (by kernel_rfl) (by kernel_rfl) (by kernel_rfl) fun x r h=>(t_i_Join k x).trans h
def qEz(k:Nat)(x:(List (Int×Int×Int))×Int×Unit):Option (Int×Unit×Unit×Unit):=
(if(decide ((wi64 (x.2.1-(List.length x.1:Int)))<(0:Int)))=true then
some ((-1:Int),((),((),())))
else
some ((wi64 (x.2.1-(List.length x.1:Int))),((),((),()))))
abbrev E_w_szLeaseS(k:Nat):qAI:=⟨153,0,(.cons yP28 yP5),(.int .i64),qEz k⟩
theorem t_w_szLeaseS(k:Nat)(x):evF TTab k [] [] Tryz.f153 (.cons yP28 yP5) (.int .i64) x=qEz k x:=by kernel_rfl
theorem e_w_szLeaseS[Names](k:Nat):qAD Tryz.prog (E_w_szLeaseS k):=qAB tok qAG (by kernel_rfl) (by kernel_rfl) (by kernel_rfl) fun x r h=>(t_w_szLeaseS k x).trans h
def qE0(k:Nat)(x:(List (Int×Int))×Int×Unit):Option (Int×Unit×Unit×Unit):=
(if(decide ((wi64 (x.2.1-(List.length x.1:Int)))<(0:Int)))=true then
some ((-1:Int),((),((),())))
else
some ((wi64 (x.2.1-(List.length x.1:Int))),((),((),()))))
abbrev E_w_szFixedS(k:Nat):qAI:=⟨154,0,(.cons (.il true yT3) yP5),(.int .i64),qE0 k⟩
theorem t_w_szFixedS(k:Nat)(x):evF TTab k [] [] Tryz.f154 (.cons (.il true yT3) yP5) (.int .i64) x=qE0 k x:=by kernel_rfl
theorem e_w_szFixedS[Names](k:Nat):qAD Tryz.prog (E_w_szFixedS k):=qAB tok qAG (by kernel_rfl) (by kernel_rfl) (by kernel_rfl) fun x r h=>(t_w_szFixedS k x).trans h
def qIo(k:Nat)(x:(Int×Int×(List (Int×Int×Int))×(List (Int×Int))×Unit)×Int×Unit):Option (Int×Unit×Unit×Unit):=
((qEz k (x.1.2.2.1,(x.2.1,()))).bind fun p1 =>
(if(decide (p1.1<(0:Int)))=true then
some ((-1:Int),((),((),())))
else
((qE0 k (x.1.2.2.2.1,(p1.1,()))).bind fun p2 =>
(if(decide (p2.1<(0:Int)))=true then
some ((-1:Int),((),((),())))
else
some (p2.1,((),((),())))))))
abbrev E_w_szPool(k:Nat):qAI:=⟨73,0,(.cons (.agg yP6) yP5),(.int .i64),qIo k⟩
theorem t_w_szPool(k:Nat)(x):evF TTab k [E_w_szLeaseS k,E_w_szFixedS k] [] Tryz.f73 (.cons (.agg yP6) yP5) (.int .i64) x=qIo k x:=by kernel_rfl
theorem e_w_szPool[Names](k:Nat):qAD Tryz.prog (E_w_szPool k):=qAB tok (qAA (e_w_szLeaseS k) (qAA (e_w_szFixedS k) qAG)) (by kernel_rfl) (by kernel_rfl) (by kernel_rfl) fun x r h=>(t_w_szPool k x).trans h
def qE1(k:Nat)(x:(List ((Int×Int)×Int))×Int×Unit):Option (Int×Unit×Unit×Unit):=
(if(decide ((wi64 (x.2.1-(List.length x.1:Int)))<(0:Int)))=true then
some ((-1:Int),((),((),())))
else
some ((wi64 (x.2.1-(List.length x.1:Int))),((),((),()))))
abbrev E_w_szRouteS(k:Nat):qAI:=⟨74,0,(.cons yP19 yP5),(.int .i64),qE1 k⟩
theorem t_w_szRouteS(k:Nat)(x):evF TTab k [] [] Tryz.f74 (.cons yP19 yP5) (.int .i64) x=qE1 k x:=by kernel_rfl
theorem e_w_szRouteS[Names](k:Nat):qAD Tryz.prog (E_w_szRouteS k):=qAB tok qAG (by kernel_rfl) (by kernel_rfl) (by kernel_rfl) fun x r h=>(t_w_szRouteS k x).trans h
def qIp(k:Nat)(x:List (Int)×Int×Unit):Option (Int×Unit×Unit×Unit):=
(if(decide ((wi64 (x.2.1-(List.length x.1:Int)))<(0:Int)))=true then
some ((-1:Int),((),((),())))
else
some ((wi64 (x.2.1-(List.length x.1:Int))),((),((),()))))
abbrev E_w_szIntS(k:Nat):qAI:=⟨111,0,(.cons (.il true (.int .i64)) yP5),(.int .i64),qIp k⟩
theorem t_w_szIntS(k:Nat)(x):evF TTab k [] [] Tryz.f111 (.cons (.il true (.int .i64)) yP5) (.int .i64) x=qIp k x:=by kernel_rfl
theorem e_w_szIntS[Names](k:Nat):qAD Tryz.prog (E_w_szIntS k):=qAB tok qAG (by kernel_rfl) (by kernel_rfl) (by kernel_rfl) fun x r h=>(t_w_szIntS k x).trans h
def qHG(k:Nat)(x:(Int×ByteArray×ByteArray×Int×List (Int)×Int×Unit)×Int×Unit):Option (Int×Unit×Unit×Unit):=
(if(decide ((wi64 (x.2.1-(ByteArray.size x.1.2.1:Int)))<(0:Int)))=true then
some ((-1:Int),((),((),())))
else
(if(decide ((wi64 ((wi64 (x.2.1-(ByteArray.size x.1.2.1:Int)))-(ByteArray.size x.1.2.2.1:Int)))<(0:Int)))=true then
some ((-1:Int),((),((),())))
else
((qIp k (x.1.2.2.2.2.1,((wi64 ((wi64 (x.2.1-(ByteArray.size x.1.2.1:Int)))-(ByteArray.size x.1.2.2.1:Int))),()))).bind fun p1 =>
(if(decide (p1.1<(0:Int)))=true then
some ((-1:Int),((),((),())))
else
some (p1.1,((),((),())))))))
abbrev E_w_szSlot(k:Nat):qAI:=⟨168,0,(.cons yP15 yP5),(.int .i64),qHG k⟩
theorem t_w_szSlot(k:Nat)(x):evF TTab k [E_w_szIntS k] [] Tryz.f168 (.cons yP15 yP5) (.int .i64) x=qHG k x:=by kernel_rfl
theorem e_w_szSlot[Names](k:Nat):qAD Tryz.prog (E_w_szSlot k):=qAB tok (qAA (e_w_szIntS k) qAG) (by kernel_rfl) (by kernel_rfl) (by kernel_rfl) fun x r h=>(t_w_szSlot k x).trans h
def qGO(k:Nat)(x:(Int×ByteArray×ByteArray×Int×List (Int)×Int×Int×ByteArray×ByteArray×Int×List (Int)×Int×Unit)×Int×Unit):Option (Int×Unit×Unit×Unit):=
((qHG k ((x.1.1,(x.1.2.1,(x.1.2.2.1,(x.1.2.2.2.1,(x.1.2.2.2.2.1,(x.1.2.2.2.2.2.1,())))))),(x.2.1,()))).bind fun p1 =>
(if(decide (p1.1<(0:Int)))=true then
some ((-1:Int),((),((),())))
else
((qHG k ((x.1.2.2.2.2.2.2.1,(x.1.2.2.2.2.2.2.2.1,(x.1.2.2.2.2.2.2.2.2.1,(x.1.2.2.2.2.2.2.2.2.2.1,(x.1.2.2.2.2.2.2.2.2.2.2.1,(x.1.2.2.2.2.2.2.2.2.2.2.2.1,())))))),(p1.1,()))).bind fun p2 =>
(if(decide (p2.1<(0:Int)))=true then
some ((-1:Int),((),((),())))
else
some (p2.1,((),((),())))))))
abbrev E_w_szSlots(k:Nat):qAI:=⟨90,0,(.cons yP8 yP5),(.int .i64),qGO k⟩
theorem t_w_szSlots(k:Nat)(x):evF TTab k [E_w_szSlot k] [] Tryz.f90 (.cons yP8 yP5) (.int .i64) x=qGO k x:=by kernel_rfl
theorem e_w_szSlots[Names](k:Nat):qAD Tryz.prog (E_w_szSlots k):=qAB tok (qAA (e_w_szSlot k) qAG) (by kernel_rfl) (by kernel_rfl) (by kernel_rfl) fun x r h=>(t_w_szSlots k x).trans h
def qD9(k:Nat)(x:List (ByteArray)×Int×Unit):Option (Int×Unit×Unit×Unit):=
(if(decide ((wi64 (x.2.1-(List.length x.1:Int)))<(0:Int)))=true then
some ((-1:Int),((),((),())))
else
(qAH (fun(rec0:(List (ByteArray)×Int×Int×Unit)→Option _) (y0:List (ByteArray)×Int×Int×Unit) =>
(if(decide (y0.2.2.1<(List.length y0.1:Int)))=true then
(if 0≤y0.2.2.1∧y0.2.2.1<(List.length y0.1:Int) then
(if(decide ((wi64 (y0.2.1-(ByteArray.size (Ty.rd (t:=.str) y0.1 y0.2.2.1):Int)))<(0:Int)))=true then
some ((-1:Int),((),((),())))
else
(rec0 (y0.1,((wi64 (y0.2.1-(ByteArray.size (Ty.rd (t:=.str) y0.1 y0.2.2.1):Int))),((wi64 (y0.2.2.1+(1:Int))),())))))
else none)
else
((fun(z1:Int×Unit) =>
some (z1.1,((),((),())))) (y0.2.1,())))) k (x.1,((wi64 (x.2.1-(List.length x.1:Int))),((0:Int),())))))
abbrev qIq(k:Nat):qAI:=⟨288,0,(.cons (.il true .str) yP5),(.int .i64),qD9 k⟩
theorem t_w_szStringS(k:Nat)(x):evF TTab k [] [(0,⟨[0,1,5],(.cons (.il true .str) (.cons (.int .i64) yP5))⟩,⟨[1],yP5⟩)] Tryz.f288 (.cons (.il true .str) yP5) (.int .i64) x=qD9 k x:=by kernel_rfl
theorem e_w_szStringS[Names](k:Nat):qAD Tryz.prog (qIq k):=qAB tok qAG (by kernel_rfl) (by kernel_rfl) (by kernel_rfl) fun x r h=>(t_w_szStringS k x).trans h
def qGP(k:Nat)(x:List (Bool)×Int×Unit):Option (Int×Unit×Unit×Unit):=
(if(decide ((wi64 (x.2.1-(List.length x.1:Int)))<(0:Int)))=true then
some ((-1:Int),((),((),())))
else
some ((wi64 (x.2.1-(List.length x.1:Int))),((),((),()))))
abbrev E_w_szBoolS(k:Nat):qAI:=⟨289,0,(.cons (.il true .bool) yP5),(.int .i64),qGP k⟩
theorem t_w_szBoolS(k:Nat)(x):evF TTab k [] [] Tryz.f289 (.cons (.il true .bool) yP5) (.int .i64) x=qGP k x:=by kernel_rfl
theorem e_w_szBoolS[Names](k:Nat):qAD Tryz.prog (E_w_szBoolS k):=qAB tok qAG (by kernel_rfl) (by kernel_rfl) (by kernel_rfl) fun x r h=>(t_w_szBoolS k x).trans h
def qIr(k:Nat)(x:(Int×Int×Int×List (ByteArray)×List (Bool)×Int×Unit)×Int×Unit):Option (Int×Unit×Unit×Unit):=
((qD9 k (x.1.2.2.2.1,(x.2.1,()))).bind fun p1 =>
(if(decide (p1.1<(0:Int)))=true then
some ((-1:Int),((),((),())))
else
((qGP k (x.1.2.2.2.2.1,(p1.1,()))).bind fun p2 =>
(if(decide (p2.1<(0:Int)))=true then
some ((-1:Int),((),((),())))
else
some (p2.1,((),((),())))))))
abbrev E_w_szHeld(k:Nat):qAI:=⟨246,0,(.cons yP23 yP5),(.int .i64),qIr k⟩
theorem t_w_szHeld(k:Nat)(x):evF TTab k [qIq k,E_w_szBoolS k] [] Tryz.f246 (.cons yP23 yP5) (.int .i64) x=qIr k x:=by kernel_rfl
theorem e_w_szHeld[Names](k:Nat):qAD Tryz.prog (E_w_szHeld k):=qAB tok (qAA (e_w_szStringS k) (qAA (e_w_szBoolS k) qAG)) (by kernel_rfl) (by kernel_rfl) (by kernel_rfl) fun x r h=>(t_w_szHeld k x).trans h
def qGQ(k:Nat)(x:(List (Int×Int×Int×List (ByteArray)×List (Bool)×Int))×Int×Unit):Option (Int×Unit×Unit×Unit):=
(if(decide ((wi64 (x.2.1-(List.length x.1:Int)))<(0:Int)))=true then
some ((-1:Int),((),((),())))
else
(qAH (fun(rec0:((List (Int×Int×Int×List (ByteArray)×List (Bool)×Int))×Int×Int×Unit)→Option _) (y0:(List (Int×Int×Int×List (ByteArray)×List (Bool)×Int))×Int×Int×Unit) =>
(if(decide (y0.2.2.1<(List.length y0.1:Int)))=true then
(if 0≤y0.2.2.1∧y0.2.2.1<(List.length y0.1:Int) then
((qIr k (((Ty.rd (t:=yT4) y0.1 y0.2.2.1).1,((Ty.rd (t:=yT4) y0.1 y0.2.2.1).2.1,((Ty.rd (t:=yT4) y0.1 y0.2.2.1).2.2.1,((Ty.rd (t:=yT4) y0.1 y0.2.2.1).2.2.2.1,((Ty.rd (t:=yT4) y0.1 y0.2.2.1).2.2.2.2.1,((Ty.rd (t:=yT4) y0.1 y0.2.2.1).2.2.2.2.2,())))))),(y0.2.1,()))).bind fun p1 =>
(if(decide (p1.1<(0:Int)))=true then
some ((-1:Int),((),((),())))
else
(rec0 (y0.1,(p1.1,((wi64 (y0.2.2.1+(1:Int))),()))))))
else none)
else
((fun(z1:Int×Unit) =>
some (z1.1,((),((),())))) (y0.2.1,())))) k (x.1,((wi64 (x.2.1-(List.length x.1:Int))),((0:Int),())))))
abbrev E_w_szHeldS(k:Nat):qAI:=⟨169,0,(.cons (.il true yT4) yP5),(.int .i64),qGQ k⟩
theorem t_w_szHeldS(k:Nat)(x):evF qBr k [E_w_szHeld k] [(0,⟨[0,1,5],(.cons (.il true yT4) (.cons (.int .i64) yP5))⟩,⟨[1],yP5⟩)] Tryz.f169 (.cons (.il true yT4) yP5) (.int .i64) x=qGQ k x:=by kernel_rfl
theorem e_w_szHeldS[Names](k:Nat):qAD Tryz.prog (E_w_szHeldS k):=qAB tokO (qAA (e_w_szHeld k) qAG) (by kernel_rfl) (by kernel_rfl) (by kernel_rfl) fun x r h=>(t_w_szHeldS k x).trans h
def qGR(k:Nat)(x:((List (Int×Int×Int×List (ByteArray)×List (Bool)×Int))×Unit)×Int×Unit):Option (Int×Unit×Unit×Unit):=
((qGQ k (x.1.1,(x.2.1,()))).bind fun p1 =>
(if(decide (p1.1<(0:Int)))=true then
some ((-1:Int),((),((),())))
else
some (p1.1,((),((),())))))
abbrev E_w_szShelf(k:Nat):qAI:=⟨91,0,(.cons (.agg (.cons (.il true yT4) .nil)) yP5),(.int .i64),qGR k⟩
theorem t_w_szShelf(k:Nat)(x):evF qBr k [E_w_szHeldS k] [] Tryz.f91 (.cons (.agg (.cons (.il true yT4) .nil)) yP5) (.int .i64) x=qGR k x:=by kernel_rfl
theorem e_w_szShelf[Names](k:Nat):qAD Tryz.prog (E_w_szShelf k):=qAB tokO (qAA (e_w_szHeldS k) qAG) (by kernel_rfl) (by kernel_rfl) (by kernel_rfl) fun x r h=>(t_w_szShelf k x).trans h
def qIs(k:Nat)(x:(Int×Int×Int×ByteArray×ByteArray×Int×List (Int)×Int×Int×ByteArray×ByteArray×Int×List (Int)×Int×(List (Int×Int×Int×List (ByteArray)×List (Bool)×Int))×Int×Unit)×Int×Unit):Option (Int×Unit×Unit×Unit):=
((qGO k ((x.1.2.2.1,(x.1.2.2.2.1,(x.1.2.2.2.2.1,(x.1.2.2.2.2.2.1,(x.1.2.2.2.2.2.2.1,(x.1.2.2.2.2.2.2.2.1,(x.1.2.2.2.2.2.2.2.2.1,(x.1.2.2.2.2.2.2.2.2.2.1,(x.1.2.2.2.2.2.2.2.2.2.2.1,(x.1.2.2.2.2.2.2.2.2.2.2.2.1,(x.1.2.2.2.2.2.2.2.2.2.2.2.2.1,(x.1.2.2.2.2.2.2.2.2.2.2.2.2.2.1,())))))))))))),(x.2.1,()))).bind fun p1 =>
(if(decide (p1.1<(0:Int)))=true then
some ((-1:Int),((),((),())))
else
((qGR k ((x.1.2.2.2.2.2.2.2.2.2.2.2.2.2.2.1,()),(p1.1,()))).bind fun p2 =>
(if(decide (p2.1<(0:Int)))=true then
some ((-1:Int),((),((),())))
else
some (p2.1,((),((),())))))))
abbrev E_w_szUser(k:Nat):qAI:=⟨28,0,(.cons yP9 yP5),(.int .i64),qIs k⟩
theorem t_w_szUser(k:Nat)(x):evF qBr k [E_w_szSlots k,E_w_szShelf k] [] Tryz.f28 (.cons yP9 yP5) (.int .i64) x=qIs k x:=by kernel_rfl
theorem e_w_szUser[Names](k:Nat):qAD Tryz.prog (E_w_szUser k):=qAB tokO (qAA (e_w_szSlots k) (qAA (e_w_szShelf k) qAG)) (by kernel_rfl) (by kernel_rfl) (by kernel_rfl) fun x r h=>(t_w_szUser k x).trans h
def qGS(k:Nat)(x:(List (Int×Int×((Int×ByteArray×ByteArray×Int×List (Int)×Int)×Int×ByteArray×ByteArray×Int×List (Int)×Int)×List (Int×Int×Int×List (ByteArray)×List (Bool)×Int)×Int))×Int×Unit):Option (Int×Unit×Unit×Unit):=
(if(decide ((wi64 (x.2.1-(List.length x.1:Int)))<(0:Int)))=true then
some ((-1:Int),((),((),())))
else
(qAH (fun(rec0:((List (Int×Int×((Int×ByteArray×ByteArray×Int×List (Int)×Int)×Int×ByteArray×ByteArray×Int×List (Int)×Int)×List (Int×Int×Int×List (ByteArray)×List (Bool)×Int)×Int))×Int×Int×Unit)→Option _) (y0:(List (Int×Int×((Int×ByteArray×ByteArray×Int×List (Int)×Int)×Int×ByteArray×ByteArray×Int×List (Int)×Int)×List (Int×Int×Int×List (ByteArray)×List (Bool)×Int)×Int))×Int×Int×Unit) =>
(if(decide (y0.2.2.1<(List.length y0.1:Int)))=true then
(if 0≤y0.2.2.1∧y0.2.2.1<(List.length y0.1:Int) then
((qIs k (((Ty.rd (t:=yT0) y0.1 y0.2.2.1).1,((Ty.rd (t:=yT0) y0.1 y0.2.2.1).2.1,((Ty.rd (t:=yT0) y0.1 y0.2.2.1).2.2.1.1.1,((Ty.rd (t:=yT0) y0.1 y0.2.2.1).2.2.1.1.2.1,((Ty.rd (t:=yT0) y0.1 y0.2.2.1).2.2.1.1.2.2.1,((Ty.rd (t:=yT0) y0.1 y0.2.2.1).2.2.1.1.2.2.2.1,((Ty.rd (t:=yT0) y0.1 y0.2.2.1).2.2.1.1.2.2.2.2.1,((Ty.rd (t:=yT0) y0.1 y0.2.2.1).2.2.1.1.2.2.2.2.2,((Ty.rd (t:=yT0) y0.1 y0.2.2.1).2.2.1.2.1,((Ty.rd (t:=yT0) y0.1 y0.2.2.1).2.2.1.2.2.1,((Ty.rd (t:=yT0) y0.1 y0.2.2.1).2.2.1.2.2.2.1,((Ty.rd (t:=yT0) y0.1 y0.2.2.1).2.2.1.2.2.2.2.1,((Ty.rd (t:=yT0) y0.1 y0.2.2.1).2.2.1.2.2.2.2.2.1,((Ty.rd (t:=yT0) y0.1 y0.2.2.1).2.2.1.2.2.2.2.2.2,((Ty.rd (t:=yT0) y0.1 y0.2.2.1).2.2.2.1,((Ty.rd (t:=yT0) y0.1 y0.2.2.1).2.2.2.2,())))))))))))))))),(y0.2.1,()))).bind fun p1 =>
(if(decide (p1.1<(0:Int)))=true then
some ((-1:Int),((),((),())))
else
(rec0 (y0.1,(p1.1,((wi64 (y0.2.2.1+(1:Int))),()))))))
else none)
else
((fun(z1:Int×Unit) =>
some (z1.1,((),((),())))) (y0.2.1,())))) k (x.1,((wi64 (x.2.1-(List.length x.1:Int))),((0:Int),())))))
abbrev E_w_szUserS(k:Nat):qAI:=⟨75,0,(.cons (.il true yT0) yP5),(.int .i64),qGS k⟩
theorem t_w_szUserS(k:Nat)(x):evF qBr k [E_w_szUser k] [(0,⟨[0,1,5],(.cons (.il true yT0) (.cons (.int .i64) yP5))⟩,⟨[1],yP5⟩)] Tryz.f75 (.cons (.il true yT0) yP5) (.int .i64) x=qGS k x:=by kernel_rfl
theorem e_w_szUserS[Names](k:Nat):qAD Tryz.prog (E_w_szUserS k):=qAB tokO (qAA (e_w_szUser k) qAG) (by kernel_rfl) (by kernel_rfl) (by kernel_rfl) fun x r h=>(t_w_szUserS k x).trans h
def w_szHub(k:Nat)(x:(Int×Int×(List (Int×Int×Int))×(List (Int×Int))×(List ((Int×Int)×Int))×(List (Int×Int×((Int×ByteArray×ByteArray×Int×List (Int)×Int)×Int×ByteArray×ByteArray×Int×List (Int)×Int)×List (Int×Int×Int×List (ByteArray)×List (Bool)×Int)×Int))×Unit)×Int×Unit):Option (Int×Unit×Unit×Unit):=
((qIo k ((x.1.1,(x.1.2.1,(x.1.2.2.1,(x.1.2.2.2.1,())))),(x.2.1,()))).bind fun p1 =>
(if(decide (p1.1<(0:Int)))=true then
some ((-1:Int),((),((),())))
else
((qE1 k (x.1.2.2.2.2.1,(p1.1,()))).bind fun p2 =>
(if(decide (p2.1<(0:Int)))=true then
some ((-1:Int),((),((),())))
else
((qGS k (x.1.2.2.2.2.2.1,(p2.1,()))).bind fun p3 =>
(if(decide (p3.1<(0:Int)))=true then
some ((-1:Int),((),((),())))
else
some (p3.1,((),((),())))))))))
abbrev E_w_szHub(k:Nat):qAI:=⟨19,0,(.cons yP11 yP5),(.int .i64),w_szHub k⟩
theorem t_w_szHub(k:Nat)(x):evF qBr k [E_w_szPool k,E_w_szRouteS k,E_w_szUserS k] [] Tryz.f19 (.cons yP11 yP5) (.int .i64) x=w_szHub k x:=by kernel_rfl
theorem e_w_szHub[Names](k:Nat):qAD Tryz.prog (E_w_szHub k):=qAB tokO (qAA (e_w_szPool k) (qAA (e_w_szRouteS k) (qAA (e_w_szUserS k) qAG))) (by kernel_rfl) (by kernel_rfl) (by kernel_rfl) fun x r h=>(t_w_szHub k x).trans h
def qDm(k:Nat)(x:(Int×Int×Unit)×Unit):Option ((Int×Int×Unit)×Unit×Unit):=
some ((x.1.1,(x.1.2.1,())),((),()))
abbrev qGT(k:Nat):qAI:=⟨22,0,(.cons yP22 .nil),yP22,qDm k⟩
theorem t_w_toPrefix(k:Nat)(x):evF TTab k [] [] Tryz.f22 (.cons yP22 .nil) yP22 x=qDm k x:=by kernel_rfl
theorem e_w_toPrefix[Names](k:Nat):qAD Tryz.prog (qGT k):=qAB tok qAG (by kernel_rfl) (by kernel_rfl) (by kernel_rfl) fun x r h=>(t_w_toPrefix k x).trans h
def qGU(k:Nat)(x:(Int×Int×Int×Unit)×Unit):Option ((Int×Int×Int×Unit)×Unit×Unit):=
some ((x.1.1,(x.1.2.1,(x.1.2.2.1,()))),((),()))
abbrev E_w_toLease(k:Nat):qAI:=⟨238,0,(.cons (.agg yP16) .nil),(.agg yP16),qGU k⟩
theorem t_w_toLease(k:Nat)(x):evF TTab k [] [] Tryz.f238 (.cons (.agg yP16) .nil) (.agg yP16) x=qGU k x:=by kernel_rfl
theorem e_w_toLease[Names](k:Nat):qAD Tryz.prog (E_w_toLease k):=qAB tok qAG (by kernel_rfl) (by kernel_rfl) (by kernel_rfl) fun x r h=>(t_w_toLease k x).trans h
def qE2(k:Nat)(x:(List (Int×Int×Int))×Unit):Option ((List (Int×Int×Int))×Unit×Unit):=
(if(List.length x.1:Int)=(List.length x.1:Int) then
(if 0≤(List.length x.1:Int)∧(List.length x.1:Int)≤(capMax:Int) then
(qAH (fun(rec0:((List (Int×Int×Int))×(List (Int×Int×Int))×Int×Unit)→Option _) (y0:(List (Int×Int×Int))×(List (Int×Int×Int))×Int×Unit) =>
(if(decide (y0.2.2.1<(List.length y0.1:Int)))=true then
(if 0≤y0.2.2.1∧y0.2.2.1<(List.length y0.1:Int) then
((qGU k (((Ty.rd (t:=(.pair (.int .i64) yT3)) y0.1 y0.2.2.1).1,((Ty.rd (t:=(.pair (.int .i64) yT3)) y0.1 y0.2.2.1).2.1,((Ty.rd (t:=(.pair (.int .i64) yT3)) y0.1 y0.2.2.1).2.2,()))),())).bind fun p1 =>
(if 0≤y0.2.2.1∧y0.2.2.1<(List.length y0.2.1:Int) then
(rec0 (y0.1,((List.set y0.2.1 (Int.toNat y0.2.2.1) (p1.1.1,(p1.1.2.1,p1.1.2.2.1))),((wi64 (y0.2.2.1+(1:Int))),()))))
else none))
else none)
else
((fun(z1:(List (Int×Int×Int))×Unit) =>
some (z1.1,((),()))) (y0.2.1,())))) k (x.1,((List.replicate (Int.toNat (List.length x.1:Int)) ((0:Int),((0:Int),(0:Int)))),((0:Int),()))))
else none)
else none)
abbrev E_w_toLeaseS(k:Nat):qAI:=⟨155,0,(.cons yP28 .nil),yP21,qE2 k⟩
theorem t_w_toLeaseS(k:Nat)(x):evF TTab k [E_w_toLease k] [(0,⟨[0,3,4],(.cons yP28 (.cons yP21 yP5))⟩,⟨[3],(.cons yP21 .nil)⟩)] Tryz.f155 (.cons yP28 .nil) yP21 x=qE2 k x:=by kernel_rfl
theorem e_w_toLeaseS[Names](k:Nat):qAD Tryz.prog (E_w_toLeaseS k):=qAB tok (qAA (e_w_toLease k) qAG) (by kernel_rfl) (by kernel_rfl) (by kernel_rfl) fun x r h=>(t_w_toLeaseS k x).trans h
def qGV(k:Nat)(x:(Int×Int×Unit)×Unit):Option ((Int×Int×Unit)×Unit×Unit):=
some ((x.1.1,(x.1.2.1,())),((),()))
abbrev E_w_toFixed(k:Nat):qAI:=⟨239,0,(.cons yP22 .nil),yP22,qGV k⟩
theorem t_w_toFixed(k:Nat)(x):evF TTab k [] [] Tryz.f239 (.cons yP22 .nil) yP22 x=qGV k x:=by kernel_rfl
theorem e_w_toFixed[Names](k:Nat):qAD Tryz.prog (E_w_toFixed k):=qAB tok qAG (by kernel_rfl) (by kernel_rfl) (by kernel_rfl) fun x r h=>(t_w_toFixed k x).trans h
def qE3(k:Nat)(x:(List (Int×Int))×Unit):Option ((List (Int×Int))×Unit×Unit):=
(if(List.length x.1:Int)=(List.length x.1:Int) then
(if 0≤(List.length x.1:Int)∧(List.length x.1:Int)≤(capMax:Int) then
(qAH (fun(rec0:((List (Int×Int))×(List (Int×Int))×Int×Unit)→Option _) (y0:(List (Int×Int))×(List (Int×Int))×Int×Unit) =>
(if(decide (y0.2.2.1<(List.length y0.1:Int)))=true then
(if 0≤y0.2.2.1∧y0.2.2.1<(List.length y0.1:Int) then
((qGV k (((Ty.rd (t:=yT3) y0.1 y0.2.2.1).1,((Ty.rd (t:=yT3) y0.1 y0.2.2.1).2,())),())).bind fun p1 =>
(if 0≤y0.2.2.1∧y0.2.2.1<(List.length y0.2.1:Int) then
(rec0 (y0.1,((List.set y0.2.1 (Int.toNat y0.2.2.1) (p1.1.1,p1.1.2.1)),((wi64 (y0.2.2.1+(1:Int))),()))))
else none))
else none)
else
((fun(z1:(List (Int×Int))×Unit) =>
some (z1.1,((),()))) (y0.2.1,())))) k (x.1,((List.replicate (Int.toNat (List.length x.1:Int)) ((0:Int),(0:Int))),((0:Int),()))))
else none)
else none)
abbrev E_w_toFixedS(k:Nat):qAI:=⟨156,0,(.cons (.il true yT3) .nil),(.own false 252 yT3),qE3 k⟩
theorem t_w_toFixedS(k:Nat)(x):evF TTab k [E_w_toFixed k] [(0,⟨[0,3,4],(.cons (.il true yT3) (.cons (.own false 252 yT3) yP5))⟩,⟨[3],(.cons (.own false 252 yT3) .nil)⟩)] Tryz.f156 (.cons (.il true yT3) .nil) (.own false 252 yT3) x=qE3 k x:=by kernel_rfl
theorem e_w_toFixedS[Names](k:Nat):qAD Tryz.prog (E_w_toFixedS k):=qAB tok (qAA (e_w_toFixed k) qAG) (by kernel_rfl) (by kernel_rfl) (by kernel_rfl) fun x r h=>(t_w_toFixedS k x).trans h
def qIt(k:Nat)(x:(Int×Int×(List (Int×Int×Int))×(List (Int×Int))×Unit)×Unit):Option ((Int×Int×(List (Int×Int×Int))×(List (Int×Int))×Unit)×Unit×Unit):=
((qDm k ((x.1.1,(x.1.2.1,())),())).bind fun p1 =>
((qE2 k (x.1.2.2.1,())).bind fun p2 =>
((qE3 k (x.1.2.2.2.1,())).bind fun p3 =>
some ((p1.1.1,(p1.1.2.1,(p2.1,(p3.1,())))),((),())))))
abbrev E_w_toPool(k:Nat):qAI:=⟨76,0,(.cons (.agg yP6) .nil),(.agg yP12),qIt k⟩
theorem t_w_toPool(k:Nat)(x):evF TTab k [qGT k,E_w_toLeaseS k,E_w_toFixedS k] [] Tryz.f76 (.cons (.agg yP6) .nil) (.agg yP12) x=qIt k x:=by kernel_rfl
theorem e_w_toPool[Names](k:Nat):qAD Tryz.prog (E_w_toPool k):=qAB tok (qAA (e_w_toPrefix k) (qAA (e_w_toLeaseS k) (qAA (e_w_toFixedS k) qAG))) (by kernel_rfl) (by kernel_rfl) (by kernel_rfl) fun x r h=>(t_w_toPool k x).trans h
def qGW(k:Nat)(x:(Int×Int×Int×Unit)×Unit):Option ((Int×Int×Int×Unit)×Unit×Unit):=
((qDm k ((x.1.1,(x.1.2.1,())),())).bind fun p1 =>
some ((p1.1.1,(p1.1.2.1,(x.1.2.2.1,()))),((),())))
abbrev E_w_toRoute(k:Nat):qAI:=⟨157,0,(.cons (.agg yP16) .nil),(.agg yP16),qGW k⟩
theorem t_w_toRoute(k:Nat)(x):evF TTab k [qGT k] [] Tryz.f157 (.cons (.agg yP16) .nil) (.agg yP16) x=qGW k x:=by kernel_rfl
theorem e_w_toRoute[Names](k:Nat):qAD Tryz.prog (E_w_toRoute k):=qAB tok (qAA (e_w_toPrefix k) qAG) (by kernel_rfl) (by kernel_rfl) (by kernel_rfl) fun x r h=>(t_w_toRoute k x).trans h
def qE4(k:Nat)(x:(List ((Int×Int)×Int))×Unit):Option ((List ((Int×Int)×Int))×Unit×Unit):=
(if(List.length x.1:Int)=(List.length x.1:Int) then
(if 0≤(List.length x.1:Int)∧(List.length x.1:Int)≤(capMax:Int) then
(qAH (fun(rec0:((List ((Int×Int)×Int))×(List ((Int×Int)×Int))×Int×Unit)→Option _) (y0:(List ((Int×Int)×Int))×(List ((Int×Int)×Int))×Int×Unit) =>
(if(decide (y0.2.2.1<(List.length y0.1:Int)))=true then
(if 0≤y0.2.2.1∧y0.2.2.1<(List.length y0.1:Int) then
((qGW k (((Ty.rd (t:=(.pair yT3 (.int .i64))) y0.1 y0.2.2.1).1.1,((Ty.rd (t:=(.pair yT3 (.int .i64))) y0.1 y0.2.2.1).1.2,((Ty.rd (t:=(.pair yT3 (.int .i64))) y0.1 y0.2.2.1).2,()))),())).bind fun p1 =>
(if 0≤y0.2.2.1∧y0.2.2.1<(List.length y0.2.1:Int) then
(rec0 (y0.1,((List.set y0.2.1 (Int.toNat y0.2.2.1) ((p1.1.1,p1.1.2.1),p1.1.2.2.1)),((wi64 (y0.2.2.1+(1:Int))),()))))
else none))
else none)
else
((fun(z1:(List ((Int×Int)×Int))×Unit) =>
some (z1.1,((),()))) (y0.2.1,())))) k (x.1,((List.replicate (Int.toNat (List.length x.1:Int)) (((0:Int),(0:Int)),(0:Int))),((0:Int),()))))
else none)
else none)
abbrev E_w_toRouteS(k:Nat):qAI:=⟨77,0,(.cons yP19 .nil),yP17,qE4 k⟩
theorem t_w_toRouteS(k:Nat)(x):evF TTab k [E_w_toRoute k] [(0,⟨[0,3,4],(.cons yP19 (.cons yP17 yP5))⟩,⟨[3],(.cons yP17 .nil)⟩)] Tryz.f77 (.cons yP19 .nil) yP17 x=qE4 k x:=by kernel_rfl
theorem e_w_toRouteS[Names](k:Nat):qAD Tryz.prog (E_w_toRouteS k):=qAB tok (qAA (e_w_toRoute k) qAG) (by kernel_rfl) (by kernel_rfl) (by kernel_rfl) fun x r h=>(t_w_toRouteS k x).trans h
def qIu(k:Nat)(x:List (Int)×Unit):Option (List (Int)×Unit×Unit):=
(if(List.length x.1:Int)=(List.length x.1:Int) then
(if 0≤(List.length x.1:Int)∧(List.length x.1:Int)≤(capMax:Int) then
(qAH (fun(rec0:(List (Int)×List (Int)×Int×Unit)→Option _) (y0:List (Int)×List (Int)×Int×Unit) =>
(if(decide (y0.2.2.1<(List.length y0.1:Int)))=true then
(if 0≤y0.2.2.1∧y0.2.2.1<(List.length y0.1:Int) then
(if 0≤y0.2.2.1∧y0.2.2.1<(List.length y0.2.1:Int) then
(rec0 (y0.1,((List.set y0.2.1 (Int.toNat y0.2.2.1) (Ty.rd (t:=(.int .i64)) y0.1 y0.2.2.1)),((wi64 (y0.2.2.1+(1:Int))),()))))
else none)
else none)
else
((fun(z1:List (Int)×Unit) =>
some (z1.1,((),()))) (y0.2.1,())))) k (x.1,((List.replicate (Int.toNat (List.length x.1:Int)) (0:Int)),((0:Int),()))))
else none)
else none)
abbrev E_w_toIntS(k:Nat):qAI:=⟨115,0,yP30,yP25,qIu k⟩
theorem t_w_toIntS(k:Nat)(x):evF TTab k [] [(0,⟨[0,3,4],(.cons (.il true (.int .i64)) (.cons yP25 yP5))⟩,⟨[3],(.cons yP25 .nil)⟩)] Tryz.f115 yP30 yP25 x=qIu k x:=by kernel_rfl
theorem e_w_toIntS[Names](k:Nat):qAD Tryz.prog (E_w_toIntS k):=qAB tok qAG (by kernel_rfl) (by kernel_rfl) (by kernel_rfl) fun x r h=>(t_w_toIntS k x).trans h
def qHH(k:Nat)(x:(Int×ByteArray×ByteArray×Int×List (Int)×Int×Unit)×Unit):Option ((Int×ByteArray×ByteArray×Int×List (Int)×Int×Unit)×Unit×Unit):=
((qIu k (x.1.2.2.2.2.1,())).bind fun p1 =>
some ((x.1.1,(x.1.2.1,(x.1.2.2.1,(x.1.2.2.2.1,(p1.1,(x.1.2.2.2.2.2.1,())))))),((),())))
abbrev E_w_toSlot(k:Nat):qAI:=⟨178,0,(.cons yP15 .nil),(.agg (.cons (.int .i64) (.cons .str (.cons .str (.cons (.int .i64) (.cons yP25 yP5)))))),qHH k⟩
theorem t_w_toSlot(k:Nat)(x):evF TTab k [E_w_toIntS k] [] Tryz.f178 (.cons yP15 .nil) (.agg (.cons (.int .i64) (.cons .str (.cons .str (.cons (.int .i64) (.cons yP25 yP5)))))) x=qHH k x:=by kernel_rfl
theorem e_w_toSlot[Names](k:Nat):qAD Tryz.prog (E_w_toSlot k):=qAB tok (qAA (e_w_toIntS k) qAG) (by kernel_rfl) (by kernel_rfl) (by kernel_rfl) fun x r h=>(t_w_toSlot k x).trans h
def qGX(k:Nat)(x:(Int×ByteArray×ByteArray×Int×List (Int)×Int×Int×ByteArray×ByteArray×Int×List (Int)×Int×Unit)×Unit):Option ((Int×ByteArray×ByteArray×Int×List (Int)×Int×Int×ByteArray×ByteArray×Int×List (Int)×Int×Unit)×Unit×Unit):=
((qHH k ((x.1.1,(x.1.2.1,(x.1.2.2.1,(x.1.2.2.2.1,(x.1.2.2.2.2.1,(x.1.2.2.2.2.2.1,())))))),())).bind fun p1 =>
((qHH k ((x.1.2.2.2.2.2.2.1,(x.1.2.2.2.2.2.2.2.1,(x.1.2.2.2.2.2.2.2.2.1,(x.1.2.2.2.2.2.2.2.2.2.1,(x.1.2.2.2.2.2.2.2.2.2.2.1,(x.1.2.2.2.2.2.2.2.2.2.2.2.1,())))))),())).bind fun p2 =>
some ((p1.1.1,(p1.1.2.1,(p1.1.2.2.1,(p1.1.2.2.2.1,(p1.1.2.2.2.2.1,(p1.1.2.2.2.2.2.1,(p2.1.1,(p2.1.2.1,(p2.1.2.2.1,(p2.1.2.2.2.1,(p2.1.2.2.2.2.1,(p2.1.2.2.2.2.2.1,())))))))))))),((),()))))
abbrev E_w_toSlots(k:Nat):qAI:=⟨96,0,(.cons yP8 .nil),yP10,qGX k⟩
theorem t_w_toSlots(k:Nat)(x):evF TTab k [E_w_toSlot k] [] Tryz.f96 (.cons yP8 .nil) yP10 x=qGX k x:=by kernel_rfl
theorem e_w_toSlots[Names](k:Nat):qAD Tryz.prog (E_w_toSlots k):=qAB tok (qAA (e_w_toSlot k) qAG) (by kernel_rfl) (by kernel_rfl) (by kernel_rfl) fun x r h=>(t_w_toSlots k x).trans h
def qEA(k:Nat)(x:List (ByteArray)×Unit):Option (List (ByteArray)×Unit×Unit):=
(if(List.length x.1:Int)=(List.length x.1:Int) then
(if 0≤(List.length x.1:Int)∧(List.length x.1:Int)≤(capMax:Int) then
(qAH (fun(rec0:(List (ByteArray)×List (ByteArray)×Int×Unit)→Option _) (y0:List (ByteArray)×List (ByteArray)×Int×Unit) =>
(if(decide (y0.2.2.1<(List.length y0.1:Int)))=true then
(if 0≤y0.2.2.1∧y0.2.2.1<(List.length y0.1:Int) then
(if 0≤y0.2.2.1∧y0.2.2.1<(List.length y0.2.1:Int) then
(rec0 (y0.1,((List.set y0.2.1 (Int.toNat y0.2.2.1) (Ty.rd (t:=.str) y0.1 y0.2.2.1)),((wi64 (y0.2.2.1+(1:Int))),()))))
else none)
else none)
else
((fun(z1:List (ByteArray)×Unit) =>
some (z1.1,((),()))) (y0.2.1,())))) k (x.1,((List.replicate (Int.toNat (List.length x.1:Int)) (⟨#[]⟩:ByteArray)),((0:Int),()))))
else none)
else none)
abbrev qIv(k:Nat):qAI:=⟨293,0,(.cons (.il true .str) .nil),(.own false 9 .str),qEA k⟩
theorem t_w_toStringS(k:Nat)(x):evF TTab k [] [(0,⟨[0,3,4],(.cons (.il true .str) (.cons (.own false 9 .str) yP5))⟩,⟨[3],(.cons (.own false 9 .str) .nil)⟩)] Tryz.f293 (.cons (.il true .str) .nil) (.own false 9 .str) x=qEA k x:=by kernel_rfl
theorem e_w_toStringS[Names](k:Nat):qAD Tryz.prog (qIv k):=qAB tok qAG (by kernel_rfl) (by kernel_rfl) (by kernel_rfl) fun x r h=>(t_w_toStringS k x).trans h
def qGY(k:Nat)(x:List (Bool)×Unit):Option (List (Bool)×Unit×Unit):=
(if(List.length x.1:Int)=(List.length x.1:Int) then
(if 0≤(List.length x.1:Int)∧(List.length x.1:Int)≤(capMax:Int) then
(qAH (fun(rec0:(List (Bool)×List (Bool)×Int×Unit)→Option _) (y0:List (Bool)×List (Bool)×Int×Unit) =>
(if(decide (y0.2.2.1<(List.length y0.1:Int)))=true then
(if 0≤y0.2.2.1∧y0.2.2.1<(List.length y0.1:Int) then
(if 0≤y0.2.2.1∧y0.2.2.1<(List.length y0.2.1:Int) then
(rec0 (y0.1,((List.set y0.2.1 (Int.toNat y0.2.2.1) (Ty.rd (t:=.bool) y0.1 y0.2.2.1)),((wi64 (y0.2.2.1+(1:Int))),()))))
else none)
else none)
else
((fun(z1:List (Bool)×Unit) =>
some (z1.1,((),()))) (y0.2.1,())))) k (x.1,((List.replicate (Int.toNat (List.length x.1:Int)) false),((0:Int),()))))
else none)
else none)
abbrev E_w_toBoolS(k:Nat):qAI:=⟨294,0,(.cons (.il true .bool) .nil),(.own false 4 .bool),qGY k⟩
theorem t_w_toBoolS(k:Nat)(x):evF TTab k [] [(0,⟨[0,3,4],(.cons (.il true .bool) (.cons (.own false 4 .bool) yP5))⟩,⟨[3],(.cons (.own false 4 .bool) .nil)⟩)] Tryz.f294 (.cons (.il true .bool) .nil) (.own false 4 .bool) x=qGY k x:=by kernel_rfl
theorem e_w_toBoolS[Names](k:Nat):qAD Tryz.prog (E_w_toBoolS k):=qAB tok qAG (by kernel_rfl) (by kernel_rfl) (by kernel_rfl) fun x r h=>(t_w_toBoolS k x).trans h
def qIw(k:Nat)(x:(Int×Int×Int×List (ByteArray)×List (Bool)×Int×Unit)×Unit):Option ((Int×Int×Int×List (ByteArray)×List (Bool)×Int×Unit)×Unit×Unit):=
((qEA k (x.1.2.2.2.1,())).bind fun p1 =>
((qGY k (x.1.2.2.2.2.1,())).bind fun p2 =>
some ((x.1.1,(x.1.2.1,(x.1.2.2.1,(p1.1,(p2.1,(x.1.2.2.2.2.2.1,())))))),((),()))))
abbrev E_w_toHeld(k:Nat):qAI:=⟨253,0,(.cons yP23 .nil),(.agg (.cons (.int .i64) (.cons (.int .i64) (.cons (.int .i64) (.cons (.own false 9 .str) (.cons (.own false 4 .bool) yP5)))))),qIw k⟩
theorem t_w_toHeld(k:Nat)(x):evF TTab k [qIv k,E_w_toBoolS k] [] Tryz.f253 (.cons yP23 .nil) (.agg (.cons (.int .i64) (.cons (.int .i64) (.cons (.int .i64) (.cons (.own false 9 .str) (.cons (.own false 4 .bool) yP5)))))) x=qIw k x:=by kernel_rfl
theorem e_w_toHeld[Names](k:Nat):qAD Tryz.prog (E_w_toHeld k):=qAB tok (qAA (e_w_toStringS k) (qAA (e_w_toBoolS k) qAG)) (by kernel_rfl) (by kernel_rfl) (by kernel_rfl) fun x r h=>(t_w_toHeld k x).trans h
def qGZ(k:Nat)(x:(List (Int×Int×Int×List (ByteArray)×List (Bool)×Int))×Unit):Option ((List (Int×Int×Int×List (ByteArray)×List (Bool)×Int))×Unit×Unit):=
(if(List.length x.1:Int)=(List.length x.1:Int) then
(if 0≤(List.length x.1:Int)∧(List.length x.1:Int)≤(capMax:Int) then
(qAH (fun(rec0:((List (Int×Int×Int×List (ByteArray)×List (Bool)×Int))×(List (Int×Int×Int×List (ByteArray)×List (Bool)×Int))×Int×Unit)→Option _) (y0:(List (Int×Int×Int×List (ByteArray)×List (Bool)×Int))×(List (Int×Int×Int×List (ByteArray)×List (Bool)×Int))×Int×Unit) =>
(if(decide (y0.2.2.1<(List.length y0.1:Int)))=true then
(if 0≤y0.2.2.1∧y0.2.2.1<(List.length y0.1:Int) then
((qIw k (((Ty.rd (t:=yT4) y0.1 y0.2.2.1).1,((Ty.rd (t:=yT4) y0.1 y0.2.2.1).2.1,((Ty.rd (t:=yT4) y0.1 y0.2.2.1).2.2.1,((Ty.rd (t:=yT4) y0.1 y0.2.2.1).2.2.2.1,((Ty.rd (t:=yT4) y0.1 y0.2.2.1).2.2.2.2.1,((Ty.rd (t:=yT4) y0.1 y0.2.2.1).2.2.2.2.2,())))))),())).bind fun p1 =>
(if 0≤y0.2.2.1∧y0.2.2.1<(List.length y0.2.1:Int) then
(rec0 (y0.1,((List.set y0.2.1 (Int.toNat y0.2.2.1) (p1.1.1,(p1.1.2.1,(p1.1.2.2.1,(p1.1.2.2.2.1,(p1.1.2.2.2.2.1,p1.1.2.2.2.2.2.1)))))),((wi64 (y0.2.2.1+(1:Int))),()))))
else none))
else none)
else
((fun(z1:(List (Int×Int×Int×List (ByteArray)×List (Bool)×Int))×Unit) =>
some (z1.1,((),()))) (y0.2.1,())))) k (x.1,((List.replicate (Int.toNat (List.length x.1:Int)) ((0:Int),((0:Int),((0:Int),([],([],(0:Int))))))),((0:Int),()))))
else none)
else none)
abbrev E_w_toHeldS(k:Nat):qAI:=⟨179,0,(.cons (.il true yT4) .nil),(.own false 229 yT7),qGZ k⟩
theorem t_w_toHeldS(k:Nat)(x):evF qBr k [E_w_toHeld k] [(0,⟨[0,3,4],(.cons (.il true yT4) (.cons (.own false 229 yT7) yP5))⟩,⟨[3],(.cons (.own false 229 yT7) .nil)⟩)] Tryz.f179 (.cons (.il true yT4) .nil) (.own false 229 yT7) x=qGZ k x:=by kernel_rfl
theorem e_w_toHeldS[Names](k:Nat):qAD Tryz.prog (E_w_toHeldS k):=qAB tokO (qAA (e_w_toHeld k) qAG) (by kernel_rfl) (by kernel_rfl) (by kernel_rfl) fun x r h=>(t_w_toHeldS k x).trans h
def qGa(k:Nat)(x:((List (Int×Int×Int×List (ByteArray)×List (Bool)×Int))×Unit)×Unit):Option (((List (Int×Int×Int×List (ByteArray)×List (Bool)×Int))×Unit)×Unit×Unit):=
((qGZ k (x.1.1,())).bind fun p1 =>
some ((p1.1,()),((),())))
abbrev E_w_toShelf(k:Nat):qAI:=⟨97,0,(.cons (.agg (.cons (.il true yT4) .nil)) .nil),(.agg (.cons (.own false 229 yT7) .nil)),qGa k⟩
theorem t_w_toShelf(k:Nat)(x):evF qBr k [E_w_toHeldS k] [] Tryz.f97 (.cons (.agg (.cons (.il true yT4) .nil)) .nil) (.agg (.cons (.own false 229 yT7) .nil)) x=qGa k x:=by kernel_rfl
theorem e_w_toShelf[Names](k:Nat):qAD Tryz.prog (E_w_toShelf k):=qAB tokO (qAA (e_w_toHeldS k) qAG) (by kernel_rfl) (by kernel_rfl) (by kernel_rfl) fun x r h=>(t_w_toShelf k x).trans h
end Go.Proofs.YtnfllchbpechlaaGreat
