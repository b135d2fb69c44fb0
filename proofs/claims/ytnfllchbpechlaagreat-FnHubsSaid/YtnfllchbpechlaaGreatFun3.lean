import Derived.Test.YtnfllchbpechlaaGreatFun2
/- What functions of the program compute, as plain functions, and that their calls do so (part 3). Conditions: the plain function answers. -/
set_option linter.unusedVariables false
namespace Go.Proofs.YtnfllchbpechlaaGreat
open Go Go.Eng Go.Proofs
def qCP(k:Nat)(x:(List (Int×Int×((Int×ByteArray×ByteArray×Int×Nat×Int)×Int×ByteArray×ByteArray×Int×Nat×Int)×Nat×Int))×(Int×Int×Int×ByteArray×ByteArray×Int×Nat×Int×Int×ByteArray×ByteArray×Int×Nat×Int×Nat×Int×Unit)×Unit):Option ((List (Int×Int×((Int×ByteArray×ByteArray×Int×Nat×Int)×Int×ByteArray×ByteArray×Int×Nat×Int)×Nat×Int))×Unit×Unit×Unit):=
(qAG (fun(rec0:((Int×Int×Int×ByteArray×ByteArray×Int×Nat×Int×Int×ByteArray×ByteArray×Int×Nat×Int×Nat×Int×Unit)×(List (Int×Int×((Int×ByteArray×ByteArray×Int×Nat×Int)×Int×ByteArray×ByteArray×Int×Nat×Int)×Nat×Int))×(List (Int×Int×((Int×ByteArray×ByteArray×Int×Nat×Int)×Int×ByteArray×ByteArray×Int×Nat×Int)×Nat×Int))×(List (Int×Int×((Int×ByteArray×ByteArray×Int×Nat×Int)×Int×ByteArray×ByteArray×Int×Nat×Int)×Nat×Int))×Int×Int×Unit)→Option _) (y0:(Int×Int×Int×ByteArray×ByteArray×Int×Nat×Int×Int×ByteArray×ByteArray×Int×Nat×Int×Nat×Int×Unit)×(List (Int×Int×((Int×ByteArray×ByteArray×Int×Nat×Int)×Int×ByteArray×ByteArray×Int×Nat×Int)×Nat×Int))×(List (Int×Int×((Int×ByteArray×ByteArray×Int×Nat×Int)×Int×ByteArray×ByteArray×Int×Nat×Int)×Nat×Int))×(List (Int×Int×((Int×ByteArray×ByteArray×Int×Nat×Int)×Int×ByteArray×ByteArray×Int×Nat×Int)×Nat×Int))×Int×Int×Unit) =>
(if(decide (y0.2.2.2.2.2.1<y0.2.2.2.2.1))=true then
(if 0≤y0.2.2.2.2.2.1∧y0.2.2.2.2.2.1<(List.length y0.2.2.2.1:Int) then
(if(decide ((Ty.rd (t:=yT1) y0.2.2.2.1 y0.2.2.2.2.2.1).1<y0.1.1))=true then
(if List.length y0.2.1+List.length ([((Ty.rd (t:=yT1) y0.2.2.2.1 y0.2.2.2.2.2.1).1,((Ty.rd (t:=yT1) y0.2.2.2.1 y0.2.2.2.2.2.1).2.1,((((Ty.rd (t:=yT1) y0.2.2.2.1 y0.2.2.2.2.2.1).2.2.1.1.1,((Ty.rd (t:=yT1) y0.2.2.2.1 y0.2.2.2.2.2.1).2.2.1.1.2.1,((Ty.rd (t:=yT1) y0.2.2.2.1 y0.2.2.2.2.2.1).2.2.1.1.2.2.1,((Ty.rd (t:=yT1) y0.2.2.2.1 y0.2.2.2.2.2.1).2.2.1.1.2.2.2.1,((Ty.rd (t:=yT1) y0.2.2.2.1 y0.2.2.2.2.2.1).2.2.1.1.2.2.2.2.1,(Ty.rd (t:=yT1) y0.2.2.2.1 y0.2.2.2.2.2.1).2.2.1.1.2.2.2.2.2))))),((Ty.rd (t:=yT1) y0.2.2.2.1 y0.2.2.2.2.2.1).2.2.1.2.1,((Ty.rd (t:=yT1) y0.2.2.2.1 y0.2.2.2.2.2.1).2.2.1.2.2.1,((Ty.rd (t:=yT1) y0.2.2.2.1 y0.2.2.2.2.2.1).2.2.1.2.2.2.1,((Ty.rd (t:=yT1) y0.2.2.2.1 y0.2.2.2.2.2.1).2.2.1.2.2.2.2.1,((Ty.rd (t:=yT1) y0.2.2.2.1 y0.2.2.2.2.2.1).2.2.1.2.2.2.2.2.1,(Ty.rd (t:=yT1) y0.2.2.2.1 y0.2.2.2.2.2.1).2.2.1.2.2.2.2.2.2)))))),((Ty.rd (t:=yT1) y0.2.2.2.1 y0.2.2.2.2.2.1).2.2.2.1,(Ty.rd (t:=yT1) y0.2.2.2.1 y0.2.2.2.2.2.1).2.2.2.2))))]:List (Int×Int×((Int×ByteArray×ByteArray×Int×Nat×Int)×Int×ByteArray×ByteArray×Int×Nat×Int)×Nat×Int))≤capMax then
(rec0 (y0.1,((y0.2.1++([((Ty.rd (t:=yT1) y0.2.2.2.1 y0.2.2.2.2.2.1).1,((Ty.rd (t:=yT1) y0.2.2.2.1 y0.2.2.2.2.2.1).2.1,((((Ty.rd (t:=yT1) y0.2.2.2.1 y0.2.2.2.2.2.1).2.2.1.1.1,((Ty.rd (t:=yT1) y0.2.2.2.1 y0.2.2.2.2.2.1).2.2.1.1.2.1,((Ty.rd (t:=yT1) y0.2.2.2.1 y0.2.2.2.2.2.1).2.2.1.1.2.2.1,((Ty.rd (t:=yT1) y0.2.2.2.1 y0.2.2.2.2.2.1).2.2.1.1.2.2.2.1,((Ty.rd (t:=yT1) y0.2.2.2.1 y0.2.2.2.2.2.1).2.2.1.1.2.2.2.2.1,(Ty.rd (t:=yT1) y0.2.2.2.1 y0.2.2.2.2.2.1).2.2.1.1.2.2.2.2.2))))),((Ty.rd (t:=yT1) y0.2.2.2.1 y0.2.2.2.2.2.1).2.2.1.2.1,((Ty.rd (t:=yT1) y0.2.2.2.1 y0.2.2.2.2.2.1).2.2.1.2.2.1,((Ty.rd (t:=yT1) y0.2.2.2.1 y0.2.2.2.2.2.1).2.2.1.2.2.2.1,((Ty.rd (t:=yT1) y0.2.2.2.1 y0.2.2.2.2.2.1).2.2.1.2.2.2.2.1,((Ty.rd (t:=yT1) y0.2.2.2.1 y0.2.2.2.2.2.1).2.2.1.2.2.2.2.2.1,(Ty.rd (t:=yT1) y0.2.2.2.1 y0.2.2.2.2.2.1).2.2.1.2.2.2.2.2.2)))))),((Ty.rd (t:=yT1) y0.2.2.2.1 y0.2.2.2.2.2.1).2.2.2.1,(Ty.rd (t:=yT1) y0.2.2.2.1 y0.2.2.2.2.2.1).2.2.2.2))))]:List (Int×Int×((Int×ByteArray×ByteArray×Int×Nat×Int)×Int×ByteArray×ByteArray×Int×Nat×Int)×Nat×Int))),(y0.2.2.1,(y0.2.2.2.1,(y0.2.2.2.2.1,((wi64 (y0.2.2.2.2.2.1+(1:Int))),())))))))
else none)
else
(if List.length y0.2.2.1+List.length ([((Ty.rd (t:=yT1) y0.2.2.2.1 y0.2.2.2.2.2.1).1,((Ty.rd (t:=yT1) y0.2.2.2.1 y0.2.2.2.2.2.1).2.1,((((Ty.rd (t:=yT1) y0.2.2.2.1 y0.2.2.2.2.2.1).2.2.1.1.1,((Ty.rd (t:=yT1) y0.2.2.2.1 y0.2.2.2.2.2.1).2.2.1.1.2.1,((Ty.rd (t:=yT1) y0.2.2.2.1 y0.2.2.2.2.2.1).2.2.1.1.2.2.1,((Ty.rd (t:=yT1) y0.2.2.2.1 y0.2.2.2.2.2.1).2.2.1.1.2.2.2.1,((Ty.rd (t:=yT1) y0.2.2.2.1 y0.2.2.2.2.2.1).2.2.1.1.2.2.2.2.1,(Ty.rd (t:=yT1) y0.2.2.2.1 y0.2.2.2.2.2.1).2.2.1.1.2.2.2.2.2))))),((Ty.rd (t:=yT1) y0.2.2.2.1 y0.2.2.2.2.2.1).2.2.1.2.1,((Ty.rd (t:=yT1) y0.2.2.2.1 y0.2.2.2.2.2.1).2.2.1.2.2.1,((Ty.rd (t:=yT1) y0.2.2.2.1 y0.2.2.2.2.2.1).2.2.1.2.2.2.1,((Ty.rd (t:=yT1) y0.2.2.2.1 y0.2.2.2.2.2.1).2.2.1.2.2.2.2.1,((Ty.rd (t:=yT1) y0.2.2.2.1 y0.2.2.2.2.2.1).2.2.1.2.2.2.2.2.1,(Ty.rd (t:=yT1) y0.2.2.2.1 y0.2.2.2.2.2.1).2.2.1.2.2.2.2.2.2)))))),((Ty.rd (t:=yT1) y0.2.2.2.1 y0.2.2.2.2.2.1).2.2.2.1,(Ty.rd (t:=yT1) y0.2.2.2.1 y0.2.2.2.2.2.1).2.2.2.2))))]:List (Int×Int×((Int×ByteArray×ByteArray×Int×Nat×Int)×Int×ByteArray×ByteArray×Int×Nat×Int)×Nat×Int))≤capMax then
(rec0 (y0.1,(y0.2.1,((y0.2.2.1++([((Ty.rd (t:=yT1) y0.2.2.2.1 y0.2.2.2.2.2.1).1,((Ty.rd (t:=yT1) y0.2.2.2.1 y0.2.2.2.2.2.1).2.1,((((Ty.rd (t:=yT1) y0.2.2.2.1 y0.2.2.2.2.2.1).2.2.1.1.1,((Ty.rd (t:=yT1) y0.2.2.2.1 y0.2.2.2.2.2.1).2.2.1.1.2.1,((Ty.rd (t:=yT1) y0.2.2.2.1 y0.2.2.2.2.2.1).2.2.1.1.2.2.1,((Ty.rd (t:=yT1) y0.2.2.2.1 y0.2.2.2.2.2.1).2.2.1.1.2.2.2.1,((Ty.rd (t:=yT1) y0.2.2.2.1 y0.2.2.2.2.2.1).2.2.1.1.2.2.2.2.1,(Ty.rd (t:=yT1) y0.2.2.2.1 y0.2.2.2.2.2.1).2.2.1.1.2.2.2.2.2))))),((Ty.rd (t:=yT1) y0.2.2.2.1 y0.2.2.2.2.2.1).2.2.1.2.1,((Ty.rd (t:=yT1) y0.2.2.2.1 y0.2.2.2.2.2.1).2.2.1.2.2.1,((Ty.rd (t:=yT1) y0.2.2.2.1 y0.2.2.2.2.2.1).2.2.1.2.2.2.1,((Ty.rd (t:=yT1) y0.2.2.2.1 y0.2.2.2.2.2.1).2.2.1.2.2.2.2.1,((Ty.rd (t:=yT1) y0.2.2.2.1 y0.2.2.2.2.2.1).2.2.1.2.2.2.2.2.1,(Ty.rd (t:=yT1) y0.2.2.2.1 y0.2.2.2.2.2.1).2.2.1.2.2.2.2.2.2)))))),((Ty.rd (t:=yT1) y0.2.2.2.1 y0.2.2.2.2.2.1).2.2.2.1,(Ty.rd (t:=yT1) y0.2.2.2.1 y0.2.2.2.2.2.1).2.2.2.2))))]:List (Int×Int×((Int×ByteArray×ByteArray×Int×Nat×Int)×Int×ByteArray×ByteArray×Int×Nat×Int)×Nat×Int))),(y0.2.2.2.1,(y0.2.2.2.2.1,((wi64 (y0.2.2.2.2.2.1+(1:Int))),())))))))
else none))
else none)
else
((fun(z1:(Int×Int×Int×ByteArray×ByteArray×Int×Nat×Int×Int×ByteArray×ByteArray×Int×Nat×Int×Nat×Int×Unit)×(List (Int×Int×((Int×ByteArray×ByteArray×Int×Nat×Int)×Int×ByteArray×ByteArray×Int×Nat×Int)×Nat×Int))×(List (Int×Int×((Int×ByteArray×ByteArray×Int×Nat×Int)×Int×ByteArray×ByteArray×Int×Nat×Int)×Nat×Int))×Unit) =>
((qAg k (([z1.2.1,([(z1.1.1,(z1.1.2.1,(((z1.1.2.2.1,(z1.1.2.2.2.1,(z1.1.2.2.2.2.1,(z1.1.2.2.2.2.2.1,(z1.1.2.2.2.2.2.2.1,z1.1.2.2.2.2.2.2.2.1))))),(z1.1.2.2.2.2.2.2.2.2.1,(z1.1.2.2.2.2.2.2.2.2.2.1,(z1.1.2.2.2.2.2.2.2.2.2.2.1,(z1.1.2.2.2.2.2.2.2.2.2.2.2.1,(z1.1.2.2.2.2.2.2.2.2.2.2.2.2.1,z1.1.2.2.2.2.2.2.2.2.2.2.2.2.2.1)))))),(z1.1.2.2.2.2.2.2.2.2.2.2.2.2.2.2.1,z1.1.2.2.2.2.2.2.2.2.2.2.2.2.2.2.2.1))))]:List (Int×Int×((Int×ByteArray×ByteArray×Int×Nat×Int)×Int×ByteArray×ByteArray×Int×Nat×Int)×Nat×Int)),z1.2.2.1]:List (List (Int×Int×((Int×ByteArray×ByteArray×Int×Nat×Int)×Int×ByteArray×ByteArray×Int×Nat×Int)×Nat×Int))),())).bind fun p1 =>
some (p1.1,((),((),()))))) (y0.1,(y0.2.1,(y0.2.2.1,())))))) k (x.2.1,(([]:List (Int×Int×((Int×ByteArray×ByteArray×Int×Nat×Int)×Int×ByteArray×ByteArray×Int×Nat×Int)×Nat×Int)),(([]:List (Int×Int×((Int×ByteArray×ByteArray×Int×Nat×Int)×Int×ByteArray×ByteArray×Int×Nat×Int)×Nat×Int)),(x.1,((List.length x.1:Int),((0:Int),())))))))
abbrev E_i_withUser_n(k:Nat):qAL:=⟨60,0,(.cons (.own false 45 yT1) (.cons (.agg yP18) .nil)),(.own false 45 yT1),qCP k⟩
theorem t_i_withUser_n(k:Nat)(x):evF TTabN k [qBW k] [(0,⟨[3,5,6,11,12,13],(.cons (.ptr 0 yP18) (.cons (.own false 45 yT1) (.cons (.own false 45 yT1) (.cons (.own false 45 yT1) (.cons (.int .i64) yP4)))))⟩,⟨[3,5,6],(.cons (.ptr 0 yP18) (.cons (.own false 45 yT1) (.cons (.own false 45 yT1) .nil)))⟩)] Tryz.f60 (.cons (.own false 45 yT1) (.cons (.agg yP18) .nil)) (.own false 45 yT1) x=qCP k x:=by kernel_rfl
theorem e_i_withUser_n[Names](k:Nat):qAE Tryz.prog (E_i_withUser_n k):=qAD tokN (qAA (qCZ k) qAI) (by kernel_rfl) (by kernel_rfl) (by kernel_rfl) fun x r h=>(t_i_withUser_n k x).trans h
def qG5(k:Nat)(x:(List (Int×Int×((Int×ByteArray×ByteArray×Int×List (Int)×Int)×Int×ByteArray×ByteArray×Int×List (Int)×Int)×List (Int×Int×Int×List (ByteArray)×List (Bool)×Int)×Int))×(Int×Int×Int×ByteArray×ByteArray×Int×List (Int)×Int×Int×ByteArray×ByteArray×Int×List (Int)×Int×(List (Int×Int×Int×List (ByteArray)×List (Bool)×Int))×Int×Unit)×Unit):Option ((List (Int×Int×((Int×ByteArray×ByteArray×Int×List (Int)×Int)×Int×ByteArray×ByteArray×Int×List (Int)×Int)×List (Int×Int×Int×List (ByteArray)×List (Bool)×Int)×Int))×Unit×Unit×Unit):=
namesF (.cons (.own false 45 yT2) (.cons (.agg yP8) .nil)) (.own false 45 yT2) (qCP k) x
abbrev E_i_withUser(k:Nat):qAL:=⟨60,0,(.cons (.own false 45 yT2) (.cons (.agg yP8) .nil)),(.own false 45 yT2),qG5 k⟩
theorem e_i_withUser[Names](k:Nat):qAE Tryz.prog (E_i_withUser k):=namesF_entry (p:=(.cons (.own false 45 yT2) (.cons (.agg yP8) .nil))) (q:=(.own false 45 yT2)) (by kernel_rfl) (by kernel_rfl) (fun N=>@e_i_withUser_n N k) inferInstance
def i_Join(k:Nat)(x:(Int×Int×(List (Int×Int×Int))×(List (Int×Int))×(List ((Int×Int)×Int))×(List (Int×Int×((Int×ByteArray×ByteArray×Int×List (Int)×Int)×Int×ByteArray×ByteArray×Int×List (Int)×Int)×List (Int×Int×Int×List (ByteArray)×List (Bool)×Int)×Int))×Unit)×Int×ByteArray×Int×Unit):Option (((Int×Int×(List (Int×Int×Int))×(List (Int×Int))×(List ((Int×Int)×Int))×(List (Int×Int×((Int×ByteArray×ByteArray×Int×List (Int)×Int)×Int×ByteArray×ByteArray×Int×List (Int)×Int)×List (Int×Int×Int×List (ByteArray)×List (Bool)×Int)×Int))×Unit)×(Int×Int×Int×ByteArray×ByteArray×Int×List (Int)×Int×Int×ByteArray×ByteArray×Int×List (Int)×Int×(List (Int×Int×Int×List (ByteArray)×List (Bool)×Int))×Int×Unit)×Bool×Unit)×Unit×Unit×Unit×Unit×Unit):=
((qE1 k ((x.1.1,(x.1.2.1,(x.1.2.2.1,(x.1.2.2.2.1,(x.1.2.2.2.2.1,(x.1.2.2.2.2.2.1,())))))),())).bind fun p1 =>
((qBh k (x.2.1,((1:Int),((98:Int),())))).bind fun p2 =>
(if(!p2.1)=false then
((qG1 k (x.1.2.2.2.2.2.1,(x.2.1,()))).bind fun p3 =>
(if(decide ((0:Int)≤p3.1))=false then
(if(decide ((3:Int)≤(List.length x.1.2.2.2.2.2.1:Int)))=true then
some (((p1.1.1,(p1.1.2.1,(p1.1.2.2.1,(p1.1.2.2.2.1,(p1.1.2.2.2.2.1,(p1.1.2.2.2.2.2.1,())))))),(((0:Int),((0:Int),((0:Int),((⟨#[]⟩:ByteArray),((⟨#[]⟩:ByteArray),((0:Int),([],((0:Int),((0:Int),((⟨#[]⟩:ByteArray),((⟨#[]⟩:ByteArray),((0:Int),([],((0:Int),([],((0:Int),())))))))))))))))),(false,()))),((),((),((),((),())))))
else
((i_Grant k ((x.1.1,(x.1.2.1,(x.1.2.2.1,(x.1.2.2.2.1,())))),(x.2.1,(x.2.2.2.1,())))).bind fun p4 =>
((qE4 k (x.1.2.2.2.2.1,((p4.1.2.1,((32:Int),(x.2.1,()))),()))).bind fun p5 =>
(if(!p4.1.2.2.1)=false then
(if(!p5.1.2.1)=true then
some (((p1.1.1,(p1.1.2.1,(p1.1.2.2.1,(p1.1.2.2.2.1,(p1.1.2.2.2.2.1,(p1.1.2.2.2.2.2.1,())))))),(((0:Int),((0:Int),((0:Int),((⟨#[]⟩:ByteArray),((⟨#[]⟩:ByteArray),((0:Int),([],((0:Int),((0:Int),((⟨#[]⟩:ByteArray),((⟨#[]⟩:ByteArray),((0:Int),([],((0:Int),([],((0:Int),())))))))))))))))),(false,()))),((),((),((),((),())))))
else
((qEI k (x.2.2.1,())).bind fun p6 =>
((qG5 k (p1.1.2.2.2.2.2.1,((x.2.1,(p4.1.2.1,(p6.1.2.1.1,(p6.1.2.1.2.1,(p6.1.2.1.2.2.1,(p6.1.2.1.2.2.2.1,(p6.1.2.1.2.2.2.2.1,(p6.1.2.1.2.2.2.2.2.1,(p6.1.2.1.2.2.2.2.2.2.1,(p6.1.2.1.2.2.2.2.2.2.2.1,(p6.1.2.1.2.2.2.2.2.2.2.2.1,(p6.1.2.1.2.2.2.2.2.2.2.2.2.1,(p6.1.2.1.2.2.2.2.2.2.2.2.2.2.1,(p6.1.2.1.2.2.2.2.2.2.2.2.2.2.2.1,([],((0:Int),())))))))))))))))),()))).bind fun p7 =>
some (((p4.1.1.1,(p4.1.1.2.1,(p4.1.1.2.2.1,(p4.1.1.2.2.2.1,(p5.1.1,(p7.1,())))))),((x.2.1,(p4.1.2.1,(p6.1.1.1,(p6.1.1.2.1,(p6.1.1.2.2.1,(p6.1.1.2.2.2.1,(p6.1.1.2.2.2.2.1,(p6.1.1.2.2.2.2.2.1,(p6.1.1.2.2.2.2.2.2.1,(p6.1.1.2.2.2.2.2.2.2.1,(p6.1.1.2.2.2.2.2.2.2.2.1,(p6.1.1.2.2.2.2.2.2.2.2.2.1,(p6.1.1.2.2.2.2.2.2.2.2.2.2.1,(p6.1.1.2.2.2.2.2.2.2.2.2.2.2.1,([],((0:Int),())))))))))))))))),(true,()))),((),((),((),((),()))))))))
else
some (((p1.1.1,(p1.1.2.1,(p1.1.2.2.1,(p1.1.2.2.2.1,(p1.1.2.2.2.2.1,(p1.1.2.2.2.2.2.1,())))))),(((0:Int),((0:Int),((0:Int),((⟨#[]⟩:ByteArray),((⟨#[]⟩:ByteArray),((0:Int),([],((0:Int),((0:Int),((⟨#[]⟩:ByteArray),((⟨#[]⟩:ByteArray),((0:Int),([],((0:Int),([],((0:Int),())))))))))))))))),(false,()))),((),((),((),((),())))))))))
else
some (((p1.1.1,(p1.1.2.1,(p1.1.2.2.1,(p1.1.2.2.2.1,(p1.1.2.2.2.2.1,(p1.1.2.2.2.2.2.1,())))))),(((0:Int),((0:Int),((0:Int),((⟨#[]⟩:ByteArray),((⟨#[]⟩:ByteArray),((0:Int),([],((0:Int),((0:Int),((⟨#[]⟩:ByteArray),((⟨#[]⟩:ByteArray),((0:Int),([],((0:Int),([],((0:Int),())))))))))))))))),(false,()))),((),((),((),((),())))))))
else
some (((p1.1.1,(p1.1.2.1,(p1.1.2.2.1,(p1.1.2.2.2.1,(p1.1.2.2.2.2.1,(p1.1.2.2.2.2.2.1,())))))),(((0:Int),((0:Int),((0:Int),((⟨#[]⟩:ByteArray),((⟨#[]⟩:ByteArray),((0:Int),([],((0:Int),((0:Int),((⟨#[]⟩:ByteArray),((⟨#[]⟩:ByteArray),((0:Int),([],((0:Int),([],((0:Int),())))))))))))))))),(false,()))),((),((),((),((),()))))))))
abbrev E_i_Join(k:Nat):qAL:=⟨13,0,(.cons yP14 (.cons (.int .i64) (.cons .str yP4))),(.tup (.cons (.agg yP15) (.cons (.agg yP8) (.cons .bool .nil)))),i_Join k⟩
theorem t_i_Join(k:Nat)(x):evF TTabO k [qHi k,qBu k,E_i_userAt k,E_i_Grant k,E_i_PutRoute k,qIZ k,E_i_withUser k] [] Tryz.f13 (.cons yP14 (.cons (.int .i64) (.cons .str yP4))) (.tup (.cons (.agg yP15) (.cons (.agg yP8) (.cons .bool .nil)))) x=i_Join k x:=by kernel_rfl
theorem e_i_Join[Names](k:Nat):qAE Tryz.prog (E_i_Join k):=qAD tokO (qAA (e_i_copyHub k) (qAA (qB7 k) (qAA (e_i_userAt k) (qAA (e_i_Grant k) (qAA (e_i_PutRoute k) (qAA (e_i_PairSlots k) (qAA (e_i_withUser k) qAI))))))) (by kernel_rfl) (by kernel_rfl) (by kernel_rfl) fun x r h=>(t_i_Join k x).trans h
def qAd(k:Nat)(x:(List (Int×Int×Int))×Int×Int×Unit):Option ((List (Int×Int×Int))×Unit×Unit×Unit×Unit):=
(if 0≤(List.length x.1:Int)∧(List.length x.1:Int)≤(List.length x.1:Int) then
(if 0≤x.2.2.1∧x.2.2.1≤(List.length x.1:Int) then
(if 0≤x.2.1∧x.2.1≤x.2.2.1 then
(if(decide (x.2.1=x.2.2.1))=true then
some (x.1,((),((),((),()))))
else
(if 0≤x.2.1∧x.2.1≤(List.length x.1:Int) then
(if 0≤x.2.2.1∧x.2.2.1≤(List.length x.1:Int) then
(if x.2.1+List.length (List.drop (Int.toNat x.2.2.1) (List.take (Int.toNat (List.length x.1:Int)) x.1))≤List.length x.1∧x.2.1-(0:Int)+List.length (List.drop (Int.toNat x.2.2.1) (List.take (Int.toNat (List.length x.1:Int)) x.1))≤capMax then
(if 0≤(List.length x.1:Int)∧(List.length x.1:Int)≤((List.length (List.take (Int.toNat x.2.1) x.1++((List.drop (Int.toNat x.2.2.1) (List.take (Int.toNat (List.length x.1:Int)) x.1))++List.drop (Int.toNat x.2.1+List.length (List.drop (Int.toNat x.2.2.1) (List.take (Int.toNat (List.length x.1:Int)) x.1))) x.1)):Int)-(0:Int)) then
(if 0≤((x.2.1+List.length (List.drop (Int.toNat x.2.2.1) (List.take (Int.toNat (List.length x.1:Int)) x.1)))-(0:Int))∧((x.2.1+List.length (List.drop (Int.toNat x.2.2.1) (List.take (Int.toNat (List.length x.1:Int)) x.1)))-(0:Int))≤(List.length x.1:Int) then
some ((List.drop (Int.toNat (0:Int)) (List.take (Int.toNat (x.2.1+List.length (List.drop (Int.toNat x.2.2.1) (List.take (Int.toNat (List.length x.1:Int)) x.1)))) (List.take (Int.toNat ((0:Int)+((x.2.1+List.length (List.drop (Int.toNat x.2.2.1) (List.take (Int.toNat (List.length x.1:Int)) x.1)))-(0:Int)))) (List.take (Int.toNat x.2.1) x.1++((List.drop (Int.toNat x.2.2.1) (List.take (Int.toNat (List.length x.1:Int)) x.1))++List.drop (Int.toNat x.2.1+List.length (List.drop (Int.toNat x.2.2.1) (List.take (Int.toNat (List.length x.1:Int)) x.1))) x.1))++(List.replicate (Int.toNat (((0:Int)+(List.length x.1:Int))-((0:Int)+((x.2.1+List.length (List.drop (Int.toNat x.2.2.1) (List.take (Int.toNat (List.length x.1:Int)) x.1)))-(0:Int))))) ((0:Int),((0:Int),(0:Int)))++List.drop (Int.toNat ((0:Int)+(List.length x.1:Int))) (List.take (Int.toNat x.2.1) x.1++((List.drop (Int.toNat x.2.2.1) (List.take (Int.toNat (List.length x.1:Int)) x.1))++List.drop (Int.toNat x.2.1+List.length (List.drop (Int.toNat x.2.2.1) (List.take (Int.toNat (List.length x.1:Int)) x.1))) x.1)))))),((),((),((),()))))
else none)
else none)
else none)
else none)
else none))
else none)
else none)
else none)
abbrev qBI(k:Nat):qAL:=⟨149,0,(.cons yP29 (.cons (.int .i64) yP4)),yP29,qAd k⟩
theorem qCQ(k:Nat)(x):evF TTab k [] [] Tryz.f149 (.cons yP29 (.cons (.int .i64) yP4)) yP29 x=qAd k x:=by kernel_rfl
theorem qCR[Names](k:Nat):qAE Tryz.prog (qBI k):=qAD tok qAI (by kernel_rfl) (by kernel_rfl) (by kernel_rfl) fun x r h=>(qCQ k x).trans h
def qGZ(k:Nat)(x:(Int×Int×(List (Int×Int×Int))×(List (Int×Int))×Unit)×Int×Unit):Option (((Int×Int×(List (Int×Int×Int))×(List (Int×Int))×Unit)×Bool×Unit)×Unit×Unit×Unit):=
((qDD k ((x.1.1,(x.1.2.1,(x.1.2.2.1,(x.1.2.2.2.1,())))),())).bind fun p1 =>
((qDX k ((x.1.1,(x.1.2.1,(x.1.2.2.1,(x.1.2.2.2.1,())))),(x.2.1,()))).bind fun p2 =>
((qG3 k ((x.1.1,(x.1.2.1,(x.1.2.2.1,(x.1.2.2.2.1,())))),())).bind fun p3 =>
(if(!p3.1)=false then
(if(decide (p2.1<(0:Int)))=true then
some (((p1.1.1,(p1.1.2.1,(p1.1.2.2.1,(p1.1.2.2.2.1,())))),(false,())),((),((),())))
else
((qAd k (p1.1.2.2.1,(p2.1,((wi64 (p2.1+(1:Int))),())))).bind fun p4 =>
some (((p1.1.1,(p1.1.2.1,(p4.1,(p1.1.2.2.2.1,())))),(true,())),((),((),())))))
else
some (((p1.1.1,(p1.1.2.1,(p1.1.2.2.1,(p1.1.2.2.2.1,())))),(false,())),((),((),())))))))
abbrev E_i_Release(k:Nat):qAL:=⟨70,0,(.cons (.agg yP6) yP4),(.tup (.cons (.agg yP9) (.cons .bool .nil))),qGZ k⟩
theorem t_i_Release(k:Nat)(x):evF TTab k [E_i_PoolOk k,qEX k,qFS k,qBI k] [] Tryz.f70 (.cons (.agg yP6) yP4) (.tup (.cons (.agg yP9) (.cons .bool .nil))) x=qGZ k x:=by kernel_rfl
theorem e_i_Release[Names](k:Nat):qAE Tryz.prog (E_i_Release k):=qAD tok (qAA (e_i_PoolOk k) (qAA (qGP k) (qAA (qHj k) (qAA (qCR k) qAI)))) (by kernel_rfl) (by kernel_rfl) (by kernel_rfl) fun x r h=>(t_i_Release k x).trans h
def qDw(k:Nat)(x:(Int×Int×Int×Unit)×(Int×Unit)×Unit):Option (Bool×Unit×(Int×Unit)×Unit):=
some ((decide (x.1.2.2.1=x.2.1.1)),((),((x.2.1.1,()),())))
abbrev qGa(k:Nat):qAL:=⟨151,0,(.cons (.agg yP22) yP28),.bool,qDw k⟩
theorem t_i_DropTo_1(k:Nat)(x):evF TTab k [] [] Tryz.f151 (.cons (.agg yP22) yP28) .bool x=qDw k x:=by kernel_rfl
theorem e_i_DropTo_1[Names](k:Nat):qAE Tryz.prog (qGa k):=qAD tok qAI (by kernel_rfl) (by kernel_rfl) (by kernel_rfl) fun x r h=>(t_i_DropTo_1 k x).trans h
def qAO(k:Nat)(x:(List ((Int×Int)×Int))×((Int×Unit)×Unit)×Unit):Option (Int×Unit×((Int×Unit)×Unit)×Unit):=
(qAG (fun(rec0:((List ((Int×Int)×Int))×((Int×Unit)×Unit)×Int×Int×Unit)→Option _) (y0:(List ((Int×Int)×Int))×((Int×Unit)×Unit)×Int×Int×Unit) =>
(if(decide (y0.2.2.2.1<y0.2.2.1))=true then
(if 0≤y0.2.2.2.1∧y0.2.2.2.1<(List.length y0.1:Int) then
((qDw k (((Ty.rd (t:=(.pair yT3 (.int .i64))) y0.1 y0.2.2.2.1).1.1,((Ty.rd (t:=(.pair yT3 (.int .i64))) y0.1 y0.2.2.2.1).1.2,((Ty.rd (t:=(.pair yT3 (.int .i64))) y0.1 y0.2.2.2.1).2,()))),((y0.2.1.1.1,()),()))).bind fun p1 =>
(if p1.1=true then
some (y0.2.2.2.1,((),(((p1.2.2.1.1,()),()),())))
else
(rec0 (y0.1,(((p1.2.2.1.1,()),()),(y0.2.2.1,((wi64 (y0.2.2.2.1+(1:Int))),())))))))
else none)
else
((fun(z1:((Int×Unit)×Unit)×Unit) =>
some ((-1:Int),((),(((z1.1.1.1,()),()),())))) (((y0.2.1.1.1,()),()),())))) k (x.1,(((x.2.1.1.1,()),()),((List.length x.1:Int),((0:Int),())))))
abbrev qAq(k:Nat):qAL:=⟨235,152,(.cons yP20 (.cons (.fn 151 yP28) .nil)),(.int .i64),qAO k⟩
theorem qBL(k:Nat)(x):evF TTab k [qGa k] [(0,⟨[0,1,7,8],(.cons yP20 (.cons (.fn 151 yP28) (.cons (.int .i64) yP4)))⟩,⟨[1],(.cons (.fn 151 yP28) .nil)⟩)] Tryz.f235 (.cons yP20 (.cons (.fn 151 yP28) .nil)) (.int .i64) x=qAO k x:=by kernel_rfl
theorem qBM[Names](k:Nat):qAE Tryz.prog (qAq k):=qAD tok (qAA (e_i_DropTo_1 k) qAI) (by kernel_rfl) (by kernel_rfl) (by kernel_rfl) fun x r h=>(qBL k x).trans h
def qAN(k:Nat)(x:(List ((Int×Int)×Int))×((Int×Unit)×Unit)×Unit):Option ((List ((Int×Int)×Int))×Unit×((Int×Unit)×Unit)×Unit):=
((qAO k (x.1,(((x.2.1.1.1,()),()),()))).bind fun p1 =>
(if(decide (p1.1=(-1:Int)))=true then
some (x.1,((),(((p1.2.2.1.1.1,()),()),())))
else
(qAG (fun(rec0:((List ((Int×Int)×Int))×((Int×Unit)×Unit)×Int×Int×Unit)→Option _) (y0:(List ((Int×Int)×Int))×((Int×Unit)×Unit)×Int×Int×Unit) =>
(if(decide (y0.2.2.2.1<(List.length y0.1:Int)))=true then
(if 0≤y0.2.2.2.1∧y0.2.2.2.1<(List.length y0.1:Int) then
((qDw k (((Ty.rd (t:=(.pair yT3 (.int .i64))) y0.1 y0.2.2.2.1).1.1,((Ty.rd (t:=(.pair yT3 (.int .i64))) y0.1 y0.2.2.2.1).1.2,((Ty.rd (t:=(.pair yT3 (.int .i64))) y0.1 y0.2.2.2.1).2,()))),((y0.2.1.1.1,()),()))).bind fun p2 =>
(if(!p2.1)=true then
(if 0≤y0.2.2.1∧y0.2.2.1<(List.length y0.1:Int) then
(rec0 ((List.set y0.1 (Int.toNat y0.2.2.1) (((Ty.rd (t:=(.pair yT3 (.int .i64))) y0.1 y0.2.2.2.1).1.1,(Ty.rd (t:=(.pair yT3 (.int .i64))) y0.1 y0.2.2.2.1).1.2),(Ty.rd (t:=(.pair yT3 (.int .i64))) y0.1 y0.2.2.2.1).2)),(((p2.2.2.1.1,()),()),((wi64 (y0.2.2.1+(1:Int))),((wi64 (y0.2.2.2.1+(1:Int))),())))))
else none)
else
(rec0 (y0.1,(((p2.2.2.1.1,()),()),(y0.2.2.1,((wi64 (y0.2.2.2.1+(1:Int))),())))))))
else none)
else
((fun(z1:(List ((Int×Int)×Int))×((Int×Unit)×Unit)×Int×Unit) =>
(if 0≤z1.2.2.1∧z1.2.2.1≤(List.length z1.1:Int) then
(if 0≤z1.2.2.1∧z1.2.2.1≤(List.length (List.take (Int.toNat z1.2.2.1) z1.1++(List.replicate (Int.toNat ((List.length z1.1:Int)-z1.2.2.1)) (((0:Int),(0:Int)),(0:Int))++List.drop (Int.toNat (List.length z1.1:Int)) z1.1)):Int) then
some ((List.drop (Int.toNat (0:Int)) (List.take (Int.toNat z1.2.2.1) (List.take (Int.toNat z1.2.2.1) z1.1++(List.replicate (Int.toNat ((List.length z1.1:Int)-z1.2.2.1)) (((0:Int),(0:Int)),(0:Int))++List.drop (Int.toNat (List.length z1.1:Int)) z1.1)))),((),(((z1.2.1.1.1,()),()),())))
else none)
else none)) (y0.1,(((y0.2.1.1.1,()),()),(y0.2.2.1,())))))) k (x.1,(((p1.2.2.1.1.1,()),()),(p1.1,((wi64 (p1.1+(1:Int))),())))))))
abbrev qAo(k:Nat):qAL:=⟨150,152,(.cons yP16 (.cons (.fn 151 yP28) .nil)),yP16,qAN k⟩
theorem qBJ(k:Nat)(x):evF TTab k [qGa k,qAq k] [(0,⟨[0,1,5,6],(.cons yP16 (.cons (.fn 151 yP28) (.cons (.int .i64) yP4)))⟩,⟨[0,1,5],(.cons yP16 (.cons (.fn 151 yP28) yP4))⟩)] Tryz.f150 (.cons yP16 (.cons (.fn 151 yP28) .nil)) yP16 x=qAN k x:=by kernel_rfl
theorem qBK[Names](k:Nat):qAE Tryz.prog (qAo k):=qAD tok (qAA (e_i_DropTo_1 k) (qAA (qBM k) qAI)) (by kernel_rfl) (by kernel_rfl) (by kernel_rfl) fun x r h=>(qBJ k x).trans h
def qIa(k:Nat)(x:(List ((Int×Int)×Int))×Int×Unit):Option ((List ((Int×Int)×Int))×Unit×Unit×Unit):=
((qBF k (x.1,())).bind fun p1 =>
((qAN k (p1.1,(((x.2.1,()),()),()))).bind fun p2 =>
some (p2.1,((),((),())))))
abbrev E_i_DropTo(k:Nat):qAL:=⟨71,0,(.cons yP20 yP4),yP16,qIa k⟩
theorem t_i_DropTo(k:Nat)(x):evF TTab k [qCc k,qAo k] [] Tryz.f71 (.cons yP20 yP4) yP16 x=qIa k x:=by kernel_rfl
theorem e_i_DropTo[Names](k:Nat):qAE Tryz.prog (E_i_DropTo k):=qAD tok (qAA (qDP k) (qAA (qBK k) qAI)) (by kernel_rfl) (by kernel_rfl) (by kernel_rfl) fun x r h=>(t_i_DropTo k x).trans h
def qE8(k:Nat)(x:(Int×Int×Int×ByteArray×ByteArray×Int×Nat×Int×Int×ByteArray×ByteArray×Int×Nat×Int×Nat×Int×Unit)×(Int×Unit)×Unit):Option (Bool×Unit×(Int×Unit)×Unit):=
some ((decide (x.1.1=x.2.1.1)),((),((x.2.1.1,()),())))
abbrev qHp(k:Nat):qAL:=⟨69,0,(.cons (.agg yP18) yP28),.bool,qE8 k⟩
theorem t_i_Leave_1(k:Nat)(x):evF TTabN k [] [] Tryz.f69 (.cons (.agg yP18) yP28) .bool x=qE8 k x:=by kernel_rfl
theorem e_i_Leave_1[Names](k:Nat):qAE Tryz.prog (qHp k):=qAD tokN qAI (by kernel_rfl) (by kernel_rfl) (by kernel_rfl) fun x r h=>(t_i_Leave_1 k x).trans h
def qAS(k:Nat)(x:(List (Int×Int×((Int×ByteArray×ByteArray×Int×Nat×Int)×Int×ByteArray×ByteArray×Int×Nat×Int)×Nat×Int))×((Int×Unit)×Unit)×Unit):Option (Int×Unit×((Int×Unit)×Unit)×Unit):=
(qAG (fun(rec0:((List (Int×Int×((Int×ByteArray×ByteArray×Int×Nat×Int)×Int×ByteArray×ByteArray×Int×Nat×Int)×Nat×Int))×((Int×Unit)×Unit)×Int×Int×Unit)→Option _) (y0:(List (Int×Int×((Int×ByteArray×ByteArray×Int×Nat×Int)×Int×ByteArray×ByteArray×Int×Nat×Int)×Nat×Int))×((Int×Unit)×Unit)×Int×Int×Unit) =>
(if(decide (y0.2.2.2.1<y0.2.2.1))=true then
(if 0≤y0.2.2.2.1∧y0.2.2.2.1<(List.length y0.1:Int) then
((qE8 k (((Ty.rd (t:=yT1) y0.1 y0.2.2.2.1).1,((Ty.rd (t:=yT1) y0.1 y0.2.2.2.1).2.1,((Ty.rd (t:=yT1) y0.1 y0.2.2.2.1).2.2.1.1.1,((Ty.rd (t:=yT1) y0.1 y0.2.2.2.1).2.2.1.1.2.1,((Ty.rd (t:=yT1) y0.1 y0.2.2.2.1).2.2.1.1.2.2.1,((Ty.rd (t:=yT1) y0.1 y0.2.2.2.1).2.2.1.1.2.2.2.1,((Ty.rd (t:=yT1) y0.1 y0.2.2.2.1).2.2.1.1.2.2.2.2.1,((Ty.rd (t:=yT1) y0.1 y0.2.2.2.1).2.2.1.1.2.2.2.2.2,((Ty.rd (t:=yT1) y0.1 y0.2.2.2.1).2.2.1.2.1,((Ty.rd (t:=yT1) y0.1 y0.2.2.2.1).2.2.1.2.2.1,((Ty.rd (t:=yT1) y0.1 y0.2.2.2.1).2.2.1.2.2.2.1,((Ty.rd (t:=yT1) y0.1 y0.2.2.2.1).2.2.1.2.2.2.2.1,((Ty.rd (t:=yT1) y0.1 y0.2.2.2.1).2.2.1.2.2.2.2.2.1,((Ty.rd (t:=yT1) y0.1 y0.2.2.2.1).2.2.1.2.2.2.2.2.2,((Ty.rd (t:=yT1) y0.1 y0.2.2.2.1).2.2.2.1,((Ty.rd (t:=yT1) y0.1 y0.2.2.2.1).2.2.2.2,())))))))))))))))),((y0.2.1.1.1,()),()))).bind fun p1 =>
(if p1.1=true then
some (y0.2.2.2.1,((),(((p1.2.2.1.1,()),()),())))
else
(rec0 (y0.1,(((p1.2.2.1.1,()),()),(y0.2.2.1,((wi64 (y0.2.2.2.1+(1:Int))),())))))))
else none)
else
((fun(z1:((Int×Unit)×Unit)×Unit) =>
some ((-1:Int),((),(((z1.1.1.1,()),()),())))) (((y0.2.1.1.1,()),()),())))) k (x.1,(((x.2.1.1.1,()),()),((List.length x.1:Int),((0:Int),())))))
abbrev qAw(k:Nat):qAL:=⟨131,70,(.cons (.il true yT1) (.cons (.fn 69 yP28) .nil)),(.int .i64),qAS k⟩
theorem qBa(k:Nat)(x):evF TTabN k [qHp k] [(0,⟨[0,1,7,8],(.cons (.il true yT1) (.cons (.fn 69 yP28) (.cons (.int .i64) yP4)))⟩,⟨[1],(.cons (.fn 69 yP28) .nil)⟩)] Tryz.f131 (.cons (.il true yT1) (.cons (.fn 69 yP28) .nil)) (.int .i64) x=qAS k x:=by kernel_rfl
theorem qBb[Names](k:Nat):qAE Tryz.prog (qAw k):=qAD tokN (qAA (e_i_Leave_1 k) qAI) (by kernel_rfl) (by kernel_rfl) (by kernel_rfl) fun x r h=>(qBa k x).trans h
def qAP(k:Nat)(x:(List (Int×Int×((Int×ByteArray×ByteArray×Int×Nat×Int)×Int×ByteArray×ByteArray×Int×Nat×Int)×Nat×Int))×((Int×Unit)×Unit)×Unit):Option ((List (Int×Int×((Int×ByteArray×ByteArray×Int×Nat×Int)×Int×ByteArray×ByteArray×Int×Nat×Int)×Nat×Int))×Unit×((Int×Unit)×Unit)×Unit):=
((qAS k (x.1,(((x.2.1.1.1,()),()),()))).bind fun p1 =>
(if(decide (p1.1=(-1:Int)))=true then
some (x.1,((),(((p1.2.2.1.1.1,()),()),())))
else
(qAG (fun(rec0:((List (Int×Int×((Int×ByteArray×ByteArray×Int×Nat×Int)×Int×ByteArray×ByteArray×Int×Nat×Int)×Nat×Int))×((Int×Unit)×Unit)×Int×Int×Unit)→Option _) (y0:(List (Int×Int×((Int×ByteArray×ByteArray×Int×Nat×Int)×Int×ByteArray×ByteArray×Int×Nat×Int)×Nat×Int))×((Int×Unit)×Unit)×Int×Int×Unit) =>
(if(decide (y0.2.2.2.1<(List.length y0.1:Int)))=true then
(if 0≤y0.2.2.2.1∧y0.2.2.2.1<(List.length y0.1:Int) then
((qE8 k (((Ty.rd (t:=yT1) y0.1 y0.2.2.2.1).1,((Ty.rd (t:=yT1) y0.1 y0.2.2.2.1).2.1,((Ty.rd (t:=yT1) y0.1 y0.2.2.2.1).2.2.1.1.1,((Ty.rd (t:=yT1) y0.1 y0.2.2.2.1).2.2.1.1.2.1,((Ty.rd (t:=yT1) y0.1 y0.2.2.2.1).2.2.1.1.2.2.1,((Ty.rd (t:=yT1) y0.1 y0.2.2.2.1).2.2.1.1.2.2.2.1,((Ty.rd (t:=yT1) y0.1 y0.2.2.2.1).2.2.1.1.2.2.2.2.1,((Ty.rd (t:=yT1) y0.1 y0.2.2.2.1).2.2.1.1.2.2.2.2.2,((Ty.rd (t:=yT1) y0.1 y0.2.2.2.1).2.2.1.2.1,((Ty.rd (t:=yT1) y0.1 y0.2.2.2.1).2.2.1.2.2.1,((Ty.rd (t:=yT1) y0.1 y0.2.2.2.1).2.2.1.2.2.2.1,((Ty.rd (t:=yT1) y0.1 y0.2.2.2.1).2.2.1.2.2.2.2.1,((Ty.rd (t:=yT1) y0.1 y0.2.2.2.1).2.2.1.2.2.2.2.2.1,((Ty.rd (t:=yT1) y0.1 y0.2.2.2.1).2.2.1.2.2.2.2.2.2,((Ty.rd (t:=yT1) y0.1 y0.2.2.2.1).2.2.2.1,((Ty.rd (t:=yT1) y0.1 y0.2.2.2.1).2.2.2.2,())))))))))))))))),((y0.2.1.1.1,()),()))).bind fun p2 =>
(if(!p2.1)=true then
(if 0≤y0.2.2.1∧y0.2.2.1<(List.length y0.1:Int) then
(jn (List.set y0.1 (Int.toNat y0.2.2.1) ((Ty.rd (t:=yT1) y0.1 y0.2.2.2.1).1,((Ty.rd (t:=yT1) y0.1 y0.2.2.2.1).2.1,((((Ty.rd (t:=yT1) y0.1 y0.2.2.2.1).2.2.1.1.1,((Ty.rd (t:=yT1) y0.1 y0.2.2.2.1).2.2.1.1.2.1,((Ty.rd (t:=yT1) y0.1 y0.2.2.2.1).2.2.1.1.2.2.1,((Ty.rd (t:=yT1) y0.1 y0.2.2.2.1).2.2.1.1.2.2.2.1,((Ty.rd (t:=yT1) y0.1 y0.2.2.2.1).2.2.1.1.2.2.2.2.1,(Ty.rd (t:=yT1) y0.1 y0.2.2.2.1).2.2.1.1.2.2.2.2.2))))),((Ty.rd (t:=yT1) y0.1 y0.2.2.2.1).2.2.1.2.1,((Ty.rd (t:=yT1) y0.1 y0.2.2.2.1).2.2.1.2.2.1,((Ty.rd (t:=yT1) y0.1 y0.2.2.2.1).2.2.1.2.2.2.1,((Ty.rd (t:=yT1) y0.1 y0.2.2.2.1).2.2.1.2.2.2.2.1,((Ty.rd (t:=yT1) y0.1 y0.2.2.2.1).2.2.1.2.2.2.2.2.1,(Ty.rd (t:=yT1) y0.1 y0.2.2.2.1).2.2.1.2.2.2.2.2.2)))))),((Ty.rd (t:=yT1) y0.1 y0.2.2.2.1).2.2.2.1,(Ty.rd (t:=yT1) y0.1 y0.2.2.2.1).2.2.2.2))))) (fun(q3:List (Int×Int×((Int×ByteArray×ByteArray×Int×Nat×Int)×Int×ByteArray×ByteArray×Int×Nat×Int)×Nat×Int)) =>
(rec0 (q3,(((p2.2.2.1.1,()),()),((wi64 (y0.2.2.1+(1:Int))),((wi64 (y0.2.2.2.1+(1:Int))),())))))))
else none)
else
(rec0 (y0.1,(((p2.2.2.1.1,()),()),(y0.2.2.1,((wi64 (y0.2.2.2.1+(1:Int))),())))))))
else none)
else
((fun(z1:(List (Int×Int×((Int×ByteArray×ByteArray×Int×Nat×Int)×Int×ByteArray×ByteArray×Int×Nat×Int)×Nat×Int))×((Int×Unit)×Unit)×Int×Unit) =>
(if 0≤z1.2.2.1∧z1.2.2.1≤(List.length z1.1:Int) then
(if 0≤z1.2.2.1∧z1.2.2.1≤(List.length (List.take (Int.toNat z1.2.2.1) z1.1++(List.replicate (Int.toNat ((List.length z1.1:Int)-z1.2.2.1)) ((0:Int),((0:Int),((((0:Int),((⟨#[]⟩:ByteArray),((⟨#[]⟩:ByteArray),((0:Int),((0:Nat),(0:Int)))))),((0:Int),((⟨#[]⟩:ByteArray),((⟨#[]⟩:ByteArray),((0:Int),((0:Nat),(0:Int))))))),((0:Nat),(0:Int)))))++List.drop (Int.toNat (List.length z1.1:Int)) z1.1)):Int) then
some ((List.drop (Int.toNat (0:Int)) (List.take (Int.toNat z1.2.2.1) (List.take (Int.toNat z1.2.2.1) z1.1++(List.replicate (Int.toNat ((List.length z1.1:Int)-z1.2.2.1)) ((0:Int),((0:Int),((((0:Int),((⟨#[]⟩:ByteArray),((⟨#[]⟩:ByteArray),((0:Int),((0:Nat),(0:Int)))))),((0:Int),((⟨#[]⟩:ByteArray),((⟨#[]⟩:ByteArray),((0:Int),((0:Nat),(0:Int))))))),((0:Nat),(0:Int)))))++List.drop (Int.toNat (List.length z1.1:Int)) z1.1)))),((),(((z1.2.1.1.1,()),()),())))
else none)
else none)) (y0.1,(((y0.2.1.1.1,()),()),(y0.2.2.1,())))))) k (x.1,(((p1.2.2.1.1.1,()),()),(p1.1,((wi64 (p1.1+(1:Int))),())))))))
abbrev qBN(k:Nat):qAL:=⟨68,70,(.cons (.own false 45 yT1) (.cons (.fn 69 yP28) .nil)),(.own false 45 yT1),qAP k⟩
theorem qBO(k:Nat)(x):evF TTabN k [qHp k,qAw k] [(0,⟨[0,1,5,6],(.cons (.own false 45 yT1) (.cons (.fn 69 yP28) (.cons (.int .i64) yP4)))⟩,⟨[0,1,5],(.cons (.own false 45 yT1) (.cons (.fn 69 yP28) yP4))⟩)] Tryz.f68 (.cons (.own false 45 yT1) (.cons (.fn 69 yP28) .nil)) (.own false 45 yT1) x=qAP k x:=by kernel_rfl
theorem qBP[Names](k:Nat):qAE Tryz.prog (qBN k):=qAD tokN (qAA (e_i_Leave_1 k) (qAA (qBb k) qAI)) (by kernel_rfl) (by kernel_rfl) (by kernel_rfl) fun x r h=>(qBO k x).trans h
def qAZ(k:Nat)(x:(List (Int×Int×((Int×ByteArray×ByteArray×Int×List (Int)×Int)×Int×ByteArray×ByteArray×Int×List (Int)×Int)×List (Int×Int×Int×List (ByteArray)×List (Bool)×Int)×Int))×((Int×Unit)×Unit)×Unit):Option ((List (Int×Int×((Int×ByteArray×ByteArray×Int×List (Int)×Int)×Int×ByteArray×ByteArray×Int×List (Int)×Int)×List (Int×Int×Int×List (ByteArray)×List (Bool)×Int)×Int))×Unit×((Int×Unit)×Unit)×Unit):=
treeF yT2 (qAP k) x
abbrev qAs(k:Nat):qAL:=⟨68,70,(.cons (.own false 45 yT2) (.cons (.fn 69 yP28) .nil)),(.own false 45 yT2),qAZ k⟩
theorem qBX[Names](k:Nat):qAE Tryz.prog (qAs k):=names_entry (t:=yT2) (by kernel_rfl) (by kernel_rfl) (fun N=>@qBP N k) inferInstance
def i_Leave(k:Nat)(x:(Int×Int×(List (Int×Int×Int))×(List (Int×Int))×(List ((Int×Int)×Int))×(List (Int×Int×((Int×ByteArray×ByteArray×Int×List (Int)×Int)×Int×ByteArray×ByteArray×Int×List (Int)×Int)×List (Int×Int×Int×List (ByteArray)×List (Bool)×Int)×Int))×Unit)×Int×Unit):Option (((Int×Int×(List (Int×Int×Int))×(List (Int×Int))×(List ((Int×Int)×Int))×(List (Int×Int×((Int×ByteArray×ByteArray×Int×List (Int)×Int)×Int×ByteArray×ByteArray×Int×List (Int)×Int)×List (Int×Int×Int×List (ByteArray)×List (Bool)×Int)×Int))×Unit)×Bool×Unit)×Unit×Unit×Unit):=
((qE1 k ((x.1.1,(x.1.2.1,(x.1.2.2.1,(x.1.2.2.2.1,(x.1.2.2.2.2.1,(x.1.2.2.2.2.2.1,())))))),())).bind fun p1 =>
((qG1 k (x.1.2.2.2.2.2.1,(x.2.1,()))).bind fun p2 =>
(if(decide (p2.1<(0:Int)))=true then
some (((p1.1.1,(p1.1.2.1,(p1.1.2.2.1,(p1.1.2.2.2.1,(p1.1.2.2.2.2.1,(p1.1.2.2.2.2.2.1,())))))),(false,())),((),((),())))
else
((qAZ k (p1.1.2.2.2.2.2.1,(((x.2.1,()),()),()))).bind fun p3 =>
((qGZ k ((x.1.1,(x.1.2.1,(x.1.2.2.1,(x.1.2.2.2.1,())))),(p3.2.2.1.1.1,()))).bind fun p4 =>
((qIa k (x.1.2.2.2.2.1,(p3.2.2.1.1.1,()))).bind fun p5 =>
some (((p4.1.1.1,(p4.1.1.2.1,(p4.1.1.2.2.1,(p4.1.1.2.2.2.1,(p5.1,(p3.1,())))))),(true,())),((),((),())))))))))
abbrev E_i_Leave(k:Nat):qAL:=⟨15,0,(.cons yP14 yP4),(.tup (.cons (.agg yP15) (.cons .bool .nil))),i_Leave k⟩
theorem t_i_Leave(k:Nat)(x):evF TTabO k [qHi k,E_i_userAt k,qAs k,E_i_Release k,E_i_DropTo k] [] Tryz.f15 (.cons yP14 yP4) (.tup (.cons (.agg yP15) (.cons .bool .nil))) x=i_Leave k x:=by kernel_rfl
theorem e_i_Leave[Names](k:Nat):qAE Tryz.prog (E_i_Leave k):=qAD tokO (qAA (e_i_copyHub k) (qAA (e_i_userAt k) (qAA (qBX k) (qAA (e_i_Release k) (qAA (e_i_DropTo k) qAI))))) (by kernel_rfl) (by kernel_rfl) (by kernel_rfl) fun x r h=>(t_i_Leave k x).trans h
def qG6(k:Nat)(x:(List ((Int×Int)×Int))×Int×Unit):Option (Int×Unit×Unit×Unit):=
((qCW k (x.1,())).bind fun p1 =>
(if(!p1.1)=true then
some ((0:Int),((),((),())))
else
(qAG (fun(rec0:(Int×(Int×Int×Int×Unit)×(List ((Int×Int)×Int))×Int×Int×Unit)→Option _) (y0:Int×(Int×Int×Int×Unit)×(List ((Int×Int)×Int))×Int×Int×Unit) =>
(if(decide (y0.2.2.2.2.1<y0.2.2.2.1))=true then
(if 0≤y0.2.2.2.2.1∧y0.2.2.2.2.1<(List.length y0.2.2.1:Int) then
((qDt k (((Ty.rd (t:=(.pair yT3 (.int .i64))) y0.2.2.1 y0.2.2.2.2.1).1.1,((Ty.rd (t:=(.pair yT3 (.int .i64))) y0.2.2.1 y0.2.2.2.2.1).1.2,())),(y0.1,()))).bind fun p2 =>
(if p2.1=true then
(if(decide (y0.2.1.2.1<(Ty.rd (t:=(.pair yT3 (.int .i64))) y0.2.2.1 y0.2.2.2.2.1).1.2))=true then
(rec0 (y0.1,(((Ty.rd (t:=(.pair yT3 (.int .i64))) y0.2.2.1 y0.2.2.2.2.1).1.1,((Ty.rd (t:=(.pair yT3 (.int .i64))) y0.2.2.1 y0.2.2.2.2.1).1.2,((Ty.rd (t:=(.pair yT3 (.int .i64))) y0.2.2.1 y0.2.2.2.2.1).2,()))),(y0.2.2.1,(y0.2.2.2.1,((wi64 (y0.2.2.2.2.1+(1:Int))),()))))))
else
(rec0 (y0.1,((y0.2.1.1,(y0.2.1.2.1,(y0.2.1.2.2.1,()))),(y0.2.2.1,(y0.2.2.2.1,((wi64 (y0.2.2.2.2.1+(1:Int))),())))))))
else
(rec0 (y0.1,((y0.2.1.1,(y0.2.1.2.1,(y0.2.1.2.2.1,()))),(y0.2.2.1,(y0.2.2.2.1,((wi64 (y0.2.2.2.2.1+(1:Int))),()))))))))
else none)
else
((fun(z1:(Int×Int×Int×Unit)×Unit) =>
some (z1.1.2.2.1,((),((),())))) ((y0.2.1.1,(y0.2.1.2.1,(y0.2.1.2.2.1,()))),())))) k (x.2.1,(((0:Int),((-1:Int),((0:Int),()))),(x.1,((List.length x.1:Int),((0:Int),()))))))))
abbrev E_i_LookUp(k:Nat):qAL:=⟨72,0,(.cons yP20 yP4),(.int .i64),qG6 k⟩
theorem t_i_LookUp(k:Nat)(x):evF TTab k [qGW k,qGS k] [(0,⟨[1,5,13,14,15],(.cons (.int .i64) (.cons (.ptr 0 yP22) (.cons yP20 (.cons (.int .i64) yP4))))⟩,⟨[5],(.cons (.ptr 0 yP22) .nil)⟩)] Tryz.f72 (.cons yP20 yP4) (.int .i64) x=qG6 k x:=by kernel_rfl
theorem e_i_LookUp[Names](k:Nat):qAE Tryz.prog (E_i_LookUp k):=qAD tok (qAA (e_i_RoutesOk k) (qAA (e_i_InPrefix k) qAI)) (by kernel_rfl) (by kernel_rfl) (by kernel_rfl) fun x r h=>(t_i_LookUp k x).trans h
def qDb(k:Nat)(x:(Int×Int×(List (Int×Int×Int))×(List (Int×Int))×(List ((Int×Int)×Int))×(List (Int×Int×((Int×ByteArray×ByteArray×Int×List (Int)×Int)×Int×ByteArray×ByteArray×Int×List (Int)×Int)×List (Int×Int×Int×List (ByteArray)×List (Bool)×Int)×Int))×Unit)×Int×(Int×Int×ByteArray×Unit)×Unit):Option (Bool×Unit×Unit×Unit×Unit):=
((qG6 k (x.1.2.2.2.2.1,(x.2.2.1.1,()))).bind fun p1 =>
some ((decide (p1.1=x.2.1)),((),((),((),())))))
abbrev E_i_Allowed(k:Nat):qAL:=⟨16,0,(.cons yP14 (.cons (.int .i64) (.cons (.agg (.cons (.int .i64) (.cons (.int .i64) (.cons .str .nil)))) .nil))),.bool,qDb k⟩
theorem t_i_Allowed(k:Nat)(x):evF TTabO k [E_i_LookUp k] [] Tryz.f16 (.cons yP14 (.cons (.int .i64) (.cons (.agg (.cons (.int .i64) (.cons (.int .i64) (.cons .str .nil)))) .nil))) .bool x=qDb k x:=by kernel_rfl
theorem e_i_Allowed[Names](k:Nat):qAE Tryz.prog (E_i_Allowed k):=qAD tokO (qAA (e_i_LookUp k) qAI) (by kernel_rfl) (by kernel_rfl) (by kernel_rfl) fun x r h=>(t_i_Allowed k x).trans h
def qE9(k:Nat)(x:(Int×Int×(List (Int×Int×Int))×(List (Int×Int))×(List ((Int×Int)×Int))×(List (Int×Int×((Int×ByteArray×ByteArray×Int×List (Int)×Int)×Int×ByteArray×ByteArray×Int×List (Int)×Int)×List (Int×Int×Int×List (ByteArray)×List (Bool)×Int)×Int))×Unit)×(Int×Int×ByteArray×Unit)×Unit):Option (Int×Unit×Unit×Unit):=
((qG6 k (x.1.2.2.2.2.1,(x.2.1.2.1,()))).bind fun p1 =>
some (p1.1,((),((),()))))
abbrev E_i_TargetOf(k:Nat):qAL:=⟨17,0,(.cons yP14 (.cons (.agg (.cons (.int .i64) (.cons (.int .i64) (.cons .str .nil)))) .nil)),(.int .i64),qE9 k⟩
theorem t_i_TargetOf(k:Nat)(x):evF TTabO k [E_i_LookUp k] [] Tryz.f17 (.cons yP14 (.cons (.agg (.cons (.int .i64) (.cons (.int .i64) (.cons .str .nil)))) .nil)) (.int .i64) x=qE9 k x:=by kernel_rfl
theorem e_i_TargetOf[Names](k:Nat):qAE Tryz.prog (E_i_TargetOf k):=qAD tokO (qAA (e_i_LookUp k) qAI) (by kernel_rfl) (by kernel_rfl) (by kernel_rfl) fun x r h=>(t_i_TargetOf k x).trans h
def w_FnHubs(k:Nat)(x:List (Int)×Unit):Option (Bool×Unit×Unit):=
((w_big k (x.1,())).bind fun p1 =>
(if p1.1=true then
some (true,((),()))
else
((qGO k (x.1,())).bind fun p2 =>
((qDW k (x.1,())).bind fun p3 =>
(if 0≤(0:Int)∧(0:Int)<(List.length p3.1:Int) then
((i_Join k ((p2.1.1,(p2.1.2.1,(p2.1.2.2.1,(p2.1.2.2.2.1,(p2.1.2.2.2.2.1,(p2.1.2.2.2.2.2.1,())))))),((wi64 ((1:Int)+(Int.tmod (Ty.rd (t:=(.int .i64)) p3.1 (0:Int)) (6:Int)))),((⟨#[115,101,101,100]⟩:ByteArray),((9:Int),()))))).bind fun p4 =>
((s_Join k ((p2.1.1,(p2.1.2.1,(p2.1.2.2.1,(p2.1.2.2.2.1,(p2.1.2.2.2.2.1,(p2.1.2.2.2.2.2.1,())))))),((wi64 ((1:Int)+(Int.tmod (Ty.rd (t:=(.int .i64)) p3.1 (0:Int)) (6:Int)))),((⟨#[115,101,101,100]⟩:ByteArray),((9:Int),()))))).bind fun p5 =>
(if(!decide (p4.1.2.2.1=p5.1.2.2.1))=false then
(if(!decide (p4.1.2.1.2.1=p5.1.2.1.2.1))=false then
(if(!decide (p4.1.2.1.2.2.2.1=p5.1.2.1.2.2.2.1))=true then
some (false,((),()))
else
(if(!p4.1.2.2.1)=true then
some ((decide ((List.length p4.1.1.2.2.2.2.2.1:Int)=(List.length p2.1.2.2.2.2.2.1:Int))),((),()))
else
(qAG (fun(rec0:((Int×Int×(List (Int×Int×Int))×(List (Int×Int))×(List ((Int×Int)×Int))×(List (Int×Int×((Int×ByteArray×ByteArray×Int×List (Int)×Int)×Int×ByteArray×ByteArray×Int×List (Int)×Int)×List (Int×Int×Int×List (ByteArray)×List (Bool)×Int)×Int))×Unit)×Int×(Int×Int×(List (Int×Int×Int))×(List (Int×Int))×(List ((Int×Int)×Int))×(List (Int×Int×((Int×ByteArray×ByteArray×Int×List (Int)×Int)×Int×ByteArray×ByteArray×Int×List (Int)×Int)×List (Int×Int×Int×List (ByteArray)×List (Bool)×Int)×Int))×Unit)×(Int×Int×Int×ByteArray×ByteArray×Int×List (Int)×Int×Int×ByteArray×ByteArray×Int×List (Int)×Int×(List (Int×Int×Int×List (ByteArray)×List (Bool)×Int))×Int×Unit)×(Int×Int×Int×ByteArray×ByteArray×Int×Unit×Int×Int×ByteArray×ByteArray×Int×Unit×Int×Unit×Int×Unit)×Int×Unit)→Option _) (y0:(Int×Int×(List (Int×Int×Int))×(List (Int×Int))×(List ((Int×Int)×Int))×(List (Int×Int×((Int×ByteArray×ByteArray×Int×List (Int)×Int)×Int×ByteArray×ByteArray×Int×List (Int)×Int)×List (Int×Int×Int×List (ByteArray)×List (Bool)×Int)×Int))×Unit)×Int×(Int×Int×(List (Int×Int×Int))×(List (Int×Int))×(List ((Int×Int)×Int))×(List (Int×Int×((Int×ByteArray×ByteArray×Int×List (Int)×Int)×Int×ByteArray×ByteArray×Int×List (Int)×Int)×List (Int×Int×Int×List (ByteArray)×List (Bool)×Int)×Int))×Unit)×(Int×Int×Int×ByteArray×ByteArray×Int×List (Int)×Int×Int×ByteArray×ByteArray×Int×List (Int)×Int×(List (Int×Int×Int×List (ByteArray)×List (Bool)×Int))×Int×Unit)×(Int×Int×Int×ByteArray×ByteArray×Int×Unit×Int×Int×ByteArray×ByteArray×Int×Unit×Int×Unit×Int×Unit)×Int×Unit) =>
(if(decide (y0.2.2.2.2.2.1<(List.length y0.2.2.1.2.2.2.2.2.1:Int)))=true then
(if 0≤y0.2.2.2.2.2.1∧y0.2.2.2.2.2.1<(List.length y0.2.2.1.2.2.2.2.2.1:Int) then
(if(decide ((Ty.rd (t:=yT2) y0.2.2.1.2.2.2.2.2.1 y0.2.2.2.2.2.1).1=y0.2.1))=true then
(if 0≤y0.2.2.2.2.2.1∧y0.2.2.2.2.2.1<(List.length y0.2.2.1.2.2.2.2.2.1:Int) then
(rec0 ((y0.1.1,(y0.1.2.1,(y0.1.2.2.1,(y0.1.2.2.2.1,(y0.1.2.2.2.2.1,(y0.1.2.2.2.2.2.1,())))))),(y0.2.1,((y0.2.2.1.1,(y0.2.2.1.2.1,(y0.2.2.1.2.2.1,(y0.2.2.1.2.2.2.1,(y0.2.2.1.2.2.2.2.1,(y0.2.2.1.2.2.2.2.2.1,())))))),(y0.2.2.2.1,(((Ty.rd (t:=yT2) y0.2.2.1.2.2.2.2.2.1 y0.2.2.2.2.2.1).1,((Ty.rd (t:=yT2) y0.2.2.1.2.2.2.2.2.1 y0.2.2.2.2.2.1).2.1,((Ty.rd (t:=yT2) y0.2.2.1.2.2.2.2.2.1 y0.2.2.2.2.2.1).2.2.1.1.1,((Ty.rd (t:=yT2) y0.2.2.1.2.2.2.2.2.1 y0.2.2.2.2.2.1).2.2.1.1.2.1,((Ty.rd (t:=yT2) y0.2.2.1.2.2.2.2.2.1 y0.2.2.2.2.2.1).2.2.1.1.2.2.1,((Ty.rd (t:=yT2) y0.2.2.1.2.2.2.2.2.1 y0.2.2.2.2.2.1).2.2.1.1.2.2.2.1,((),((Ty.rd (t:=yT2) y0.2.2.1.2.2.2.2.2.1 y0.2.2.2.2.2.1).2.2.1.1.2.2.2.2.2,((Ty.rd (t:=yT2) y0.2.2.1.2.2.2.2.2.1 y0.2.2.2.2.2.1).2.2.1.2.1,((Ty.rd (t:=yT2) y0.2.2.1.2.2.2.2.2.1 y0.2.2.2.2.2.1).2.2.1.2.2.1,((Ty.rd (t:=yT2) y0.2.2.1.2.2.2.2.2.1 y0.2.2.2.2.2.1).2.2.1.2.2.2.1,((Ty.rd (t:=yT2) y0.2.2.1.2.2.2.2.2.1 y0.2.2.2.2.2.1).2.2.1.2.2.2.2.1,((),((Ty.rd (t:=yT2) y0.2.2.1.2.2.2.2.2.1 y0.2.2.2.2.2.1).2.2.1.2.2.2.2.2.2,((),((Ty.rd (t:=yT2) y0.2.2.1.2.2.2.2.2.1 y0.2.2.2.2.2.1).2.2.2.2,())))))))))))))))),((wi64 (y0.2.2.2.2.2.1+(1:Int))),())))))))
else none)
else
(rec0 ((y0.1.1,(y0.1.2.1,(y0.1.2.2.1,(y0.1.2.2.2.1,(y0.1.2.2.2.2.1,(y0.1.2.2.2.2.2.1,())))))),(y0.2.1,((y0.2.2.1.1,(y0.2.2.1.2.1,(y0.2.2.1.2.2.1,(y0.2.2.1.2.2.2.1,(y0.2.2.1.2.2.2.2.1,(y0.2.2.1.2.2.2.2.2.1,())))))),(y0.2.2.2.1,((y0.2.2.2.2.1.1,(y0.2.2.2.2.1.2.1,(y0.2.2.2.2.1.2.2.1,(y0.2.2.2.2.1.2.2.2.1,(y0.2.2.2.2.1.2.2.2.2.1,(y0.2.2.2.2.1.2.2.2.2.2.1,((),(y0.2.2.2.2.1.2.2.2.2.2.2.2.1,(y0.2.2.2.2.1.2.2.2.2.2.2.2.2.1,(y0.2.2.2.2.1.2.2.2.2.2.2.2.2.2.1,(y0.2.2.2.2.1.2.2.2.2.2.2.2.2.2.2.1,(y0.2.2.2.2.1.2.2.2.2.2.2.2.2.2.2.2.1,((),(y0.2.2.2.2.1.2.2.2.2.2.2.2.2.2.2.2.2.2.1,((),(y0.2.2.2.2.1.2.2.2.2.2.2.2.2.2.2.2.2.2.2.2.1,())))))))))))))))),((wi64 (y0.2.2.2.2.2.1+(1:Int))),()))))))))
else none)
else
((fun(z1:(Int×Int×(List (Int×Int×Int))×(List (Int×Int))×(List ((Int×Int)×Int))×(List (Int×Int×((Int×ByteArray×ByteArray×Int×List (Int)×Int)×Int×ByteArray×ByteArray×Int×List (Int)×Int)×List (Int×Int×Int×List (ByteArray)×List (Bool)×Int)×Int))×Unit)×Int×(Int×Int×(List (Int×Int×Int))×(List (Int×Int))×(List ((Int×Int)×Int))×(List (Int×Int×((Int×ByteArray×ByteArray×Int×List (Int)×Int)×Int×ByteArray×ByteArray×Int×List (Int)×Int)×List (Int×Int×Int×List (ByteArray)×List (Bool)×Int)×Int))×Unit)×(Int×Int×Int×ByteArray×ByteArray×Int×List (Int)×Int×Int×ByteArray×ByteArray×Int×List (Int)×Int×(List (Int×Int×Int×List (ByteArray)×List (Bool)×Int))×Int×Unit)×(Int×Int×Int×ByteArray×ByteArray×Int×Unit×Int×Int×ByteArray×ByteArray×Int×Unit×Int×Unit×Int×Unit)×Unit) =>
((i_Leave k ((z1.2.2.1.1,(z1.2.2.1.2.1,(z1.2.2.1.2.2.1,(z1.2.2.1.2.2.2.1,(z1.2.2.1.2.2.2.2.1,(z1.2.2.1.2.2.2.2.2.1,())))))),(z1.2.1,()))).bind fun p6 =>
((i_Leave k ((p6.1.1.1,(p6.1.1.2.1,(p6.1.1.2.2.1,(p6.1.1.2.2.2.1,(p6.1.1.2.2.2.2.1,(p6.1.1.2.2.2.2.2.1,())))))),(z1.2.1,()))).bind fun p7 =>
(qAG (fun(rec2:((Int×Int×(List (Int×Int×Int))×(List (Int×Int))×(List ((Int×Int)×Int))×(List (Int×Int×((Int×ByteArray×ByteArray×Int×List (Int)×Int)×Int×ByteArray×ByteArray×Int×List (Int)×Int)×List (Int×Int×Int×List (ByteArray)×List (Bool)×Int)×Int))×Unit)×Int×(Int×Int×(List (Int×Int×Int))×(List (Int×Int))×(List ((Int×Int)×Int))×(List (Int×Int×((Int×ByteArray×ByteArray×Int×List (Int)×Int)×Int×ByteArray×ByteArray×Int×List (Int)×Int)×List (Int×Int×Int×List (ByteArray)×List (Bool)×Int)×Int))×Unit)×(Int×Int×Int×ByteArray×ByteArray×Int×List (Int)×Int×Int×ByteArray×ByteArray×Int×List (Int)×Int×(List (Int×Int×Int×List (ByteArray)×List (Bool)×Int))×Int×Unit)×(Int×Int×Int×ByteArray×ByteArray×Int×Unit×Int×Int×ByteArray×ByteArray×Int×Unit×Int×Unit×Int×Unit)×(Int×Int×ByteArray×Unit)×(Int×Int×(List (Int×Int×Int))×(List (Int×Int))×(List ((Int×Int)×Int))×(List (Int×Int×((Int×ByteArray×ByteArray×Int×List (Int)×Int)×Int×ByteArray×ByteArray×Int×List (Int)×Int)×List (Int×Int×Int×List (ByteArray)×List (Bool)×Int)×Int))×Unit)×Bool×Bool×Int×Unit)→Option _) (y2:(Int×Int×(List (Int×Int×Int))×(List (Int×Int))×(List ((Int×Int)×Int))×(List (Int×Int×((Int×ByteArray×ByteArray×Int×List (Int)×Int)×Int×ByteArray×ByteArray×Int×List (Int)×Int)×List (Int×Int×Int×List (ByteArray)×List (Bool)×Int)×Int))×Unit)×Int×(Int×Int×(List (Int×Int×Int))×(List (Int×Int))×(List ((Int×Int)×Int))×(List (Int×Int×((Int×ByteArray×ByteArray×Int×List (Int)×Int)×Int×ByteArray×ByteArray×Int×List (Int)×Int)×List (Int×Int×Int×List (ByteArray)×List (Bool)×Int)×Int))×Unit)×(Int×Int×Int×ByteArray×ByteArray×Int×List (Int)×Int×Int×ByteArray×ByteArray×Int×List (Int)×Int×(List (Int×Int×Int×List (ByteArray)×List (Bool)×Int))×Int×Unit)×(Int×Int×Int×ByteArray×ByteArray×Int×Unit×Int×Int×ByteArray×ByteArray×Int×Unit×Int×Unit×Int×Unit)×(Int×Int×ByteArray×Unit)×(Int×Int×(List (Int×Int×Int))×(List (Int×Int))×(List ((Int×Int)×Int))×(List (Int×Int×((Int×ByteArray×ByteArray×Int×List (Int)×Int)×Int×ByteArray×ByteArray×Int×List (Int)×Int)×List (Int×Int×Int×List (ByteArray)×List (Bool)×Int)×Int))×Unit)×Bool×Bool×Int×Unit) =>
(if(decide (y2.2.2.2.2.2.2.2.2.2.1<(List.length y2.2.2.2.2.2.2.1.2.2.2.2.1:Int)))=true then
(if 0≤y2.2.2.2.2.2.2.2.2.2.1∧y2.2.2.2.2.2.2.2.2.2.1<(List.length y2.2.2.2.2.2.2.1.2.2.2.2.1:Int) then
(if(decide ((Ty.rd (t:=(.pair yT3 (.int .i64))) y2.2.2.2.2.2.2.1.2.2.2.2.1 y2.2.2.2.2.2.2.2.2.2.1).2=y2.2.1))=true then
some (false,((),()))
else
(rec2 ((y2.1.1,(y2.1.2.1,(y2.1.2.2.1,(y2.1.2.2.2.1,(y2.1.2.2.2.2.1,(y2.1.2.2.2.2.2.1,())))))),(y2.2.1,((y2.2.2.1.1,(y2.2.2.1.2.1,(y2.2.2.1.2.2.1,(y2.2.2.1.2.2.2.1,(y2.2.2.1.2.2.2.2.1,(y2.2.2.1.2.2.2.2.2.1,())))))),(y2.2.2.2.1,((y2.2.2.2.2.1.1,(y2.2.2.2.2.1.2.1,(y2.2.2.2.2.1.2.2.1,(y2.2.2.2.2.1.2.2.2.1,(y2.2.2.2.2.1.2.2.2.2.1,(y2.2.2.2.2.1.2.2.2.2.2.1,((),(y2.2.2.2.2.1.2.2.2.2.2.2.2.1,(y2.2.2.2.2.1.2.2.2.2.2.2.2.2.1,(y2.2.2.2.2.1.2.2.2.2.2.2.2.2.2.1,(y2.2.2.2.2.1.2.2.2.2.2.2.2.2.2.2.1,(y2.2.2.2.2.1.2.2.2.2.2.2.2.2.2.2.2.1,((),(y2.2.2.2.2.1.2.2.2.2.2.2.2.2.2.2.2.2.2.1,((),(y2.2.2.2.2.1.2.2.2.2.2.2.2.2.2.2.2.2.2.2.2.1,())))))))))))))))),((y2.2.2.2.2.2.1.1,(y2.2.2.2.2.2.1.2.1,(y2.2.2.2.2.2.1.2.2.1,()))),((y2.2.2.2.2.2.2.1.1,(y2.2.2.2.2.2.2.1.2.1,(y2.2.2.2.2.2.2.1.2.2.1,(y2.2.2.2.2.2.2.1.2.2.2.1,(y2.2.2.2.2.2.2.1.2.2.2.2.1,(y2.2.2.2.2.2.2.1.2.2.2.2.2.1,())))))),(y2.2.2.2.2.2.2.2.1,(y2.2.2.2.2.2.2.2.2.1,((wi64 (y2.2.2.2.2.2.2.2.2.2.1+(1:Int))),()))))))))))))
else none)
else
((fun(z2:(Int×Int×(List (Int×Int×Int))×(List (Int×Int))×(List ((Int×Int)×Int))×(List (Int×Int×((Int×ByteArray×ByteArray×Int×List (Int)×Int)×Int×ByteArray×ByteArray×Int×List (Int)×Int)×List (Int×Int×Int×List (ByteArray)×List (Bool)×Int)×Int))×Unit)×Int×(Int×Int×(List (Int×Int×Int))×(List (Int×Int))×(List ((Int×Int)×Int))×(List (Int×Int×((Int×ByteArray×ByteArray×Int×List (Int)×Int)×Int×ByteArray×ByteArray×Int×List (Int)×Int)×List (Int×Int×Int×List (ByteArray)×List (Bool)×Int)×Int))×Unit)×(Int×Int×Int×ByteArray×ByteArray×Int×List (Int)×Int×Int×ByteArray×ByteArray×Int×List (Int)×Int×(List (Int×Int×Int×List (ByteArray)×List (Bool)×Int))×Int×Unit)×(Int×Int×Int×ByteArray×ByteArray×Int×Unit×Int×Int×ByteArray×ByteArray×Int×Unit×Int×Unit×Int×Unit)×(Int×Int×ByteArray×Unit)×(Int×Int×(List (Int×Int×Int))×(List (Int×Int))×(List ((Int×Int)×Int))×(List (Int×Int×((Int×ByteArray×ByteArray×Int×List (Int)×Int)×Int×ByteArray×ByteArray×Int×List (Int)×Int)×List (Int×Int×Int×List (ByteArray)×List (Bool)×Int)×Int))×Unit)×Bool×Bool×Unit) =>
(if(decide (z2.2.2.2.2.1.2.2.2.2.1=z2.2.2.2.1.2.2.2.1))=true then
(if(decide (z2.2.2.2.2.1.2.1=z2.2.2.2.1.2.1))=true then
((qDb k ((z2.2.2.1.1,(z2.2.2.1.2.1,(z2.2.2.1.2.2.1,(z2.2.2.1.2.2.2.1,(z2.2.2.1.2.2.2.2.1,(z2.2.2.1.2.2.2.2.2.1,())))))),(z2.2.1,((z2.2.2.2.2.2.1.1,(z2.2.2.2.2.2.1.2.1,(z2.2.2.2.2.2.1.2.2.1,()))),())))).bind fun p8 =>
(if p8.1=true then
((qE9 k ((z2.2.2.1.1,(z2.2.2.1.2.1,(z2.2.2.1.2.2.1,(z2.2.2.1.2.2.2.1,(z2.2.2.1.2.2.2.2.1,(z2.2.2.1.2.2.2.2.2.1,())))))),((z2.2.2.2.2.2.1.1,(z2.2.2.2.2.2.1.2.1,(z2.2.2.2.2.2.1.2.2.1,()))),()))).bind fun p9 =>
(if(decide (p9.1=z2.2.1))=true then
(if z2.2.2.2.2.2.2.2.1=true then
(if(!z2.2.2.2.2.2.2.2.2.1)=true then
((qDb k ((z2.2.2.2.2.2.2.1.1,(z2.2.2.2.2.2.2.1.2.1,(z2.2.2.2.2.2.2.1.2.2.1,(z2.2.2.2.2.2.2.1.2.2.2.1,(z2.2.2.2.2.2.2.1.2.2.2.2.1,(z2.2.2.2.2.2.2.1.2.2.2.2.2.1,())))))),(z2.2.1,((z2.2.2.2.2.2.1.1,(z2.2.2.2.2.2.1.2.1,(z2.2.2.2.2.2.1.2.2.1,()))),())))).bind fun p10 =>
(if(!p10.1)=true then
((qCm k ((z2.2.2.1.1,(z2.2.2.1.2.1,(z2.2.2.1.2.2.1,(z2.2.2.1.2.2.2.1,())))),(z2.2.2.2.1.2.1,()))).bind fun p11 =>
(if(decide (p11.1=z2.2.1))=true then
((qCm k ((z2.2.2.2.2.2.2.1.1,(z2.2.2.2.2.2.2.1.2.1,(z2.2.2.2.2.2.2.1.2.2.1,(z2.2.2.2.2.2.2.1.2.2.2.1,())))),(z2.2.2.2.1.2.1,()))).bind fun p12 =>
(if(decide (p12.1=(0:Int)))=true then
some ((decide ((List.length z2.2.2.2.2.2.2.1.2.2.2.2.2.1:Int)=(List.length z2.1.2.2.2.2.2.1:Int))),((),()))
else
some (false,((),()))))
else
some (false,((),()))))
else
some (false,((),()))))
else
some (false,((),())))
else
some (false,((),())))
else
some (false,((),()))))
else
some (false,((),()))))
else
some (false,((),())))
else
some (false,((),())))) ((y2.1.1,(y2.1.2.1,(y2.1.2.2.1,(y2.1.2.2.2.1,(y2.1.2.2.2.2.1,(y2.1.2.2.2.2.2.1,())))))),(y2.2.1,((y2.2.2.1.1,(y2.2.2.1.2.1,(y2.2.2.1.2.2.1,(y2.2.2.1.2.2.2.1,(y2.2.2.1.2.2.2.2.1,(y2.2.2.1.2.2.2.2.2.1,())))))),(y2.2.2.2.1,((y2.2.2.2.2.1.1,(y2.2.2.2.2.1.2.1,(y2.2.2.2.2.1.2.2.1,(y2.2.2.2.2.1.2.2.2.1,(y2.2.2.2.2.1.2.2.2.2.1,(y2.2.2.2.2.1.2.2.2.2.2.1,((),(y2.2.2.2.2.1.2.2.2.2.2.2.2.1,(y2.2.2.2.2.1.2.2.2.2.2.2.2.2.1,(y2.2.2.2.2.1.2.2.2.2.2.2.2.2.2.1,(y2.2.2.2.2.1.2.2.2.2.2.2.2.2.2.2.1,(y2.2.2.2.2.1.2.2.2.2.2.2.2.2.2.2.2.1,((),(y2.2.2.2.2.1.2.2.2.2.2.2.2.2.2.2.2.2.2.1,((),(y2.2.2.2.2.1.2.2.2.2.2.2.2.2.2.2.2.2.2.2.2.1,())))))))))))))))),((y2.2.2.2.2.2.1.1,(y2.2.2.2.2.2.1.2.1,(y2.2.2.2.2.2.1.2.2.1,()))),((y2.2.2.2.2.2.2.1.1,(y2.2.2.2.2.2.2.1.2.1,(y2.2.2.2.2.2.2.1.2.2.1,(y2.2.2.2.2.2.2.1.2.2.2.1,(y2.2.2.2.2.2.2.1.2.2.2.2.1,(y2.2.2.2.2.2.2.1.2.2.2.2.2.1,())))))),(y2.2.2.2.2.2.2.2.1,(y2.2.2.2.2.2.2.2.2.1,())))))))))))) k ((z1.1.1,(z1.1.2.1,(z1.1.2.2.1,(z1.1.2.2.2.1,(z1.1.2.2.2.2.1,(z1.1.2.2.2.2.2.1,())))))),(z1.2.1,((z1.2.2.1.1,(z1.2.2.1.2.1,(z1.2.2.1.2.2.1,(z1.2.2.1.2.2.2.1,(z1.2.2.1.2.2.2.2.1,(z1.2.2.1.2.2.2.2.2.1,())))))),(z1.2.2.2.1,((z1.2.2.2.2.1.1,(z1.2.2.2.2.1.2.1,(z1.2.2.2.2.1.2.2.1,(z1.2.2.2.2.1.2.2.2.1,(z1.2.2.2.2.1.2.2.2.2.1,(z1.2.2.2.2.1.2.2.2.2.2.1,((),(z1.2.2.2.2.1.2.2.2.2.2.2.2.1,(z1.2.2.2.2.1.2.2.2.2.2.2.2.2.1,(z1.2.2.2.2.1.2.2.2.2.2.2.2.2.2.1,(z1.2.2.2.2.1.2.2.2.2.2.2.2.2.2.2.1,(z1.2.2.2.2.1.2.2.2.2.2.2.2.2.2.2.2.1,((),(z1.2.2.2.2.1.2.2.2.2.2.2.2.2.2.2.2.2.2.1,((),(z1.2.2.2.2.1.2.2.2.2.2.2.2.2.2.2.2.2.2.2.2.1,())))))))))))))))),((z1.2.2.2.1.2.1,(z1.2.2.2.1.2.1,((⟨#[]⟩:ByteArray),()))),((p6.1.1.1,(p6.1.1.2.1,(p6.1.1.2.2.1,(p6.1.1.2.2.2.1,(p6.1.1.2.2.2.2.1,(p6.1.1.2.2.2.2.2.1,())))))),(p6.1.2.1,(p7.1.2.1,((0:Int),())))))))))))))) ((y0.1.1,(y0.1.2.1,(y0.1.2.2.1,(y0.1.2.2.2.1,(y0.1.2.2.2.2.1,(y0.1.2.2.2.2.2.1,())))))),(y0.2.1,((y0.2.2.1.1,(y0.2.2.1.2.1,(y0.2.2.1.2.2.1,(y0.2.2.1.2.2.2.1,(y0.2.2.1.2.2.2.2.1,(y0.2.2.1.2.2.2.2.2.1,())))))),(y0.2.2.2.1,((y0.2.2.2.2.1.1,(y0.2.2.2.2.1.2.1,(y0.2.2.2.2.1.2.2.1,(y0.2.2.2.2.1.2.2.2.1,(y0.2.2.2.2.1.2.2.2.2.1,(y0.2.2.2.2.1.2.2.2.2.2.1,((),(y0.2.2.2.2.1.2.2.2.2.2.2.2.1,(y0.2.2.2.2.1.2.2.2.2.2.2.2.2.1,(y0.2.2.2.2.1.2.2.2.2.2.2.2.2.2.1,(y0.2.2.2.2.1.2.2.2.2.2.2.2.2.2.2.1,(y0.2.2.2.2.1.2.2.2.2.2.2.2.2.2.2.2.1,((),(y0.2.2.2.2.1.2.2.2.2.2.2.2.2.2.2.2.2.2.1,((),(y0.2.2.2.2.1.2.2.2.2.2.2.2.2.2.2.2.2.2.2.2.1,())))))))))))))))),())))))))) k ((p2.1.1,(p2.1.2.1,(p2.1.2.2.1,(p2.1.2.2.2.1,(p2.1.2.2.2.2.1,(p2.1.2.2.2.2.2.1,())))))),((wi64 ((1:Int)+(Int.tmod (Ty.rd (t:=(.int .i64)) p3.1 (0:Int)) (6:Int)))),((p4.1.1.1,(p4.1.1.2.1,(p4.1.1.2.2.1,(p4.1.1.2.2.2.1,(p4.1.1.2.2.2.2.1,(p4.1.1.2.2.2.2.2.1,())))))),(p4.1.2.1,(((0:Int),((0:Int),((0:Int),((⟨#[]⟩:ByteArray),((⟨#[]⟩:ByteArray),((0:Int),((),((0:Int),((0:Int),((⟨#[]⟩:ByteArray),((⟨#[]⟩:ByteArray),((0:Int),((),((0:Int),((),((0:Int),())))))))))))))))),((0:Int),())))))))))
else
some (false,((),())))
else
some (false,((),())))))
else none)))))
abbrev E_w_FnHubs(k:Nat):qAL:=⟨3,0,(.cons (.il true (.int .u8)) .nil),.bool,w_FnHubs k⟩
theorem t_w_FnHubs(k:Nat)(x):evF TTab k [E_w_big k,E_s_DrawHub k,qHK k,E_i_Join k,E_s_Join k,E_i_Leave k,E_i_Allowed k,E_i_TargetOf k,qGG k] [(0,⟨[3,4,5,6,11,12],(.cons (.ptr 0 yP7) (.cons (.int .i64) (.cons (.ptr 0 yP15) (.cons (.ptr 0 yP8) (.cons (.ptr 0 yP26) yP4)))))⟩,⟨[3,4,5,6,11],(.cons (.ptr 0 yP7) (.cons (.int .i64) (.cons (.ptr 0 yP15) (.cons (.ptr 0 yP8) (.cons (.ptr 0 yP26) .nil)))))⟩),(2,⟨[3,4,5,6,11,13,14,15,17,18],(.cons (.ptr 0 yP7) (.cons (.int .i64) (.cons (.ptr 0 yP15) (.cons (.ptr 0 yP8) (.cons (.ptr 0 yP26) (.cons (.ptr 0 (.cons (.int .i64) (.cons (.int .i64) (.cons .str .nil)))) (.cons (.ptr 0 yP15) (.cons .bool (.cons .bool yP4)))))))))⟩,⟨[3,4,5,6,11,13,14,15,17],(.cons (.ptr 0 yP7) (.cons (.int .i64) (.cons (.ptr 0 yP15) (.cons (.ptr 0 yP8) (.cons (.ptr 0 yP26) (.cons (.ptr 0 (.cons (.int .i64) (.cons (.int .i64) (.cons .str .nil)))) (.cons (.ptr 0 yP15) (.cons .bool (.cons .bool .nil)))))))))⟩)] Tryz.f3 (.cons (.il true (.int .u8)) .nil) .bool x=w_FnHubs k x:=by kernel_rfl
theorem e_w_FnHubs[Names](k:Nat):qAE Tryz.prog (E_w_FnHubs k):=qAD tok (qAA (e_w_big k) (qAA (e_s_DrawHub k) (qAA (e_s_DrawPlaces k) (qAA (e_i_Join k) (qAA (e_s_Join k) (qAA (e_i_Leave k) (qAA (e_i_Allowed k) (qAA (e_i_TargetOf k) (qAA (e_s_HolderOf k) qAI))))))))) (by kernel_rfl) (by kernel_rfl) (by kernel_rfl) fun x r h=>(t_w_FnHubs k x).trans h
end Go.Proofs.YtnfllchbpechlaaGreat
