import Derived.Test.YtnfllchbpechlaaGreatFun1
/- What functions of the program compute, as plain functions, and that their calls do so (part 2). Conditions: the plain function answers. -/
set_option linter.unusedVariables false
namespace Go.Proofs.YtnfllchbpechlaaGreat
open Go Go.Eng Go.Proofs
def qEy(k:Nat)(x:(Int×Int×(List (Int×Int×Int))×(List (Int×Int))×(List ((Int×Int)×Int))×(List (Int×Int×((Int×ByteArray×ByteArray×Int×List (Int)×Int)×Int×ByteArray×ByteArray×Int×List (Int)×Int)×List (Int×Int×Int×List (ByteArray)×List (Bool)×Int)×Int))×Unit)×Int×(Int×Int×Unit)×Unit):Option (((Int×Int×(List (Int×Int×Int))×(List (Int×Int))×(List ((Int×Int)×Int))×(List (Int×Int×((Int×ByteArray×ByteArray×Int×List (Int)×Int)×Int×ByteArray×ByteArray×Int×List (Int)×Int)×List (Int×Int×Int×List (ByteArray)×List (Bool)×Int)×Int))×Unit)×Bool×Unit)×Unit×Unit×Unit×Unit):=
((qDU k ((x.1.1,(x.1.2.1,(x.1.2.2.1,(x.1.2.2.2.1,(x.1.2.2.2.2.1,(x.1.2.2.2.2.2.1,())))))),())).bind fun p1 =>
((qDC k (x.1.2.2.2.2.1,((x.2.2.1.1,(x.2.2.1.2.1,(x.2.1,()))),()))).bind fun p2 =>
(if(!p2.1.2.1)=false then
((qGC k (x.1.2.2.2.2.2.1,(x.2.1,()))).bind fun p3 =>
(if(decide (p3.1<(0:Int)))=true then
some (((p1.1.1,(p1.1.2.1,(p1.1.2.2.1,(p1.1.2.2.2.1,(p1.1.2.2.2.2.1,(p1.1.2.2.2.2.2.1,())))))),(false,())),((),((),((),()))))
else
some (((p1.1.1,(p1.1.2.1,(p1.1.2.2.1,(p1.1.2.2.2.1,(p2.1.1,(p1.1.2.2.2.2.2.1,())))))),(true,())),((),((),((),()))))))
else
some (((p1.1.1,(p1.1.2.1,(p1.1.2.2.1,(p1.1.2.2.2.1,(p1.1.2.2.2.2.1,(p1.1.2.2.2.2.2.1,())))))),(false,())),((),((),((),())))))))
abbrev E_s_AddNet_f(k:Nat):qAL:=⟨20,0,(.cons yP14 (.cons (.int .i64) (.cons yP27 .nil))),(.tup (.cons (.agg yP7) (.cons .bool .nil))),qEy k⟩
theorem t_s_AddNet_f(k:Nat)(x):evF TTab k [qD8 k,qGD k,qEV k] [] Tryz.f20 (.cons yP14 (.cons (.int .i64) (.cons yP27 .nil))) (.tup (.cons (.agg yP7) (.cons .bool .nil))) x=qEy k x:=by kernel_rfl
theorem e_s_AddNet_f[Names](k:Nat):qAE Tryz.prog (E_s_AddNet_f k):=qAD tok (qAA (qFM k) (qAA (qIG k) (qAA (qGJ k) qAI))) (by kernel_rfl) (by kernel_rfl) (by kernel_rfl) fun x r h=>(t_s_AddNet_f k x).trans h
def s_Join_f(k:Nat)(x:(Int×Int×(List (Int×Int×Int))×(List (Int×Int))×(List ((Int×Int)×Int))×(List (Int×Int×((Int×ByteArray×ByteArray×Int×List (Int)×Int)×Int×ByteArray×ByteArray×Int×List (Int)×Int)×List (Int×Int×Int×List (ByteArray)×List (Bool)×Int)×Int))×Unit)×Int×ByteArray×Int×Unit):Option (((Int×Int×(List (Int×Int×Int))×(List (Int×Int))×(List ((Int×Int)×Int))×(List (Int×Int×((Int×ByteArray×ByteArray×Int×List (Int)×Int)×Int×ByteArray×ByteArray×Int×List (Int)×Int)×List (Int×Int×Int×List (ByteArray)×List (Bool)×Int)×Int))×Unit)×(Int×Int×Int×ByteArray×ByteArray×Int×List (Int)×Int×Int×ByteArray×ByteArray×Int×List (Int)×Int×(List (Int×Int×Int×List (ByteArray)×List (Bool)×Int))×Int×Unit)×Bool×Unit)×Unit×Unit×Unit×Unit×Unit):=
((qDU k ((x.1.1,(x.1.2.1,(x.1.2.2.1,(x.1.2.2.2.1,(x.1.2.2.2.2.1,(x.1.2.2.2.2.2.1,())))))),())).bind fun p1 =>
((qBk k (x.2.1,((1:Int),((98:Int),())))).bind fun p2 =>
(if(!p2.1)=false then
((qGC k (x.1.2.2.2.2.2.1,(x.2.1,()))).bind fun p3 =>
(if(decide ((0:Int)≤p3.1))=false then
(if(decide ((3:Int)≤(List.length x.1.2.2.2.2.2.1:Int)))=true then
some (((p1.1.1,(p1.1.2.1,(p1.1.2.2.1,(p1.1.2.2.2.1,(p1.1.2.2.2.2.1,(p1.1.2.2.2.2.2.1,())))))),(((0:Int),((0:Int),((0:Int),((⟨#[]⟩:ByteArray),((⟨#[]⟩:ByteArray),((0:Int),([],((0:Int),((0:Int),((⟨#[]⟩:ByteArray),((⟨#[]⟩:ByteArray),((0:Int),([],((0:Int),([],((0:Int),())))))))))))))))),(false,()))),((),((),((),((),())))))
else
((s_Grant k ((x.1.1,(x.1.2.1,(x.1.2.2.1,(x.1.2.2.2.1,())))),(x.2.1,(x.2.2.2.1,())))).bind fun p4 =>
((qDC k (x.1.2.2.2.2.1,((p4.1.2.1,((32:Int),(x.2.1,()))),()))).bind fun p5 =>
(if(!p4.1.2.2.1)=false then
(if(!p5.1.2.1)=true then
some (((p1.1.1,(p1.1.2.1,(p1.1.2.2.1,(p1.1.2.2.2.1,(p1.1.2.2.2.2.1,(p1.1.2.2.2.2.2.1,())))))),(((0:Int),((0:Int),((0:Int),((⟨#[]⟩:ByteArray),((⟨#[]⟩:ByteArray),((0:Int),([],((0:Int),((0:Int),((⟨#[]⟩:ByteArray),((⟨#[]⟩:ByteArray),((0:Int),([],((0:Int),([],((0:Int),())))))))))))))))),(false,()))),((),((),((),((),())))))
else
((qC7 k (x.2.2.1,())).bind fun p6 =>
((qGy k (x.1.2.2.2.2.2.1,((x.2.1,(p4.1.2.1,(p6.1.2.1.1,(p6.1.2.1.2.1,(p6.1.2.1.2.2.1,(p6.1.2.1.2.2.2.1,(p6.1.2.1.2.2.2.2.1,(p6.1.2.1.2.2.2.2.2.1,(p6.1.2.1.2.2.2.2.2.2.1,(p6.1.2.1.2.2.2.2.2.2.2.1,(p6.1.2.1.2.2.2.2.2.2.2.2.1,(p6.1.2.1.2.2.2.2.2.2.2.2.2.1,(p6.1.2.1.2.2.2.2.2.2.2.2.2.2.1,(p6.1.2.1.2.2.2.2.2.2.2.2.2.2.2.1,([],((0:Int),())))))))))))))))),()))).bind fun p7 =>
((qBE k (p7.1,())).bind fun p8 =>
some (((p4.1.1.1,(p4.1.1.2.1,(p4.1.1.2.2.1,(p4.1.1.2.2.2.1,(p5.1.1,(p8.1,())))))),((x.2.1,(p4.1.2.1,(p6.1.1.1,(p6.1.1.2.1,(p6.1.1.2.2.1,(p6.1.1.2.2.2.1,(p6.1.1.2.2.2.2.1,(p6.1.1.2.2.2.2.2.1,(p6.1.1.2.2.2.2.2.2.1,(p6.1.1.2.2.2.2.2.2.2.1,(p6.1.1.2.2.2.2.2.2.2.2.1,(p6.1.1.2.2.2.2.2.2.2.2.2.1,(p6.1.1.2.2.2.2.2.2.2.2.2.2.1,(p6.1.1.2.2.2.2.2.2.2.2.2.2.2.1,([],((0:Int),())))))))))))))))),(true,()))),((),((),((),((),())))))))))
else
some (((p1.1.1,(p1.1.2.1,(p1.1.2.2.1,(p1.1.2.2.2.1,(p1.1.2.2.2.2.1,(p1.1.2.2.2.2.2.1,())))))),(((0:Int),((0:Int),((0:Int),((⟨#[]⟩:ByteArray),((⟨#[]⟩:ByteArray),((0:Int),([],((0:Int),((0:Int),((⟨#[]⟩:ByteArray),((⟨#[]⟩:ByteArray),((0:Int),([],((0:Int),([],((0:Int),())))))))))))))))),(false,()))),((),((),((),((),())))))))))
else
some (((p1.1.1,(p1.1.2.1,(p1.1.2.2.1,(p1.1.2.2.2.1,(p1.1.2.2.2.2.1,(p1.1.2.2.2.2.2.1,())))))),(((0:Int),((0:Int),((0:Int),((⟨#[]⟩:ByteArray),((⟨#[]⟩:ByteArray),((0:Int),([],((0:Int),((0:Int),((⟨#[]⟩:ByteArray),((⟨#[]⟩:ByteArray),((0:Int),([],((0:Int),([],((0:Int),())))))))))))))))),(false,()))),((),((),((),((),())))))))
else
some (((p1.1.1,(p1.1.2.1,(p1.1.2.2.1,(p1.1.2.2.2.1,(p1.1.2.2.2.2.1,(p1.1.2.2.2.2.2.1,())))))),(((0:Int),((0:Int),((0:Int),((⟨#[]⟩:ByteArray),((⟨#[]⟩:ByteArray),((0:Int),([],((0:Int),((0:Int),((⟨#[]⟩:ByteArray),((⟨#[]⟩:ByteArray),((0:Int),([],((0:Int),([],((0:Int),())))))))))))))))),(false,()))),((),((),((),((),()))))))))
abbrev E_s_Join_f(k:Nat):qAL:=⟨14,0,(.cons (.agg yP7) (.cons (.int .i64) (.cons .str yP4))),(.tup (.cons (.agg yP7) (.cons (.agg yP10) (.cons .bool .nil)))),s_Join_f k⟩
theorem t_s_Join_f(k:Nat)(x):evF TTab k [qFK k,qD8 k,qBt k,qGD k,E_s_Grant k,qEV k,qB3 k,E_s_l22Put k] [] Tryz.f14 (.cons (.agg yP7) (.cons (.int .i64) (.cons .str yP4))) (.tup (.cons (.agg yP7) (.cons (.agg yP10) (.cons .bool .nil)))) x=s_Join_f k x:=by kernel_rfl
theorem e_s_Join_f[Names](k:Nat):qAE Tryz.prog (E_s_Join_f k):=qAD tok (qAA (qIF k) (qAA (qFM k) (qAA (qB2 k) (qAA (qIG k) (qAA (e_s_Grant k) (qAA (qGJ k) (qAA (qCd k) (qAA (e_s_l22Put k) qAI)))))))) (by kernel_rfl) (by kernel_rfl) (by kernel_rfl) fun x r h=>(t_s_Join_f k x).trans h
def qIL(k:Nat)(x:(List (Int)×Int×Int×Unit)×Unit):Option (((Int×Int×(List (Int×Int×Int))×(List (Int×Int))×(List ((Int×Int)×Int))×(List (Int×Int×((Int×ByteArray×ByteArray×Int×List (Int)×Int)×Int×ByteArray×ByteArray×Int×List (Int)×Int)×List (Int×Int×Int×List (ByteArray)×List (Bool)×Int)×Int))×Unit)×(Int×Int×Int×ByteArray×ByteArray×Int×List (Int)×Int×Int×ByteArray×ByteArray×Int×List (Int)×Int×(List (Int×Int×Int×List (ByteArray)×List (Bool)×Int))×Int×Unit)×Unit)×(List (Int)×Int×Int×Unit)×Unit):=
((qIJ k ((x.1.1,(x.1.2.1,(x.1.2.2.1,()))),())).bind fun p1 =>
((qEx k ((p1.1.1,(p1.1.2.1,())),())).bind fun p2 =>
(qAG (fun(rec0:((List (Int)×Int×Int×Unit)×(Int×Int×(List (Int×Int×Int))×(List (Int×Int))×(List ((Int×Int)×Int))×(List (Int×Int×((Int×ByteArray×ByteArray×Int×List (Int)×Int)×Int×ByteArray×ByteArray×Int×List (Int)×Int)×List (Int×Int×Int×List (ByteArray)×List (Bool)×Int)×Int))×Unit)×(Int×Int×Int×ByteArray×ByteArray×Int×List (Int)×Int×Int×ByteArray×ByteArray×Int×List (Int)×Int×(List (Int×Int×Int×List (ByteArray)×List (Bool)×Int))×Int×Unit)×(Int×Int×(List (Int×Int×Int))×(List (Int×Int))×(List ((Int×Int)×Int))×(List (Int×Int×((Int×ByteArray×ByteArray×Int×List (Int)×Int)×Int×ByteArray×ByteArray×Int×List (Int)×Int)×List (Int×Int×Int×List (ByteArray)×List (Bool)×Int)×Int))×Unit)×(Int×Int×Int×ByteArray×ByteArray×Int×List (Int)×Int×Int×ByteArray×ByteArray×Int×List (Int)×Int×(List (Int×Int×Int×List (ByteArray)×List (Bool)×Int))×Int×Unit)×Int×Unit)→Option _) (y0:(List (Int)×Int×Int×Unit)×(Int×Int×(List (Int×Int×Int))×(List (Int×Int))×(List ((Int×Int)×Int))×(List (Int×Int×((Int×ByteArray×ByteArray×Int×List (Int)×Int)×Int×ByteArray×ByteArray×Int×List (Int)×Int)×List (Int×Int×Int×List (ByteArray)×List (Bool)×Int)×Int))×Unit)×(Int×Int×Int×ByteArray×ByteArray×Int×List (Int)×Int×Int×ByteArray×ByteArray×Int×List (Int)×Int×(List (Int×Int×Int×List (ByteArray)×List (Bool)×Int))×Int×Unit)×(Int×Int×(List (Int×Int×Int))×(List (Int×Int))×(List ((Int×Int)×Int))×(List (Int×Int×((Int×ByteArray×ByteArray×Int×List (Int)×Int)×Int×ByteArray×ByteArray×Int×List (Int)×Int)×List (Int×Int×Int×List (ByteArray)×List (Bool)×Int)×Int))×Unit)×(Int×Int×Int×ByteArray×ByteArray×Int×List (Int)×Int×Int×ByteArray×ByteArray×Int×List (Int)×Int×(List (Int×Int×Int×List (ByteArray)×List (Bool)×Int))×Int×Unit)×Int×Unit) =>
((qBl k ((y0.1.1,(y0.1.2.1,(y0.1.2.2.1,()))),((6:Int),()))).bind fun p3 =>
(if(decide (y0.2.2.2.2.2.1<p3.1))=true then
((qBl k ((p3.2.1.1,(p3.2.1.2.1,(p3.2.1.2.2.1,()))),((5:Int),()))).bind fun p4 =>
(if(decide (p4.1=(0:Int)))=true then
((qBl k ((p4.2.1.1,(p4.2.1.2.1,(p4.2.1.2.2.1,()))),((3:Int),()))).bind fun p5 =>
((qGN k ((y0.2.2.2.1.1,(y0.2.2.2.1.2.1,(y0.2.2.2.1.2.2.1,(y0.2.2.2.1.2.2.2.1,(y0.2.2.2.1.2.2.2.2.1,(y0.2.2.2.1.2.2.2.2.2.1,())))))),((wi64 ((1:Int)+p5.1)),()))).bind fun p6 =>
(rec0 ((p5.2.1.1,(p5.2.1.2.1,(p5.2.1.2.2.1,()))),((y0.2.1.1,(y0.2.1.2.1,(y0.2.1.2.2.1,(y0.2.1.2.2.2.1,(y0.2.1.2.2.2.2.1,(y0.2.1.2.2.2.2.2.1,())))))),(y0.2.2.1,((p6.1.1.1,(p6.1.1.2.1,(p6.1.1.2.2.1,(p6.1.1.2.2.2.1,(p6.1.1.2.2.2.2.1,(p6.1.1.2.2.2.2.2.1,())))))),(y0.2.2.2.2.1,((wi64 (y0.2.2.2.2.2.1+(1:Int))),())))))))))
else
(if(decide (p4.1=(1:Int)))=true then
((qBl k ((p4.2.1.1,(p4.2.1.2.1,(p4.2.1.2.2.1,()))),((3:Int),()))).bind fun p7 =>
((qEB k ((p7.2.1.1,(p7.2.1.2.1,(p7.2.1.2.2.1,()))),())).bind fun p8 =>
((qEy k ((y0.2.2.2.1.1,(y0.2.2.2.1.2.1,(y0.2.2.2.1.2.2.1,(y0.2.2.2.1.2.2.2.1,(y0.2.2.2.1.2.2.2.2.1,(y0.2.2.2.1.2.2.2.2.2.1,())))))),((wi64 ((1:Int)+p7.1)),((p8.1.1,(p8.1.2.1,())),())))).bind fun p9 =>
(rec0 ((p8.2.1.1,(p8.2.1.2.1,(p8.2.1.2.2.1,()))),((y0.2.1.1,(y0.2.1.2.1,(y0.2.1.2.2.1,(y0.2.1.2.2.2.1,(y0.2.1.2.2.2.2.1,(y0.2.1.2.2.2.2.2.1,())))))),(y0.2.2.1,((p9.1.1.1,(p9.1.1.2.1,(p9.1.1.2.2.1,(p9.1.1.2.2.2.1,(p9.1.1.2.2.2.2.1,(p9.1.1.2.2.2.2.2.1,())))))),(y0.2.2.2.2.1,((wi64 (y0.2.2.2.2.2.1+(1:Int))),()))))))))))
else
((qBl k ((p4.2.1.1,(p4.2.1.2.1,(p4.2.1.2.2.1,()))),((4:Int),()))).bind fun p10 =>
((qGL k ((p10.2.1.1,(p10.2.1.2.1,(p10.2.1.2.2.1,()))),((2:Int),()))).bind fun p11 =>
((s_Join_f k ((y0.2.2.2.1.1,(y0.2.2.2.1.2.1,(y0.2.2.2.1.2.2.1,(y0.2.2.2.1.2.2.2.1,(y0.2.2.2.1.2.2.2.2.1,(y0.2.2.2.1.2.2.2.2.2.1,())))))),((wi64 ((1:Int)+p10.1)),(p11.1,(y0.2.2.2.2.2.1,()))))).bind fun p12 =>
(if p12.1.2.2.1=true then
(rec0 ((p11.2.1.1,(p11.2.1.2.1,(p11.2.1.2.2.1,()))),((y0.2.1.1,(y0.2.1.2.1,(y0.2.1.2.2.1,(y0.2.1.2.2.2.1,(y0.2.1.2.2.2.2.1,(y0.2.1.2.2.2.2.2.1,())))))),(y0.2.2.1,((p12.1.1.1,(p12.1.1.2.1,(p12.1.1.2.2.1,(p12.1.1.2.2.2.1,(p12.1.1.2.2.2.2.1,(p12.1.1.2.2.2.2.2.1,())))))),(p12.1.2.1,((wi64 (y0.2.2.2.2.2.1+(1:Int))),())))))))
else
(rec0 ((p11.2.1.1,(p11.2.1.2.1,(p11.2.1.2.2.1,()))),((y0.2.1.1,(y0.2.1.2.1,(y0.2.1.2.2.1,(y0.2.1.2.2.2.1,(y0.2.1.2.2.2.2.1,(y0.2.1.2.2.2.2.2.1,())))))),(y0.2.2.1,((y0.2.2.2.1.1,(y0.2.2.2.1.2.1,(y0.2.2.2.1.2.2.1,(y0.2.2.2.1.2.2.2.1,(y0.2.2.2.1.2.2.2.2.1,(y0.2.2.2.1.2.2.2.2.2.1,())))))),(y0.2.2.2.2.1,((wi64 (y0.2.2.2.2.2.1+(1:Int))),()))))))))))))))
else
((fun(z1:(List (Int)×Int×Int×Unit)×(Int×Int×(List (Int×Int×Int))×(List (Int×Int))×(List ((Int×Int)×Int))×(List (Int×Int×((Int×ByteArray×ByteArray×Int×List (Int)×Int)×Int×ByteArray×ByteArray×Int×List (Int)×Int)×List (Int×Int×Int×List (ByteArray)×List (Bool)×Int)×Int))×Unit)×(Int×Int×Int×ByteArray×ByteArray×Int×List (Int)×Int×Int×ByteArray×ByteArray×Int×List (Int)×Int×(List (Int×Int×Int×List (ByteArray)×List (Bool)×Int))×Int×Unit)×(Int×Int×(List (Int×Int×Int))×(List (Int×Int))×(List ((Int×Int)×Int))×(List (Int×Int×((Int×ByteArray×ByteArray×Int×List (Int)×Int)×Int×ByteArray×ByteArray×Int×List (Int)×Int)×List (Int×Int×Int×List (ByteArray)×List (Bool)×Int)×Int))×Unit)×(Int×Int×Int×ByteArray×ByteArray×Int×List (Int)×Int×Int×ByteArray×ByteArray×Int×List (Int)×Int×(List (Int×Int×Int×List (ByteArray)×List (Bool)×Int))×Int×Unit)×Unit) =>
some (((z1.2.2.2.1.1,(z1.2.2.2.1.2.1,(z1.2.2.2.1.2.2.1,(z1.2.2.2.1.2.2.2.1,(z1.2.2.2.1.2.2.2.2.1,(z1.2.2.2.1.2.2.2.2.2.1,())))))),(z1.2.2.2.2.1,())),((z1.1.1,(z1.1.2.1,(z1.1.2.2.1,()))),()))) ((p3.2.1.1,(p3.2.1.2.1,(p3.2.1.2.2.1,()))),((y0.2.1.1,(y0.2.1.2.1,(y0.2.1.2.2.1,(y0.2.1.2.2.2.1,(y0.2.1.2.2.2.2.1,(y0.2.1.2.2.2.2.2.1,())))))),(y0.2.2.1,((y0.2.2.2.1.1,(y0.2.2.2.1.2.1,(y0.2.2.2.1.2.2.1,(y0.2.2.2.1.2.2.2.1,(y0.2.2.2.1.2.2.2.2.1,(y0.2.2.2.1.2.2.2.2.2.1,())))))),(y0.2.2.2.2.1,()))))))))) k ((p1.2.1.1,(p1.2.1.2.1,(p1.2.1.2.2.1,()))),(((0:Int),((0:Int),([],([],([],([],())))))),(((0:Int),((0:Int),((0:Int),((⟨#[]⟩:ByteArray),((⟨#[]⟩:ByteArray),((0:Int),([],((0:Int),((0:Int),((⟨#[]⟩:ByteArray),((⟨#[]⟩:ByteArray),((0:Int),([],((0:Int),([],((0:Int),())))))))))))))))),((p2.1.1.1,(p2.1.1.2.1,(p2.1.1.2.2.1,(p2.1.1.2.2.2.1,(p2.1.1.2.2.2.2.1,(p2.1.1.2.2.2.2.2.1,())))))),(((0:Int),((0:Int),((0:Int),((⟨#[]⟩:ByteArray),((⟨#[]⟩:ByteArray),((0:Int),([],((0:Int),((0:Int),((⟨#[]⟩:ByteArray),((⟨#[]⟩:ByteArray),((0:Int),([],((0:Int),([],((0:Int),())))))))))))))))),((0:Int),())))))))))
abbrev E_s_l22Hub(k:Nat):qAL:=⟨50,0,(.cons (.ptr 0 yP21) .nil),(.tup (.cons (.agg yP7) (.cons (.agg yP10) .nil))),qIL k⟩
theorem t_s_l22Hub(k:Nat)(x):evF TTab k [E_s_Join_f k,E_s_AddNet_f k,E_s_Leave_f k,qDV k,E_s_l01Text k,E_s_HubNew_f k,E_s_l22Net k,qIK k] [(0,⟨[0,2,3,4,6,7],(.cons (.ptr 0 yP21) (.cons (.ptr 0 yP7) (.cons (.ptr 0 yP10) (.cons (.ptr 0 yP7) (.cons (.ptr 0 yP10) yP4)))))⟩,⟨[0,2,3,4,6],(.cons (.ptr 0 yP21) (.cons (.ptr 0 yP7) (.cons (.ptr 0 yP10) (.cons (.ptr 0 yP7) (.cons (.ptr 0 yP10) .nil)))))⟩)] Tryz.f50 (.cons (.ptr 0 yP21) .nil) (.tup (.cons (.agg yP7) (.cons (.agg yP10) .nil))) x=qIL k x:=by kernel_rfl
theorem e_s_l22Hub[Names](k:Nat):qAE Tryz.prog (E_s_l22Hub k):=qAD tok (qAA (e_s_Join_f k) (qAA (e_s_AddNet_f k) (qAA (e_s_Leave_f k) (qAA (qEW k) (qAA (e_s_l01Text k) (qAA (e_s_HubNew_f k) (qAA (e_s_l22Net k) (qAA (e_s_l08Prefix k) qAI)))))))) (by kernel_rfl) (by kernel_rfl) (by kernel_rfl) fun x r h=>(t_s_l22Hub k x).trans h
def qGz(k:Nat)(x:List (Int)×Unit):Option ((List (Int)×Int×Int×Unit)×Unit×Unit):=
(qAG (fun(rec0:(List (Int)×Int×Int×Unit)→Option _) (y0:List (Int)×Int×Int×Unit) =>
(if(decide (y0.2.2.1<(List.length y0.1:Int)))=true then
(if(decide (y0.2.2.1<(4000:Int)))=true then
(if 0≤y0.2.2.1∧y0.2.2.1<(List.length y0.1:Int) then
(rec0 (y0.1,((qAa .and .i64 (wi64 ((wi64 ((wi64 (y0.2.1*(131:Int)))+(wi64 ((Ty.rd (t:=(.int .u8)) y0.1 y0.2.2.1)))))+(7:Int))) (1073741823:Int)),((wi64 (y0.2.2.1+(1:Int))),()))))
else none)
else
((fun(z1:List (Int)×Int×Unit) =>
some ((z1.1,((0:Int),(z1.2.1,()))),((),()))) (y0.1,(y0.2.1,()))))
else
((fun(z1:List (Int)×Int×Unit) =>
some ((z1.1,((0:Int),(z1.2.1,()))),((),()))) (y0.1,(y0.2.1,()))))) k (x.1,((wi64 ((36201:Int)+(List.length x.1:Int))),((0:Int),()))))
abbrev E_s_l01New(k:Nat):qAL:=⟨51,0,(.cons (.il true (.int .u8)) .nil),(.ptr 0 yP21),qGz k⟩
theorem t_s_l01New(k:Nat)(x):evF TTab k [] [(0,⟨[0,3,4],yP21⟩,⟨[0,3],(.cons (.il true (.int .u8)) yP4)⟩)] Tryz.f51 (.cons (.il true (.int .u8)) .nil) (.ptr 0 yP21) x=qGz k x:=by kernel_rfl
theorem e_s_l01New[Names](k:Nat):qAE Tryz.prog (E_s_l01New k):=qAD tok qAI (by kernel_rfl) (by kernel_rfl) (by kernel_rfl) fun x r h=>(t_s_l01New k x).trans h
def qGO(k:Nat)(x:List (Int)×Unit):Option ((Int×Int×(List (Int×Int×Int))×(List (Int×Int))×(List ((Int×Int)×Int))×(List (Int×Int×((Int×ByteArray×ByteArray×Int×List (Int)×Int)×Int×ByteArray×ByteArray×Int×List (Int)×Int)×List (Int×Int×Int×List (ByteArray)×List (Bool)×Int)×Int))×Unit)×Unit×Unit):=
((qGz k (x.1,())).bind fun p1 =>
((qIL k ((p1.1.1,(p1.1.2.1,(p1.1.2.2.1,()))),())).bind fun p2 =>
some ((p2.1.1.1,(p2.1.1.2.1,(p2.1.1.2.2.1,(p2.1.1.2.2.2.1,(p2.1.1.2.2.2.2.1,(p2.1.1.2.2.2.2.2.1,())))))),((),()))))
abbrev E_s_DrawHub(k:Nat):qAL:=⟨11,0,(.cons (.il true (.int .u8)) .nil),(.agg yP7),qGO k⟩
theorem t_s_DrawHub(k:Nat)(x):evF TTab k [E_s_l22Hub k,E_s_l01New k] [] Tryz.f11 (.cons (.il true (.int .u8)) .nil) (.agg yP7) x=qGO k x:=by kernel_rfl
theorem e_s_DrawHub[Names](k:Nat):qAE Tryz.prog (E_s_DrawHub k):=qAD tok (qAA (e_s_l22Hub k) (qAA (e_s_l01New k) qAI)) (by kernel_rfl) (by kernel_rfl) (by kernel_rfl) fun x r h=>(t_s_DrawHub k x).trans h
def qDW(k:Nat)(x:List (Int)×Unit):Option (List (Int)×Unit×Unit):=
((qGz k (x.1,())).bind fun p1 =>
((qB4 k ((p1.1.1,(p1.1.2.1,(p1.1.2.2.1,()))),())).bind fun p2 =>
(qAG (fun(rec0:((List (Int)×Int×Int×Unit)×List (Int)×Int×Unit)→Option _) (y0:(List (Int)×Int×Int×Unit)×List (Int)×Int×Unit) =>
(if(decide (y0.2.2.1<(12:Int)))=true then
((qBl k ((y0.1.1,(y0.1.2.1,(y0.1.2.2.1,()))),((10000:Int),()))).bind fun p3 =>
(if List.length y0.2.1+List.length ([p3.1]:List (Int))≤capMax then
(rec0 ((p3.2.1.1,(p3.2.1.2.1,(p3.2.1.2.2.1,()))),((y0.2.1++([p3.1]:List (Int))),((wi64 (y0.2.2.1+(1:Int))),()))))
else none))
else
((fun(z1:List (Int)×Unit) =>
some (z1.1,((),()))) (y0.2.1,())))) k ((p2.2.1.1,(p2.2.1.2.1,(p2.2.1.2.2.1,()))),(([]:List (Int)),((0:Int),()))))))
abbrev qHK(k:Nat):qAL:=⟨12,0,(.cons (.il true (.int .u8)) .nil),yP31,qDW k⟩
theorem t_s_DrawPlaces(k:Nat)(x):evF TTab k [E_s_l01New k,qFP k,qDV k] [(0,⟨[3,4,5],(.cons (.ptr 0 yP21) (.cons yP31 yP4))⟩,⟨[4],(.cons yP31 .nil)⟩)] Tryz.f12 (.cons (.il true (.int .u8)) .nil) yP31 x=qDW k x:=by kernel_rfl
theorem e_s_DrawPlaces[Names](k:Nat):qAE Tryz.prog (qHK k):=qAD tok (qAA (e_s_l01New k) (qAA (qHh k) (qAA (qEW k) qAI))) (by kernel_rfl) (by kernel_rfl) (by kernel_rfl) fun x r h=>(t_s_DrawPlaces k x).trans h
def qDD(k:Nat)(x:(Int×Int×(List (Int×Int×Int))×(List (Int×Int))×Unit)×Unit):Option ((Int×Int×(List (Int×Int×Int))×(List (Int×Int))×Unit)×Unit×Unit):=
(if List.length ([]:List (Int×Int×Int))+List.length x.1.2.2.1≤capMax then
(if List.length ([]:List (Int×Int))+List.length x.1.2.2.2.1≤capMax then
some ((x.1.1,(x.1.2.1,((([]:List (Int×Int×Int))++x.1.2.2.1),((([]:List (Int×Int))++x.1.2.2.2.1),())))),((),()))
else none)
else none)
abbrev qEX(k:Nat):qAL:=⟨128,0,(.cons (.agg yP6) .nil),(.agg yP9),qDD k⟩
theorem t_i_copyPool(k:Nat)(x):evF TTab k [] [] Tryz.f128 (.cons (.agg yP6) .nil) (.agg yP9) x=qDD k x:=by kernel_rfl
theorem qGP[Names](k:Nat):qAE Tryz.prog (qEX k):=qAD tok qAI (by kernel_rfl) (by kernel_rfl) (by kernel_rfl) fun x r h=>(t_i_copyPool k x).trans h
def qBF(k:Nat)(x:(List ((Int×Int)×Int))×Unit):Option ((List ((Int×Int)×Int))×Unit×Unit):=
(if List.length ([]:List ((Int×Int)×Int))+List.length x.1≤capMax then
some ((([]:List ((Int×Int)×Int))++x.1),((),()))
else none)
abbrev qCc(k:Nat):qAL:=⟨129,0,(.cons yP20 .nil),yP16,qBF k⟩
theorem t_i_copyRoutes(k:Nat)(x):evF TTab k [] [] Tryz.f129 (.cons yP20 .nil) yP16 x=qBF k x:=by kernel_rfl
theorem qDP[Names](k:Nat):qAE Tryz.prog (qCc k):=qAD tok qAI (by kernel_rfl) (by kernel_rfl) (by kernel_rfl) fun x r h=>(t_i_copyRoutes k x).trans h
def qEz(k:Nat)(x:List (Int)×Unit):Option (List (Int)×Unit×Unit):=
(if List.length ([]:List (Int))+List.length x.1≤capMax then
some ((([]:List (Int))++x.1),((),()))
else none)
abbrev E_i_copyInts(k:Nat):qAL:=⟨254,0,(.cons (.il true (.int .i64)) .nil),yP31,qEz k⟩
theorem t_i_copyInts(k:Nat)(x):evF TTab k [] [] Tryz.f254 (.cons (.il true (.int .i64)) .nil) yP31 x=qEz k x:=by kernel_rfl
theorem e_i_copyInts[Names](k:Nat):qAE Tryz.prog (E_i_copyInts k):=qAD tok qAI (by kernel_rfl) (by kernel_rfl) (by kernel_rfl) fun x r h=>(t_i_copyInts k x).trans h
def qDE(k:Nat)(x:(Int×ByteArray×ByteArray×Int×List (Int)×Int×Int×ByteArray×ByteArray×Int×List (Int)×Int×Unit)×Unit):Option ((Int×ByteArray×ByteArray×Int×List (Int)×Int×Int×ByteArray×ByteArray×Int×List (Int)×Int×Unit)×Unit×Unit):=
((qEz k (x.1.2.2.2.2.1,())).bind fun p1 =>
((qEz k (x.1.2.2.2.2.2.2.2.2.2.2.1,())).bind fun p2 =>
some ((x.1.1,(x.1.2.1,(x.1.2.2.1,(x.1.2.2.2.1,(p1.1,(x.1.2.2.2.2.2.1,(x.1.2.2.2.2.2.2.1,(x.1.2.2.2.2.2.2.2.1,(x.1.2.2.2.2.2.2.2.2.1,(x.1.2.2.2.2.2.2.2.2.2.1,(p2.1,(x.1.2.2.2.2.2.2.2.2.2.2.2.1,())))))))))))),((),()))))
abbrev qFQ(k:Nat):qAL:=⟨183,0,(.cons yP13 .nil),yP11,qDE k⟩
theorem t_i_copySlots(k:Nat)(x):evF TTab k [E_i_copyInts k] [] Tryz.f183 (.cons yP13 .nil) yP11 x=qDE k x:=by kernel_rfl
theorem qIM[Names](k:Nat):qAE Tryz.prog (qFQ k):=qAD tok (qAA (e_i_copyInts k) qAI) (by kernel_rfl) (by kernel_rfl) (by kernel_rfl) fun x r h=>(t_i_copySlots k x).trans h
def qEC(k:Nat)(x:List (ByteArray)×Unit):Option (List (ByteArray)×Unit×Unit):=
(if List.length ([]:List (ByteArray))+List.length x.1≤capMax then
some ((([]:List (ByteArray))++x.1),((),()))
else none)
abbrev qIN(k:Nat):qAL:=⟨255,0,(.cons (.il true .str) .nil),(.own false 9 .str),qEC k⟩
theorem t_i_copyTexts(k:Nat)(x):evF TTab k [] [] Tryz.f255 (.cons (.il true .str) .nil) (.own false 9 .str) x=qEC k x:=by kernel_rfl
theorem e_i_copyTexts[Names](k:Nat):qAE Tryz.prog (qIN k):=qAD tok qAI (by kernel_rfl) (by kernel_rfl) (by kernel_rfl) fun x r h=>(t_i_copyTexts k x).trans h
def qED(k:Nat)(x:((List (Int×Int×Int×List (ByteArray)×List (Bool)×Int))×Unit)×Unit):Option (((List (Int×Int×Int×List (ByteArray)×List (Bool)×Int))×Unit)×Unit×Unit):=
(qAG (fun(rec0:(((List (Int×Int×Int×List (ByteArray)×List (Bool)×Int))×Unit)×((List (Int×Int×Int×List (ByteArray)×List (Bool)×Int))×Unit)×(List (Int×Int×Int×List (ByteArray)×List (Bool)×Int))×Int×Int×Unit)→Option _) (y0:((List (Int×Int×Int×List (ByteArray)×List (Bool)×Int))×Unit)×((List (Int×Int×Int×List (ByteArray)×List (Bool)×Int))×Unit)×(List (Int×Int×Int×List (ByteArray)×List (Bool)×Int))×Int×Int×Unit) =>
(if(decide (y0.2.2.2.2.1<y0.2.2.2.1))=true then
(if 0≤y0.2.2.2.2.1∧y0.2.2.2.2.1<(List.length y0.2.2.1:Int) then
((qEC k ((Ty.rd (t:=yT5) y0.2.2.1 y0.2.2.2.2.1).2.2.2.1,())).bind fun p1 =>
(if List.length ([]:List (Bool))+List.length (Ty.rd (t:=yT5) y0.2.2.1 y0.2.2.2.2.1).2.2.2.2.1≤capMax then
(if List.length y0.2.1.1+List.length ([((Ty.rd (t:=yT5) y0.2.2.1 y0.2.2.2.2.1).1,((Ty.rd (t:=yT5) y0.2.2.1 y0.2.2.2.2.1).2.1,((Ty.rd (t:=yT5) y0.2.2.1 y0.2.2.2.2.1).2.2.1,(p1.1,((([]:List (Bool))++(Ty.rd (t:=yT5) y0.2.2.1 y0.2.2.2.2.1).2.2.2.2.1),(Ty.rd (t:=yT5) y0.2.2.1 y0.2.2.2.2.1).2.2.2.2.2)))))]:List (Int×Int×Int×List (ByteArray)×List (Bool)×Int))≤capMax then
(rec0 ((y0.1.1,()),(((y0.2.1.1++([((Ty.rd (t:=yT5) y0.2.2.1 y0.2.2.2.2.1).1,((Ty.rd (t:=yT5) y0.2.2.1 y0.2.2.2.2.1).2.1,((Ty.rd (t:=yT5) y0.2.2.1 y0.2.2.2.2.1).2.2.1,(p1.1,((([]:List (Bool))++(Ty.rd (t:=yT5) y0.2.2.1 y0.2.2.2.2.1).2.2.2.2.1),(Ty.rd (t:=yT5) y0.2.2.1 y0.2.2.2.2.1).2.2.2.2.2)))))]:List (Int×Int×Int×List (ByteArray)×List (Bool)×Int))),()),(y0.2.2.1,(y0.2.2.2.1,((wi64 (y0.2.2.2.2.1+(1:Int))),()))))))
else none)
else none))
else none)
else
((fun(z1:((List (Int×Int×Int×List (ByteArray)×List (Bool)×Int))×Unit)×((List (Int×Int×Int×List (ByteArray)×List (Bool)×Int))×Unit)×Unit) =>
some ((z1.2.1.1,()),((),()))) ((y0.1.1,()),((y0.2.1.1,()),()))))) k (([],()),(([],()),(x.1.1,((List.length x.1.1:Int),((0:Int),()))))))
abbrev qIO(k:Nat):qAL:=⟨184,0,(.cons (.agg (.cons (.il true yT5) .nil)) .nil),(.agg (.cons (.own false 229 yT25) .nil)),qED k⟩
theorem t_i_copyShelf(k:Nat)(x):evF TTabO k [qIN k] [(0,⟨[2,3,8,9,10],(.cons (.ptr 0 (.cons (.own false 229 yT25) .nil)) (.cons (.ptr 0 (.cons (.own false 229 yT25) .nil)) (.cons (.il true yT5) (.cons (.int .i64) yP4))))⟩,⟨[2,3],(.cons (.ptr 0 (.cons (.own false 229 yT25) .nil)) (.cons (.ptr 0 (.cons (.own false 229 yT25) .nil)) .nil))⟩)] Tryz.f184 (.cons (.agg (.cons (.il true yT5) .nil)) .nil) (.agg (.cons (.own false 229 yT25) .nil)) x=qED k x:=by kernel_rfl
theorem e_i_copyShelf[Names](k:Nat):qAE Tryz.prog (qIO k):=qAD tokO (qAA (e_i_copyTexts k) qAI) (by kernel_rfl) (by kernel_rfl) (by kernel_rfl) fun x r h=>(t_i_copyShelf k x).trans h
def qE0(k:Nat)(x:(Int×Int×Int×ByteArray×ByteArray×Int×List (Int)×Int×Int×ByteArray×ByteArray×Int×List (Int)×Int×(List (Int×Int×Int×List (ByteArray)×List (Bool)×Int))×Int×Unit)×Unit):Option ((Int×Int×Int×ByteArray×ByteArray×Int×List (Int)×Int×Int×ByteArray×ByteArray×Int×List (Int)×Int×(List (Int×Int×Int×List (ByteArray)×List (Bool)×Int))×Int×Unit)×Unit×Unit):=
((qDE k ((x.1.2.2.1,(x.1.2.2.2.1,(x.1.2.2.2.2.1,(x.1.2.2.2.2.2.1,(x.1.2.2.2.2.2.2.1,(x.1.2.2.2.2.2.2.2.1,(x.1.2.2.2.2.2.2.2.2.1,(x.1.2.2.2.2.2.2.2.2.2.1,(x.1.2.2.2.2.2.2.2.2.2.2.1,(x.1.2.2.2.2.2.2.2.2.2.2.2.1,(x.1.2.2.2.2.2.2.2.2.2.2.2.2.1,(x.1.2.2.2.2.2.2.2.2.2.2.2.2.2.1,())))))))))))),())).bind fun p1 =>
((qED k ((x.1.2.2.2.2.2.2.2.2.2.2.2.2.2.2.1,()),())).bind fun p2 =>
some ((x.1.1,(x.1.2.1,(p1.1.1,(p1.1.2.1,(p1.1.2.2.1,(p1.1.2.2.2.1,(p1.1.2.2.2.2.1,(p1.1.2.2.2.2.2.1,(p1.1.2.2.2.2.2.2.1,(p1.1.2.2.2.2.2.2.2.1,(p1.1.2.2.2.2.2.2.2.2.1,(p1.1.2.2.2.2.2.2.2.2.2.1,(p1.1.2.2.2.2.2.2.2.2.2.2.1,(p1.1.2.2.2.2.2.2.2.2.2.2.2.1,(p2.1.1,(x.1.2.2.2.2.2.2.2.2.2.2.2.2.2.2.2.1,())))))))))))))))),((),()))))
abbrev E_i_copyUser(k:Nat):qAL:=⟨100,0,(.cons yP17 .nil),(.agg yP8),qE0 k⟩
theorem t_i_copyUser(k:Nat)(x):evF TTabO k [qFQ k,qIO k] [] Tryz.f100 (.cons yP17 .nil) (.agg yP8) x=qE0 k x:=by kernel_rfl
theorem e_i_copyUser[Names](k:Nat):qAE Tryz.prog (E_i_copyUser k):=qAD tokO (qAA (qIM k) (qAA (e_i_copyShelf k) qAI)) (by kernel_rfl) (by kernel_rfl) (by kernel_rfl) fun x r h=>(t_i_copyUser k x).trans h
def qEE(k:Nat)(x:(List (Int×Int×((Int×ByteArray×ByteArray×Int×List (Int)×Int)×Int×ByteArray×ByteArray×Int×List (Int)×Int)×List (Int×Int×Int×List (ByteArray)×List (Bool)×Int)×Int))×Unit):Option ((List (Int×Int×((Int×ByteArray×ByteArray×Int×List (Int)×Int)×Int×ByteArray×ByteArray×Int×List (Int)×Int)×List (Int×Int×Int×List (ByteArray)×List (Bool)×Int)×Int))×Unit×Unit):=
(qAG (fun(rec0:((List (Int×Int×((Int×ByteArray×ByteArray×Int×List (Int)×Int)×Int×ByteArray×ByteArray×Int×List (Int)×Int)×List (Int×Int×Int×List (ByteArray)×List (Bool)×Int)×Int))×(List (Int×Int×((Int×ByteArray×ByteArray×Int×List (Int)×Int)×Int×ByteArray×ByteArray×Int×List (Int)×Int)×List (Int×Int×Int×List (ByteArray)×List (Bool)×Int)×Int))×Int×Int×Unit)→Option _) (y0:(List (Int×Int×((Int×ByteArray×ByteArray×Int×List (Int)×Int)×Int×ByteArray×ByteArray×Int×List (Int)×Int)×List (Int×Int×Int×List (ByteArray)×List (Bool)×Int)×Int))×(List (Int×Int×((Int×ByteArray×ByteArray×Int×List (Int)×Int)×Int×ByteArray×ByteArray×Int×List (Int)×Int)×List (Int×Int×Int×List (ByteArray)×List (Bool)×Int)×Int))×Int×Int×Unit) =>
(if(decide (y0.2.2.2.1<y0.2.2.1))=true then
(if 0≤y0.2.2.2.1∧y0.2.2.2.1<(List.length y0.2.1:Int) then
((qE0 k (((Ty.rd (t:=yT0) y0.2.1 y0.2.2.2.1).1,((Ty.rd (t:=yT0) y0.2.1 y0.2.2.2.1).2.1,((Ty.rd (t:=yT0) y0.2.1 y0.2.2.2.1).2.2.1.1.1,((Ty.rd (t:=yT0) y0.2.1 y0.2.2.2.1).2.2.1.1.2.1,((Ty.rd (t:=yT0) y0.2.1 y0.2.2.2.1).2.2.1.1.2.2.1,((Ty.rd (t:=yT0) y0.2.1 y0.2.2.2.1).2.2.1.1.2.2.2.1,((Ty.rd (t:=yT0) y0.2.1 y0.2.2.2.1).2.2.1.1.2.2.2.2.1,((Ty.rd (t:=yT0) y0.2.1 y0.2.2.2.1).2.2.1.1.2.2.2.2.2,((Ty.rd (t:=yT0) y0.2.1 y0.2.2.2.1).2.2.1.2.1,((Ty.rd (t:=yT0) y0.2.1 y0.2.2.2.1).2.2.1.2.2.1,((Ty.rd (t:=yT0) y0.2.1 y0.2.2.2.1).2.2.1.2.2.2.1,((Ty.rd (t:=yT0) y0.2.1 y0.2.2.2.1).2.2.1.2.2.2.2.1,((Ty.rd (t:=yT0) y0.2.1 y0.2.2.2.1).2.2.1.2.2.2.2.2.1,((Ty.rd (t:=yT0) y0.2.1 y0.2.2.2.1).2.2.1.2.2.2.2.2.2,((Ty.rd (t:=yT0) y0.2.1 y0.2.2.2.1).2.2.2.1,((Ty.rd (t:=yT0) y0.2.1 y0.2.2.2.1).2.2.2.2,())))))))))))))))),())).bind fun p1 =>
(if List.length y0.1+List.length ([(p1.1.1,(p1.1.2.1,(((p1.1.2.2.1,(p1.1.2.2.2.1,(p1.1.2.2.2.2.1,(p1.1.2.2.2.2.2.1,(p1.1.2.2.2.2.2.2.1,p1.1.2.2.2.2.2.2.2.1))))),(p1.1.2.2.2.2.2.2.2.2.1,(p1.1.2.2.2.2.2.2.2.2.2.1,(p1.1.2.2.2.2.2.2.2.2.2.2.1,(p1.1.2.2.2.2.2.2.2.2.2.2.2.1,(p1.1.2.2.2.2.2.2.2.2.2.2.2.2.1,p1.1.2.2.2.2.2.2.2.2.2.2.2.2.2.1)))))),(p1.1.2.2.2.2.2.2.2.2.2.2.2.2.2.2.1,p1.1.2.2.2.2.2.2.2.2.2.2.2.2.2.2.2.1))))]:List (Int×Int×((Int×ByteArray×ByteArray×Int×List (Int)×Int)×Int×ByteArray×ByteArray×Int×List (Int)×Int)×List (Int×Int×Int×List (ByteArray)×List (Bool)×Int)×Int))≤capMax then
(rec0 ((y0.1++([(p1.1.1,(p1.1.2.1,(((p1.1.2.2.1,(p1.1.2.2.2.1,(p1.1.2.2.2.2.1,(p1.1.2.2.2.2.2.1,(p1.1.2.2.2.2.2.2.1,p1.1.2.2.2.2.2.2.2.1))))),(p1.1.2.2.2.2.2.2.2.2.1,(p1.1.2.2.2.2.2.2.2.2.2.1,(p1.1.2.2.2.2.2.2.2.2.2.2.1,(p1.1.2.2.2.2.2.2.2.2.2.2.2.1,(p1.1.2.2.2.2.2.2.2.2.2.2.2.2.1,p1.1.2.2.2.2.2.2.2.2.2.2.2.2.2.1)))))),(p1.1.2.2.2.2.2.2.2.2.2.2.2.2.2.2.1,p1.1.2.2.2.2.2.2.2.2.2.2.2.2.2.2.2.1))))]:List (Int×Int×((Int×ByteArray×ByteArray×Int×List (Int)×Int)×Int×ByteArray×ByteArray×Int×List (Int)×Int)×List (Int×Int×Int×List (ByteArray)×List (Bool)×Int)×Int))),(y0.2.1,(y0.2.2.1,((wi64 (y0.2.2.2.1+(1:Int))),())))))
else none))
else none)
else
((fun(z1:(List (Int×Int×((Int×ByteArray×ByteArray×Int×List (Int)×Int)×Int×ByteArray×ByteArray×Int×List (Int)×Int)×List (Int×Int×Int×List (ByteArray)×List (Bool)×Int)×Int))×Unit) =>
some (z1.1,((),()))) (y0.1,())))) k (([]:List (Int×Int×((Int×ByteArray×ByteArray×Int×List (Int)×Int)×Int×ByteArray×ByteArray×Int×List (Int)×Int)×List (Int×Int×Int×List (ByteArray)×List (Bool)×Int)×Int)),(x.1,((List.length x.1:Int),((0:Int),())))))
abbrev qIP(k:Nat):qAL:=⟨130,0,(.cons (.il true yT0) .nil),(.own false 45 yT2),qEE k⟩
theorem t_i_copyUsers(k:Nat)(x):evF TTabO k [E_i_copyUser k] [(0,⟨[3,7,8,9],(.cons (.own false 45 yT2) (.cons (.il true yT0) (.cons (.int .i64) yP4)))⟩,⟨[3],(.cons (.own false 45 yT2) .nil)⟩)] Tryz.f130 (.cons (.il true yT0) .nil) (.own false 45 yT2) x=qEE k x:=by kernel_rfl
theorem e_i_copyUsers[Names](k:Nat):qAE Tryz.prog (qIP k):=qAD tokO (qAA (e_i_copyUser k) qAI) (by kernel_rfl) (by kernel_rfl) (by kernel_rfl) fun x r h=>(t_i_copyUsers k x).trans h
def qE1(k:Nat)(x:(Int×Int×(List (Int×Int×Int))×(List (Int×Int))×(List ((Int×Int)×Int))×(List (Int×Int×((Int×ByteArray×ByteArray×Int×List (Int)×Int)×Int×ByteArray×ByteArray×Int×List (Int)×Int)×List (Int×Int×Int×List (ByteArray)×List (Bool)×Int)×Int))×Unit)×Unit):Option ((Int×Int×(List (Int×Int×Int))×(List (Int×Int))×(List ((Int×Int)×Int))×(List (Int×Int×((Int×ByteArray×ByteArray×Int×List (Int)×Int)×Int×ByteArray×ByteArray×Int×List (Int)×Int)×List (Int×Int×Int×List (ByteArray)×List (Bool)×Int)×Int))×Unit)×Unit×Unit):=
((qDD k ((x.1.1,(x.1.2.1,(x.1.2.2.1,(x.1.2.2.2.1,())))),())).bind fun p1 =>
((qBF k (x.1.2.2.2.2.1,())).bind fun p2 =>
((qEE k (x.1.2.2.2.2.2.1,())).bind fun p3 =>
some ((p1.1.1,(p1.1.2.1,(p1.1.2.2.1,(p1.1.2.2.2.1,(p2.1,(p3.1,())))))),((),())))))
abbrev qHi(k:Nat):qAL:=⟨54,0,(.cons yP14 .nil),(.agg yP15),qE1 k⟩
theorem t_i_copyHub(k:Nat)(x):evF TTabO k [qEX k,qCc k,qIP k] [] Tryz.f54 (.cons yP14 .nil) (.agg yP15) x=qE1 k x:=by kernel_rfl
theorem e_i_copyHub[Names](k:Nat):qAE Tryz.prog (qHi k):=qAD tokO (qAA (qGP k) (qAA (qDP k) (qAA (e_i_copyUsers k) qAI))) (by kernel_rfl) (by kernel_rfl) (by kernel_rfl) fun x r h=>(t_i_copyHub k x).trans h
def qBh(k:Nat)(x:Int×Int×Int×Unit):Option (Bool×Unit×Unit×Unit×Unit):=
(if(decide (x.2.1≤x.1))=true then
some ((decide (x.1≤x.2.2.1)),((),((),((),()))))
else
some (false,((),((),((),())))))
abbrev qBu(k:Nat):qAL:=⟨55,0,yP22,.bool,qBh k⟩
theorem t_i_within(k:Nat)(x):evF TTab k [] [] Tryz.f55 yP22 .bool x=qBh k x:=by kernel_rfl
theorem qB7[Names](k:Nat):qAE Tryz.prog (qBu k):=qAD tok qAI (by kernel_rfl) (by kernel_rfl) (by kernel_rfl) fun x r h=>(t_i_within k x).trans h
def qG0(k:Nat)(x:(Int×Int×Int×ByteArray×ByteArray×Int×List (Int)×Int×Int×ByteArray×ByteArray×Int×List (Int)×Int×(List (Int×Int×Int×List (ByteArray)×List (Bool)×Int))×Int×Unit)×(Int×Unit)×Unit):Option (Bool×Unit×(Int×Unit)×Unit):=
some ((decide (x.1.1=x.2.1.1)),((),((x.2.1.1,()),())))
abbrev E_i_userAt_1(k:Nat):qAL:=⟨132,0,(.cons yP17 yP28),.bool,qG0 k⟩
theorem t_i_userAt_1(k:Nat)(x):evF TTabO k [] [] Tryz.f132 (.cons yP17 yP28) .bool x=qG0 k x:=by kernel_rfl
theorem e_i_userAt_1[Names](k:Nat):qAE Tryz.prog (E_i_userAt_1 k):=qAD tokO qAI (by kernel_rfl) (by kernel_rfl) (by kernel_rfl) fun x r h=>(t_i_userAt_1 k x).trans h
def qAR(k:Nat)(x:(List (Int×Int×((Int×ByteArray×ByteArray×Int×List (Int)×Int)×Int×ByteArray×ByteArray×Int×List (Int)×Int)×List (Int×Int×Int×List (ByteArray)×List (Bool)×Int)×Int))×((Int×Unit)×Unit)×Unit):Option (Int×Unit×((Int×Unit)×Unit)×Unit):=
(qAG (fun(rec0:((List (Int×Int×((Int×ByteArray×ByteArray×Int×List (Int)×Int)×Int×ByteArray×ByteArray×Int×List (Int)×Int)×List (Int×Int×Int×List (ByteArray)×List (Bool)×Int)×Int))×((Int×Unit)×Unit)×Int×Int×Unit)→Option _) (y0:(List (Int×Int×((Int×ByteArray×ByteArray×Int×List (Int)×Int)×Int×ByteArray×ByteArray×Int×List (Int)×Int)×List (Int×Int×Int×List (ByteArray)×List (Bool)×Int)×Int))×((Int×Unit)×Unit)×Int×Int×Unit) =>
(if(decide (y0.2.2.2.1<y0.2.2.1))=true then
(if 0≤y0.2.2.2.1∧y0.2.2.2.1<(List.length y0.1:Int) then
((qG0 k (((Ty.rd (t:=yT0) y0.1 y0.2.2.2.1).1,((Ty.rd (t:=yT0) y0.1 y0.2.2.2.1).2.1,((Ty.rd (t:=yT0) y0.1 y0.2.2.2.1).2.2.1.1.1,((Ty.rd (t:=yT0) y0.1 y0.2.2.2.1).2.2.1.1.2.1,((Ty.rd (t:=yT0) y0.1 y0.2.2.2.1).2.2.1.1.2.2.1,((Ty.rd (t:=yT0) y0.1 y0.2.2.2.1).2.2.1.1.2.2.2.1,((Ty.rd (t:=yT0) y0.1 y0.2.2.2.1).2.2.1.1.2.2.2.2.1,((Ty.rd (t:=yT0) y0.1 y0.2.2.2.1).2.2.1.1.2.2.2.2.2,((Ty.rd (t:=yT0) y0.1 y0.2.2.2.1).2.2.1.2.1,((Ty.rd (t:=yT0) y0.1 y0.2.2.2.1).2.2.1.2.2.1,((Ty.rd (t:=yT0) y0.1 y0.2.2.2.1).2.2.1.2.2.2.1,((Ty.rd (t:=yT0) y0.1 y0.2.2.2.1).2.2.1.2.2.2.2.1,((Ty.rd (t:=yT0) y0.1 y0.2.2.2.1).2.2.1.2.2.2.2.2.1,((Ty.rd (t:=yT0) y0.1 y0.2.2.2.1).2.2.1.2.2.2.2.2.2,((Ty.rd (t:=yT0) y0.1 y0.2.2.2.1).2.2.2.1,((Ty.rd (t:=yT0) y0.1 y0.2.2.2.1).2.2.2.2,())))))))))))))))),((y0.2.1.1.1,()),()))).bind fun p1 =>
(if p1.1=true then
some (y0.2.2.2.1,((),(((p1.2.2.1.1,()),()),())))
else
(rec0 (y0.1,(((p1.2.2.1.1,()),()),(y0.2.2.1,((wi64 (y0.2.2.2.1+(1:Int))),())))))))
else none)
else
((fun(z1:((Int×Unit)×Unit)×Unit) =>
some ((-1:Int),((),(((z1.1.1.1,()),()),())))) (((y0.2.1.1.1,()),()),())))) k (x.1,(((x.2.1.1.1,()),()),((List.length x.1:Int),((0:Int),())))))
abbrev qAr(k:Nat):qAL:=⟨131,133,(.cons (.il true yT0) (.cons (.fn 132 yP28) .nil)),(.int .i64),qAR k⟩
theorem qBU(k:Nat)(x):evF TTabO k [E_i_userAt_1 k] [(0,⟨[0,1,7,8],(.cons (.il true yT0) (.cons (.fn 132 yP28) (.cons (.int .i64) yP4)))⟩,⟨[1],(.cons (.fn 132 yP28) .nil)⟩)] Tryz.f131 (.cons (.il true yT0) (.cons (.fn 132 yP28) .nil)) (.int .i64) x=qAR k x:=by kernel_rfl
theorem qBV[Names](k:Nat):qAE Tryz.prog (qAr k):=qAD tokO (qAA (e_i_userAt_1 k) qAI) (by kernel_rfl) (by kernel_rfl) (by kernel_rfl) fun x r h=>(qBU k x).trans h
def qG1(k:Nat)(x:(List (Int×Int×((Int×ByteArray×ByteArray×Int×List (Int)×Int)×Int×ByteArray×ByteArray×Int×List (Int)×Int)×List (Int×Int×Int×List (ByteArray)×List (Bool)×Int)×Int))×Int×Unit):Option (Int×Unit×Unit×Unit):=
((qAR k (x.1,(((x.2.1,()),()),()))).bind fun p1 =>
some (p1.1,((),((),()))))
abbrev E_i_userAt(k:Nat):qAL:=⟨56,0,(.cons (.il true yT0) yP4),(.int .i64),qG1 k⟩
theorem t_i_userAt(k:Nat)(x):evF TTabO k [qAr k] [] Tryz.f56 (.cons (.il true yT0) yP4) (.int .i64) x=qG1 k x:=by kernel_rfl
theorem e_i_userAt[Names](k:Nat):qAE Tryz.prog (E_i_userAt k):=qAD tokO (qAA (qBV k) qAI) (by kernel_rfl) (by kernel_rfl) (by kernel_rfl) fun x r h=>(t_i_userAt k x).trans h
def qIQ(k:Nat)(x:Int×Unit):Option (Bool×Unit×Unit):=
((qBh k (x.1,((1:Int),((99:Int),())))).bind fun p1 =>
some (p1.1,((),())))
abbrev qIR(k:Nat):qAL:=⟨133,0,yP4,.bool,qIQ k⟩
theorem t_i_isId(k:Nat)(x):evF TTab k [qBu k] [] Tryz.f133 yP4 .bool x=qIQ k x:=by kernel_rfl
theorem e_i_isId[Names](k:Nat):qAE Tryz.prog (qIR k):=qAD tok (qAA (qB7 k) qAI) (by kernel_rfl) (by kernel_rfl) (by kernel_rfl) fun x r h=>(t_i_isId k x).trans h
def qFR(k:Nat)(x:(Int×Int×Int×Unit)×(Int×Unit)×Unit):Option (Bool×Unit×(Int×Unit)×Unit):=
some ((decide (x.1.2.1=x.2.1.1)),((),((x.2.1.1,()),())))
abbrev qIS(k:Nat):qAL:=⟨218,0,(.cons (.agg yP22) yP28),.bool,qFR k⟩
theorem t_i_leaseOf_1(k:Nat)(x):evF TTab k [] [] Tryz.f218 (.cons (.agg yP22) yP28) .bool x=qFR k x:=by kernel_rfl
theorem e_i_leaseOf_1[Names](k:Nat):qAE Tryz.prog (qIS k):=qAD tok qAI (by kernel_rfl) (by kernel_rfl) (by kernel_rfl) fun x r h=>(t_i_leaseOf_1 k x).trans h
def qAM(k:Nat)(x:(List (Int×Int×Int))×((Int×Unit)×Unit)×Unit):Option (Int×Unit×((Int×Unit)×Unit)×Unit):=
(qAG (fun(rec0:((List (Int×Int×Int))×((Int×Unit)×Unit)×Int×Int×Unit)→Option _) (y0:(List (Int×Int×Int))×((Int×Unit)×Unit)×Int×Int×Unit) =>
(if(decide (y0.2.2.2.1<y0.2.2.1))=true then
(if 0≤y0.2.2.2.1∧y0.2.2.2.1<(List.length y0.1:Int) then
((qFR k (((Ty.rd (t:=(.pair (.int .i64) yT3)) y0.1 y0.2.2.2.1).1,((Ty.rd (t:=(.pair (.int .i64) yT3)) y0.1 y0.2.2.2.1).2.1,((Ty.rd (t:=(.pair (.int .i64) yT3)) y0.1 y0.2.2.2.1).2.2,()))),((y0.2.1.1.1,()),()))).bind fun p1 =>
(if p1.1=true then
some (y0.2.2.2.1,((),(((p1.2.2.1.1,()),()),())))
else
(rec0 (y0.1,(((p1.2.2.1.1,()),()),(y0.2.2.1,((wi64 (y0.2.2.2.1+(1:Int))),())))))))
else none)
else
((fun(z1:((Int×Unit)×Unit)×Unit) =>
some ((-1:Int),((),(((z1.1.1.1,()),()),())))) (((y0.2.1.1.1,()),()),())))) k (x.1,(((x.2.1.1.1,()),()),((List.length x.1:Int),((0:Int),())))))
abbrev qAn(k:Nat):qAL:=⟨217,219,(.cons (.il true (.pair (.int .i64) yT3)) (.cons (.fn 218 yP28) .nil)),(.int .i64),qAM k⟩
theorem qBG(k:Nat)(x):evF TTab k [qIS k] [(0,⟨[0,1,7,8],(.cons (.il true (.pair (.int .i64) yT3)) (.cons (.fn 218 yP28) (.cons (.int .i64) yP4)))⟩,⟨[1],(.cons (.fn 218 yP28) .nil)⟩)] Tryz.f217 (.cons (.il true (.pair (.int .i64) yT3)) (.cons (.fn 218 yP28) .nil)) (.int .i64) x=qAM k x:=by kernel_rfl
theorem qBH[Names](k:Nat):qAE Tryz.prog (qAn k):=qAD tok (qAA (e_i_leaseOf_1 k) qAI) (by kernel_rfl) (by kernel_rfl) (by kernel_rfl) fun x r h=>(qBG k x).trans h
def qDX(k:Nat)(x:(Int×Int×(List (Int×Int×Int))×(List (Int×Int))×Unit)×Int×Unit):Option (Int×Unit×Unit×Unit):=
((qAM k (x.1.2.2.1,(((x.2.1,()),()),()))).bind fun p1 =>
some (p1.1,((),((),()))))
abbrev qFS(k:Nat):qAL:=⟨134,0,(.cons (.agg yP6) yP4),(.int .i64),qDX k⟩
theorem t_i_leaseOf(k:Nat)(x):evF TTab k [qAn k] [] Tryz.f134 (.cons (.agg yP6) yP4) (.int .i64) x=qDX k x:=by kernel_rfl
theorem qHj[Names](k:Nat):qAE Tryz.prog (qFS k):=qAD tok (qAA (qBH k) qAI) (by kernel_rfl) (by kernel_rfl) (by kernel_rfl) fun x r h=>(t_i_leaseOf k x).trans h
def qIT(k:Nat)(x:Int×Unit):Option (Bool×Unit×Unit):=
((qBh k (x.1,((0:Int),((4294967295:Int),())))).bind fun p1 =>
some (p1.1,((),())))
abbrev E_i_AddrOk(k:Nat):qAL:=⟨236,0,yP4,.bool,qIT k⟩
theorem t_i_AddrOk(k:Nat)(x):evF TTab k [qBu k] [] Tryz.f236 yP4 .bool x=qIT k x:=by kernel_rfl
theorem e_i_AddrOk[Names](k:Nat):qAE Tryz.prog (E_i_AddrOk k):=qAD tok (qAA (qB7 k) qAI) (by kernel_rfl) (by kernel_rfl) (by kernel_rfl) fun x r h=>(t_i_AddrOk k x).trans h
def qDF(k:Nat)(x:Int×Unit):Option (Int×Unit×Unit):=
(if(wi64 ((32:Int)-x.1))<0 then
none
else
some ((wi64 ((wi64 ((1:Int)*2^(min (Int.toNat (wi64 ((32:Int)-x.1))) (IntKind.bits .i64))))-(1:Int))),((),())))
abbrev qEY(k:Nat):qAL:=⟨237,0,yP4,(.int .i64),qDF k⟩
theorem t_i_lastBits(k:Nat)(x):evF TTab k [] [] Tryz.f237 yP4 (.int .i64) x=qDF k x:=by kernel_rfl
theorem qGQ[Names](k:Nat):qAE Tryz.prog (qEY k):=qAD tok qAI (by kernel_rfl) (by kernel_rfl) (by kernel_rfl) fun x r h=>(t_i_lastBits k x).trans h
def qDG(k:Nat)(x:(Int×Int×Unit)×Unit):Option (Bool×Unit×Unit):=
((qIT k (x.1.1,())).bind fun p1 =>
(if p1.1=true then
((qBh k (x.1.2.1,((0:Int),((32:Int),())))).bind fun p2 =>
(if p2.1=true then
((qDF k (x.1.2.1,())).bind fun p3 =>
some ((decide ((qAa .and .i64 x.1.1 p3.1)=(0:Int))),((),())))
else
some (false,((),()))))
else
some (false,((),()))))
abbrev qEZ(k:Nat):qAL:=⟨211,0,(.cons yP27 .nil),.bool,qDG k⟩
theorem t_i_PrefixOk(k:Nat)(x):evF TTab k [qBu k,E_i_AddrOk k,qEY k] [] Tryz.f211 (.cons yP27 .nil) .bool x=qDG k x:=by kernel_rfl
theorem qGR[Names](k:Nat):qAE Tryz.prog (qEZ k):=qAD tok (qAA (qB7 k) (qAA (e_i_AddrOk k) (qAA (qGQ k) qAI))) (by kernel_rfl) (by kernel_rfl) (by kernel_rfl) fun x r h=>(t_i_PrefixOk k x).trans h
def qDt(k:Nat)(x:(Int×Int×Unit)×Int×Unit):Option (Bool×Unit×Unit×Unit):=
((qDG k ((x.1.1,(x.1.2.1,())),())).bind fun p1 =>
(if p1.1=true then
((qIT k (x.2.1,())).bind fun p2 =>
(if p2.1=true then
((qDF k (x.1.2.1,())).bind fun p3 =>
some ((decide ((qAa .andNot .i64 x.2.1 p3.1)=x.1.1)),((),((),()))))
else
some (false,((),((),())))))
else
some (false,((),((),())))))
abbrev qGS(k:Nat):qAL:=⟨152,0,(.cons yP27 yP4),.bool,qDt k⟩
theorem t_i_InPrefix(k:Nat)(x):evF TTab k [qEZ k,E_i_AddrOk k,qEY k] [] Tryz.f152 (.cons yP27 yP4) .bool x=qDt k x:=by kernel_rfl
theorem e_i_InPrefix[Names](k:Nat):qAE Tryz.prog (qGS k):=qAD tok (qAA (qGR k) (qAA (e_i_AddrOk k) (qAA (qGQ k) qAI))) (by kernel_rfl) (by kernel_rfl) (by kernel_rfl) fun x r h=>(t_i_InPrefix k x).trans h
def qEa(k:Nat)(x:(Int×Int×Unit)×Int×Unit):Option (Bool×Unit×Unit×Unit):=
((qDt k ((x.1.1,(x.1.2.1,())),(x.2.1,()))).bind fun p1 =>
(if p1.1=true then
(if(!decide (x.2.1=x.1.1))=true then
((qDF k (x.1.2.1,())).bind fun p2 =>
some ((!decide (x.2.1=(qAa .or .i64 x.1.1 p2.1))),((),((),()))))
else
some (false,((),((),()))))
else
some (false,((),((),())))))
abbrev qG2(k:Nat):qAL:=⟨213,0,(.cons yP27 yP4),.bool,qEa k⟩
theorem t_i_isHost(k:Nat)(x):evF TTab k [qGS k,qEY k] [] Tryz.f213 (.cons yP27 yP4) .bool x=qEa k x:=by kernel_rfl
theorem e_i_isHost[Names](k:Nat):qAE Tryz.prog (qG2 k):=qAD tok (qAA (e_i_InPrefix k) (qAA (qGQ k) qAI)) (by kernel_rfl) (by kernel_rfl) (by kernel_rfl) fun x r h=>(t_i_isHost k x).trans h
def qB8(k:Nat)(x:(Int×Int×(List (Int×Int×Int))×(List (Int×Int))×Unit)×Int×Unit):Option (Int×Unit×Unit×Unit):=
(qAG (fun(rec0:(Int×(List (Int×Int))×Int×Int×Unit)→Option _) (y0:Int×(List (Int×Int))×Int×Int×Unit) =>
(if(decide (y0.2.2.2.1<y0.2.2.1))=true then
(if 0≤y0.2.2.2.1∧y0.2.2.2.1<(List.length y0.2.1:Int) then
(if(decide ((Ty.rd (t:=yT3) y0.2.1 y0.2.2.2.1).2=y0.1))=true then
some ((Ty.rd (t:=yT3) y0.2.1 y0.2.2.2.1).1,((),((),())))
else
(rec0 (y0.1,(y0.2.1,(y0.2.2.1,((wi64 (y0.2.2.2.1+(1:Int))),()))))))
else none)
else
((fun(z1:Unit) =>
some ((0:Int),((),((),())))) ()))) k (x.2.1,(x.1.2.2.2.1,((List.length x.1.2.2.2.1:Int),((0:Int),())))))
abbrev qEb(k:Nat):qAL:=⟨214,0,(.cons (.agg yP6) yP4),(.int .i64),qB8 k⟩
theorem t_i_fixedFor(k:Nat)(x):evF TTab k [] [(0,⟨[1,8,9,10],(.cons (.int .i64) (.cons (.il true yT3) (.cons (.int .i64) yP4)))⟩,⟨[],.nil⟩)] Tryz.f214 (.cons (.agg yP6) yP4) (.int .i64) x=qB8 k x:=by kernel_rfl
theorem qGT[Names](k:Nat):qAE Tryz.prog (qEb k):=qAD tok qAI (by kernel_rfl) (by kernel_rfl) (by kernel_rfl) fun x r h=>(t_i_fixedFor k x).trans h
def qGU(k:Nat)(x:(Int×Int×(List (Int×Int×Int))×(List (Int×Int))×Unit)×Unit):Option (Bool×Unit×Unit):=
(qAG (fun(rec0:((Int×Int×(List (Int×Int×Int))×(List (Int×Int))×Unit)×(List (Int×Int))×Int×Int×Unit)→Option _) (y0:(Int×Int×(List (Int×Int×Int))×(List (Int×Int))×Unit)×(List (Int×Int))×Int×Int×Unit) =>
(if(decide (y0.2.2.2.1<y0.2.2.1))=true then
(if 0≤y0.2.2.2.1∧y0.2.2.2.1<(List.length y0.2.1:Int) then
((qIQ k ((Ty.rd (t:=yT3) y0.2.1 y0.2.2.2.1).1,())).bind fun p1 =>
(if(!p1.1)=false then
((qEa k ((y0.1.1,(y0.1.2.1,())),((Ty.rd (t:=yT3) y0.2.1 y0.2.2.2.1).2,()))).bind fun p2 =>
(if(!p2.1)=false then
(if(decide ((0:Int)<y0.2.2.2.1))=true then
(if 0≤(wi64 (y0.2.2.2.1-(1:Int)))∧(wi64 (y0.2.2.2.1-(1:Int)))<(List.length y0.1.2.2.2.1:Int) then
(if(decide ((Ty.rd (t:=yT3) y0.2.1 y0.2.2.2.1).1≤(Ty.rd (t:=yT3) y0.1.2.2.2.1 (wi64 (y0.2.2.2.1-(1:Int)))).1))=false then
((qB8 k ((y0.1.1,(y0.1.2.1,(y0.1.2.2.1,(y0.1.2.2.2.1,())))),((Ty.rd (t:=yT3) y0.2.1 y0.2.2.2.1).2,()))).bind fun p3 =>
(if(!decide (p3.1=(Ty.rd (t:=yT3) y0.2.1 y0.2.2.2.1).1))=true then
some (false,((),()))
else
(rec0 ((y0.1.1,(y0.1.2.1,(y0.1.2.2.1,(y0.1.2.2.2.1,())))),(y0.2.1,(y0.2.2.1,((wi64 (y0.2.2.2.1+(1:Int))),())))))))
else
some (false,((),())))
else none)
else
((qB8 k ((y0.1.1,(y0.1.2.1,(y0.1.2.2.1,(y0.1.2.2.2.1,())))),((Ty.rd (t:=yT3) y0.2.1 y0.2.2.2.1).2,()))).bind fun p4 =>
(if(!decide (p4.1=(Ty.rd (t:=yT3) y0.2.1 y0.2.2.2.1).1))=true then
some (false,((),()))
else
(rec0 ((y0.1.1,(y0.1.2.1,(y0.1.2.2.1,(y0.1.2.2.2.1,())))),(y0.2.1,(y0.2.2.1,((wi64 (y0.2.2.2.1+(1:Int))),()))))))))
else
some (false,((),()))))
else
some (false,((),()))))
else none)
else
((fun(z1:(Int×Int×(List (Int×Int×Int))×(List (Int×Int))×Unit)×Unit) =>
some ((decide ((List.length z1.1.2.2.2.1:Int)≤(4:Int))),((),()))) ((y0.1.1,(y0.1.2.1,(y0.1.2.2.1,(y0.1.2.2.2.1,())))),())))) k ((x.1.1,(x.1.2.1,(x.1.2.2.1,(x.1.2.2.2.1,())))),(x.1.2.2.2.1,((List.length x.1.2.2.2.1:Int),((0:Int),())))))
abbrev E_i_fixesOk(k:Nat):qAL:=⟨212,0,(.cons (.agg yP6) .nil),.bool,qGU k⟩
theorem t_i_fixesOk(k:Nat)(x):evF TTab k [qIR k,qG2 k,qEb k] [(0,⟨[1,6,7,8],(.cons (.ptr 0 yP6) (.cons (.il true yT3) (.cons (.int .i64) yP4)))⟩,⟨[1],(.cons (.ptr 0 yP6) .nil)⟩)] Tryz.f212 (.cons (.agg yP6) .nil) .bool x=qGU k x:=by kernel_rfl
theorem e_i_fixesOk[Names](k:Nat):qAE Tryz.prog (E_i_fixesOk k):=qAD tok (qAA (e_i_isId k) (qAA (e_i_isHost k) (qAA (qGT k) qAI))) (by kernel_rfl) (by kernel_rfl) (by kernel_rfl) fun x r h=>(t_i_fixesOk k x).trans h
def qG3(k:Nat)(x:(Int×Int×(List (Int×Int×Int))×(List (Int×Int))×Unit)×Unit):Option (Bool×Unit×Unit):=
((qDG k ((x.1.1,(x.1.2.1,())),())).bind fun p1 =>
(if(!p1.1)=false then
((qBh k (x.1.2.1,((24:Int),((30:Int),())))).bind fun p2 =>
(if(!p2.1)=false then
((qGU k ((x.1.1,(x.1.2.1,(x.1.2.2.1,(x.1.2.2.2.1,())))),())).bind fun p3 =>
(if(!p3.1)=false then
(if(decide ((6:Int)<(List.length x.1.2.2.1:Int)))=true then
some (false,((),()))
else
(qAG (fun(rec0:((Int×Int×(List (Int×Int×Int))×(List (Int×Int))×Unit)×(List (Int×Int×Int))×Int×Int×Unit)→Option _) (y0:(Int×Int×(List (Int×Int×Int))×(List (Int×Int))×Unit)×(List (Int×Int×Int))×Int×Int×Unit) =>
(if(decide (y0.2.2.2.1<y0.2.2.1))=true then
(if 0≤y0.2.2.2.1∧y0.2.2.2.1<(List.length y0.2.1:Int) then
(if(decide ((0:Int)<y0.2.2.2.1))=true then
(if 0≤(wi64 (y0.2.2.2.1-(1:Int)))∧(wi64 (y0.2.2.2.1-(1:Int)))<(List.length y0.1.2.2.1:Int) then
(if(decide ((Ty.rd (t:=(.pair (.int .i64) yT3)) y0.2.1 y0.2.2.2.1).1≤(Ty.rd (t:=(.pair (.int .i64) yT3)) y0.1.2.2.1 (wi64 (y0.2.2.2.1-(1:Int)))).1))=false then
((qEa k ((y0.1.1,(y0.1.2.1,())),((Ty.rd (t:=(.pair (.int .i64) yT3)) y0.2.1 y0.2.2.2.1).1,()))).bind fun p4 =>
(if(!p4.1)=false then
((qIQ k ((Ty.rd (t:=(.pair (.int .i64) yT3)) y0.2.1 y0.2.2.2.1).2.1,())).bind fun p5 =>
(if(!p5.1)=false then
((qBh k ((Ty.rd (t:=(.pair (.int .i64) yT3)) y0.2.1 y0.2.2.2.1).2.2,((0:Int),((1000000000:Int),())))).bind fun p6 =>
(if(!p6.1)=true then
some (false,((),()))
else
((qB8 k ((y0.1.1,(y0.1.2.1,(y0.1.2.2.1,(y0.1.2.2.2.1,())))),((Ty.rd (t:=(.pair (.int .i64) yT3)) y0.2.1 y0.2.2.2.1).1,()))).bind fun p12 =>
((qDX k ((y0.1.1,(y0.1.2.1,(y0.1.2.2.1,(y0.1.2.2.2.1,())))),((Ty.rd (t:=(.pair (.int .i64) yT3)) y0.2.1 y0.2.2.2.1).2.1,()))).bind fun p13 =>
(if(!decide (p13.1=y0.2.2.2.1))=false then
(if(!decide (p12.1=(0:Int)))=true then
(if(!decide (p12.1=(Ty.rd (t:=(.pair (.int .i64) yT3)) y0.2.1 y0.2.2.2.1).2.1))=true then
some (false,((),()))
else
(rec0 ((y0.1.1,(y0.1.2.1,(y0.1.2.2.1,(y0.1.2.2.2.1,())))),(y0.2.1,(y0.2.2.1,((wi64 (y0.2.2.2.1+(1:Int))),()))))))
else
(rec0 ((y0.1.1,(y0.1.2.1,(y0.1.2.2.1,(y0.1.2.2.2.1,())))),(y0.2.1,(y0.2.2.1,((wi64 (y0.2.2.2.1+(1:Int))),()))))))
else
some (false,((),())))))))
else
some (false,((),()))))
else
some (false,((),()))))
else
some (false,((),())))
else none)
else
((qEa k ((y0.1.1,(y0.1.2.1,())),((Ty.rd (t:=(.pair (.int .i64) yT3)) y0.2.1 y0.2.2.2.1).1,()))).bind fun p7 =>
(if(!p7.1)=false then
((qIQ k ((Ty.rd (t:=(.pair (.int .i64) yT3)) y0.2.1 y0.2.2.2.1).2.1,())).bind fun p8 =>
(if(!p8.1)=false then
((qBh k ((Ty.rd (t:=(.pair (.int .i64) yT3)) y0.2.1 y0.2.2.2.1).2.2,((0:Int),((1000000000:Int),())))).bind fun p9 =>
(if(!p9.1)=true then
some (false,((),()))
else
((qB8 k ((y0.1.1,(y0.1.2.1,(y0.1.2.2.1,(y0.1.2.2.2.1,())))),((Ty.rd (t:=(.pair (.int .i64) yT3)) y0.2.1 y0.2.2.2.1).1,()))).bind fun p14 =>
((qDX k ((y0.1.1,(y0.1.2.1,(y0.1.2.2.1,(y0.1.2.2.2.1,())))),((Ty.rd (t:=(.pair (.int .i64) yT3)) y0.2.1 y0.2.2.2.1).2.1,()))).bind fun p15 =>
(if(!decide (p15.1=y0.2.2.2.1))=false then
(if(!decide (p14.1=(0:Int)))=true then
(if(!decide (p14.1=(Ty.rd (t:=(.pair (.int .i64) yT3)) y0.2.1 y0.2.2.2.1).2.1))=true then
some (false,((),()))
else
(rec0 ((y0.1.1,(y0.1.2.1,(y0.1.2.2.1,(y0.1.2.2.2.1,())))),(y0.2.1,(y0.2.2.1,((wi64 (y0.2.2.2.1+(1:Int))),()))))))
else
(rec0 ((y0.1.1,(y0.1.2.1,(y0.1.2.2.1,(y0.1.2.2.2.1,())))),(y0.2.1,(y0.2.2.1,((wi64 (y0.2.2.2.1+(1:Int))),()))))))
else
some (false,((),())))))))
else
some (false,((),()))))
else
some (false,((),())))))
else none)
else
((fun(z1:Unit) =>
some (true,((),()))) ()))) k ((x.1.1,(x.1.2.1,(x.1.2.2.1,(x.1.2.2.2.1,())))),(x.1.2.2.1,((List.length x.1.2.2.1:Int),((0:Int),()))))))
else
some (false,((),()))))
else
some (false,((),()))))
else
some (false,((),()))))
abbrev E_i_PoolOk(k:Nat):qAL:=⟨124,0,(.cons (.agg yP6) .nil),.bool,qG3 k⟩
theorem t_i_PoolOk(k:Nat)(x):evF TTab k [qBu k,qIR k,qFS k,qEZ k,E_i_fixesOk k,qG2 k,qEb k] [(0,⟨[1,29,30,31],(.cons (.ptr 0 yP6) (.cons (.il true (.pair (.int .i64) yT3)) (.cons (.int .i64) yP4)))⟩,⟨[],.nil⟩)] Tryz.f124 (.cons (.agg yP6) .nil) .bool x=qG3 k x:=by kernel_rfl
theorem e_i_PoolOk[Names](k:Nat):qAE Tryz.prog (E_i_PoolOk k):=qAD tok (qAA (qB7 k) (qAA (e_i_isId k) (qAA (qHj k) (qAA (qGR k) (qAA (e_i_fixesOk k) (qAA (e_i_isHost k) (qAA (qGT k) qAI))))))) (by kernel_rfl) (by kernel_rfl) (by kernel_rfl) fun x r h=>(t_i_PoolOk k x).trans h
def qDu(k:Nat)(x:(Int×Int×(List (Int×Int×Int))×(List (Int×Int))×Unit)×Int×Unit):Option (Int×Unit×Unit×Unit):=
(qAG (fun(rec0:(Int×(List (Int×Int×Int))×Int×Int×Unit)→Option _) (y0:Int×(List (Int×Int×Int))×Int×Int×Unit) =>
(if(decide (y0.2.2.2.1<y0.2.2.1))=true then
(if 0≤y0.2.2.2.1∧y0.2.2.2.1<(List.length y0.2.1:Int) then
(if(decide ((Ty.rd (t:=(.pair (.int .i64) yT3)) y0.2.1 y0.2.2.2.1).1=y0.1))=true then
some ((Ty.rd (t:=(.pair (.int .i64) yT3)) y0.2.1 y0.2.2.2.1).2.1,((),((),())))
else
(rec0 (y0.1,(y0.2.1,(y0.2.2.1,((wi64 (y0.2.2.2.1+(1:Int))),()))))))
else none)
else
((fun(z1:Unit) =>
some ((0:Int),((),((),())))) ()))) k (x.2.1,(x.1.2.2.1,((List.length x.1.2.2.1:Int),((0:Int),())))))
abbrev E_i_HolderOf(k:Nat):qAL:=⟨219,0,(.cons (.agg yP6) yP4),(.int .i64),qDu k⟩
theorem t_i_HolderOf(k:Nat)(x):evF TTab k [] [(0,⟨[1,8,9,10],(.cons (.int .i64) (.cons (.il true (.pair (.int .i64) yT3)) (.cons (.int .i64) yP4)))⟩,⟨[],.nil⟩)] Tryz.f219 (.cons (.agg yP6) yP4) (.int .i64) x=qDu k x:=by kernel_rfl
theorem e_i_HolderOf[Names](k:Nat):qAE Tryz.prog (E_i_HolderOf k):=qAD tok qAI (by kernel_rfl) (by kernel_rfl) (by kernel_rfl) fun x r h=>(t_i_HolderOf k x).trans h
def qGV(k:Nat)(x:(Int×Int×(List (Int×Int×Int))×(List (Int×Int))×Unit)×Int×Unit):Option (Int×Unit×Unit×Unit):=
(qAG (fun(rec0:(Int×(Int×Int×(List (Int×Int×Int))×(List (Int×Int))×Unit)×(List (Int×Int))×Int×Int×Unit)→Option _) (y0:Int×(Int×Int×(List (Int×Int×Int))×(List (Int×Int))×Unit)×(List (Int×Int))×Int×Int×Unit) =>
(if(decide (y0.2.2.2.2.1<y0.2.2.2.1))=true then
(if 0≤y0.2.2.2.2.1∧y0.2.2.2.2.1<(List.length y0.2.2.1:Int) then
(if(decide ((Ty.rd (t:=yT3) y0.2.2.1 y0.2.2.2.2.1).1=y0.1))=true then
some ((Ty.rd (t:=yT3) y0.2.2.1 y0.2.2.2.2.1).2,((),((),())))
else
(rec0 (y0.1,((y0.2.1.1,(y0.2.1.2.1,(y0.2.1.2.2.1,(y0.2.1.2.2.2.1,())))),(y0.2.2.1,(y0.2.2.2.1,((wi64 (y0.2.2.2.2.1+(1:Int))),())))))))
else none)
else
((fun(z1:(Int×Int×(List (Int×Int×Int))×(List (Int×Int))×Unit)×Unit) =>
(qAG (fun(rec2:((Int×Int×(List (Int×Int×Int))×(List (Int×Int))×Unit)×Int×Unit)→Option _) (y2:(Int×Int×(List (Int×Int×Int))×(List (Int×Int))×Unit)×Int×Unit) =>
((qEa k ((y2.1.1,(y2.1.2.1,())),(y2.2.1,()))).bind fun p1 =>
(if p1.1=true then
((qDu k ((y2.1.1,(y2.1.2.1,(y2.1.2.2.1,(y2.1.2.2.2.1,())))),(y2.2.1,()))).bind fun p2 =>
(if(decide (p2.1=(0:Int)))=true then
((qB8 k ((y2.1.1,(y2.1.2.1,(y2.1.2.2.1,(y2.1.2.2.2.1,())))),(y2.2.1,()))).bind fun p3 =>
(if(decide (p3.1=(0:Int)))=true then
some (y2.2.1,((),((),())))
else
(rec2 ((y2.1.1,(y2.1.2.1,(y2.1.2.2.1,(y2.1.2.2.2.1,())))),((wi64 (y2.2.1+(1:Int))),())))))
else
(rec2 ((y2.1.1,(y2.1.2.1,(y2.1.2.2.1,(y2.1.2.2.2.1,())))),((wi64 (y2.2.1+(1:Int))),())))))
else
((fun(z2:Unit) =>
some ((-1:Int),((),((),())))) ())))) k ((z1.1.1,(z1.1.2.1,(z1.1.2.2.1,(z1.1.2.2.2.1,())))),((wi64 (z1.1.1+(1:Int))),())))) ((y0.2.1.1,(y0.2.1.2.1,(y0.2.1.2.2.1,(y0.2.1.2.2.2.1,())))),())))) k (x.2.1,((x.1.1,(x.1.2.1,(x.1.2.2.1,(x.1.2.2.2.1,())))),(x.1.2.2.2.1,((List.length x.1.2.2.2.1:Int),((0:Int),()))))))
abbrev E_i_addrFor(k:Nat):qAL:=⟨135,0,(.cons (.agg yP6) yP4),(.int .i64),qGV k⟩
theorem t_i_addrFor(k:Nat)(x):evF TTab k [qG2 k,qEb k,E_i_HolderOf k] [(0,⟨[1,2,9,10,11],(.cons (.int .i64) (.cons (.ptr 0 yP6) (.cons (.il true yT3) (.cons (.int .i64) yP4))))⟩,⟨[2],(.cons (.ptr 0 yP6) .nil)⟩),(2,⟨[2,7],(.cons (.ptr 0 yP6) yP4)⟩,⟨[],.nil⟩)] Tryz.f135 (.cons (.agg yP6) yP4) (.int .i64) x=qGV k x:=by kernel_rfl
theorem e_i_addrFor[Names](k:Nat):qAE Tryz.prog (E_i_addrFor k):=qAD tok (qAA (e_i_isHost k) (qAA (qGT k) (qAA (e_i_HolderOf k) qAI))) (by kernel_rfl) (by kernel_rfl) (by kernel_rfl) fun x r h=>(t_i_addrFor k x).trans h
def qAU(k:Nat)(x:(List (Int×Int×Int))×Int×(List (Int×Int×Int))×Unit):Option ((List (Int×Int×Int))×Unit×Unit×Unit×Unit):=insF 24 (.pair (.int .i64) yT3) x
abbrev qCI(k:Nat):qAL:=⟨136,0,(.cons yP29 (.cons (.int .i64) (.cons yP29 .nil))),yP29,qAU k⟩
theorem qCA:InsL Tryz.prog ⟨fun n=>if n=29 then 220 else if n=30 then 221 else n,fun n=>if n=9 then 135 else if n=24 then 26 else n,fun n=>n⟩ 136 3 24 (Tryz.t135.zero.getD default) where
 mixed:=by kernel_rfl
 f22:=⟨Tryz.f136.name,Tryz.func136.trans (by kernel_rfl)⟩
 f29:=⟨_,Tryz.func220,by kernel_rfl,by kernel_rfl,by kernel_rfl,by kernel_rfl⟩
 t0:=Tryz.underlying0
 a0:=Tryz.isAgg0
 z0:=Tryz.sizeOf0
 v0:=Tryz.zeroValue0
 t3:=Tryz.underlying3
 a3:=Tryz.isAgg3
 z3:=Tryz.sizeOf3
 v3:=Tryz.zeroValue3
 t4:=Tryz.underlying4
 a4:=Tryz.isAgg4
 z4:=Tryz.sizeOf4
 v4:=Tryz.zeroValue4
 t24:=Tryz.underlying26
 a24:=Tryz.isAgg26
 z24:=Tryz.sizeOf26
 v24:=Tryz.zeroValue26
 z9:=Tryz.sizeOf135
 i9:=by kernel_rfl
theorem qCJ[Names](k:Nat):qAE Tryz.prog ⟨136,0,(.cons yP29 (.cons (.int .i64) (.cons yP29 .nil))),yP29,qAU k⟩:=entry_insert (t:=(.pair (.int .i64) yT3)) qCA (by decide) (by decide) (by kernel_rfl) Tryz.func136 (by kernel_rfl)
def i_Grant(k:Nat)(x:(Int×Int×(List (Int×Int×Int))×(List (Int×Int))×Unit)×Int×Int×Unit):Option (((Int×Int×(List (Int×Int×Int))×(List (Int×Int))×Unit)×Int×Bool×Unit)×Unit×Unit×Unit×Unit):=
((qDD k ((x.1.1,(x.1.2.1,(x.1.2.2.1,(x.1.2.2.2.1,())))),())).bind fun p1 =>
((qG3 k ((x.1.1,(x.1.2.1,(x.1.2.2.1,(x.1.2.2.2.1,())))),())).bind fun p2 =>
(if(!p2.1)=false then
((qIQ k (x.2.1,())).bind fun p3 =>
(if(!p3.1)=false then
((qBh k (x.2.2.1,((0:Int),((999999980:Int),())))).bind fun p4 =>
(if(!p4.1)=true then
some (((p1.1.1,(p1.1.2.1,(p1.1.2.2.1,(p1.1.2.2.2.1,())))),((0:Int),(false,()))),((),((),((),()))))
else
((qDX k ((x.1.1,(x.1.2.1,(x.1.2.2.1,(x.1.2.2.2.1,())))),(x.2.1,()))).bind fun p5 =>
(if(decide ((0:Int)≤p5.1))=true then
(if 0≤p5.1∧p5.1<(List.length p1.1.2.2.1:Int) then
(if 0≤p5.1∧p5.1<(List.length x.1.2.2.1:Int) then
some (((p1.1.1,(p1.1.2.1,((List.set p1.1.2.2.1 (Int.toNat p5.1) ((Ty.rd (t:=(.pair (.int .i64) yT3)) p1.1.2.2.1 p5.1).1,((Ty.rd (t:=(.pair (.int .i64) yT3)) p1.1.2.2.1 p5.1).2.1,(wi64 (x.2.2.1+(20:Int)))))),(p1.1.2.2.2.1,())))),((Ty.rd (t:=(.pair (.int .i64) yT3)) x.1.2.2.1 p5.1).1,(true,()))),((),((),((),()))))
else none)
else none)
else
((qGV k ((x.1.1,(x.1.2.1,(x.1.2.2.1,(x.1.2.2.2.1,())))),(x.2.1,()))).bind fun p6 =>
(if(decide ((6:Int)≤(List.length x.1.2.2.1:Int)))=false then
(if(decide (p6.1<(0:Int)))=true then
some (((p1.1.1,(p1.1.2.1,(p1.1.2.2.1,(p1.1.2.2.2.1,())))),((0:Int),(false,()))),((),((),((),()))))
else
(qAG (fun(rec0:(Int×Int×(Int×Int×(List (Int×Int×Int))×(List (Int×Int))×Unit)×(Int×Int×(List (Int×Int×Int))×(List (Int×Int))×Unit)×Int×Int×Unit)→Option _) (y0:Int×Int×(Int×Int×(List (Int×Int×Int))×(List (Int×Int))×Unit)×(Int×Int×(List (Int×Int×Int))×(List (Int×Int))×Unit)×Int×Int×Unit) =>
(if(decide (y0.2.2.2.2.2.1<(List.length y0.2.2.2.1.2.2.1:Int)))=true then
(if 0≤y0.2.2.2.2.2.1∧y0.2.2.2.2.2.1<(List.length y0.2.2.2.1.2.2.1:Int) then
(if(decide ((Ty.rd (t:=(.pair (.int .i64) yT3)) y0.2.2.2.1.2.2.1 y0.2.2.2.2.2.1).1<y0.2.2.2.2.1))=true then
(rec0 (y0.1,(y0.2.1,((y0.2.2.1.1,(y0.2.2.1.2.1,(y0.2.2.1.2.2.1,(y0.2.2.1.2.2.2.1,())))),((y0.2.2.2.1.1,(y0.2.2.2.1.2.1,(y0.2.2.2.1.2.2.1,(y0.2.2.2.1.2.2.2.1,())))),(y0.2.2.2.2.1,((wi64 (y0.2.2.2.2.2.1+(1:Int))),())))))))
else
((fun(z1:Int×Int×(Int×Int×(List (Int×Int×Int))×(List (Int×Int))×Unit)×(Int×Int×(List (Int×Int×Int))×(List (Int×Int))×Unit)×Int×Int×Unit) =>
((qAU k (z1.2.2.2.1.2.2.1,(z1.2.2.2.2.2.1,(([(z1.2.2.2.2.1,(z1.1,(wi64 (z1.2.1+(20:Int)))))]:List (Int×Int×Int)),())))).bind fun p7 =>
some (((z1.2.2.2.1.1,(z1.2.2.2.1.2.1,(p7.1,(z1.2.2.2.1.2.2.2.1,())))),(z1.2.2.2.2.1,(true,()))),((),((),((),())))))) (y0.1,(y0.2.1,((y0.2.2.1.1,(y0.2.2.1.2.1,(y0.2.2.1.2.2.1,(y0.2.2.1.2.2.2.1,())))),((y0.2.2.2.1.1,(y0.2.2.2.1.2.1,(y0.2.2.2.1.2.2.1,(y0.2.2.2.1.2.2.2.1,())))),(y0.2.2.2.2.1,(y0.2.2.2.2.2.1,()))))))))
else none)
else
((fun(z1:Int×Int×(Int×Int×(List (Int×Int×Int))×(List (Int×Int))×Unit)×(Int×Int×(List (Int×Int×Int))×(List (Int×Int))×Unit)×Int×Int×Unit) =>
((qAU k (z1.2.2.2.1.2.2.1,(z1.2.2.2.2.2.1,(([(z1.2.2.2.2.1,(z1.1,(wi64 (z1.2.1+(20:Int)))))]:List (Int×Int×Int)),())))).bind fun p7 =>
some (((z1.2.2.2.1.1,(z1.2.2.2.1.2.1,(p7.1,(z1.2.2.2.1.2.2.2.1,())))),(z1.2.2.2.2.1,(true,()))),((),((),((),())))))) (y0.1,(y0.2.1,((y0.2.2.1.1,(y0.2.2.1.2.1,(y0.2.2.1.2.2.1,(y0.2.2.1.2.2.2.1,())))),((y0.2.2.2.1.1,(y0.2.2.2.1.2.1,(y0.2.2.2.1.2.2.1,(y0.2.2.2.1.2.2.2.1,())))),(y0.2.2.2.2.1,(y0.2.2.2.2.2.1,()))))))))) k (x.2.1,(x.2.2.1,(((0:Int),((0:Int),([],([],())))),((p1.1.1,(p1.1.2.1,(p1.1.2.2.1,(p1.1.2.2.2.1,())))),(p6.1,((0:Int),()))))))))
else
some (((p1.1.1,(p1.1.2.1,(p1.1.2.2.1,(p1.1.2.2.2.1,())))),((0:Int),(false,()))),((),((),((),()))))))))))
else
some (((p1.1.1,(p1.1.2.1,(p1.1.2.2.1,(p1.1.2.2.2.1,())))),((0:Int),(false,()))),((),((),((),()))))))
else
some (((p1.1.1,(p1.1.2.1,(p1.1.2.2.1,(p1.1.2.2.2.1,())))),((0:Int),(false,()))),((),((),((),())))))))
abbrev E_i_Grant(k:Nat):qAL:=⟨57,0,(.cons (.agg yP6) (.cons (.int .i64) yP4)),(.tup (.cons (.agg yP9) (.cons (.int .i64) (.cons .bool .nil)))),i_Grant k⟩
theorem t_i_Grant(k:Nat)(x):evF TTab k [qBu k,E_i_PoolOk k,qEX k,qIR k,qFS k,E_i_addrFor k,qCI k] [(0,⟨[1,2,6,9,11,12],(.cons (.int .i64) (.cons (.int .i64) (.cons (.ptr 0 yP9) (.cons (.ptr 0 yP9) (.cons (.int .i64) yP4)))))⟩,⟨[1,2,6,9,11,12],(.cons (.int .i64) (.cons (.int .i64) (.cons (.ptr 0 yP9) (.cons (.ptr 0 yP9) (.cons (.int .i64) yP4)))))⟩)] Tryz.f57 (.cons (.agg yP6) (.cons (.int .i64) yP4)) (.tup (.cons (.agg yP9) (.cons (.int .i64) (.cons .bool .nil)))) x=i_Grant k x:=by kernel_rfl
theorem e_i_Grant[Names](k:Nat):qAE Tryz.prog (E_i_Grant k):=qAD tok (qAA (qB7 k) (qAA (e_i_PoolOk k) (qAA (qGP k) (qAA (e_i_isId k) (qAA (qHj k) (qAA (e_i_addrFor k) (qAA (qCJ k) qAI))))))) (by kernel_rfl) (by kernel_rfl) (by kernel_rfl) fun x r h=>(t_i_Grant k x).trans h
def qBd(k:Nat)(x:(Int×Int×Int×Unit)×(Int×Int×Unit)×Unit):Option (Bool×Unit×(Int×Int×Unit)×Unit):=
some ((decide (x.1.1=x.2.1.1)&&decide (x.1.2.1=x.2.1.2.1)),((),((x.2.1.1,(x.2.1.2.1,())),())))
abbrev qCh(k:Nat):qAL:=⟨222,0,(.cons (.agg yP22) (.cons (.ptr 0 (.cons (.int .i64) yP4)) .nil)),.bool,qBd k⟩
theorem qHk(k:Nat)(x):evF TTab k [] [] Tryz.f222 (.cons (.agg yP22) (.cons (.ptr 0 (.cons (.int .i64) yP4)) .nil)) .bool x=qBd k x:=by kernel_rfl
theorem qEF[Names](k:Nat):qAE Tryz.prog (qCh k):=qAD tok qAI (by kernel_rfl) (by kernel_rfl) (by kernel_rfl) fun x r h=>(qHk k x).trans h
def qAK(k:Nat)(x:(List ((Int×Int)×Int))×((Int×Int×Unit)×Unit)×Unit):Option (Int×Unit×((Int×Int×Unit)×Unit)×Unit):=
(qAG (fun(rec0:((List ((Int×Int)×Int))×((Int×Int×Unit)×Unit)×Int×Int×Unit)→Option _) (y0:(List ((Int×Int)×Int))×((Int×Int×Unit)×Unit)×Int×Int×Unit) =>
(if(decide (y0.2.2.2.1<y0.2.2.1))=true then
(if 0≤y0.2.2.2.1∧y0.2.2.2.1<(List.length y0.1:Int) then
((qBd k (((Ty.rd (t:=(.pair yT3 (.int .i64))) y0.1 y0.2.2.2.1).1.1,((Ty.rd (t:=(.pair yT3 (.int .i64))) y0.1 y0.2.2.2.1).1.2,((Ty.rd (t:=(.pair yT3 (.int .i64))) y0.1 y0.2.2.2.1).2,()))),((y0.2.1.1.1,(y0.2.1.1.2.1,())),()))).bind fun p1 =>
(if p1.1=true then
some (y0.2.2.2.1,((),(((p1.2.2.1.1,(p1.2.2.1.2.1,())),()),())))
else
(rec0 (y0.1,(((p1.2.2.1.1,(p1.2.2.1.2.1,())),()),(y0.2.2.1,((wi64 (y0.2.2.2.1+(1:Int))),())))))))
else none)
else
((fun(z1:((Int×Int×Unit)×Unit)×Unit) =>
some ((-1:Int),((),(((z1.1.1.1,(z1.1.1.2.1,())),()),())))) (((y0.2.1.1.1,(y0.2.1.1.2.1,())),()),())))) k (x.1,(((x.2.1.1.1,(x.2.1.1.2.1,())),()),((List.length x.1:Int),((0:Int),())))))
abbrev qAj(k:Nat):qAL:=⟨235,223,(.cons yP20 (.cons (.fn 222 (.cons (.ptr 0 (.cons (.int .i64) yP4)) .nil)) .nil)),(.int .i64),qAK k⟩
theorem qA7(k:Nat)(x):evF TTab k [qCh k] [(0,⟨[0,1,7,8],(.cons yP20 (.cons (.fn 222 (.cons (.ptr 0 (.cons (.int .i64) yP4)) .nil)) (.cons (.int .i64) yP4)))⟩,⟨[1],(.cons (.fn 222 (.cons (.ptr 0 (.cons (.int .i64) yP4)) .nil)) .nil)⟩)] Tryz.f235 (.cons yP20 (.cons (.fn 222 (.cons (.ptr 0 (.cons (.int .i64) yP4)) .nil)) .nil)) (.int .i64) x=qAK k x:=by kernel_rfl
theorem qA8[Names](k:Nat):qAE Tryz.prog (qAj k):=qAD tok (qAA (qEF k) qAI) (by kernel_rfl) (by kernel_rfl) (by kernel_rfl) fun x r h=>(qA7 k x).trans h
def qAJ(k:Nat)(x:(List ((Int×Int)×Int))×((Int×Int×Unit)×Unit)×Unit):Option ((List ((Int×Int)×Int))×Unit×((Int×Int×Unit)×Unit)×Unit):=
((qAK k (x.1,(((x.2.1.1.1,(x.2.1.1.2.1,())),()),()))).bind fun p1 =>
(if(decide (p1.1=(-1:Int)))=true then
some (x.1,((),(((p1.2.2.1.1.1,(p1.2.2.1.1.2.1,())),()),())))
else
(qAG (fun(rec0:((List ((Int×Int)×Int))×((Int×Int×Unit)×Unit)×Int×Int×Unit)→Option _) (y0:(List ((Int×Int)×Int))×((Int×Int×Unit)×Unit)×Int×Int×Unit) =>
(if(decide (y0.2.2.2.1<(List.length y0.1:Int)))=true then
(if 0≤y0.2.2.2.1∧y0.2.2.2.1<(List.length y0.1:Int) then
((qBd k (((Ty.rd (t:=(.pair yT3 (.int .i64))) y0.1 y0.2.2.2.1).1.1,((Ty.rd (t:=(.pair yT3 (.int .i64))) y0.1 y0.2.2.2.1).1.2,((Ty.rd (t:=(.pair yT3 (.int .i64))) y0.1 y0.2.2.2.1).2,()))),((y0.2.1.1.1,(y0.2.1.1.2.1,())),()))).bind fun p2 =>
(if(!p2.1)=true then
(if 0≤y0.2.2.1∧y0.2.2.1<(List.length y0.1:Int) then
(rec0 ((List.set y0.1 (Int.toNat y0.2.2.1) (((Ty.rd (t:=(.pair yT3 (.int .i64))) y0.1 y0.2.2.2.1).1.1,(Ty.rd (t:=(.pair yT3 (.int .i64))) y0.1 y0.2.2.2.1).1.2),(Ty.rd (t:=(.pair yT3 (.int .i64))) y0.1 y0.2.2.2.1).2)),(((p2.2.2.1.1,(p2.2.2.1.2.1,())),()),((wi64 (y0.2.2.1+(1:Int))),((wi64 (y0.2.2.2.1+(1:Int))),())))))
else none)
else
(rec0 (y0.1,(((p2.2.2.1.1,(p2.2.2.1.2.1,())),()),(y0.2.2.1,((wi64 (y0.2.2.2.1+(1:Int))),())))))))
else none)
else
((fun(z1:(List ((Int×Int)×Int))×((Int×Int×Unit)×Unit)×Int×Unit) =>
(if 0≤z1.2.2.1∧z1.2.2.1≤(List.length z1.1:Int) then
(if 0≤z1.2.2.1∧z1.2.2.1≤(List.length (List.take (Int.toNat z1.2.2.1) z1.1++(List.replicate (Int.toNat ((List.length z1.1:Int)-z1.2.2.1)) (((0:Int),(0:Int)),(0:Int))++List.drop (Int.toNat (List.length z1.1:Int)) z1.1)):Int) then
some ((List.drop (Int.toNat (0:Int)) (List.take (Int.toNat z1.2.2.1) (List.take (Int.toNat z1.2.2.1) z1.1++(List.replicate (Int.toNat ((List.length z1.1:Int)-z1.2.2.1)) (((0:Int),(0:Int)),(0:Int))++List.drop (Int.toNat (List.length z1.1:Int)) z1.1)))),((),(((z1.2.1.1.1,(z1.2.1.1.2.1,())),()),())))
else none)
else none)) (y0.1,(((y0.2.1.1.1,(y0.2.1.1.2.1,())),()),(y0.2.2.1,())))))) k (x.1,(((p1.2.2.1.1.1,(p1.2.2.1.1.2.1,())),()),(p1.1,((wi64 (p1.1+(1:Int))),())))))))
abbrev qAi(k:Nat):qAL:=⟨150,223,(.cons yP16 (.cons (.fn 222 (.cons (.ptr 0 (.cons (.int .i64) yP4)) .nil)) .nil)),yP16,qAJ k⟩
theorem qA2(k:Nat)(x):evF TTab k [qCh k,qAj k] [(0,⟨[0,1,5,6],(.cons yP16 (.cons (.fn 222 (.cons (.ptr 0 (.cons (.int .i64) yP4)) .nil)) (.cons (.int .i64) yP4)))⟩,⟨[0,1,5],(.cons yP16 (.cons (.fn 222 (.cons (.ptr 0 (.cons (.int .i64) yP4)) .nil)) yP4))⟩)] Tryz.f150 (.cons yP16 (.cons (.fn 222 (.cons (.ptr 0 (.cons (.int .i64) yP4)) .nil)) .nil)) yP16 x=qAJ k x:=by kernel_rfl
theorem qA3[Names](k:Nat):qAE Tryz.prog (qAi k):=qAD tok (qAA (qEF k) (qAA (qA8 k) qAI)) (by kernel_rfl) (by kernel_rfl) (by kernel_rfl) fun x r h=>(qA2 k x).trans h
def qCK(k:Nat)(x:(List ((Int×Int)×Int))×(Int×Int×Unit)×Unit):Option ((List ((Int×Int)×Int))×Unit×Unit×Unit):=
((qBF k (x.1,())).bind fun p1 =>
((qAJ k (p1.1,(((x.2.1.1,(x.2.1.2.1,())),()),()))).bind fun p2 =>
some (p2.1,((),((),())))))
abbrev qE2(k:Nat):qAL:=⟨137,0,(.cons yP20 (.cons yP27 .nil)),yP16,qCK k⟩
theorem t_i_withoutPrefix(k:Nat)(x):evF TTab k [qCc k,qAi k] [] Tryz.f137 (.cons yP20 (.cons yP27 .nil)) yP16 x=qCK k x:=by kernel_rfl
theorem e_i_withoutPrefix[Names](k:Nat):qAE Tryz.prog (qE2 k):=qAD tok (qAA (qDP k) (qAA (qA3 k) qAI)) (by kernel_rfl) (by kernel_rfl) (by kernel_rfl) fun x r h=>(t_i_withoutPrefix k x).trans h
def qDY(k:Nat)(x:List (Int)×Unit):Option (Int×Unit×Unit):=
(qAG (fun(rec0:(Int×List (Int)×Int×Int×Unit)→Option _) (y0:Int×List (Int)×Int×Int×Unit) =>
(if(decide (y0.2.2.2.1<y0.2.2.1))=true then
(if 0≤y0.2.2.2.1∧y0.2.2.2.1<(List.length y0.2.1:Int) then
(if(!decide ((Ty.rd (t:=(.int .i64)) y0.2.1 y0.2.2.2.1)=y0.1))=true then
some ((Ty.rd (t:=(.int .i64)) y0.2.1 y0.2.2.2.1),((),()))
else
(rec0 (y0.1,(y0.2.1,(y0.2.2.1,((wi64 (y0.2.2.2.1+(1:Int))),()))))))
else none)
else
((fun(z1:Int×Unit) =>
some (z1.1,((),()))) (y0.1,())))) k ((0:Int),(x.1,((List.length x.1:Int),((0:Int),())))))
abbrev qHL(k:Nat):qAL:=⟨223,0,(.cons (.il true (.int .i64)) .nil),(.int .i64),qDY k⟩
theorem t_x_cmp_Or_int(k:Nat)(x):evF TTab k [] [(0,⟨[3,6,7,8],(.cons (.int .i64) (.cons (.il true (.int .i64)) (.cons (.int .i64) yP4)))⟩,⟨[3],yP4⟩)] Tryz.f223 (.cons (.il true (.int .i64)) .nil) (.int .i64) x=qDY k x:=by kernel_rfl
theorem e_x_cmp_Or_int[Names](k:Nat):qAE Tryz.prog (qHL k):=qAD tok qAI (by kernel_rfl) (by kernel_rfl) (by kernel_rfl) fun x r h=>(t_x_cmp_Or_int k x).trans h
def qCL(k:Nat)(x:Int×Unit):Option (Bool×Unit×Unit):=
some ((!decide (x.1=x.1)),((),()))
abbrev qE3(k:Nat):qAL:=⟨282,0,yP4,.bool,qCL k⟩
theorem t_x_cmp_isNaN_int(k:Nat)(x):evF TTab k [] [] Tryz.f282 yP4 .bool x=qCL k x:=by kernel_rfl
theorem e_x_cmp_isNaN_int[Names](k:Nat):qAE Tryz.prog (qE3 k):=qAD tok qAI (by kernel_rfl) (by kernel_rfl) (by kernel_rfl) fun x r h=>(t_x_cmp_isNaN_int k x).trans h
def qBe(k:Nat)(x:Int×Int×Unit):Option (Int×Unit×Unit×Unit):=
((qCL k (x.1,())).bind fun p1 =>
((qCL k (x.2.1,())).bind fun p2 =>
(if p1.1=true then
(if p2.1=true then
some ((0:Int),((),((),())))
else
some ((-1:Int),((),((),()))))
else
(if p2.1=true then
some ((1:Int),((),((),())))
else
(if(decide (x.1<x.2.1))=true then
some ((-1:Int),((),((),())))
else
(if(decide (x.2.1<x.1))=true then
some ((1:Int),((),((),())))
else
some ((0:Int),((),((),())))))))))
abbrev qEG(k:Nat):qAL:=⟨224,0,(.cons (.int .i64) yP4),(.int .i64),qBe k⟩
theorem qHl(k:Nat)(x):evF TTab k [qE3 k] [] Tryz.f224 (.cons (.int .i64) yP4) (.int .i64) x=qBe k x:=by kernel_rfl
theorem qHm[Names](k:Nat):qAE Tryz.prog (qEG k):=qAD tok (qAA (e_x_cmp_isNaN_int k) qAI) (by kernel_rfl) (by kernel_rfl) (by kernel_rfl) fun x r h=>(qHl k x).trans h
def qBf(k:Nat)(x:(Int×Int×Unit)×(Int×Int×Unit)×Unit):Option (Int×Unit×Unit×Unit):=
((qBe k (x.1.1,(x.2.1.1,()))).bind fun p1 =>
((qBe k (x.1.2.1,(x.2.1.2.1,()))).bind fun p2 =>
((qDY k (([p1.1,p2.1]:List (Int)),())).bind fun p3 =>
some (p3.1,((),((),()))))))
abbrev qCi(k:Nat):qAL:=⟨138,0,(.cons yP27 (.cons yP27 .nil)),(.int .i64),qBf k⟩
theorem qHn(k:Nat)(x):evF TTab k [qHL k,qEG k] [] Tryz.f138 (.cons yP27 (.cons yP27 .nil)) (.int .i64) x=qBf k x:=by kernel_rfl
theorem qEH[Names](k:Nat):qAE Tryz.prog (qCi k):=qAD tok (qAA (e_x_cmp_Or_int k) (qAA (qHm k) qAI)) (by kernel_rfl) (by kernel_rfl) (by kernel_rfl) fun x r h=>(qHn k x).trans h
def qAb(k:Nat)(x:(List ((Int×Int)×Int))×Int×(List ((Int×Int)×Int))×Unit):Option ((List ((Int×Int)×Int))×Unit×Unit×Unit×Unit):=insF 24 (.pair yT3 (.int .i64)) x
abbrev qCM(k:Nat):qAL:=⟨139,0,(.cons yP16 (.cons (.int .i64) (.cons yP16 .nil))),yP16,qAb k⟩
theorem qCB:InsL Tryz.prog ⟨fun n=>if n=29 then 225 else if n=30 then 226 else n,fun n=>if n=9 then 53 else if n=24 then 30 else n,fun n=>n⟩ 139 3 24 (Tryz.t53.zero.getD default) where
 mixed:=by kernel_rfl
 f22:=⟨Tryz.f139.name,Tryz.func139.trans (by kernel_rfl)⟩
 f29:=⟨_,Tryz.func225,by kernel_rfl,by kernel_rfl,by kernel_rfl,by kernel_rfl⟩
 t0:=Tryz.underlying0
 a0:=Tryz.isAgg0
 z0:=Tryz.sizeOf0
 v0:=Tryz.zeroValue0
 t3:=Tryz.underlying3
 a3:=Tryz.isAgg3
 z3:=Tryz.sizeOf3
 v3:=Tryz.zeroValue3
 t4:=Tryz.underlying4
 a4:=Tryz.isAgg4
 z4:=Tryz.sizeOf4
 v4:=Tryz.zeroValue4
 t24:=Tryz.underlying30
 a24:=Tryz.isAgg30
 z24:=Tryz.sizeOf30
 v24:=Tryz.zeroValue30
 z9:=Tryz.sizeOf53
 i9:=by kernel_rfl
theorem qCN[Names](k:Nat):qAE Tryz.prog ⟨139,0,(.cons yP16 (.cons (.int .i64) (.cons yP16 .nil))),yP16,qAb k⟩:=entry_insert (t:=(.pair yT3 (.int .i64))) qCB (by decide) (by decide) (by kernel_rfl) Tryz.func139 (by kernel_rfl)
def qCW(k:Nat)(x:(List ((Int×Int)×Int))×Unit):Option (Bool×Unit×Unit):=
(qAG (fun(rec0:((List ((Int×Int)×Int))×(List ((Int×Int)×Int))×Int×Int×Unit)→Option _) (y0:(List ((Int×Int)×Int))×(List ((Int×Int)×Int))×Int×Int×Unit) =>
(if(decide (y0.2.2.2.1<y0.2.2.1))=true then
(if 0≤y0.2.2.2.1∧y0.2.2.2.1<(List.length y0.2.1:Int) then
((qDG k (((Ty.rd (t:=(.pair yT3 (.int .i64))) y0.2.1 y0.2.2.2.1).1.1,((Ty.rd (t:=(.pair yT3 (.int .i64))) y0.2.1 y0.2.2.2.1).1.2,())),())).bind fun p1 =>
(if(!p1.1)=false then
((qIQ k ((Ty.rd (t:=(.pair yT3 (.int .i64))) y0.2.1 y0.2.2.2.1).2,())).bind fun p2 =>
(if(!p2.1)=false then
(if(decide ((0:Int)<y0.2.2.2.1))=true then
(if 0≤(wi64 (y0.2.2.2.1-(1:Int)))∧(wi64 (y0.2.2.2.1-(1:Int)))<(List.length y0.1:Int) then
((qBf k (((Ty.rd (t:=(.pair yT3 (.int .i64))) y0.1 (wi64 (y0.2.2.2.1-(1:Int)))).1.1,((Ty.rd (t:=(.pair yT3 (.int .i64))) y0.1 (wi64 (y0.2.2.2.1-(1:Int)))).1.2,())),(((Ty.rd (t:=(.pair yT3 (.int .i64))) y0.2.1 y0.2.2.2.1).1.1,((Ty.rd (t:=(.pair yT3 (.int .i64))) y0.2.1 y0.2.2.2.1).1.2,())),()))).bind fun p3 =>
(if(decide ((0:Int)≤p3.1))=true then
some (false,((),()))
else
(rec0 (y0.1,(y0.2.1,(y0.2.2.1,((wi64 (y0.2.2.2.1+(1:Int))),())))))))
else none)
else
(rec0 (y0.1,(y0.2.1,(y0.2.2.1,((wi64 (y0.2.2.2.1+(1:Int))),()))))))
else
some (false,((),()))))
else
some (false,((),()))))
else none)
else
((fun(z1:(List ((Int×Int)×Int))×Unit) =>
some ((decide ((List.length z1.1:Int)≤(12:Int))),((),()))) (y0.1,())))) k (x.1,(x.1,((List.length x.1:Int),((0:Int),())))))
abbrev qGW(k:Nat):qAL:=⟨140,0,(.cons yP20 .nil),.bool,qCW k⟩
theorem t_i_RoutesOk(k:Nat)(x):evF TTab k [qIR k,qCi k,qEZ k] [(0,⟨[0,5,6,7],(.cons yP20 (.cons yP20 (.cons (.int .i64) yP4)))⟩,⟨[0],(.cons yP20 .nil)⟩)] Tryz.f140 (.cons yP20 .nil) .bool x=qCW k x:=by kernel_rfl
theorem e_i_RoutesOk[Names](k:Nat):qAE Tryz.prog (qGW k):=qAD tok (qAA (e_i_isId k) (qAA (qEH k) (qAA (qGR k) qAI))) (by kernel_rfl) (by kernel_rfl) (by kernel_rfl) fun x r h=>(t_i_RoutesOk k x).trans h
def qE4(k:Nat)(x:(List ((Int×Int)×Int))×(Int×Int×Int×Unit)×Unit):Option (((List ((Int×Int)×Int))×Bool×Unit)×Unit×Unit×Unit):=
((qCK k (x.1,((x.2.1.1,(x.2.1.2.1,())),()))).bind fun p1 =>
(jn (fun(z1:(List ((Int×Int)×Int))×(Int×Int×Int×Unit)×(List ((Int×Int)×Int))×Int×Unit) =>
((qAb k (z1.2.2.1,(z1.2.2.2.1,(([((z1.2.1.1,z1.2.1.2.1),z1.2.1.2.2.1)]:List ((Int×Int)×Int)),())))).bind fun p3 =>
((qCW k (z1.1,())).bind fun p4 =>
(if(!p4.1)=false then
((qCW k (p3.1,())).bind fun p5 =>
(if(!p5.1)=true then
((qBF k (z1.1,())).bind fun p6 =>
some ((p6.1,(false,())),((),((),()))))
else
some ((p3.1,(true,())),((),((),())))))
else
((qBF k (z1.1,())).bind fun p7 =>
some ((p7.1,(false,())),((),((),())))))))) (fun(E1:((List ((Int×Int)×Int))×(Int×Int×Int×Unit)×(List ((Int×Int)×Int))×Int×Unit)→Option _) =>
(qAG (fun(rec0:((List ((Int×Int)×Int))×(Int×Int×Int×Unit)×(List ((Int×Int)×Int))×Int×Unit)→Option _) (y0:(List ((Int×Int)×Int))×(Int×Int×Int×Unit)×(List ((Int×Int)×Int))×Int×Unit) =>
(if(decide (y0.2.2.2.1<(List.length y0.2.2.1:Int)))=true then
(if 0≤y0.2.2.2.1∧y0.2.2.2.1<(List.length y0.2.2.1:Int) then
((qBf k (((Ty.rd (t:=(.pair yT3 (.int .i64))) y0.2.2.1 y0.2.2.2.1).1.1,((Ty.rd (t:=(.pair yT3 (.int .i64))) y0.2.2.1 y0.2.2.2.1).1.2,())),((y0.2.1.1,(y0.2.1.2.1,())),()))).bind fun p2 =>
(if(decide (p2.1<(0:Int)))=true then
(rec0 (y0.1,((y0.2.1.1,(y0.2.1.2.1,(y0.2.1.2.2.1,()))),(y0.2.2.1,((wi64 (y0.2.2.2.1+(1:Int))),())))))
else
(E1 (y0.1,((y0.2.1.1,(y0.2.1.2.1,(y0.2.1.2.2.1,()))),(y0.2.2.1,(y0.2.2.2.1,())))))))
else none)
else
(E1 (y0.1,((y0.2.1.1,(y0.2.1.2.1,(y0.2.1.2.2.1,()))),(y0.2.2.1,(y0.2.2.2.1,()))))))) k (x.1,((x.2.1.1,(x.2.1.2.1,(x.2.1.2.2.1,()))),(p1.1,((0:Int),()))))))))
abbrev E_i_PutRoute(k:Nat):qAL:=⟨58,0,(.cons yP20 (.cons (.agg yP22) .nil)),(.tup (.cons yP16 (.cons .bool .nil))),qE4 k⟩
theorem t_i_PutRoute(k:Nat)(x):evF TTab k [qCc k,qE2 k,qCi k,qCM k,qGW k] [(0,⟨[0,3,6,7],(.cons yP20 (.cons (.ptr 0 yP22) (.cons yP16 yP4)))⟩,⟨[0,3,6,7],(.cons yP20 (.cons (.ptr 0 yP22) (.cons yP16 yP4)))⟩)] Tryz.f58 (.cons yP20 (.cons (.agg yP22) .nil)) (.tup (.cons yP16 (.cons .bool .nil))) x=qE4 k x:=by kernel_rfl
theorem e_i_PutRoute[Names](k:Nat):qAE Tryz.prog (E_i_PutRoute k):=qAD tok (qAA (qDP k) (qAA (e_i_withoutPrefix k) (qAA (qEH k) (qAA (qCN k) (qAA (e_i_RoutesOk k) qAI))))) (by kernel_rfl) (by kernel_rfl) (by kernel_rfl) fun x r h=>(t_i_PutRoute k x).trans h
def qCO(k:Nat)(x:Int×Unit):Option (ByteArray×Unit×Unit):=
((qBh k (x.1,((0:Int),((4294967295:Int),())))).bind fun p1 =>
(if(!p1.1)=true then
some ((⟨#[]⟩:ByteArray),((),()))
else
some ((qAl ([(wu8 ((qAa .and .i64 (Int.fdiv x.1 (2^(min (Int.toNat (24:Int)) (IntKind.bits .i64)))) (255:Int)))),(wu8 ((qAa .and .i64 (Int.fdiv x.1 (2^(min (Int.toNat (16:Int)) (IntKind.bits .i64)))) (255:Int)))),(wu8 ((qAa .and .i64 (Int.fdiv x.1 (2^(min (Int.toNat (8:Int)) (IntKind.bits .i64)))) (255:Int)))),(wu8 ((qAa .and .i64 x.1 (255:Int))))]:List (Int))),((),()))))
abbrev qEj(k:Nat):qAL:=⟨181,0,yP4,.str,qCO k⟩
theorem t_i_NumberText(k:Nat)(x):evF TTab k [qBu k] [] Tryz.f181 yP4 .str x=qCO k x:=by kernel_rfl
theorem qHM[Names](k:Nat):qAE Tryz.prog (qEj k):=qAD tok (qAA (qB7 k) qAI) (by kernel_rfl) (by kernel_rfl) (by kernel_rfl) fun x r h=>(t_i_NumberText k x).trans h
def qDH(k:Nat)(x:List (Int)×Unit):Option (ByteArray×Unit×Unit):=
(qAG (fun(rec0:(ByteArray×List (Int)×Int×Int×Unit)→Option _) (y0:ByteArray×List (Int)×Int×Int×Unit) =>
(if(decide (y0.2.2.2.1<y0.2.2.1))=true then
(if 0≤y0.2.2.2.1∧y0.2.2.2.1<(List.length y0.2.1:Int) then
((qCO k ((Ty.rd (t:=(.int .i64)) y0.2.1 y0.2.2.2.1),())).bind fun p1 =>
(if ByteArray.size y0.1+ByteArray.size p1.1≤maxStr then
(rec0 ((y0.1++p1.1),(y0.2.1,(y0.2.2.1,((wi64 (y0.2.2.2.1+(1:Int))),())))))
else none))
else none)
else
((fun(z1:ByteArray×Unit) =>
some (z1.1,((),()))) (y0.1,())))) k ((⟨#[]⟩:ByteArray),(x.1,((List.length x.1:Int),((0:Int),())))))
abbrev qFT(k:Nat):qAL:=⟨285,0,(.cons (.il true (.int .i64)) .nil),.str,qDH k⟩
theorem t_i_wordsText(k:Nat)(x):evF TTab k [qEj k] [(0,⟨[3,6,7,8],(.cons .str (.cons (.il true (.int .i64)) (.cons (.int .i64) yP4)))⟩,⟨[3],(.cons .str .nil)⟩)] Tryz.f285 (.cons (.il true (.int .i64)) .nil) .str x=qDH k x:=by kernel_rfl
theorem qIU[Names](k:Nat):qAE Tryz.prog (qFT k):=qAD tok (qAA (qHM k) qAI) (by kernel_rfl) (by kernel_rfl) (by kernel_rfl) fun x r h=>(t_i_wordsText k x).trans h
def qFU(k:Nat)(x:Unit):Option ((Int×Int×Int×Int×Int×Int×Int×Int×Int×Int×Int×Int×Int×Int×Int×Int×Int×Int×Int×Int×Int×Int×Int×Int×Int×Int×Int×Int×Int×Int×Int×Int×Int×Int×Int×Int×Int×Int×Int×Int×Int×Int×Int×Int×Int×Int×Int×Int×Int×Int×Int×Int×Int×Int×Int×Int×Int×Int×Int×Int×Int×Int×Int×Int×Unit)×Unit):=
some (((1116352408:Int),((1899447441:Int),((3049323471:Int),((3921009573:Int),((961987163:Int),((1508970993:Int),((2453635748:Int),((2870763221:Int),((3624381080:Int),((310598401:Int),((607225278:Int),((1426881987:Int),((1925078388:Int),((2162078206:Int),((2614888103:Int),((3248222580:Int),((3835390401:Int),((4022224774:Int),((264347078:Int),((604807628:Int),((770255983:Int),((1249150122:Int),((1555081692:Int),((1996064986:Int),((2554220882:Int),((2821834349:Int),((2952996808:Int),((3210313671:Int),((3336571891:Int),((3584528711:Int),((113926993:Int),((338241895:Int),((666307205:Int),((773529912:Int),((1294757372:Int),((1396182291:Int),((1695183700:Int),((1986661051:Int),((2177026350:Int),((2456956037:Int),((2730485921:Int),((2820302411:Int),((3259730800:Int),((3345764771:Int),((3516065817:Int),((3600352804:Int),((4094571909:Int),((275423344:Int),((430227734:Int),((506948616:Int),((659060556:Int),((883997877:Int),((958139571:Int),((1322822218:Int),((1537002063:Int),((1747873779:Int),((1955562222:Int),((2024104815:Int),((2227730452:Int),((2361852424:Int),((2428436474:Int),((2756734187:Int),((3204031479:Int),((3329325298:Int),())))))))))))))))))))))))))))))))))))))))))))))))))))))))))))))))),())
abbrev qIV(k:Nat):qAL:=⟨315,0,.nil,(.agg yP12),qFU k⟩
theorem t_i_constants(k:Nat)(x):evF TTab k [] [] Tryz.f315 .nil (.agg yP12) x=qFU k x:=by kernel_rfl
theorem e_i_constants[Names](k:Nat):qAE Tryz.prog (qIV k):=qAD tok qAI (by kernel_rfl) (by kernel_rfl) (by kernel_rfl) fun x r h=>(t_i_constants k x).trans h
def qDZ(k:Nat)(x:ByteArray×Unit):Option ((Int×Bool×Unit)×Unit×Unit):=
(if(!decide ((ByteArray.size x.1:Int)=(4:Int)))=true then
some (((0:Int),(false,())),((),()))
else
(if 0≤(0:Int)∧(0:Int)<(ByteArray.size x.1:Int) then
(if 0≤(1:Int)∧(1:Int)<(ByteArray.size x.1:Int) then
(if 0≤(2:Int)∧(2:Int)<(ByteArray.size x.1:Int) then
(if 0≤(3:Int)∧(3:Int)<(ByteArray.size x.1:Int) then
some (((qAa .or .i64 (qAa .or .i64 (qAa .or .i64 (wi64 ((wi64 ((bt x.1 (0:Int))))*2^(min (Int.toNat (24:Int)) (IntKind.bits .i64)))) (wi64 ((wi64 ((bt x.1 (1:Int))))*2^(min (Int.toNat (16:Int)) (IntKind.bits .i64))))) (wi64 ((wi64 ((bt x.1 (2:Int))))*2^(min (Int.toNat (8:Int)) (IntKind.bits .i64))))) (wi64 ((bt x.1 (3:Int))))),(true,())),((),()))
else none)
else none)
else none)
else none))
abbrev qHN(k:Nat):qAL:=⟨207,0,(.cons .str .nil),(.tup (.cons (.int .i64) (.cons .bool .nil))),qDZ k⟩
theorem t_i_ReadNumber(k:Nat)(x):evF TTab k [] [] Tryz.f207 (.cons .str .nil) (.tup (.cons (.int .i64) (.cons .bool .nil))) x=qDZ k x:=by kernel_rfl
theorem e_i_ReadNumber[Names](k:Nat):qAE Tryz.prog (qHN k):=qAD tok qAI (by kernel_rfl) (by kernel_rfl) (by kernel_rfl) fun x r h=>(t_i_ReadNumber k x).trans h
def qE5(k:Nat)(x:ByteArray×Unit):Option (List (Int)×Unit×Unit):=
(qAG (fun(rec0:(ByteArray×List (Int)×Int×Unit)→Option _) (y0:ByteArray×List (Int)×Int×Unit) =>
(if(decide ((wi64 (y0.2.2.1+(4:Int)))≤(ByteArray.size y0.1:Int)))=true then
(if 0≤(wi64 (y0.2.2.1+(4:Int)))∧(wi64 (y0.2.2.1+(4:Int)))≤(ByteArray.size y0.1:Int) then
(if 0≤y0.2.2.1∧y0.2.2.1≤(wi64 (y0.2.2.1+(4:Int))) then
((qDZ k ((ByteArray.extract y0.1 (Int.toNat y0.2.2.1) (Int.toNat (wi64 (y0.2.2.1+(4:Int))))),())).bind fun p1 =>
(if List.length y0.2.1+List.length ([p1.1.1]:List (Int))≤capMax then
(rec0 (y0.1,((y0.2.1++([p1.1.1]:List (Int))),((wi64 (y0.2.2.1+(4:Int))),()))))
else none))
else none)
else none)
else
((fun(z1:List (Int)×Unit) =>
some (z1.1,((),()))) (y0.2.1,())))) k (x.1,(([]:List (Int)),((0:Int),()))))
abbrev qHo(k:Nat):qAL:=⟨317,0,(.cons .str .nil),yP31,qE5 k⟩
theorem t_i_wordsOf(k:Nat)(x):evF TTab k [qHN k] [(0,⟨[0,3,4],(.cons .str (.cons yP31 yP4))⟩,⟨[3],(.cons yP31 .nil)⟩)] Tryz.f317 (.cons .str .nil) yP31 x=qE5 k x:=by kernel_rfl
theorem e_i_wordsOf[Names](k:Nat):qAE Tryz.prog (qHo k):=qAD tok (qAA (e_i_ReadNumber k) qAI) (by kernel_rfl) (by kernel_rfl) (by kernel_rfl) fun x r h=>(t_i_wordsOf k x).trans h
def qAf(k:Nat)(x:Int×Int×Unit):Option (Int×Unit×Unit×Unit):=
(if x.2.1<0 then
none
else
(if(wi64 ((32:Int)-x.2.1))<0 then
none
else
some ((qAa .and .i64 (qAa .or .i64 (Int.fdiv x.1 (2^(min (Int.toNat x.2.1) (IntKind.bits .i64)))) (wi64 (x.1*2^(min (Int.toNat (wi64 ((32:Int)-x.2.1))) (IntKind.bits .i64))))) (4294967295:Int)),((),((),())))))
abbrev qFV(k:Nat):qAL:=⟨318,0,(.cons (.int .i64) yP4),(.int .i64),qAf k⟩
theorem t_i_turnRight(k:Nat)(x):evF TTab k [] [] Tryz.f318 (.cons (.int .i64) yP4) (.int .i64) x=qAf k x:=by kernel_rfl
theorem qIW[Names](k:Nat):qAE Tryz.prog (qFV k):=qAD tok qAI (by kernel_rfl) (by kernel_rfl) (by kernel_rfl) fun x r h=>(t_i_turnRight k x).trans h
def qE6(k:Nat)(x:ByteArray×Unit):Option (List (Int)×Unit×Unit):=
((qE5 k (x.1,())).bind fun p1 =>
(qAG (fun(rec0:(List (Int)×Int×Unit)→Option _) (y0:List (Int)×Int×Unit) =>
(if(decide (y0.2.1<(64:Int)))=true then
(if 0≤(wi64 (y0.2.1-(15:Int)))∧(wi64 (y0.2.1-(15:Int)))<(List.length y0.1:Int) then
(if 0≤(wi64 (y0.2.1-(2:Int)))∧(wi64 (y0.2.1-(2:Int)))<(List.length y0.1:Int) then
((qAf k ((Ty.rd (t:=(.int .i64)) y0.1 (wi64 (y0.2.1-(15:Int)))),((7:Int),()))).bind fun p2 =>
((qAf k ((Ty.rd (t:=(.int .i64)) y0.1 (wi64 (y0.2.1-(15:Int)))),((18:Int),()))).bind fun p3 =>
((qAf k ((Ty.rd (t:=(.int .i64)) y0.1 (wi64 (y0.2.1-(2:Int)))),((17:Int),()))).bind fun p4 =>
((qAf k ((Ty.rd (t:=(.int .i64)) y0.1 (wi64 (y0.2.1-(2:Int)))),((19:Int),()))).bind fun p5 =>
(if 0≤(wi64 (y0.2.1-(7:Int)))∧(wi64 (y0.2.1-(7:Int)))<(List.length y0.1:Int) then
(if 0≤(wi64 (y0.2.1-(16:Int)))∧(wi64 (y0.2.1-(16:Int)))<(List.length y0.1:Int) then
(if List.length y0.1+List.length ([(qAa .and .i64 (wi64 ((wi64 ((wi64 ((qAa .xor .i64 (qAa .xor .i64 p4.1 p5.1) (Int.fdiv (Ty.rd (t:=(.int .i64)) y0.1 (wi64 (y0.2.1-(2:Int)))) (2^(min (Int.toNat (10:Int)) (IntKind.bits .i64)))))+(Ty.rd (t:=(.int .i64)) y0.1 (wi64 (y0.2.1-(7:Int))))))+(qAa .xor .i64 (qAa .xor .i64 p2.1 p3.1) (Int.fdiv (Ty.rd (t:=(.int .i64)) y0.1 (wi64 (y0.2.1-(15:Int)))) (2^(min (Int.toNat (3:Int)) (IntKind.bits .i64)))))))+(Ty.rd (t:=(.int .i64)) y0.1 (wi64 (y0.2.1-(16:Int)))))) (4294967295:Int))]:List (Int))≤capMax then
(rec0 ((y0.1++([(qAa .and .i64 (wi64 ((wi64 ((wi64 ((qAa .xor .i64 (qAa .xor .i64 p4.1 p5.1) (Int.fdiv (Ty.rd (t:=(.int .i64)) y0.1 (wi64 (y0.2.1-(2:Int)))) (2^(min (Int.toNat (10:Int)) (IntKind.bits .i64)))))+(Ty.rd (t:=(.int .i64)) y0.1 (wi64 (y0.2.1-(7:Int))))))+(qAa .xor .i64 (qAa .xor .i64 p2.1 p3.1) (Int.fdiv (Ty.rd (t:=(.int .i64)) y0.1 (wi64 (y0.2.1-(15:Int)))) (2^(min (Int.toNat (3:Int)) (IntKind.bits .i64)))))))+(Ty.rd (t:=(.int .i64)) y0.1 (wi64 (y0.2.1-(16:Int)))))) (4294967295:Int))]:List (Int))),((wi64 (y0.2.1+(1:Int))),())))
else none)
else none)
else none)))))
else none)
else none)
else
((fun(z1:List (Int)×Unit) =>
some (z1.1,((),()))) (y0.1,())))) k (p1.1,((16:Int),()))))
abbrev E_i_expanded(k:Nat):qAL:=⟨316,0,(.cons .str .nil),yP31,qE6 k⟩
theorem t_i_expanded(k:Nat)(x):evF TTab k [qHo k,qFV k] [(0,⟨[3,4],(.cons yP31 yP4)⟩,⟨[3],(.cons yP31 .nil)⟩)] Tryz.f316 (.cons .str .nil) yP31 x=qE6 k x:=by kernel_rfl
theorem e_i_expanded[Names](k:Nat):qAE Tryz.prog (E_i_expanded k):=qAD tok (qAA (e_i_wordsOf k) (qAA (qIW k) qAI)) (by kernel_rfl) (by kernel_rfl) (by kernel_rfl) fun x r h=>(t_i_expanded k x).trans h
def i_round(k:Nat)(x:ByteArray×ByteArray×Unit):Option (ByteArray×Unit×Unit×Unit):=
((qFU k ()).bind fun p1 =>
((qE6 k (x.2.1,())).bind fun p2 =>
((qE5 k (x.1,())).bind fun p3 =>
(if 0≤(0:Int)∧(0:Int)<(List.length p3.1:Int) then
(if 0≤(1:Int)∧(1:Int)<(List.length p3.1:Int) then
(if 0≤(2:Int)∧(2:Int)<(List.length p3.1:Int) then
(if 0≤(3:Int)∧(3:Int)<(List.length p3.1:Int) then
(if 0≤(4:Int)∧(4:Int)<(List.length p3.1:Int) then
(if 0≤(5:Int)∧(5:Int)<(List.length p3.1:Int) then
(if 0≤(6:Int)∧(6:Int)<(List.length p3.1:Int) then
(if 0≤(7:Int)∧(7:Int)<(List.length p3.1:Int) then
(qAG (fun(rec0:((Int×Int×Int×Int×Int×Int×Int×Int×Int×Int×Int×Int×Int×Int×Int×Int×Int×Int×Int×Int×Int×Int×Int×Int×Int×Int×Int×Int×Int×Int×Int×Int×Int×Int×Int×Int×Int×Int×Int×Int×Int×Int×Int×Int×Int×Int×Int×Int×Int×Int×Int×Int×Int×Int×Int×Int×Int×Int×Int×Int×Int×Int×Int×Int×Unit)×List (Int)×List (Int)×Int×Int×Int×Int×Int×Int×Int×Int×Int×Unit)→Option _) (y0:(Int×Int×Int×Int×Int×Int×Int×Int×Int×Int×Int×Int×Int×Int×Int×Int×Int×Int×Int×Int×Int×Int×Int×Int×Int×Int×Int×Int×Int×Int×Int×Int×Int×Int×Int×Int×Int×Int×Int×Int×Int×Int×Int×Int×Int×Int×Int×Int×Int×Int×Int×Int×Int×Int×Int×Int×Int×Int×Int×Int×Int×Int×Int×Int×Unit)×List (Int)×List (Int)×Int×Int×Int×Int×Int×Int×Int×Int×Int×Unit) =>
(if(decide (y0.2.2.2.2.2.2.2.2.2.2.2.1<(64:Int)))=true then
((qAf k (y0.2.2.2.2.2.2.2.1,((6:Int),()))).bind fun p4 =>
((qAf k (y0.2.2.2.2.2.2.2.1,((11:Int),()))).bind fun p5 =>
((qAf k (y0.2.2.2.2.2.2.2.1,((25:Int),()))).bind fun p6 =>
(if 0≤y0.2.2.2.2.2.2.2.2.2.2.2.1∧y0.2.2.2.2.2.2.2.2.2.2.2.1<(64:Int) then
(if y0.2.2.2.2.2.2.2.2.2.2.2.1<(List.length ([y0.1.1,y0.1.2.1,y0.1.2.2.1,y0.1.2.2.2.1,y0.1.2.2.2.2.1,y0.1.2.2.2.2.2.1,y0.1.2.2.2.2.2.2.1,y0.1.2.2.2.2.2.2.2.1,y0.1.2.2.2.2.2.2.2.2.1,y0.1.2.2.2.2.2.2.2.2.2.1,y0.1.2.2.2.2.2.2.2.2.2.2.1,y0.1.2.2.2.2.2.2.2.2.2.2.2.1,y0.1.2.2.2.2.2.2.2.2.2.2.2.2.1,y0.1.2.2.2.2.2.2.2.2.2.2.2.2.2.1,y0.1.2.2.2.2.2.2.2.2.2.2.2.2.2.2.1,y0.1.2.2.2.2.2.2.2.2.2.2.2.2.2.2.2.1,y0.1.2.2.2.2.2.2.2.2.2.2.2.2.2.2.2.2.1,y0.1.2.2.2.2.2.2.2.2.2.2.2.2.2.2.2.2.2.1,y0.1.2.2.2.2.2.2.2.2.2.2.2.2.2.2.2.2.2.2.1,y0.1.2.2.2.2.2.2.2.2.2.2.2.2.2.2.2.2.2.2.2.1,y0.1.2.2.2.2.2.2.2.2.2.2.2.2.2.2.2.2.2.2.2.2.1,y0.1.2.2.2.2.2.2.2.2.2.2.2.2.2.2.2.2.2.2.2.2.2.1,y0.1.2.2.2.2.2.2.2.2.2.2.2.2.2.2.2.2.2.2.2.2.2.2.1,y0.1.2.2.2.2.2.2.2.2.2.2.2.2.2.2.2.2.2.2.2.2.2.2.2.1,y0.1.2.2.2.2.2.2.2.2.2.2.2.2.2.2.2.2.2.2.2.2.2.2.2.2.1,y0.1.2.2.2.2.2.2.2.2.2.2.2.2.2.2.2.2.2.2.2.2.2.2.2.2.2.1,y0.1.2.2.2.2.2.2.2.2.2.2.2.2.2.2.2.2.2.2.2.2.2.2.2.2.2.2.1,y0.1.2.2.2.2.2.2.2.2.2.2.2.2.2.2.2.2.2.2.2.2.2.2.2.2.2.2.2.1,y0.1.2.2.2.2.2.2.2.2.2.2.2.2.2.2.2.2.2.2.2.2.2.2.2.2.2.2.2.2.1,y0.1.2.2.2.2.2.2.2.2.2.2.2.2.2.2.2.2.2.2.2.2.2.2.2.2.2.2.2.2.2.1,y0.1.2.2.2.2.2.2.2.2.2.2.2.2.2.2.2.2.2.2.2.2.2.2.2.2.2.2.2.2.2.2.1,y0.1.2.2.2.2.2.2.2.2.2.2.2.2.2.2.2.2.2.2.2.2.2.2.2.2.2.2.2.2.2.2.2.1,y0.1.2.2.2.2.2.2.2.2.2.2.2.2.2.2.2.2.2.2.2.2.2.2.2.2.2.2.2.2.2.2.2.2.1,y0.1.2.2.2.2.2.2.2.2.2.2.2.2.2.2.2.2.2.2.2.2.2.2.2.2.2.2.2.2.2.2.2.2.2.1,y0.1.2.2.2.2.2.2.2.2.2.2.2.2.2.2.2.2.2.2.2.2.2.2.2.2.2.2.2.2.2.2.2.2.2.2.1,y0.1.2.2.2.2.2.2.2.2.2.2.2.2.2.2.2.2.2.2.2.2.2.2.2.2.2.2.2.2.2.2.2.2.2.2.2.1,y0.1.2.2.2.2.2.2.2.2.2.2.2.2.2.2.2.2.2.2.2.2.2.2.2.2.2.2.2.2.2.2.2.2.2.2.2.2.1,y0.1.2.2.2.2.2.2.2.2.2.2.2.2.2.2.2.2.2.2.2.2.2.2.2.2.2.2.2.2.2.2.2.2.2.2.2.2.2.1,y0.1.2.2.2.2.2.2.2.2.2.2.2.2.2.2.2.2.2.2.2.2.2.2.2.2.2.2.2.2.2.2.2.2.2.2.2.2.2.2.1,y0.1.2.2.2.2.2.2.2.2.2.2.2.2.2.2.2.2.2.2.2.2.2.2.2.2.2.2.2.2.2.2.2.2.2.2.2.2.2.2.2.1,y0.1.2.2.2.2.2.2.2.2.2.2.2.2.2.2.2.2.2.2.2.2.2.2.2.2.2.2.2.2.2.2.2.2.2.2.2.2.2.2.2.2.1,y0.1.2.2.2.2.2.2.2.2.2.2.2.2.2.2.2.2.2.2.2.2.2.2.2.2.2.2.2.2.2.2.2.2.2.2.2.2.2.2.2.2.2.1,y0.1.2.2.2.2.2.2.2.2.2.2.2.2.2.2.2.2.2.2.2.2.2.2.2.2.2.2.2.2.2.2.2.2.2.2.2.2.2.2.2.2.2.2.1,y0.1.2.2.2.2.2.2.2.2.2.2.2.2.2.2.2.2.2.2.2.2.2.2.2.2.2.2.2.2.2.2.2.2.2.2.2.2.2.2.2.2.2.2.2.1,y0.1.2.2.2.2.2.2.2.2.2.2.2.2.2.2.2.2.2.2.2.2.2.2.2.2.2.2.2.2.2.2.2.2.2.2.2.2.2.2.2.2.2.2.2.2.1,y0.1.2.2.2.2.2.2.2.2.2.2.2.2.2.2.2.2.2.2.2.2.2.2.2.2.2.2.2.2.2.2.2.2.2.2.2.2.2.2.2.2.2.2.2.2.2.1,y0.1.2.2.2.2.2.2.2.2.2.2.2.2.2.2.2.2.2.2.2.2.2.2.2.2.2.2.2.2.2.2.2.2.2.2.2.2.2.2.2.2.2.2.2.2.2.2.1,y0.1.2.2.2.2.2.2.2.2.2.2.2.2.2.2.2.2.2.2.2.2.2.2.2.2.2.2.2.2.2.2.2.2.2.2.2.2.2.2.2.2.2.2.2.2.2.2.2.1,y0.1.2.2.2.2.2.2.2.2.2.2.2.2.2.2.2.2.2.2.2.2.2.2.2.2.2.2.2.2.2.2.2.2.2.2.2.2.2.2.2.2.2.2.2.2.2.2.2.2.1,y0.1.2.2.2.2.2.2.2.2.2.2.2.2.2.2.2.2.2.2.2.2.2.2.2.2.2.2.2.2.2.2.2.2.2.2.2.2.2.2.2.2.2.2.2.2.2.2.2.2.2.1,y0.1.2.2.2.2.2.2.2.2.2.2.2.2.2.2.2.2.2.2.2.2.2.2.2.2.2.2.2.2.2.2.2.2.2.2.2.2.2.2.2.2.2.2.2.2.2.2.2.2.2.2.1,y0.1.2.2.2.2.2.2.2.2.2.2.2.2.2.2.2.2.2.2.2.2.2.2.2.2.2.2.2.2.2.2.2.2.2.2.2.2.2.2.2.2.2.2.2.2.2.2.2.2.2.2.2.1,y0.1.2.2.2.2.2.2.2.2.2.2.2.2.2.2.2.2.2.2.2.2.2.2.2.2.2.2.2.2.2.2.2.2.2.2.2.2.2.2.2.2.2.2.2.2.2.2.2.2.2.2.2.2.1,y0.1.2.2.2.2.2.2.2.2.2.2.2.2.2.2.2.2.2.2.2.2.2.2.2.2.2.2.2.2.2.2.2.2.2.2.2.2.2.2.2.2.2.2.2.2.2.2.2.2.2.2.2.2.2.1,y0.1.2.2.2.2.2.2.2.2.2.2.2.2.2.2.2.2.2.2.2.2.2.2.2.2.2.2.2.2.2.2.2.2.2.2.2.2.2.2.2.2.2.2.2.2.2.2.2.2.2.2.2.2.2.2.1,y0.1.2.2.2.2.2.2.2.2.2.2.2.2.2.2.2.2.2.2.2.2.2.2.2.2.2.2.2.2.2.2.2.2.2.2.2.2.2.2.2.2.2.2.2.2.2.2.2.2.2.2.2.2.2.2.2.1,y0.1.2.2.2.2.2.2.2.2.2.2.2.2.2.2.2.2.2.2.2.2.2.2.2.2.2.2.2.2.2.2.2.2.2.2.2.2.2.2.2.2.2.2.2.2.2.2.2.2.2.2.2.2.2.2.2.2.1,y0.1.2.2.2.2.2.2.2.2.2.2.2.2.2.2.2.2.2.2.2.2.2.2.2.2.2.2.2.2.2.2.2.2.2.2.2.2.2.2.2.2.2.2.2.2.2.2.2.2.2.2.2.2.2.2.2.2.2.1,y0.1.2.2.2.2.2.2.2.2.2.2.2.2.2.2.2.2.2.2.2.2.2.2.2.2.2.2.2.2.2.2.2.2.2.2.2.2.2.2.2.2.2.2.2.2.2.2.2.2.2.2.2.2.2.2.2.2.2.2.1,y0.1.2.2.2.2.2.2.2.2.2.2.2.2.2.2.2.2.2.2.2.2.2.2.2.2.2.2.2.2.2.2.2.2.2.2.2.2.2.2.2.2.2.2.2.2.2.2.2.2.2.2.2.2.2.2.2.2.2.2.2.1,y0.1.2.2.2.2.2.2.2.2.2.2.2.2.2.2.2.2.2.2.2.2.2.2.2.2.2.2.2.2.2.2.2.2.2.2.2.2.2.2.2.2.2.2.2.2.2.2.2.2.2.2.2.2.2.2.2.2.2.2.2.2.1,y0.1.2.2.2.2.2.2.2.2.2.2.2.2.2.2.2.2.2.2.2.2.2.2.2.2.2.2.2.2.2.2.2.2.2.2.2.2.2.2.2.2.2.2.2.2.2.2.2.2.2.2.2.2.2.2.2.2.2.2.2.2.2.1,y0.1.2.2.2.2.2.2.2.2.2.2.2.2.2.2.2.2.2.2.2.2.2.2.2.2.2.2.2.2.2.2.2.2.2.2.2.2.2.2.2.2.2.2.2.2.2.2.2.2.2.2.2.2.2.2.2.2.2.2.2.2.2.2.1,y0.1.2.2.2.2.2.2.2.2.2.2.2.2.2.2.2.2.2.2.2.2.2.2.2.2.2.2.2.2.2.2.2.2.2.2.2.2.2.2.2.2.2.2.2.2.2.2.2.2.2.2.2.2.2.2.2.2.2.2.2.2.2.2.2.1]:List Int):Int) then
(if 0≤y0.2.2.2.2.2.2.2.2.2.2.2.1∧y0.2.2.2.2.2.2.2.2.2.2.2.1<(List.length y0.2.1:Int) then
((qAf k (y0.2.2.2.1,((2:Int),()))).bind fun p7 =>
((qAf k (y0.2.2.2.1,((13:Int),()))).bind fun p8 =>
((qAf k (y0.2.2.2.1,((22:Int),()))).bind fun p9 =>
(rec0 (y0.1,(y0.2.1,(y0.2.2.1,((qAa .and .i64 (wi64 ((wi64 ((wi64 ((wi64 ((wi64 (y0.2.2.2.2.2.2.2.2.2.2.1+(qAa .xor .i64 (qAa .xor .i64 p4.1 p5.1) p6.1)))+(qAa .xor .i64 (qAa .and .i64 y0.2.2.2.2.2.2.2.1 y0.2.2.2.2.2.2.2.2.1) (qAa .and .i64 (qAa .xor .i64 (4294967295:Int) y0.2.2.2.2.2.2.2.1) y0.2.2.2.2.2.2.2.2.2.1))))+(Ty.rd (t:=.int .i64) ([y0.1.1,y0.1.2.1,y0.1.2.2.1,y0.1.2.2.2.1,y0.1.2.2.2.2.1,y0.1.2.2.2.2.2.1,y0.1.2.2.2.2.2.2.1,y0.1.2.2.2.2.2.2.2.1,y0.1.2.2.2.2.2.2.2.2.1,y0.1.2.2.2.2.2.2.2.2.2.1,y0.1.2.2.2.2.2.2.2.2.2.2.1,y0.1.2.2.2.2.2.2.2.2.2.2.2.1,y0.1.2.2.2.2.2.2.2.2.2.2.2.2.1,y0.1.2.2.2.2.2.2.2.2.2.2.2.2.2.1,y0.1.2.2.2.2.2.2.2.2.2.2.2.2.2.2.1,y0.1.2.2.2.2.2.2.2.2.2.2.2.2.2.2.2.1,y0.1.2.2.2.2.2.2.2.2.2.2.2.2.2.2.2.2.1,y0.1.2.2.2.2.2.2.2.2.2.2.2.2.2.2.2.2.2.1,y0.1.2.2.2.2.2.2.2.2.2.2.2.2.2.2.2.2.2.2.1,y0.1.2.2.2.2.2.2.2.2.2.2.2.2.2.2.2.2.2.2.2.1,y0.1.2.2.2.2.2.2.2.2.2.2.2.2.2.2.2.2.2.2.2.2.1,y0.1.2.2.2.2.2.2.2.2.2.2.2.2.2.2.2.2.2.2.2.2.2.1,y0.1.2.2.2.2.2.2.2.2.2.2.2.2.2.2.2.2.2.2.2.2.2.2.1,y0.1.2.2.2.2.2.2.2.2.2.2.2.2.2.2.2.2.2.2.2.2.2.2.2.1,y0.1.2.2.2.2.2.2.2.2.2.2.2.2.2.2.2.2.2.2.2.2.2.2.2.2.1,y0.1.2.2.2.2.2.2.2.2.2.2.2.2.2.2.2.2.2.2.2.2.2.2.2.2.2.1,y0.1.2.2.2.2.2.2.2.2.2.2.2.2.2.2.2.2.2.2.2.2.2.2.2.2.2.2.1,y0.1.2.2.2.2.2.2.2.2.2.2.2.2.2.2.2.2.2.2.2.2.2.2.2.2.2.2.2.1,y0.1.2.2.2.2.2.2.2.2.2.2.2.2.2.2.2.2.2.2.2.2.2.2.2.2.2.2.2.2.1,y0.1.2.2.2.2.2.2.2.2.2.2.2.2.2.2.2.2.2.2.2.2.2.2.2.2.2.2.2.2.2.1,y0.1.2.2.2.2.2.2.2.2.2.2.2.2.2.2.2.2.2.2.2.2.2.2.2.2.2.2.2.2.2.2.1,y0.1.2.2.2.2.2.2.2.2.2.2.2.2.2.2.2.2.2.2.2.2.2.2.2.2.2.2.2.2.2.2.2.1,y0.1.2.2.2.2.2.2.2.2.2.2.2.2.2.2.2.2.2.2.2.2.2.2.2.2.2.2.2.2.2.2.2.2.1,y0.1.2.2.2.2.2.2.2.2.2.2.2.2.2.2.2.2.2.2.2.2.2.2.2.2.2.2.2.2.2.2.2.2.2.1,y0.1.2.2.2.2.2.2.2.2.2.2.2.2.2.2.2.2.2.2.2.2.2.2.2.2.2.2.2.2.2.2.2.2.2.2.1,y0.1.2.2.2.2.2.2.2.2.2.2.2.2.2.2.2.2.2.2.2.2.2.2.2.2.2.2.2.2.2.2.2.2.2.2.2.1,y0.1.2.2.2.2.2.2.2.2.2.2.2.2.2.2.2.2.2.2.2.2.2.2.2.2.2.2.2.2.2.2.2.2.2.2.2.2.1,y0.1.2.2.2.2.2.2.2.2.2.2.2.2.2.2.2.2.2.2.2.2.2.2.2.2.2.2.2.2.2.2.2.2.2.2.2.2.2.1,y0.1.2.2.2.2.2.2.2.2.2.2.2.2.2.2.2.2.2.2.2.2.2.2.2.2.2.2.2.2.2.2.2.2.2.2.2.2.2.2.1,y0.1.2.2.2.2.2.2.2.2.2.2.2.2.2.2.2.2.2.2.2.2.2.2.2.2.2.2.2.2.2.2.2.2.2.2.2.2.2.2.2.1,y0.1.2.2.2.2.2.2.2.2.2.2.2.2.2.2.2.2.2.2.2.2.2.2.2.2.2.2.2.2.2.2.2.2.2.2.2.2.2.2.2.2.1,y0.1.2.2.2.2.2.2.2.2.2.2.2.2.2.2.2.2.2.2.2.2.2.2.2.2.2.2.2.2.2.2.2.2.2.2.2.2.2.2.2.2.2.1,y0.1.2.2.2.2.2.2.2.2.2.2.2.2.2.2.2.2.2.2.2.2.2.2.2.2.2.2.2.2.2.2.2.2.2.2.2.2.2.2.2.2.2.2.1,y0.1.2.2.2.2.2.2.2.2.2.2.2.2.2.2.2.2.2.2.2.2.2.2.2.2.2.2.2.2.2.2.2.2.2.2.2.2.2.2.2.2.2.2.2.1,y0.1.2.2.2.2.2.2.2.2.2.2.2.2.2.2.2.2.2.2.2.2.2.2.2.2.2.2.2.2.2.2.2.2.2.2.2.2.2.2.2.2.2.2.2.2.1,y0.1.2.2.2.2.2.2.2.2.2.2.2.2.2.2.2.2.2.2.2.2.2.2.2.2.2.2.2.2.2.2.2.2.2.2.2.2.2.2.2.2.2.2.2.2.2.1,y0.1.2.2.2.2.2.2.2.2.2.2.2.2.2.2.2.2.2.2.2.2.2.2.2.2.2.2.2.2.2.2.2.2.2.2.2.2.2.2.2.2.2.2.2.2.2.2.1,y0.1.2.2.2.2.2.2.2.2.2.2.2.2.2.2.2.2.2.2.2.2.2.2.2.2.2.2.2.2.2.2.2.2.2.2.2.2.2.2.2.2.2.2.2.2.2.2.2.1,y0.1.2.2.2.2.2.2.2.2.2.2.2.2.2.2.2.2.2.2.2.2.2.2.2.2.2.2.2.2.2.2.2.2.2.2.2.2.2.2.2.2.2.2.2.2.2.2.2.2.1,y0.1.2.2.2.2.2.2.2.2.2.2.2.2.2.2.2.2.2.2.2.2.2.2.2.2.2.2.2.2.2.2.2.2.2.2.2.2.2.2.2.2.2.2.2.2.2.2.2.2.2.1,y0.1.2.2.2.2.2.2.2.2.2.2.2.2.2.2.2.2.2.2.2.2.2.2.2.2.2.2.2.2.2.2.2.2.2.2.2.2.2.2.2.2.2.2.2.2.2.2.2.2.2.2.1,y0.1.2.2.2.2.2.2.2.2.2.2.2.2.2.2.2.2.2.2.2.2.2.2.2.2.2.2.2.2.2.2.2.2.2.2.2.2.2.2.2.2.2.2.2.2.2.2.2.2.2.2.2.1,y0.1.2.2.2.2.2.2.2.2.2.2.2.2.2.2.2.2.2.2.2.2.2.2.2.2.2.2.2.2.2.2.2.2.2.2.2.2.2.2.2.2.2.2.2.2.2.2.2.2.2.2.2.2.1,y0.1.2.2.2.2.2.2.2.2.2.2.2.2.2.2.2.2.2.2.2.2.2.2.2.2.2.2.2.2.2.2.2.2.2.2.2.2.2.2.2.2.2.2.2.2.2.2.2.2.2.2.2.2.2.1,y0.1.2.2.2.2.2.2.2.2.2.2.2.2.2.2.2.2.2.2.2.2.2.2.2.2.2.2.2.2.2.2.2.2.2.2.2.2.2.2.2.2.2.2.2.2.2.2.2.2.2.2.2.2.2.2.1,y0.1.2.2.2.2.2.2.2.2.2.2.2.2.2.2.2.2.2.2.2.2.2.2.2.2.2.2.2.2.2.2.2.2.2.2.2.2.2.2.2.2.2.2.2.2.2.2.2.2.2.2.2.2.2.2.2.1,y0.1.2.2.2.2.2.2.2.2.2.2.2.2.2.2.2.2.2.2.2.2.2.2.2.2.2.2.2.2.2.2.2.2.2.2.2.2.2.2.2.2.2.2.2.2.2.2.2.2.2.2.2.2.2.2.2.2.1,y0.1.2.2.2.2.2.2.2.2.2.2.2.2.2.2.2.2.2.2.2.2.2.2.2.2.2.2.2.2.2.2.2.2.2.2.2.2.2.2.2.2.2.2.2.2.2.2.2.2.2.2.2.2.2.2.2.2.2.1,y0.1.2.2.2.2.2.2.2.2.2.2.2.2.2.2.2.2.2.2.2.2.2.2.2.2.2.2.2.2.2.2.2.2.2.2.2.2.2.2.2.2.2.2.2.2.2.2.2.2.2.2.2.2.2.2.2.2.2.2.1,y0.1.2.2.2.2.2.2.2.2.2.2.2.2.2.2.2.2.2.2.2.2.2.2.2.2.2.2.2.2.2.2.2.2.2.2.2.2.2.2.2.2.2.2.2.2.2.2.2.2.2.2.2.2.2.2.2.2.2.2.2.1,y0.1.2.2.2.2.2.2.2.2.2.2.2.2.2.2.2.2.2.2.2.2.2.2.2.2.2.2.2.2.2.2.2.2.2.2.2.2.2.2.2.2.2.2.2.2.2.2.2.2.2.2.2.2.2.2.2.2.2.2.2.2.1,y0.1.2.2.2.2.2.2.2.2.2.2.2.2.2.2.2.2.2.2.2.2.2.2.2.2.2.2.2.2.2.2.2.2.2.2.2.2.2.2.2.2.2.2.2.2.2.2.2.2.2.2.2.2.2.2.2.2.2.2.2.2.2.1,y0.1.2.2.2.2.2.2.2.2.2.2.2.2.2.2.2.2.2.2.2.2.2.2.2.2.2.2.2.2.2.2.2.2.2.2.2.2.2.2.2.2.2.2.2.2.2.2.2.2.2.2.2.2.2.2.2.2.2.2.2.2.2.2.1,y0.1.2.2.2.2.2.2.2.2.2.2.2.2.2.2.2.2.2.2.2.2.2.2.2.2.2.2.2.2.2.2.2.2.2.2.2.2.2.2.2.2.2.2.2.2.2.2.2.2.2.2.2.2.2.2.2.2.2.2.2.2.2.2.2.1]:List Int) y0.2.2.2.2.2.2.2.2.2.2.2.1)))+(Ty.rd (t:=(.int .i64)) y0.2.1 y0.2.2.2.2.2.2.2.2.2.2.2.1)))+(wi64 ((qAa .xor .i64 (qAa .xor .i64 p7.1 p8.1) p9.1)+(qAa .xor .i64 (qAa .xor .i64 (qAa .and .i64 y0.2.2.2.1 y0.2.2.2.2.1) (qAa .and .i64 y0.2.2.2.1 y0.2.2.2.2.2.1)) (qAa .and .i64 y0.2.2.2.2.1 y0.2.2.2.2.2.1)))))) (4294967295:Int)),(y0.2.2.2.1,(y0.2.2.2.2.1,(y0.2.2.2.2.2.1,((qAa .and .i64 (wi64 (y0.2.2.2.2.2.2.1+(wi64 ((wi64 ((wi64 ((wi64 (y0.2.2.2.2.2.2.2.2.2.2.1+(qAa .xor .i64 (qAa .xor .i64 p4.1 p5.1) p6.1)))+(qAa .xor .i64 (qAa .and .i64 y0.2.2.2.2.2.2.2.1 y0.2.2.2.2.2.2.2.2.1) (qAa .and .i64 (qAa .xor .i64 (4294967295:Int) y0.2.2.2.2.2.2.2.1) y0.2.2.2.2.2.2.2.2.2.1))))+(Ty.rd (t:=.int .i64) ([y0.1.1,y0.1.2.1,y0.1.2.2.1,y0.1.2.2.2.1,y0.1.2.2.2.2.1,y0.1.2.2.2.2.2.1,y0.1.2.2.2.2.2.2.1,y0.1.2.2.2.2.2.2.2.1,y0.1.2.2.2.2.2.2.2.2.1,y0.1.2.2.2.2.2.2.2.2.2.1,y0.1.2.2.2.2.2.2.2.2.2.2.1,y0.1.2.2.2.2.2.2.2.2.2.2.2.1,y0.1.2.2.2.2.2.2.2.2.2.2.2.2.1,y0.1.2.2.2.2.2.2.2.2.2.2.2.2.2.1,y0.1.2.2.2.2.2.2.2.2.2.2.2.2.2.2.1,y0.1.2.2.2.2.2.2.2.2.2.2.2.2.2.2.2.1,y0.1.2.2.2.2.2.2.2.2.2.2.2.2.2.2.2.2.1,y0.1.2.2.2.2.2.2.2.2.2.2.2.2.2.2.2.2.2.1,y0.1.2.2.2.2.2.2.2.2.2.2.2.2.2.2.2.2.2.2.1,y0.1.2.2.2.2.2.2.2.2.2.2.2.2.2.2.2.2.2.2.2.1,y0.1.2.2.2.2.2.2.2.2.2.2.2.2.2.2.2.2.2.2.2.2.1,y0.1.2.2.2.2.2.2.2.2.2.2.2.2.2.2.2.2.2.2.2.2.2.1,y0.1.2.2.2.2.2.2.2.2.2.2.2.2.2.2.2.2.2.2.2.2.2.2.1,y0.1.2.2.2.2.2.2.2.2.2.2.2.2.2.2.2.2.2.2.2.2.2.2.2.1,y0.1.2.2.2.2.2.2.2.2.2.2.2.2.2.2.2.2.2.2.2.2.2.2.2.2.1,y0.1.2.2.2.2.2.2.2.2.2.2.2.2.2.2.2.2.2.2.2.2.2.2.2.2.2.1,y0.1.2.2.2.2.2.2.2.2.2.2.2.2.2.2.2.2.2.2.2.2.2.2.2.2.2.2.1,y0.1.2.2.2.2.2.2.2.2.2.2.2.2.2.2.2.2.2.2.2.2.2.2.2.2.2.2.2.1,y0.1.2.2.2.2.2.2.2.2.2.2.2.2.2.2.2.2.2.2.2.2.2.2.2.2.2.2.2.2.1,y0.1.2.2.2.2.2.2.2.2.2.2.2.2.2.2.2.2.2.2.2.2.2.2.2.2.2.2.2.2.2.1,y0.1.2.2.2.2.2.2.2.2.2.2.2.2.2.2.2.2.2.2.2.2.2.2.2.2.2.2.2.2.2.2.1,y0.1.2.2.2.2.2.2.2.2.2.2.2.2.2.2.2.2.2.2.2.2.2.2.2.2.2.2.2.2.2.2.2.1,y0.1.2.2.2.2.2.2.2.2.2.2.2.2.2.2.2.2.2.2.2.2.2.2.2.2.2.2.2.2.2.2.2.2.1,y0.1.2.2.2.2.2.2.2.2.2.2.2.2.2.2.2.2.2.2.2.2.2.2.2.2.2.2.2.2.2.2.2.2.2.1,y0.1.2.2.2.2.2.2.2.2.2.2.2.2.2.2.2.2.2.2.2.2.2.2.2.2.2.2.2.2.2.2.2.2.2.2.1,y0.1.2.2.2.2.2.2.2.2.2.2.2.2.2.2.2.2.2.2.2.2.2.2.2.2.2.2.2.2.2.2.2.2.2.2.2.1,y0.1.2.2.2.2.2.2.2.2.2.2.2.2.2.2.2.2.2.2.2.2.2.2.2.2.2.2.2.2.2.2.2.2.2.2.2.2.1,y0.1.2.2.2.2.2.2.2.2.2.2.2.2.2.2.2.2.2.2.2.2.2.2.2.2.2.2.2.2.2.2.2.2.2.2.2.2.2.1,y0.1.2.2.2.2.2.2.2.2.2.2.2.2.2.2.2.2.2.2.2.2.2.2.2.2.2.2.2.2.2.2.2.2.2.2.2.2.2.2.1,y0.1.2.2.2.2.2.2.2.2.2.2.2.2.2.2.2.2.2.2.2.2.2.2.2.2.2.2.2.2.2.2.2.2.2.2.2.2.2.2.2.1,y0.1.2.2.2.2.2.2.2.2.2.2.2.2.2.2.2.2.2.2.2.2.2.2.2.2.2.2.2.2.2.2.2.2.2.2.2.2.2.2.2.2.1,y0.1.2.2.2.2.2.2.2.2.2.2.2.2.2.2.2.2.2.2.2.2.2.2.2.2.2.2.2.2.2.2.2.2.2.2.2.2.2.2.2.2.2.1,y0.1.2.2.2.2.2.2.2.2.2.2.2.2.2.2.2.2.2.2.2.2.2.2.2.2.2.2.2.2.2.2.2.2.2.2.2.2.2.2.2.2.2.2.1,y0.1.2.2.2.2.2.2.2.2.2.2.2.2.2.2.2.2.2.2.2.2.2.2.2.2.2.2.2.2.2.2.2.2.2.2.2.2.2.2.2.2.2.2.2.1,y0.1.2.2.2.2.2.2.2.2.2.2.2.2.2.2.2.2.2.2.2.2.2.2.2.2.2.2.2.2.2.2.2.2.2.2.2.2.2.2.2.2.2.2.2.2.1,y0.1.2.2.2.2.2.2.2.2.2.2.2.2.2.2.2.2.2.2.2.2.2.2.2.2.2.2.2.2.2.2.2.2.2.2.2.2.2.2.2.2.2.2.2.2.2.1,y0.1.2.2.2.2.2.2.2.2.2.2.2.2.2.2.2.2.2.2.2.2.2.2.2.2.2.2.2.2.2.2.2.2.2.2.2.2.2.2.2.2.2.2.2.2.2.2.1,y0.1.2.2.2.2.2.2.2.2.2.2.2.2.2.2.2.2.2.2.2.2.2.2.2.2.2.2.2.2.2.2.2.2.2.2.2.2.2.2.2.2.2.2.2.2.2.2.2.1,y0.1.2.2.2.2.2.2.2.2.2.2.2.2.2.2.2.2.2.2.2.2.2.2.2.2.2.2.2.2.2.2.2.2.2.2.2.2.2.2.2.2.2.2.2.2.2.2.2.2.1,y0.1.2.2.2.2.2.2.2.2.2.2.2.2.2.2.2.2.2.2.2.2.2.2.2.2.2.2.2.2.2.2.2.2.2.2.2.2.2.2.2.2.2.2.2.2.2.2.2.2.2.1,y0.1.2.2.2.2.2.2.2.2.2.2.2.2.2.2.2.2.2.2.2.2.2.2.2.2.2.2.2.2.2.2.2.2.2.2.2.2.2.2.2.2.2.2.2.2.2.2.2.2.2.2.1,y0.1.2.2.2.2.2.2.2.2.2.2.2.2.2.2.2.2.2.2.2.2.2.2.2.2.2.2.2.2.2.2.2.2.2.2.2.2.2.2.2.2.2.2.2.2.2.2.2.2.2.2.2.1,y0.1.2.2.2.2.2.2.2.2.2.2.2.2.2.2.2.2.2.2.2.2.2.2.2.2.2.2.2.2.2.2.2.2.2.2.2.2.2.2.2.2.2.2.2.2.2.2.2.2.2.2.2.2.1,y0.1.2.2.2.2.2.2.2.2.2.2.2.2.2.2.2.2.2.2.2.2.2.2.2.2.2.2.2.2.2.2.2.2.2.2.2.2.2.2.2.2.2.2.2.2.2.2.2.2.2.2.2.2.2.1,y0.1.2.2.2.2.2.2.2.2.2.2.2.2.2.2.2.2.2.2.2.2.2.2.2.2.2.2.2.2.2.2.2.2.2.2.2.2.2.2.2.2.2.2.2.2.2.2.2.2.2.2.2.2.2.2.1,y0.1.2.2.2.2.2.2.2.2.2.2.2.2.2.2.2.2.2.2.2.2.2.2.2.2.2.2.2.2.2.2.2.2.2.2.2.2.2.2.2.2.2.2.2.2.2.2.2.2.2.2.2.2.2.2.2.1,y0.1.2.2.2.2.2.2.2.2.2.2.2.2.2.2.2.2.2.2.2.2.2.2.2.2.2.2.2.2.2.2.2.2.2.2.2.2.2.2.2.2.2.2.2.2.2.2.2.2.2.2.2.2.2.2.2.2.1,y0.1.2.2.2.2.2.2.2.2.2.2.2.2.2.2.2.2.2.2.2.2.2.2.2.2.2.2.2.2.2.2.2.2.2.2.2.2.2.2.2.2.2.2.2.2.2.2.2.2.2.2.2.2.2.2.2.2.2.1,y0.1.2.2.2.2.2.2.2.2.2.2.2.2.2.2.2.2.2.2.2.2.2.2.2.2.2.2.2.2.2.2.2.2.2.2.2.2.2.2.2.2.2.2.2.2.2.2.2.2.2.2.2.2.2.2.2.2.2.2.1,y0.1.2.2.2.2.2.2.2.2.2.2.2.2.2.2.2.2.2.2.2.2.2.2.2.2.2.2.2.2.2.2.2.2.2.2.2.2.2.2.2.2.2.2.2.2.2.2.2.2.2.2.2.2.2.2.2.2.2.2.2.1,y0.1.2.2.2.2.2.2.2.2.2.2.2.2.2.2.2.2.2.2.2.2.2.2.2.2.2.2.2.2.2.2.2.2.2.2.2.2.2.2.2.2.2.2.2.2.2.2.2.2.2.2.2.2.2.2.2.2.2.2.2.2.1,y0.1.2.2.2.2.2.2.2.2.2.2.2.2.2.2.2.2.2.2.2.2.2.2.2.2.2.2.2.2.2.2.2.2.2.2.2.2.2.2.2.2.2.2.2.2.2.2.2.2.2.2.2.2.2.2.2.2.2.2.2.2.2.1,y0.1.2.2.2.2.2.2.2.2.2.2.2.2.2.2.2.2.2.2.2.2.2.2.2.2.2.2.2.2.2.2.2.2.2.2.2.2.2.2.2.2.2.2.2.2.2.2.2.2.2.2.2.2.2.2.2.2.2.2.2.2.2.2.1,y0.1.2.2.2.2.2.2.2.2.2.2.2.2.2.2.2.2.2.2.2.2.2.2.2.2.2.2.2.2.2.2.2.2.2.2.2.2.2.2.2.2.2.2.2.2.2.2.2.2.2.2.2.2.2.2.2.2.2.2.2.2.2.2.2.1]:List Int) y0.2.2.2.2.2.2.2.2.2.2.2.1)))+(Ty.rd (t:=(.int .i64)) y0.2.1 y0.2.2.2.2.2.2.2.2.2.2.2.1))))) (4294967295:Int)),(y0.2.2.2.2.2.2.2.1,(y0.2.2.2.2.2.2.2.2.1,(y0.2.2.2.2.2.2.2.2.2.1,((wi64 (y0.2.2.2.2.2.2.2.2.2.2.2.1+(1:Int))),()))))))))))))))))
else none)
else none)
else none))))
else
((fun(z1:List (Int)×Int×Int×Int×Int×Int×Int×Int×Int×Unit) =>
(qAG (fun(rec2:(List (Int)×List (Int)×Int×Int×Unit)→Option _) (y2:List (Int)×List (Int)×Int×Int×Unit) =>
(if(decide (y2.2.2.2.1<y2.2.2.1))=true then
(if 0≤y2.2.2.2.1∧y2.2.2.2.1<(List.length y2.2.1:Int) then
(if 0≤y2.2.2.2.1∧y2.2.2.2.1<(List.length y2.1:Int) then
(if 0≤y2.2.2.2.1∧y2.2.2.2.1<(List.length y2.1:Int) then
(rec2 ((List.set y2.1 (Int.toNat y2.2.2.2.1) (qAa .and .i64 (wi64 ((Ty.rd (t:=(.int .i64)) y2.1 y2.2.2.2.1)+(Ty.rd (t:=(.int .i64)) y2.2.1 y2.2.2.2.1))) (4294967295:Int))),(y2.2.1,(y2.2.2.1,((wi64 (y2.2.2.2.1+(1:Int))),())))))
else none)
else none)
else none)
else
((fun(z2:List (Int)×Unit) =>
((qDH k (z2.1,())).bind fun p10 =>
some (p10.1,((),((),()))))) (y2.1,())))) k (z1.1,(([z1.2.1,z1.2.2.1,z1.2.2.2.1,z1.2.2.2.2.1,z1.2.2.2.2.2.1,z1.2.2.2.2.2.2.1,z1.2.2.2.2.2.2.2.1,z1.2.2.2.2.2.2.2.2.1]:List (Int)),((List.length ([z1.2.1,z1.2.2.1,z1.2.2.2.1,z1.2.2.2.2.1,z1.2.2.2.2.2.1,z1.2.2.2.2.2.2.1,z1.2.2.2.2.2.2.2.1,z1.2.2.2.2.2.2.2.2.1]:List (Int)):Int),((0:Int),())))))) (y0.2.2.1,(y0.2.2.2.1,(y0.2.2.2.2.1,(y0.2.2.2.2.2.1,(y0.2.2.2.2.2.2.1,(y0.2.2.2.2.2.2.2.1,(y0.2.2.2.2.2.2.2.2.1,(y0.2.2.2.2.2.2.2.2.2.1,(y0.2.2.2.2.2.2.2.2.2.2.1,())))))))))))) k (p1.1,(p2.1,(p3.1,((Ty.rd (t:=(.int .i64)) p3.1 (0:Int)),((Ty.rd (t:=(.int .i64)) p3.1 (1:Int)),((Ty.rd (t:=(.int .i64)) p3.1 (2:Int)),((Ty.rd (t:=(.int .i64)) p3.1 (3:Int)),((Ty.rd (t:=(.int .i64)) p3.1 (4:Int)),((Ty.rd (t:=(.int .i64)) p3.1 (5:Int)),((Ty.rd (t:=(.int .i64)) p3.1 (6:Int)),((Ty.rd (t:=(.int .i64)) p3.1 (7:Int)),((0:Int),())))))))))))))
else none)
else none)
else none)
else none)
else none)
else none)
else none)
else none))))
abbrev E_i_round(k:Nat):qAL:=⟨284,0,(.cons .str (.cons .str .nil)),.str,i_round k⟩
theorem t_i_round(k:Nat)(x):evF TTab k [qFT k,qIV k,E_i_expanded k,qHo k,qFV k] [(0,⟨[5,6,7,8,9,10,11,12,13,14,15,52],(.cons (.ptr 0 yP12) (.cons yP31 (.cons yP31 (.cons (.int .i64) (.cons (.int .i64) (.cons (.int .i64) (.cons (.int .i64) (.cons (.int .i64) (.cons (.int .i64) yP22)))))))))⟩,⟨[7,8,9,10,11,12,13,14,15],(.cons yP31 (.cons (.int .i64) (.cons (.int .i64) (.cons (.int .i64) (.cons (.int .i64) (.cons (.int .i64) yP22))))))⟩),(2,⟨[7,128,129,130],(.cons yP31 (.cons yP31 (.cons (.int .i64) yP4)))⟩,⟨[7],(.cons yP31 .nil)⟩)] Tryz.f284 (.cons .str (.cons .str .nil)) .str x=i_round k x:=by kernel_rfl
theorem e_i_round[Names](k:Nat):qAE Tryz.prog (E_i_round k):=qAD tok (qAA (qIU k) (qAA (e_i_constants k) (qAA (e_i_expanded k) (qAA (e_i_wordsOf k) (qAA (qIW k) qAI))))) (by kernel_rfl) (by kernel_rfl) (by kernel_rfl) fun x r h=>(t_i_round k x).trans h
def i_rounds(k:Nat)(x:ByteArray×ByteArray×Unit):Option ((ByteArray×ByteArray×Unit)×Unit×Unit×Unit):=
(qAG (fun(rec0:(ByteArray×ByteArray×Unit)→Option _) (y0:ByteArray×ByteArray×Unit) =>
(if(decide ((64:Int)≤(ByteArray.size y0.2.1:Int)))=true then
(if 0≤(64:Int)∧(64:Int)≤(ByteArray.size y0.2.1:Int) then
((i_round k (y0.1,((ByteArray.extract y0.2.1 (Int.toNat (0:Int)) (Int.toNat (64:Int))),()))).bind fun p1 =>
(if 0≤(64:Int)∧(64:Int)≤(ByteArray.size y0.2.1:Int) then
(rec0 (p1.1,((ByteArray.extract y0.2.1 (Int.toNat (64:Int)) (Int.toNat (ByteArray.size y0.2.1:Int))),())))
else none))
else none)
else
((fun(z1:ByteArray×ByteArray×Unit) =>
some ((z1.1,(z1.2.1,())),((),((),())))) (y0.1,(y0.2.1,()))))) k (x.1,(x.2.1,())))
abbrev E_i_rounds(k:Nat):qAL:=⟨227,0,(.cons .str (.cons .str .nil)),(.tup (.cons .str (.cons .str .nil))),i_rounds k⟩
theorem t_i_rounds(k:Nat)(x):evF TTab k [E_i_round k] [(0,⟨[0,1],(.cons .str (.cons .str .nil))⟩,⟨[0,1],(.cons .str (.cons .str .nil))⟩)] Tryz.f227 (.cons .str (.cons .str .nil)) (.tup (.cons .str (.cons .str .nil))) x=i_rounds k x:=by kernel_rfl
theorem e_i_rounds[Names](k:Nat):qAE Tryz.prog (E_i_rounds k):=qAD tok (qAA (e_i_round k) qAI) (by kernel_rfl) (by kernel_rfl) (by kernel_rfl) fun x r h=>(t_i_rounds k x).trans h
def qDa(k:Nat)(x:Unit):Option (ByteArray×Unit):=
((qDH k (([(1779033703:Int),(3144134277:Int),(1013904242:Int),(2773480762:Int),(1359893119:Int),(2600822924:Int),(528734635:Int),(1541459225:Int)]:List (Int)),())).bind fun p1 =>
some (p1.1,()))
abbrev qHO(k:Nat):qAL:=⟨228,0,.nil,.str,qDa k⟩
theorem t_i_firstState(k:Nat)(x):evF TTab k [qFT k] [] Tryz.f228 .nil .str x=qDa k x:=by kernel_rfl
theorem e_i_firstState[Names](k:Nat):qAE Tryz.prog (qHO k):=qAD tok (qAA (qIU k) qAI) (by kernel_rfl) (by kernel_rfl) (by kernel_rfl) fun x r h=>(t_i_firstState k x).trans h
def qDf(k:Nat)(x:ByteArray×Int×Unit):Option (ByteArray×Unit×Unit×Unit):=repF x
abbrev qEc(k:Nat):qAL:=⟨286,0,(.cons .str yP4),.str,qDf k⟩
theorem qIX[Names](k:Nat):qAE Tryz.prog (qEc k):=entry_repeat Tryz.func286 (by kernel_rfl) Tryz.strings_Repeat
def qGX(k:Nat)(x:Int×Unit):Option (ByteArray×Unit×Unit):=
((qDf k ((⟨#[0]⟩:ByteArray),((Int.tmod (wi64 ((119:Int)-(Int.tmod x.1 (64:Int)))) (64:Int)),()))).bind fun p1 =>
(if ByteArray.size (⟨#[128]⟩:ByteArray)+ByteArray.size p1.1≤maxStr then
((qCO k ((Int.fdiv (wi64 ((8:Int)*x.1)) (2^(min (Int.toNat (32:Int)) (IntKind.bits .i64)))),())).bind fun p2 =>
(if ByteArray.size ((⟨#[128]⟩:ByteArray)++p1.1)+ByteArray.size p2.1≤maxStr then
((qCO k ((qAa .and .i64 (wi64 ((8:Int)*x.1)) (4294967295:Int)),())).bind fun p3 =>
(if ByteArray.size (((⟨#[128]⟩:ByteArray)++p1.1)++p2.1)+ByteArray.size p3.1≤maxStr then
some (((((⟨#[128]⟩:ByteArray)++p1.1)++p2.1)++p3.1),((),()))
else none))
else none))
else none))
abbrev E_i_padding(k:Nat):qAL:=⟨229,0,yP4,.str,qGX k⟩
theorem t_i_padding(k:Nat)(x):evF TTab k [qEj k,qEc k] [] Tryz.f229 yP4 .str x=qGX k x:=by kernel_rfl
theorem e_i_padding[Names](k:Nat):qAE Tryz.prog (E_i_padding k):=qAD tok (qAA (qHM k) (qAA (qIX k) qAI)) (by kernel_rfl) (by kernel_rfl) (by kernel_rfl) fun x r h=>(t_i_padding k x).trans h
def qDv(k:Nat)(x:ByteArray×Unit):Option (ByteArray×Unit×Unit):=
((qDa k ()).bind fun p1 =>
((qGX k ((ByteArray.size x.1:Int),())).bind fun p2 =>
(if ByteArray.size x.1+ByteArray.size p2.1≤maxStr then
((i_rounds k (p1.1,((x.1++p2.1),()))).bind fun p3 =>
some (p3.1.1,((),())))
else none)))
abbrev E_i_DigestOf(k:Nat):qAL:=⟨141,0,(.cons .str .nil),.str,qDv k⟩
theorem t_i_DigestOf(k:Nat)(x):evF TTab k [E_i_rounds k,qHO k,E_i_padding k] [] Tryz.f141 (.cons .str .nil) .str x=qDv k x:=by kernel_rfl
theorem e_i_DigestOf[Names](k:Nat):qAE Tryz.prog (E_i_DigestOf k):=qAD tok (qAA (e_i_rounds k) (qAA (e_i_firstState k) (qAA (e_i_padding k) qAI))) (by kernel_rfl) (by kernel_rfl) (by kernel_rfl) fun x r h=>(t_i_DigestOf k x).trans h
def qIY(k:Nat)(x:List (Int)×Unit):Option (Bool×Unit×Unit):=
(qAG (fun(rec0:(List (Int)×List (Int)×Int×Int×Unit)→Option _) (y0:List (Int)×List (Int)×Int×Int×Unit) =>
(if(decide (y0.2.2.2.1<y0.2.2.1))=true then
(if 0≤y0.2.2.2.1∧y0.2.2.2.1<(List.length y0.2.1:Int) then
((qBh k ((Ty.rd (t:=(.int .i64)) y0.2.1 y0.2.2.2.1),((1:Int),((1000000000:Int),())))).bind fun p1 =>
(if(!p1.1)=false then
(if(decide ((0:Int)<y0.2.2.2.1))=true then
(if 0≤(wi64 (y0.2.2.2.1-(1:Int)))∧(wi64 (y0.2.2.2.1-(1:Int)))<(List.length y0.1:Int) then
(if(decide ((Ty.rd (t:=(.int .i64)) y0.1 (wi64 (y0.2.2.2.1-(1:Int))))≤(Ty.rd (t:=(.int .i64)) y0.2.1 y0.2.2.2.1)))=false then
(if 0≤(0:Int)∧(0:Int)<(List.length y0.1:Int) then
(if(decide ((Ty.rd (t:=(.int .i64)) y0.2.1 y0.2.2.2.1)≤(wi64 ((Ty.rd (t:=(.int .i64)) y0.1 (0:Int))-(6:Int)))))=true then
some (false,((),()))
else
(rec0 (y0.1,(y0.2.1,(y0.2.2.1,((wi64 (y0.2.2.2.1+(1:Int))),()))))))
else none)
else
some (false,((),())))
else none)
else
(if 0≤(0:Int)∧(0:Int)<(List.length y0.1:Int) then
(if(decide ((Ty.rd (t:=(.int .i64)) y0.2.1 y0.2.2.2.1)≤(wi64 ((Ty.rd (t:=(.int .i64)) y0.1 (0:Int))-(6:Int)))))=true then
some (false,((),()))
else
(rec0 (y0.1,(y0.2.1,(y0.2.2.1,((wi64 (y0.2.2.2.1+(1:Int))),()))))))
else none))
else
some (false,((),()))))
else none)
else
((fun(z1:List (Int)×Unit) =>
some ((decide ((List.length z1.1:Int)≤(6:Int))),((),()))) (y0.1,())))) k (x.1,(x.1,((List.length x.1:Int),((0:Int),())))))
abbrev E_i_SeenOk(k:Nat):qAL:=⟨295,0,(.cons (.il true (.int .i64)) .nil),.bool,qIY k⟩
theorem t_i_SeenOk(k:Nat)(x):evF TTab k [qBu k] [(0,⟨[0,5,6,7],(.cons (.il true (.int .i64)) (.cons (.il true (.int .i64)) (.cons (.int .i64) yP4)))⟩,⟨[0],(.cons (.il true (.int .i64)) .nil)⟩)] Tryz.f295 (.cons (.il true (.int .i64)) .nil) .bool x=qIY k x:=by kernel_rfl
theorem e_i_SeenOk[Names](k:Nat):qAE Tryz.prog (E_i_SeenOk k):=qAD tok (qAA (qB7 k) qAI) (by kernel_rfl) (by kernel_rfl) (by kernel_rfl) fun x r h=>(t_i_SeenOk k x).trans h
def qG4(k:Nat)(x:(Int×ByteArray×ByteArray×Int×List (Int)×Int×Unit)×Unit):Option (Bool×Unit×Unit):=
(if(decide (x.1.1=(0:Int)))=true then
(if(decide (x.1.2.1=(⟨#[]⟩:ByteArray)))=true then
(if(decide (x.1.2.2.1=(⟨#[]⟩:ByteArray)))=true then
(if(decide (x.1.2.2.2.1=(0:Int)))=true then
(if(decide ((List.length x.1.2.2.2.2.1:Int)=(0:Int)))=true then
some ((decide (x.1.2.2.2.2.2.1=(0:Int))),((),()))
else
some (false,((),())))
else
some (false,((),())))
else
some (false,((),())))
else
some (false,((),())))
else
(if(decide ((ByteArray.size x.1.2.1:Int)=(32:Int)))=true then
((qBh k (x.1.1,((1:Int),((1000000000:Int),())))).bind fun p1 =>
(if p1.1=true then
(if(decide ((ByteArray.size x.1.2.2.1:Int)=(32:Int)))=true then
((qBh k (x.1.2.2.2.1,((0:Int),((12:Int),())))).bind fun p2 =>
(if p2.1=true then
((qIY k (x.1.2.2.2.2.1,())).bind fun p3 =>
(if p3.1=true then
((qBh k (x.1.2.2.2.2.2.1,((0:Int),((1000000000:Int),())))).bind fun p4 =>
some (p4.1,((),())))
else
some (false,((),()))))
else
some (false,((),()))))
else
some (false,((),())))
else
some (false,((),()))))
else
((qBh k (x.1.1,((1:Int),((1000000000:Int),())))).bind fun p5 =>
(if p5.1=true then
some (false,((),()))
else
some (false,((),()))))))
abbrev E_i_SlotOk(k:Nat):qAL:=⟨256,0,yP24,.bool,qG4 k⟩
theorem t_i_SlotOk(k:Nat)(x):evF TTab k [qBu k,E_i_SeenOk k] [] Tryz.f256 yP24 .bool x=qG4 k x:=by kernel_rfl
theorem e_i_SlotOk[Names](k:Nat):qAE Tryz.prog (E_i_SlotOk k):=qAD tok (qAA (qB7 k) (qAA (e_i_SeenOk k) qAI)) (by kernel_rfl) (by kernel_rfl) (by kernel_rfl) fun x r h=>(t_i_SlotOk k x).trans h
def qGY(k:Nat)(x:(Int×ByteArray×ByteArray×Int×List (Int)×Int×Int×ByteArray×ByteArray×Int×List (Int)×Int×Unit)×Unit):Option (Bool×Unit×Unit):=
((qG4 k ((x.1.1,(x.1.2.1,(x.1.2.2.1,(x.1.2.2.2.1,(x.1.2.2.2.2.1,(x.1.2.2.2.2.2.1,())))))),())).bind fun p1 =>
(if p1.1=true then
((qG4 k ((x.1.2.2.2.2.2.2.1,(x.1.2.2.2.2.2.2.2.1,(x.1.2.2.2.2.2.2.2.2.1,(x.1.2.2.2.2.2.2.2.2.2.1,(x.1.2.2.2.2.2.2.2.2.2.2.1,(x.1.2.2.2.2.2.2.2.2.2.2.2.1,())))))),())).bind fun p2 =>
(if p2.1=true then
(if(decide (x.1.2.2.2.2.2.2.1=(0:Int)))=false then
some ((decide (x.1.2.2.2.2.2.2.1<x.1.1)),((),()))
else
some (true,((),())))
else
some (false,((),()))))
else
some (false,((),()))))
abbrev E_i_SlotsOk(k:Nat):qAL:=⟨185,0,(.cons yP13 .nil),.bool,qGY k⟩
theorem t_i_SlotsOk(k:Nat)(x):evF TTab k [E_i_SlotOk k] [] Tryz.f185 (.cons yP13 .nil) .bool x=qGY k x:=by kernel_rfl
theorem e_i_SlotsOk[Names](k:Nat):qAE Tryz.prog (E_i_SlotsOk k):=qAD tok (qAA (e_i_SlotOk k) qAI) (by kernel_rfl) (by kernel_rfl) (by kernel_rfl) fun x r h=>(t_i_SlotsOk k x).trans h
def qE7(k:Nat)(x:(Int×ByteArray×ByteArray×Int×List (Int)×Int×Int×ByteArray×ByteArray×Int×List (Int)×Int×Unit)×ByteArray×ByteArray×Int×Unit):Option (((Int×ByteArray×ByteArray×Int×List (Int)×Int×Int×ByteArray×ByteArray×Int×List (Int)×Int×Unit)×Bool×Unit)×Unit×Unit×Unit×Unit×Unit):=
((qDE k ((x.1.1,(x.1.2.1,(x.1.2.2.1,(x.1.2.2.2.1,(x.1.2.2.2.2.1,(x.1.2.2.2.2.2.1,(x.1.2.2.2.2.2.2.1,(x.1.2.2.2.2.2.2.2.1,(x.1.2.2.2.2.2.2.2.2.1,(x.1.2.2.2.2.2.2.2.2.2.1,(x.1.2.2.2.2.2.2.2.2.2.2.1,(x.1.2.2.2.2.2.2.2.2.2.2.2.1,())))))))))))),())).bind fun p1 =>
((qGY k ((x.1.1,(x.1.2.1,(x.1.2.2.1,(x.1.2.2.2.1,(x.1.2.2.2.2.1,(x.1.2.2.2.2.2.1,(x.1.2.2.2.2.2.2.1,(x.1.2.2.2.2.2.2.2.1,(x.1.2.2.2.2.2.2.2.2.1,(x.1.2.2.2.2.2.2.2.2.2.1,(x.1.2.2.2.2.2.2.2.2.2.2.1,(x.1.2.2.2.2.2.2.2.2.2.2.2.1,())))))))))))),())).bind fun p2 =>
(if(!p2.1)=false then
(if(!decide ((ByteArray.size x.2.1:Int)=(32:Int)))=false then
(if(!decide ((ByteArray.size x.2.2.1:Int)=(32:Int)))=false then
((qBh k (x.2.2.2.1,((0:Int),((999999990:Int),())))).bind fun p3 =>
(if(!p3.1)=false then
(if(decide (x.1.1=(1000000000:Int)))=true then
some (((p1.1.1,(p1.1.2.1,(p1.1.2.2.1,(p1.1.2.2.2.1,(p1.1.2.2.2.2.1,(p1.1.2.2.2.2.2.1,(p1.1.2.2.2.2.2.2.1,(p1.1.2.2.2.2.2.2.2.1,(p1.1.2.2.2.2.2.2.2.2.1,(p1.1.2.2.2.2.2.2.2.2.2.1,(p1.1.2.2.2.2.2.2.2.2.2.2.1,(p1.1.2.2.2.2.2.2.2.2.2.2.2.1,())))))))))))),(false,())),((),((),((),((),())))))
else
(if(!decide (x.1.1=(0:Int)))=true then
some ((((wi64 (x.1.1+(1:Int))),(x.2.1,(x.2.2.1,((0:Int),([],((0:Int),(p1.1.1,(p1.1.2.1,(p1.1.2.2.1,(p1.1.2.2.2.1,(p1.1.2.2.2.2.1,((wi64 (x.2.2.2.1+(10:Int))),())))))))))))),(true,())),((),((),((),((),())))))
else
some ((((wi64 (x.1.1+(1:Int))),(x.2.1,(x.2.2.1,((0:Int),([],((0:Int),(p1.1.1,(p1.1.2.1,(p1.1.2.2.1,(p1.1.2.2.2.1,(p1.1.2.2.2.2.1,(p1.1.2.2.2.2.2.1,())))))))))))),(true,())),((),((),((),((),())))))))
else
some (((p1.1.1,(p1.1.2.1,(p1.1.2.2.1,(p1.1.2.2.2.1,(p1.1.2.2.2.2.1,(p1.1.2.2.2.2.2.1,(p1.1.2.2.2.2.2.2.1,(p1.1.2.2.2.2.2.2.2.1,(p1.1.2.2.2.2.2.2.2.2.1,(p1.1.2.2.2.2.2.2.2.2.2.1,(p1.1.2.2.2.2.2.2.2.2.2.2.1,(p1.1.2.2.2.2.2.2.2.2.2.2.2.1,())))))))))))),(false,())),((),((),((),((),())))))))
else
some (((p1.1.1,(p1.1.2.1,(p1.1.2.2.1,(p1.1.2.2.2.1,(p1.1.2.2.2.2.1,(p1.1.2.2.2.2.2.1,(p1.1.2.2.2.2.2.2.1,(p1.1.2.2.2.2.2.2.2.1,(p1.1.2.2.2.2.2.2.2.2.1,(p1.1.2.2.2.2.2.2.2.2.2.1,(p1.1.2.2.2.2.2.2.2.2.2.2.1,(p1.1.2.2.2.2.2.2.2.2.2.2.2.1,())))))))))))),(false,())),((),((),((),((),()))))))
else
some (((p1.1.1,(p1.1.2.1,(p1.1.2.2.1,(p1.1.2.2.2.1,(p1.1.2.2.2.2.1,(p1.1.2.2.2.2.2.1,(p1.1.2.2.2.2.2.2.1,(p1.1.2.2.2.2.2.2.2.1,(p1.1.2.2.2.2.2.2.2.2.1,(p1.1.2.2.2.2.2.2.2.2.2.1,(p1.1.2.2.2.2.2.2.2.2.2.2.1,(p1.1.2.2.2.2.2.2.2.2.2.2.2.1,())))))))))))),(false,())),((),((),((),((),()))))))
else
some (((p1.1.1,(p1.1.2.1,(p1.1.2.2.1,(p1.1.2.2.2.1,(p1.1.2.2.2.2.1,(p1.1.2.2.2.2.2.1,(p1.1.2.2.2.2.2.2.1,(p1.1.2.2.2.2.2.2.2.1,(p1.1.2.2.2.2.2.2.2.2.1,(p1.1.2.2.2.2.2.2.2.2.2.1,(p1.1.2.2.2.2.2.2.2.2.2.2.1,(p1.1.2.2.2.2.2.2.2.2.2.2.2.1,())))))))))))),(false,())),((),((),((),((),()))))))))
abbrev E_i_Install(k:Nat):qAL:=⟨142,0,(.cons yP13 yP32),(.tup (.cons yP11 (.cons .bool .nil))),qE7 k⟩
theorem t_i_Install(k:Nat)(x):evF TTab k [qBu k,qFQ k,E_i_SlotsOk k] [] Tryz.f142 (.cons yP13 yP32) (.tup (.cons yP11 (.cons .bool .nil))) x=qE7 k x:=by kernel_rfl
theorem e_i_Install[Names](k:Nat):qAE Tryz.prog (E_i_Install k):=qAD tok (qAA (qB7 k) (qAA (qIM k) (qAA (e_i_SlotsOk k) qAI))) (by kernel_rfl) (by kernel_rfl) (by kernel_rfl) fun x r h=>(t_i_Install k x).trans h
def qEI(k:Nat)(x:ByteArray×Unit):Option (((Int×ByteArray×ByteArray×Int×List (Int)×Int×Int×ByteArray×ByteArray×Int×List (Int)×Int×Unit)×(Int×ByteArray×ByteArray×Int×List (Int)×Int×Int×ByteArray×ByteArray×Int×List (Int)×Int×Unit)×Unit)×Unit×Unit):=
(if ByteArray.size x.1+ByteArray.size (⟨#[97]⟩:ByteArray)≤maxStr then
((qDv k ((x.1++(⟨#[97]⟩:ByteArray)),())).bind fun p1 =>
(if ByteArray.size x.1+ByteArray.size (⟨#[98]⟩:ByteArray)≤maxStr then
((qDv k ((x.1++(⟨#[98]⟩:ByteArray)),())).bind fun p2 =>
((qE7 k (((0:Int),((⟨#[]⟩:ByteArray),((⟨#[]⟩:ByteArray),((0:Int),([],((0:Int),((0:Int),((⟨#[]⟩:ByteArray),((⟨#[]⟩:ByteArray),((0:Int),([],((0:Int),())))))))))))),(p1.1,(p2.1,((0:Int),()))))).bind fun p3 =>
((qE7 k (((0:Int),((⟨#[]⟩:ByteArray),((⟨#[]⟩:ByteArray),((0:Int),([],((0:Int),((0:Int),((⟨#[]⟩:ByteArray),((⟨#[]⟩:ByteArray),((0:Int),([],((0:Int),())))))))))))),(p2.1,(p1.1,((0:Int),()))))).bind fun p4 =>
some (((p3.1.1.1,(p3.1.1.2.1,(p3.1.1.2.2.1,(p3.1.1.2.2.2.1,(p3.1.1.2.2.2.2.1,(p3.1.1.2.2.2.2.2.1,(p3.1.1.2.2.2.2.2.2.1,(p3.1.1.2.2.2.2.2.2.2.1,(p3.1.1.2.2.2.2.2.2.2.2.1,(p3.1.1.2.2.2.2.2.2.2.2.2.1,(p3.1.1.2.2.2.2.2.2.2.2.2.2.1,(p3.1.1.2.2.2.2.2.2.2.2.2.2.2.1,())))))))))))),((p4.1.1.1,(p4.1.1.2.1,(p4.1.1.2.2.1,(p4.1.1.2.2.2.1,(p4.1.1.2.2.2.2.1,(p4.1.1.2.2.2.2.2.1,(p4.1.1.2.2.2.2.2.2.1,(p4.1.1.2.2.2.2.2.2.2.1,(p4.1.1.2.2.2.2.2.2.2.2.1,(p4.1.1.2.2.2.2.2.2.2.2.2.1,(p4.1.1.2.2.2.2.2.2.2.2.2.2.1,(p4.1.1.2.2.2.2.2.2.2.2.2.2.2.1,())))))))))))),())),((),())))))
else none))
else none)
abbrev qIZ(k:Nat):qAL:=⟨59,0,(.cons .str .nil),(.tup (.cons yP11 (.cons yP11 .nil))),qEI k⟩
theorem t_i_PairSlots(k:Nat)(x):evF TTab k [E_i_DigestOf k,E_i_Install k] [] Tryz.f59 (.cons .str .nil) (.tup (.cons yP11 (.cons yP11 .nil))) x=qEI k x:=by kernel_rfl
theorem e_i_PairSlots[Names](k:Nat):qAE Tryz.prog (qIZ k):=qAD tok (qAA (e_i_DigestOf k) (qAA (e_i_Install k) qAI)) (by kernel_rfl) (by kernel_rfl) (by kernel_rfl) fun x r h=>(t_i_PairSlots k x).trans h
def qAk(k:Nat)(x:Unit×Int×Unit):Option ((List (Int×Int×((Int×ByteArray×ByteArray×Int×Nat×Int)×Int×ByteArray×ByteArray×Int×Nat×Int)×Nat×Int))×Unit×Unit×Unit):=growF 208 yT1 x
abbrev qCj(k:Nat):qAL:=⟨230,0,(.cons .nils yP4),(.own false 45 yT1),qAk k⟩
theorem qCX:Go.Proofs.Lays8.n4 Tryz.prog ⟨fun n=>if n=4 then 230 else n,fun n=>if n=25 then 45 else if n=22 then 31 else n,fun n=>n⟩ where
 mixed:=by kernel_rfl
 f4:=⟨Tryz.f230.name,by kernel_rfl,Tryz.func230.trans (by kernel_rfl)⟩
 t0:=Tryz.underlying0
 a0:=Tryz.isAgg0
 z0:=Tryz.sizeOf0
 v0:=Tryz.zeroValue0
 t3:=Tryz.underlying3
 a3:=Tryz.isAgg3
 z3:=Tryz.sizeOf3
 v3:=Tryz.zeroValue3
 t4:=Tryz.underlying4
 a4:=Tryz.isAgg4
 z4:=Tryz.sizeOf4
 v4:=Tryz.zeroValue4
 t9:=Tryz.underlying9
 a9:=Tryz.isAgg9
 z9:=Tryz.sizeOf9
 v9:=Tryz.zeroValue9
 t20:=Tryz.underlying20
 a20:=Tryz.isAgg20
 z20:=Tryz.sizeOf20
 v20:=Tryz.zeroValue20
 t22:=Tryz.underlying31
 a22:=Tryz.isAgg31
 z22:=Tryz.sizeOf31
 v22:=Tryz.zeroValue31
theorem qCk[Names](k:Nat):qAE Tryz.prog ⟨230,0,(.cons .nils yP4),(.own false 45 yT1),qAk k⟩:=entry_grow (t:=yT1) qCX (i0:=Tryz.t45) (z0:=Tryz.t45.zero.getD default) (by kernel_rfl) (by kernel_rfl) (by kernel_rfl) (by decide) (by kernel_rfl) (by kernel_rfl) Tryz.func230 (by kernel_rfl)
def qAg(k:Nat)(x:(List (List (Int×Int×((Int×ByteArray×ByteArray×Int×Nat×Int)×Int×ByteArray×ByteArray×Int×Nat×Int)×Nat×Int)))×Unit):Option ((List (Int×Int×((Int×ByteArray×ByteArray×Int×Nat×Int)×Int×ByteArray×ByteArray×Int×Nat×Int)×Nat×Int))×Unit×Unit):=
(qAG (fun(rec0:((List (List (Int×Int×((Int×ByteArray×ByteArray×Int×Nat×Int)×Int×ByteArray×ByteArray×Int×Nat×Int)×Nat×Int)))×Int×(List (List (Int×Int×((Int×ByteArray×ByteArray×Int×Nat×Int)×Int×ByteArray×ByteArray×Int×Nat×Int)×Nat×Int)))×Int×Int×Unit)→Option _) (y0:(List (List (Int×Int×((Int×ByteArray×ByteArray×Int×Nat×Int)×Int×ByteArray×ByteArray×Int×Nat×Int)×Nat×Int)))×Int×(List (List (Int×Int×((Int×ByteArray×ByteArray×Int×Nat×Int)×Int×ByteArray×ByteArray×Int×Nat×Int)×Nat×Int)))×Int×Int×Unit) =>
(if(decide (y0.2.2.2.2.1<y0.2.2.2.1))=true then
(if 0≤y0.2.2.2.2.1∧y0.2.2.2.2.1<(List.length y0.2.2.1:Int) then
(if(decide ((wi64 (y0.2.1+(List.length (Ty.rd (t:=(.list yT1)) y0.2.2.1 y0.2.2.2.2.1):Int)))<(0:Int)))=true then
none
else
(rec0 (y0.1,((wi64 (y0.2.1+(List.length (Ty.rd (t:=(.list yT1)) y0.2.2.1 y0.2.2.2.2.1):Int))),(y0.2.2.1,(y0.2.2.2.1,((wi64 (y0.2.2.2.2.1+(1:Int))),())))))))
else none)
else
((fun(z1:(List (List (Int×Int×((Int×ByteArray×ByteArray×Int×Nat×Int)×Int×ByteArray×ByteArray×Int×Nat×Int)×Nat×Int)))×Int×Unit) =>
((qAk k ((),(z1.2.1,()))).bind fun p1 =>
(qAG (fun(rec2:((List (Int×Int×((Int×ByteArray×ByteArray×Int×Nat×Int)×Int×ByteArray×ByteArray×Int×Nat×Int)×Nat×Int))×(List (List (Int×Int×((Int×ByteArray×ByteArray×Int×Nat×Int)×Int×ByteArray×ByteArray×Int×Nat×Int)×Nat×Int)))×Int×Int×Unit)→Option _) (y2:(List (Int×Int×((Int×ByteArray×ByteArray×Int×Nat×Int)×Int×ByteArray×ByteArray×Int×Nat×Int)×Nat×Int))×(List (List (Int×Int×((Int×ByteArray×ByteArray×Int×Nat×Int)×Int×ByteArray×ByteArray×Int×Nat×Int)×Nat×Int)))×Int×Int×Unit) =>
(if(decide (y2.2.2.2.1<y2.2.2.1))=true then
(if 0≤y2.2.2.2.1∧y2.2.2.2.1<(List.length y2.2.1:Int) then
(if List.length y2.1+List.length (Ty.rd (t:=(.list yT1)) y2.2.1 y2.2.2.2.1)≤capMax then
(rec2 ((y2.1++(Ty.rd (t:=(.list yT1)) y2.2.1 y2.2.2.2.1)),(y2.2.1,(y2.2.2.1,((wi64 (y2.2.2.2.1+(1:Int))),())))))
else none)
else none)
else
((fun(z2:(List (Int×Int×((Int×ByteArray×ByteArray×Int×Nat×Int)×Int×ByteArray×ByteArray×Int×Nat×Int)×Nat×Int))×Unit) =>
some (z2.1,((),()))) (y2.1,())))) k (p1.1,(z1.1,((List.length z1.1:Int),((0:Int),()))))))) (y0.1,(y0.2.1,()))))) k (x.1,((0:Int),(x.1,((List.length x.1:Int),((0:Int),()))))))
abbrev qBW(k:Nat):qAL:=⟨143,0,(.cons (.il false (.list yT1)) .nil),(.own false 45 yT1),qAg k⟩
theorem qCY(k:Nat)(x):evF TTabN k [qCj k] [(0,⟨[0,3,9,10,11],(.cons (.il false (.list yT1)) (.cons (.int .i64) (.cons (.il false (.list yT1)) (.cons (.int .i64) yP4))))⟩,⟨[0,3],(.cons (.il false (.list yT1)) yP4)⟩),(2,⟨[6,25,26,27],(.cons (.own false 45 yT1) (.cons (.il false (.list yT1)) (.cons (.int .i64) yP4)))⟩,⟨[6],(.cons (.own false 45 yT1) .nil)⟩)] Tryz.f143 (.cons (.il false (.list yT1)) .nil) (.own false 45 yT1) x=qAg k x:=by kernel_rfl
theorem qCZ[Names](k:Nat):qAE Tryz.prog (qBW k):=qAD tokN (qAA (qCk k) qAI) (by kernel_rfl) (by kernel_rfl) (by kernel_rfl) fun x r h=>(qCY k x).trans h
end Go.Proofs.YtnfllchbpechlaaGreat
