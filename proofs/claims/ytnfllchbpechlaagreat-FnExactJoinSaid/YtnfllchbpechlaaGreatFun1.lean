import Derived.Test.YtnfllchbpechlaaGreatFun0
/- What functions of the program compute, as plain functions, and that their calls do so (part 1). Conditions: the plain function answers. -/
set_option linter.unusedVariables false
namespace Go.Proofs.YtnfllchbpechlaaGreat
open Go Go.Eng Go.Proofs
/- Names of types and patterns that come often. -/
abbrev yT4:Ty:=(.pair (.int .i64) (.pair (.int .i64) (.pair (.int .i64) (.pair (.list .str) (.pair (.list .bool) (.int .i64))))))
abbrev yT0:Ty:=(.pair (.int .i64) (.pair (.int .i64) (.pair (.pair (.pair (.int .i64) (.pair .str (.pair .str (.pair (.int .i64) (.pair (.list (.int .i64)) (.int .i64)))))) (.pair (.int .i64) (.pair .str (.pair .str (.pair (.int .i64) (.pair (.list (.int .i64)) (.int .i64))))))) (.pair (.list yT4) (.int .i64)))))
abbrev yT7:Ty:=(.pair (.int .i64) (.pair (.int .i64) (.pair (.int .i64) (.pair (.ols 9 .str) (.pair (.ols 4 .bool) (.int .i64))))))
abbrev yT1:Ty:=(.pair (.int .i64) (.pair (.int .i64) (.pair (.pair (.pair (.int .i64) (.pair .str (.pair .str (.pair (.int .i64) (.pair (.ols 3 (.int .i64)) (.int .i64)))))) (.pair (.int .i64) (.pair .str (.pair .str (.pair (.int .i64) (.pair (.ols 3 (.int .i64)) (.int .i64))))))) (.pair (.ols 229 yT7) (.int .i64)))))
abbrev yT2:Ty:=(.pair (.int .i64) (.pair (.int .i64) (.pair (.pair (.pair (.int .i64) (.pair .str (.pair .str (.pair (.int .i64) (.pair .nm (.int .i64)))))) (.pair (.int .i64) (.pair .str (.pair .str (.pair (.int .i64) (.pair .nm (.int .i64))))))) (.pair .nm (.int .i64)))))
abbrev yT3:Ty:=(.pair (.int .i64) (.int .i64))
abbrev yP5:Pat:=(.cons (.int .i64) .nil)
abbrev yP28:Pat:=(.il true (.pair (.int .i64) yT3))
abbrev yP6:Pat:=(.cons (.int .i64) (.cons (.int .i64) (.cons yP28 (.cons (.il true yT3) .nil))))
abbrev yP8:Pat:=(.agg (.cons (.int .i64) (.cons .str (.cons .str (.cons (.int .i64) (.cons (.il true (.int .i64)) (.cons (.int .i64) (.cons (.int .i64) (.cons .str (.cons .str (.cons (.int .i64) (.cons (.il true (.int .i64)) yP5))))))))))))
abbrev yP9:Pat:=(.agg (.cons (.int .i64) (.cons (.int .i64) (.cons (.int .i64) (.cons .str (.cons .str (.cons (.int .i64) (.cons (.il true (.int .i64)) (.cons (.int .i64) (.cons (.int .i64) (.cons .str (.cons .str (.cons (.int .i64) (.cons (.il true (.int .i64)) (.cons (.int .i64) (.cons (.il true yT4) yP5))))))))))))))))
abbrev yP25:Pat:=(.own false 3 (.int .i64))
abbrev yP10:Pat:=(.agg (.cons (.int .i64) (.cons .str (.cons .str (.cons (.int .i64) (.cons yP25 (.cons (.int .i64) (.cons (.int .i64) (.cons .str (.cons .str (.cons (.int .i64) (.cons yP25 yP5))))))))))))
abbrev yP19:Pat:=(.il true (.pair yT3 (.int .i64)))
abbrev yP11:Pat:=(.agg (.cons (.int .i64) (.cons (.int .i64) (.cons yP28 (.cons (.il true yT3) (.cons yP19 (.cons (.il true yT0) .nil)))))))
abbrev yP21:Pat:=(.own false 135 (.pair (.int .i64) yT3))
abbrev yP12:Pat:=(.cons (.int .i64) (.cons (.int .i64) (.cons yP21 (.cons (.own false 252 yT3) .nil))))
abbrev yP13:Pat:=(.agg (.cons (.int .i64) (.cons (.int .i64) (.cons (.int .i64) (.cons .str (.cons .str (.cons (.int .i64) (.cons yP25 (.cons (.int .i64) (.cons (.int .i64) (.cons .str (.cons .str (.cons (.int .i64) (.cons yP25 (.cons (.int .i64) (.cons (.own false 229 yT7) yP5))))))))))))))))
abbrev yP16:Pat:=(.cons (.int .i64) (.cons (.int .i64) yP5))
abbrev yP14:Pat:=(.cons (.int .i64) (.cons (.int .i64) (.cons (.int .i64) (.cons (.int .i64) (.cons (.int .i64) (.cons (.int .i64) (.cons (.int .i64) (.cons (.int .i64) (.cons (.int .i64) (.cons (.int .i64) (.cons (.int .i64) (.cons (.int .i64) (.cons (.int .i64) (.cons (.int .i64) (.cons (.int .i64) (.cons (.int .i64) (.cons (.int .i64) (.cons (.int .i64) (.cons (.int .i64) (.cons (.int .i64) (.cons (.int .i64) (.cons (.int .i64) (.cons (.int .i64) (.cons (.int .i64) (.cons (.int .i64) (.cons (.int .i64) (.cons (.int .i64) (.cons (.int .i64) (.cons (.int .i64) (.cons (.int .i64) (.cons (.int .i64) (.cons (.int .i64) (.cons (.int .i64) (.cons (.int .i64) (.cons (.int .i64) (.cons (.int .i64) (.cons (.int .i64) (.cons (.int .i64) (.cons (.int .i64) (.cons (.int .i64) (.cons (.int .i64) (.cons (.int .i64) (.cons (.int .i64) (.cons (.int .i64) (.cons (.int .i64) (.cons (.int .i64) (.cons (.int .i64) (.cons (.int .i64) (.cons (.int .i64) (.cons (.int .i64) (.cons (.int .i64) (.cons (.int .i64) (.cons (.int .i64) (.cons (.int .i64) (.cons (.int .i64) (.cons (.int .i64) (.cons (.int .i64) (.cons (.int .i64) (.cons (.int .i64) (.cons (.int .i64) (.cons (.int .i64) yP16)))))))))))))))))))))))))))))))))))))))))))))))))))))))))))))
abbrev yP15:Pat:=(.agg (.cons (.int .i64) (.cons .str (.cons .str (.cons (.int .i64) (.cons (.il true (.int .i64)) yP5))))))
abbrev yP17:Pat:=(.own false 53 (.pair yT3 (.int .i64)))
abbrev yP18:Pat:=(.cons (.int .i64) (.cons (.int .i64) (.cons (.int .i64) (.cons .str (.cons .str (.cons (.int .i64) (.cons (.il false (.int .i64)) (.cons (.int .i64) (.cons (.int .i64) (.cons .str (.cons .str (.cons (.int .i64) (.cons (.il false (.int .i64)) (.cons (.int .i64) (.cons (.il false yT4) yP5)))))))))))))))
abbrev yP20:Pat:=(.agg (.cons (.int .i64) (.cons (.int .i64) (.cons (.int .i64) (.cons .str (.cons .str (.cons (.int .i64) (.cons yP25 (.cons (.int .i64) (.cons (.int .i64) (.cons .str (.cons .str (.cons (.int .i64) (.cons yP25 (.cons (.int .i64) (.cons (.own false 229 yT4) yP5))))))))))))))))
abbrev yP22:Pat:=(.agg (.cons (.int .i64) yP5))
abbrev yP23:Pat:=(.agg (.cons (.int .i64) (.cons (.int .i64) (.cons (.int .i64) (.cons (.il true .str) (.cons (.il true .bool) yP5))))))
abbrev yP24:Pat:=(.cons (.int .i64) (.cons (.int .i64) (.cons (.int .i64) (.cons .str (.cons .str (.cons (.int .i64) (.cons .nm (.cons (.int .i64) (.cons (.int .i64) (.cons .str (.cons .str (.cons (.int .i64) (.cons .nm (.cons (.int .i64) (.cons .nm yP5)))))))))))))))
abbrev yP26:Pat:=(.agg (.cons (.int .i64) (.cons (.int .i64) (.cons yP21 (.cons (.own false 252 yT3) (.cons yP17 (.cons (.own false 45 yT1) .nil)))))))
abbrev yP27:Pat:=(.own false 311 (.int .u32))
abbrev yP29:Pat:=(.cons .str (.cons .str yP5))
abbrev yP30:Pat:=(.cons (.il true (.int .i64)) .nil)

def qBU(k:Nat)(x:Int×Int×Int×Unit):Option (Bool×Unit×Unit×Unit×Unit):=
(if(decide (x.2.1≤x.1))=true then
some ((decide (x.1≤x.2.2.1)),((),((),((),()))))
else
some (false,((),((),((),())))))
abbrev qBs(k:Nat):qAI:=⟨62,0,yP16,.bool,qBU k⟩
theorem t_s_l01In(k:Nat)(x):evF TTab k [] [] Tryz.f62 yP16 .bool x=qBU k x:=by kernel_rfl
theorem qCE[Names](k:Nat):qAD Tryz.prog (qBs k):=qAB tok qAG (by kernel_rfl) (by kernel_rfl) (by kernel_rfl) fun x r h=>(t_s_l01In k x).trans h
def qDd(k:Nat)(x:(ByteArray×ByteArray×Int×Unit)×Unit):Option (Bool×Unit×Unit):=
(if(decide ((ByteArray.size x.1.1:Int)=(32:Int)))=true then
(if(decide ((ByteArray.size x.1.2.1:Int)<(64:Int)))=true then
((qBU k (x.1.2.2.1,((0:Int),((1000000000:Int),())))).bind fun p1 =>
(if p1.1=true then
some ((decide ((Int.tmod x.1.2.2.1 (64:Int))=(ByteArray.size x.1.2.1:Int))),((),()))
else
some (false,((),()))))
else
some (false,((),())))
else
some (false,((),())))
abbrev qF0(k:Nat):qAI:=⟨275,0,(.cons (.agg yP29) .nil),.bool,qDd k⟩
theorem t_s_HasherOk(k:Nat)(x):evF TTab k [qBs k] [] Tryz.f275 (.cons (.agg yP29) .nil) .bool x=qDd k x:=by kernel_rfl
theorem e_s_HasherOk[Names](k:Nat):qAD Tryz.prog (qF0 k):=qAB tok (qAA (qCE k) qAG) (by kernel_rfl) (by kernel_rfl) (by kernel_rfl) fun x r h=>(t_s_HasherOk k x).trans h
def qF1(k:Nat)(x:ByteArray×Int×Unit):Option (Int×Unit×Unit×Unit):=
(if 0≤x.2.1∧x.2.1<(ByteArray.size x.1:Int) then
(if 0≤(wi64 (x.2.1+(1:Int)))∧(wi64 (x.2.1+(1:Int)))<(ByteArray.size x.1:Int) then
(if 0≤(wi64 (x.2.1+(2:Int)))∧(wi64 (x.2.1+(2:Int)))<(ByteArray.size x.1:Int) then
(if 0≤(wi64 (x.2.1+(3:Int)))∧(wi64 (x.2.1+(3:Int)))<(ByteArray.size x.1:Int) then
some ((wu32 ((wu32 ((wu32 ((wu32 ((wu32 ((bt x.1 x.2.1)))*(16777216:Int)))+(wu32 ((wu32 ((bt x.1 (wi64 (x.2.1+(1:Int))))))*(65536:Int)))))+(wu32 ((wu32 ((bt x.1 (wi64 (x.2.1+(2:Int))))))*(256:Int)))))+(wu32 ((bt x.1 (wi64 (x.2.1+(3:Int)))))))),((),((),())))
else none)
else none)
else none)
else none)
abbrev E_s_l04Word(k:Nat):qAI:=⟨311,0,(.cons .str yP5),(.int .u32),qF1 k⟩
theorem t_s_l04Word(k:Nat)(x):evF TTab k [] [] Tryz.f311 (.cons .str yP5) (.int .u32) x=qF1 k x:=by kernel_rfl
theorem e_s_l04Word[Names](k:Nat):qAD Tryz.prog (E_s_l04Word k):=qAB tok qAG (by kernel_rfl) (by kernel_rfl) (by kernel_rfl) fun x r h=>(t_s_l04Word k x).trans h
def qCn(k:Nat)(x:ByteArray×Unit):Option (List (Int)×Unit×Unit):=
(qAH (fun(rec0:(ByteArray×List (Int)×Int×Unit)→Option _) (y0:ByteArray×List (Int)×Int×Unit) =>
(if(decide ((wi64 (y0.2.2.1+(4:Int)))≤(ByteArray.size y0.1:Int)))=true then
((qF1 k (y0.1,(y0.2.2.1,()))).bind fun p1 =>
(if List.length y0.2.1+List.length ([p1.1]:List (Int))≤capMax then
(rec0 (y0.1,((y0.2.1++([p1.1]:List (Int))),((wi64 (y0.2.2.1+(4:Int))),()))))
else none))
else
((fun(z1:List (Int)×Unit) =>
some (z1.1,((),()))) (y0.2.1,())))) k (x.1,(([]:List (Int)),((0:Int),()))))
abbrev qEM(k:Nat):qAI:=⟨276,0,(.cons .str .nil),yP27,qCn k⟩
theorem t_s_l04Words(k:Nat)(x):evF TTab k [E_s_l04Word k] [(0,⟨[0,3,4],(.cons .str (.cons yP27 yP5))⟩,⟨[3],(.cons yP27 .nil)⟩)] Tryz.f276 (.cons .str .nil) yP27 x=qCn k x:=by kernel_rfl
theorem qF2[Names](k:Nat):qAD Tryz.prog (qEM k):=qAB tok (qAA (e_s_l04Word k) qAG) (by kernel_rfl) (by kernel_rfl) (by kernel_rfl) fun x r h=>(t_s_l04Words k x).trans h
def s_l04K(k:Nat)(x:Unit):Option (List (Int)×Unit):=
some (([(1116352408:Int),(1899447441:Int),(3049323471:Int),(3921009573:Int),(961987163:Int),(1508970993:Int),(2453635748:Int),(2870763221:Int),(3624381080:Int),(310598401:Int),(607225278:Int),(1426881987:Int),(1925078388:Int),(2162078206:Int),(2614888103:Int),(3248222580:Int),(3835390401:Int),(4022224774:Int),(264347078:Int),(604807628:Int),(770255983:Int),(1249150122:Int),(1555081692:Int),(1996064986:Int),(2554220882:Int),(2821834349:Int),(2952996808:Int),(3210313671:Int),(3336571891:Int),(3584528711:Int),(113926993:Int),(338241895:Int),(666307205:Int),(773529912:Int),(1294757372:Int),(1396182291:Int),(1695183700:Int),(1986661051:Int),(2177026350:Int),(2456956037:Int),(2730485921:Int),(2820302411:Int),(3259730800:Int),(3345764771:Int),(3516065817:Int),(3600352804:Int),(4094571909:Int),(275423344:Int),(430227734:Int),(506948616:Int),(659060556:Int),(883997877:Int),(958139571:Int),(1322822218:Int),(1537002063:Int),(1747873779:Int),(1955562222:Int),(2024104815:Int),(2227730452:Int),(2361852424:Int),(2428436474:Int),(2756734187:Int),(3204031479:Int),(3329325298:Int)]:List (Int)),())
abbrev E_s_l04K(k:Nat):qAI:=⟨277,0,.nil,yP27,s_l04K k⟩
theorem t_s_l04K(k:Nat)(x):evF TTab k [] [] Tryz.f277 .nil yP27 x=s_l04K k x:=by kernel_rfl
theorem e_s_l04K[Names](k:Nat):qAD Tryz.prog (E_s_l04K k):=qAB tok qAG (by kernel_rfl) (by kernel_rfl) (by kernel_rfl) fun x r h=>(t_s_l04K k x).trans h
def qCo(k:Nat)(x:Int×Int×Int×Unit):Option (Int×Unit×Unit×Unit×Unit):=
(if x.2.1=0 then
none
else
(if x.2.1=0 then
none
else
some ((wu32 ((wu32 (Int.tdiv x.1 x.2.1))+(wu32 ((Int.tmod x.1 x.2.1)*x.2.2.1)))),((),((),((),()))))))
abbrev E_s_l04Right(k:Nat):qAI:=⟨330,0,(.cons (.int .u32) (.cons (.int .u32) (.cons (.int .u32) .nil))),(.int .u32),qCo k⟩
theorem t_s_l04Right(k:Nat)(x):evF TTab k [] [] Tryz.f330 (.cons (.int .u32) (.cons (.int .u32) (.cons (.int .u32) .nil))) (.int .u32) x=qCo k x:=by kernel_rfl
theorem e_s_l04Right[Names](k:Nat):qAD Tryz.prog (E_s_l04Right k):=qAB tok qAG (by kernel_rfl) (by kernel_rfl) (by kernel_rfl) fun x r h=>(t_s_l04Right k x).trans h
def qHV(k:Nat)(x:Int×Int×Int×Int×Bool×Unit):Option (Int×Unit×Unit×Unit×Unit×Unit×Unit):=
(if x.2.1=0 then
none
else
((qCo k (x.1,(x.2.1,((wu32 ((wu32 (Int.tdiv (2147483648:Int) x.2.1))*(2:Int))),())))).bind fun p1 =>
(if x.2.2.1=0 then
none
else
((qCo k (x.1,(x.2.2.1,((wu32 ((wu32 (Int.tdiv (2147483648:Int) x.2.2.1))*(2:Int))),())))).bind fun p2 =>
(if x.2.2.2.1=0 then
none
else
(if(!x.2.2.2.2.1)=true then
(if x.2.2.2.1=0 then
none
else
((qCo k (x.1,(x.2.2.2.1,((wu32 ((wu32 (Int.tdiv (2147483648:Int) x.2.2.2.1))*(2:Int))),())))).bind fun p3 =>
some ((qAX .xor .u32 (qAX .xor .u32 p1.1 p2.1) p3.1),((),((),((),((),((),()))))))))
else
some ((qAX .xor .u32 (qAX .xor .u32 p1.1 p2.1) (wu32 (Int.tdiv x.1 x.2.2.2.1))),((),((),((),((),((),()))))))))))))
abbrev E_s_l04S(k:Nat):qAI:=⟨312,0,(.cons (.int .u32) (.cons (.int .u32) (.cons (.int .u32) (.cons (.int .u32) (.cons .bool .nil))))),(.int .u32),qHV k⟩
theorem t_s_l04S(k:Nat)(x):evF TTab k [E_s_l04Right k] [] Tryz.f312 (.cons (.int .u32) (.cons (.int .u32) (.cons (.int .u32) (.cons (.int .u32) (.cons .bool .nil))))) (.int .u32) x=qHV k x:=by kernel_rfl
theorem e_s_l04S[Names](k:Nat):qAD Tryz.prog (E_s_l04S k):=qAB tok (qAA (e_s_l04Right k) qAG) (by kernel_rfl) (by kernel_rfl) (by kernel_rfl) fun x r h=>(t_s_l04S k x).trans h
def qDe(k:Nat)(x:List (Int)×List (Int)×ByteArray×Unit):Option (List (Int)×Unit×Unit×Unit×Unit):=
((qCn k (x.2.2.1,())).bind fun p1 =>
(qAH (fun(rec0:(List (Int)×List (Int)×List (Int)×Int×Unit)→Option _) (y0:List (Int)×List (Int)×List (Int)×Int×Unit) =>
(if(decide (y0.2.2.2.1<(64:Int)))=true then
(if 0≤(wi64 (y0.2.2.2.1-(2:Int)))∧(wi64 (y0.2.2.2.1-(2:Int)))<(List.length y0.2.2.1:Int) then
((qHV k ((Ty.rd (t:=(.int .u32)) y0.2.2.1 (wi64 (y0.2.2.2.1-(2:Int)))),((131072:Int),((524288:Int),((1024:Int),(true,())))))).bind fun p2 =>
(if 0≤(wi64 (y0.2.2.2.1-(7:Int)))∧(wi64 (y0.2.2.2.1-(7:Int)))<(List.length y0.2.2.1:Int) then
(if 0≤(wi64 (y0.2.2.2.1-(15:Int)))∧(wi64 (y0.2.2.2.1-(15:Int)))<(List.length y0.2.2.1:Int) then
((qHV k ((Ty.rd (t:=(.int .u32)) y0.2.2.1 (wi64 (y0.2.2.2.1-(15:Int)))),((128:Int),((262144:Int),((8:Int),(true,())))))).bind fun p3 =>
(if 0≤(wi64 (y0.2.2.2.1-(16:Int)))∧(wi64 (y0.2.2.2.1-(16:Int)))<(List.length y0.2.2.1:Int) then
(if List.length y0.2.2.1+List.length ([(wu32 ((wu32 ((wu32 (p2.1+(Ty.rd (t:=(.int .u32)) y0.2.2.1 (wi64 (y0.2.2.2.1-(7:Int))))))+p3.1))+(Ty.rd (t:=(.int .u32)) y0.2.2.1 (wi64 (y0.2.2.2.1-(16:Int))))))]:List (Int))≤capMax then
(rec0 (y0.1,(y0.2.1,((y0.2.2.1++([(wu32 ((wu32 ((wu32 (p2.1+(Ty.rd (t:=(.int .u32)) y0.2.2.1 (wi64 (y0.2.2.2.1-(7:Int))))))+p3.1))+(Ty.rd (t:=(.int .u32)) y0.2.2.1 (wi64 (y0.2.2.2.1-(16:Int))))))]:List (Int))),((wi64 (y0.2.2.2.1+(1:Int))),())))))
else none)
else none))
else none)
else none))
else none)
else
((fun(z1:List (Int)×List (Int)×List (Int)×Unit) =>
(if List.length ([]:List (Int))+List.length z1.1≤capMax then
(qAH (fun(rec2:(List (Int)×List (Int)×List (Int)×List (Int)×Int×Unit)→Option _) (y2:List (Int)×List (Int)×List (Int)×List (Int)×Int×Unit) =>
(if(decide (y2.2.2.2.2.1<(64:Int)))=true then
(if 0≤(4:Int)∧(4:Int)<(List.length y2.2.2.2.1:Int) then
(if 0≤(5:Int)∧(5:Int)<(List.length y2.2.2.2.1:Int) then
(if 0≤(6:Int)∧(6:Int)<(List.length y2.2.2.2.1:Int) then
(if 0≤(7:Int)∧(7:Int)<(List.length y2.2.2.2.1:Int) then
((qHV k ((Ty.rd (t:=(.int .u32)) y2.2.2.2.1 (4:Int)),((64:Int),((2048:Int),((33554432:Int),(false,())))))).bind fun p4 =>
(if 0≤y2.2.2.2.2.1∧y2.2.2.2.2.1<(List.length y2.2.1:Int) then
(if 0≤y2.2.2.2.2.1∧y2.2.2.2.2.1<(List.length y2.2.2.1:Int) then
(if 0≤(0:Int)∧(0:Int)<(List.length y2.2.2.2.1:Int) then
(if 0≤(1:Int)∧(1:Int)<(List.length y2.2.2.2.1:Int) then
(if 0≤(0:Int)∧(0:Int)<(List.length y2.2.2.2.1:Int) then
(if 0≤(2:Int)∧(2:Int)<(List.length y2.2.2.2.1:Int) then
(if 0≤(1:Int)∧(1:Int)<(List.length y2.2.2.2.1:Int) then
(if 0≤(2:Int)∧(2:Int)<(List.length y2.2.2.2.1:Int) then
(if 0≤(0:Int)∧(0:Int)<(List.length y2.2.2.2.1:Int) then
((qHV k ((Ty.rd (t:=(.int .u32)) y2.2.2.2.1 (0:Int)),((4:Int),((8192:Int),((4194304:Int),(false,())))))).bind fun p5 =>
(qAH (fun(rec4:(List (Int)×List (Int)×List (Int)×List (Int)×Int×Int×Int×Int×Unit)→Option _) (y4:List (Int)×List (Int)×List (Int)×List (Int)×Int×Int×Int×Int×Unit) =>
(if(decide ((0:Int)<y4.2.2.2.2.2.2.2.1))=true then
(if 0≤(wi64 (y4.2.2.2.2.2.2.2.1-(1:Int)))∧(wi64 (y4.2.2.2.2.2.2.2.1-(1:Int)))<(List.length y4.2.2.2.1:Int) then
(if 0≤y4.2.2.2.2.2.2.2.1∧y4.2.2.2.2.2.2.2.1<(List.length y4.2.2.2.1:Int) then
(rec4 (y4.1,(y4.2.1,(y4.2.2.1,((List.set y4.2.2.2.1 (Int.toNat y4.2.2.2.2.2.2.2.1) (Ty.rd (t:=(.int .u32)) y4.2.2.2.1 (wi64 (y4.2.2.2.2.2.2.2.1-(1:Int))))),(y4.2.2.2.2.1,(y4.2.2.2.2.2.1,(y4.2.2.2.2.2.2.1,((wi64 (y4.2.2.2.2.2.2.2.1-(1:Int))),())))))))))
else none)
else none)
else
((fun(z2:List (Int)×List (Int)×List (Int)×List (Int)×Int×Int×Int×Unit) =>
(if 0≤(4:Int)∧(4:Int)<(List.length z2.2.2.2.1:Int) then
(if 0≤(4:Int)∧(4:Int)<(List.length z2.2.2.2.1:Int) then
(if 0≤(0:Int)∧(0:Int)<(List.length (List.set z2.2.2.2.1 (Int.toNat (4:Int)) (wu32 ((Ty.rd (t:=(.int .u32)) z2.2.2.2.1 (4:Int))+z2.2.2.2.2.2.1))):Int) then
(rec2 (z2.1,(z2.2.1,(z2.2.2.1,((List.set (List.set z2.2.2.2.1 (Int.toNat (4:Int)) (wu32 ((Ty.rd (t:=(.int .u32)) z2.2.2.2.1 (4:Int))+z2.2.2.2.2.2.1))) (Int.toNat (0:Int)) (wu32 (z2.2.2.2.2.2.1+z2.2.2.2.2.2.2.1))),((wi64 (z2.2.2.2.2.1+(1:Int))),()))))))
else none)
else none)
else none)) (y4.1,(y4.2.1,(y4.2.2.1,(y4.2.2.2.1,(y4.2.2.2.2.1,(y4.2.2.2.2.2.1,(y4.2.2.2.2.2.2.1,())))))))))) k (y2.1,(y2.2.1,(y2.2.2.1,(y2.2.2.2.1,(y2.2.2.2.2.1,((wu32 ((wu32 ((wu32 ((wu32 ((Ty.rd (t:=(.int .u32)) y2.2.2.2.1 (7:Int))+p4.1))+(qAX .xor .u32 (qAX .and .u32 (Ty.rd (t:=(.int .u32)) y2.2.2.2.1 (4:Int)) (Ty.rd (t:=(.int .u32)) y2.2.2.2.1 (5:Int))) (qAX .and .u32 (wu32 ((4294967295:Int)-(Ty.rd (t:=(.int .u32)) y2.2.2.2.1 (4:Int)))) (Ty.rd (t:=(.int .u32)) y2.2.2.2.1 (6:Int))))))+(Ty.rd (t:=(.int .u32)) y2.2.1 y2.2.2.2.2.1)))+(Ty.rd (t:=(.int .u32)) y2.2.2.1 y2.2.2.2.2.1))),((wu32 (p5.1+(qAX .xor .u32 (qAX .xor .u32 (qAX .and .u32 (Ty.rd (t:=(.int .u32)) y2.2.2.2.1 (0:Int)) (Ty.rd (t:=(.int .u32)) y2.2.2.2.1 (1:Int))) (qAX .and .u32 (Ty.rd (t:=(.int .u32)) y2.2.2.2.1 (0:Int)) (Ty.rd (t:=(.int .u32)) y2.2.2.2.1 (2:Int)))) (qAX .and .u32 (Ty.rd (t:=(.int .u32)) y2.2.2.2.1 (1:Int)) (Ty.rd (t:=(.int .u32)) y2.2.2.2.1 (2:Int)))))),((7:Int),()))))))))))
else none)
else none)
else none)
else none)
else none)
else none)
else none)
else none)
else none))
else none)
else none)
else none)
else none)
else
((fun(z3:List (Int)×List (Int)×Unit) =>
(qAH (fun(rec6:(List (Int)×List (Int)×List (Int)×Int×Unit)→Option _) (y6:List (Int)×List (Int)×List (Int)×Int×Unit) =>
(if(decide (y6.2.2.2.1<(8:Int)))=true then
(if 0≤y6.2.2.2.1∧y6.2.2.2.1<(List.length y6.1:Int) then
(if 0≤y6.2.2.2.1∧y6.2.2.2.1<(List.length y6.2.1:Int) then
(if List.length y6.2.2.1+List.length ([(wu32 ((Ty.rd (t:=(.int .u32)) y6.1 y6.2.2.2.1)+(Ty.rd (t:=(.int .u32)) y6.2.1 y6.2.2.2.1)))]:List (Int))≤capMax then
(rec6 (y6.1,(y6.2.1,((y6.2.2.1++([(wu32 ((Ty.rd (t:=(.int .u32)) y6.1 y6.2.2.2.1)+(Ty.rd (t:=(.int .u32)) y6.2.1 y6.2.2.2.1)))]:List (Int))),((wi64 (y6.2.2.2.1+(1:Int))),())))))
else none)
else none)
else none)
else
((fun(z4:List (Int)×Unit) =>
some (z4.1,((),((),((),()))))) (y6.2.2.1,())))) k (z3.1,(z3.2.1,(([]:List (Int)),((0:Int),())))))) (y2.1,(y2.2.2.2.1,()))))) k (z1.1,(z1.2.1,(z1.2.2.1,((([]:List (Int))++z1.1),((0:Int),()))))))
else none)) (y0.1,(y0.2.1,(y0.2.2.1,())))))) k (x.1,(x.2.1,(p1.1,((16:Int),()))))))
abbrev qF3(k:Nat):qAI:=⟨278,0,(.cons (.il true (.int .u32)) (.cons (.il true (.int .u32)) (.cons .str .nil))),yP27,qDe k⟩
theorem t_s_l04Round(k:Nat)(x):evF TTab k [qEM k,E_s_l04S k] [(0,⟨[0,1,7,8],(.cons (.il true (.int .u32)) (.cons (.il true (.int .u32)) (.cons yP27 yP5)))⟩,⟨[0,1,7],(.cons (.il true (.int .u32)) (.cons (.il true (.int .u32)) (.cons yP27 .nil)))⟩),(2,⟨[0,1,7,9,10],(.cons (.il true (.int .u32)) (.cons (.il true (.int .u32)) (.cons yP27 (.cons yP27 yP5))))⟩,⟨[0,9],(.cons (.il true (.int .u32)) (.cons yP27 .nil))⟩),(4,⟨[0,1,7,9,10,13,15,16],(.cons (.il true (.int .u32)) (.cons (.il true (.int .u32)) (.cons yP27 (.cons yP27 (.cons (.int .i64) (.cons (.int .u32) (.cons (.int .u32) yP5)))))))⟩,⟨[0,1,7,9,10,13,15],(.cons (.il true (.int .u32)) (.cons (.il true (.int .u32)) (.cons yP27 (.cons yP27 (.cons (.int .i64) (.cons (.int .u32) (.cons (.int .u32) .nil)))))))⟩),(6,⟨[0,9,17,18],(.cons (.il true (.int .u32)) (.cons yP27 (.cons yP27 yP5)))⟩,⟨[17],(.cons yP27 .nil)⟩)] Tryz.f278 (.cons (.il true (.int .u32)) (.cons (.il true (.int .u32)) (.cons .str .nil))) yP27 x=qDe k x:=by kernel_rfl
theorem e_s_l04Round[Names](k:Nat):qAD Tryz.prog (qF3 k):=qAB tok (qAA (qF2 k) (qAA (e_s_l04S k) qAG)) (by kernel_rfl) (by kernel_rfl) (by kernel_rfl) fun x r h=>(t_s_l04Round k x).trans h
def qCp(k:Nat)(x:List (Int)×Unit):Option (ByteArray×Unit×Unit):=
(qAH (fun(rec0:(List (Int)×List (Int)×Int×Unit)→Option _) (y0:List (Int)×List (Int)×Int×Unit) =>
(if(decide (y0.2.2.1<(List.length y0.1:Int)))=true then
(if 0≤y0.2.2.1∧y0.2.2.1<(List.length y0.1:Int) then
(if List.length y0.2.1+List.length ([(wu8 ((wu32 (Int.tdiv (Ty.rd (t:=(.int .u32)) y0.1 y0.2.2.1) (16777216:Int))))),(wu8 ((Int.tmod (wu32 (Int.tdiv (Ty.rd (t:=(.int .u32)) y0.1 y0.2.2.1) (65536:Int))) (256:Int)))),(wu8 ((Int.tmod (wu32 (Int.tdiv (Ty.rd (t:=(.int .u32)) y0.1 y0.2.2.1) (256:Int))) (256:Int)))),(wu8 ((Int.tmod (Ty.rd (t:=(.int .u32)) y0.1 y0.2.2.1) (256:Int))))]:List (Int))≤capMax then
(rec0 (y0.1,((y0.2.1++([(wu8 ((wu32 (Int.tdiv (Ty.rd (t:=(.int .u32)) y0.1 y0.2.2.1) (16777216:Int))))),(wu8 ((Int.tmod (wu32 (Int.tdiv (Ty.rd (t:=(.int .u32)) y0.1 y0.2.2.1) (65536:Int))) (256:Int)))),(wu8 ((Int.tmod (wu32 (Int.tdiv (Ty.rd (t:=(.int .u32)) y0.1 y0.2.2.1) (256:Int))) (256:Int)))),(wu8 ((Int.tmod (Ty.rd (t:=(.int .u32)) y0.1 y0.2.2.1) (256:Int))))]:List (Int))),((wi64 (y0.2.2.1+(1:Int))),()))))
else none)
else none)
else
((fun(z1:List (Int)×Unit) =>
some ((qAg z1.1),((),()))) (y0.2.1,())))) k (x.1,(([]:List (Int)),((0:Int),()))))
abbrev qEN(k:Nat):qAI:=⟨279,0,(.cons (.il true (.int .u32)) .nil),.str,qCp k⟩
theorem t_s_l04Bytes(k:Nat)(x):evF TTab k [] [(0,⟨[0,3,4],(.cons (.il true (.int .u32)) (.cons (.own false 5 (.int .u8)) yP5))⟩,⟨[3],(.cons (.own false 5 (.int .u8)) .nil)⟩)] Tryz.f279 (.cons (.il true (.int .u32)) .nil) .str x=qCp k x:=by kernel_rfl
theorem qF4[Names](k:Nat):qAD Tryz.prog (qEN k):=qAB tok qAG (by kernel_rfl) (by kernel_rfl) (by kernel_rfl) fun x r h=>(t_s_l04Bytes k x).trans h
def qF5(k:Nat)(x:(ByteArray×ByteArray×Int×Unit)×Unit):Option (ByteArray×Unit×Unit):=
((qDd k ((x.1.1,(x.1.2.1,(x.1.2.2.1,()))),())).bind fun p1 =>
(if(!p1.1)=true then
some ((⟨#[]⟩:ByteArray),((),()))
else
(if ByteArray.size x.1.2.1≤maxStr then
(if List.length (qAJ x.1.2.1)+List.length ([(128:Int)]:List (Int))≤capMax then
(qAH (fun(rec0:((ByteArray×ByteArray×Int×Unit)×List (Int)×Unit)→Option _) (y0:(ByteArray×ByteArray×Int×Unit)×List (Int)×Unit) =>
(if(!decide ((Int.tmod (List.length y0.2.1:Int) (64:Int))=(56:Int)))=true then
(if List.length y0.2.1+List.length ([(0:Int)]:List (Int))≤capMax then
(rec0 ((y0.1.1,(y0.1.2.1,(y0.1.2.2.1,()))),((y0.2.1++([(0:Int)]:List (Int))),())))
else none)
else
((fun(z1:(ByteArray×ByteArray×Int×Unit)×List (Int)×Unit) =>
(qAH (fun(rec2:((ByteArray×ByteArray×Int×Unit)×List (Int)×Int×Int×Unit)→Option _) (y2:(ByteArray×ByteArray×Int×Unit)×List (Int)×Int×Int×Unit) =>
(if(decide ((0:Int)≤y2.2.2.2.1))=true then
(qAH (fun(rec4:((ByteArray×ByteArray×Int×Unit)×List (Int)×Int×Int×Int×Int×Unit)→Option _) (y4:(ByteArray×ByteArray×Int×Unit)×List (Int)×Int×Int×Int×Int×Unit) =>
(if(decide (y4.2.2.2.2.2.1<y4.2.2.2.1))=true then
(rec4 ((y4.1.1,(y4.1.2.1,(y4.1.2.2.1,()))),(y4.2.1,(y4.2.2.1,(y4.2.2.2.1,((wi64 (Int.tdiv y4.2.2.2.2.1 (256:Int))),((wi64 (y4.2.2.2.2.2.1+(1:Int))),())))))))
else
((fun(z2:(ByteArray×ByteArray×Int×Unit)×List (Int)×Int×Int×Int×Unit) =>
(if List.length z2.2.1+List.length ([(wu8 ((Int.tmod z2.2.2.2.2.1 (256:Int))))]:List (Int))≤capMax then
(rec2 ((z2.1.1,(z2.1.2.1,(z2.1.2.2.1,()))),((z2.2.1++([(wu8 ((Int.tmod z2.2.2.2.2.1 (256:Int))))]:List (Int))),(z2.2.2.1,((wi64 (z2.2.2.2.1-(1:Int))),())))))
else none)) ((y4.1.1,(y4.1.2.1,(y4.1.2.2.1,()))),(y4.2.1,(y4.2.2.1,(y4.2.2.2.1,(y4.2.2.2.2.1,())))))))) k ((y2.1.1,(y2.1.2.1,(y2.1.2.2.1,()))),(y2.2.1,(y2.2.2.1,(y2.2.2.2.1,(y2.2.2.1,((0:Int),())))))))
else
((fun(z3:(ByteArray×ByteArray×Int×Unit)×List (Int)×Unit) =>
((qCn k (z3.1.1,())).bind fun p2 =>
((s_l04K k ()).bind fun p3 =>
(qAH (fun(rec6:(List (Int)×List (Int)×List (Int)×Int×Unit)→Option _) (y6:List (Int)×List (Int)×List (Int)×Int×Unit) =>
(if(decide (y6.2.2.2.1<(List.length y6.1:Int)))=true then
(if 0≤(wi64 (y6.2.2.2.1+(64:Int)))∧(wi64 (y6.2.2.2.1+(64:Int)))≤(List.length y6.1:Int) then
(if 0≤y6.2.2.2.1∧y6.2.2.2.1≤(wi64 (y6.2.2.2.1+(64:Int))) then
((qDe k (y6.2.1,(y6.2.2.1,((qAg (List.drop (Int.toNat y6.2.2.2.1) (List.take (Int.toNat (wi64 (y6.2.2.2.1+(64:Int)))) y6.1))),())))).bind fun p4 =>
(rec6 (y6.1,(p4.1,(y6.2.2.1,((wi64 (y6.2.2.2.1+(64:Int))),()))))))
else none)
else none)
else
((fun(z4:List (Int)×Unit) =>
((qCp k (z4.1,())).bind fun p5 =>
some (p5.1,((),())))) (y6.2.1,())))) k (z3.2.1,(p2.1,(p3.1,((0:Int),())))))))) ((y2.1.1,(y2.1.2.1,(y2.1.2.2.1,()))),(y2.2.1,()))))) k ((z1.1.1,(z1.1.2.1,(z1.1.2.2.1,()))),(z1.2.1,((wi64 ((8:Int)*z1.1.2.2.1)),((7:Int),())))))) ((y0.1.1,(y0.1.2.1,(y0.1.2.2.1,()))),(y0.2.1,()))))) k ((x.1.1,(x.1.2.1,(x.1.2.2.1,()))),(((qAJ x.1.2.1)++([(128:Int)]:List (Int))),())))
else none)
else none)))
abbrev E_s_HashEnd(k:Nat):qAI:=⟨208,0,(.cons (.agg yP29) .nil),.str,qF5 k⟩
theorem t_s_HashEnd(k:Nat)(x):evF TTab k [qF0 k,qEM k,E_s_l04K k,qF3 k,qEN k] [(0,⟨[1,3],(.cons (.ptr 0 yP29) (.cons (.own true 5 (.int .u8)) .nil))⟩,⟨[1,3],(.cons (.ptr 0 yP29) (.cons (.own true 5 (.int .u8)) .nil))⟩),(2,⟨[1,3,4,5],(.cons (.ptr 0 yP29) (.cons (.own true 5 (.int .u8)) (.cons (.int .i64) yP5)))⟩,⟨[1,3],(.cons (.ptr 0 yP29) (.cons (.own true 5 (.int .u8)) .nil))⟩),(4,⟨[1,3,4,5,6,7],(.cons (.ptr 0 yP29) (.cons (.own true 5 (.int .u8)) (.cons (.int .i64) yP16)))⟩,⟨[1,3,4,5,6],(.cons (.ptr 0 yP29) (.cons (.own true 5 (.int .u8)) yP16))⟩),(6,⟨[3,8,9,10],(.cons (.own true 5 (.int .u8)) (.cons yP27 (.cons yP27 yP5)))⟩,⟨[8],(.cons yP27 .nil)⟩)] Tryz.f208 (.cons (.agg yP29) .nil) .str x=qF5 k x:=by kernel_rfl
theorem e_s_HashEnd[Names](k:Nat):qAD Tryz.prog (E_s_HashEnd k):=qAB tok (qAA (e_s_HasherOk k) (qAA (qF2 k) (qAA (e_s_l04K k) (qAA (e_s_l04Round k) (qAA (qF4 k) qAG))))) (by kernel_rfl) (by kernel_rfl) (by kernel_rfl) fun x r h=>(t_s_HashEnd k x).trans h
def qDf(k:Nat)(x:(ByteArray×ByteArray×Int×Unit)×ByteArray×Unit):Option ((ByteArray×ByteArray×Int×Unit)×Unit×Unit×Unit):=
((qDd k ((x.1.1,(x.1.2.1,(x.1.2.2.1,()))),())).bind fun p1 =>
(if(!p1.1)=false then
(if(decide ((1000000000:Int)<(wi64 (x.1.2.2.1+(ByteArray.size x.2.1:Int)))))=true then
some ((x.1.1,(x.1.2.1,(x.1.2.2.1,()))),((),((),())))
else
((qCn k (x.1.1,())).bind fun p2 =>
((s_l04K k ()).bind fun p3 =>
(if ByteArray.size x.1.2.1+ByteArray.size x.2.1≤maxStr then
(qAH (fun(rec0:(ByteArray×(ByteArray×ByteArray×Int×Unit)×(ByteArray×ByteArray×Int×Unit)×List (Int)×List (Int)×ByteArray×Int×Unit)→Option _) (y0:ByteArray×(ByteArray×ByteArray×Int×Unit)×(ByteArray×ByteArray×Int×Unit)×List (Int)×List (Int)×ByteArray×Int×Unit) =>
(if(decide ((wi64 (y0.2.2.2.2.2.2.1+(64:Int)))≤(ByteArray.size y0.2.2.2.2.2.1:Int)))=true then
(if 0≤(wi64 (y0.2.2.2.2.2.2.1+(64:Int)))∧(wi64 (y0.2.2.2.2.2.2.1+(64:Int)))≤(ByteArray.size y0.2.2.2.2.2.1:Int) then
(if 0≤y0.2.2.2.2.2.2.1∧y0.2.2.2.2.2.2.1≤(wi64 (y0.2.2.2.2.2.2.1+(64:Int))) then
((qDe k (y0.2.2.2.1,(y0.2.2.2.2.1,((ByteArray.extract y0.2.2.2.2.2.1 (Int.toNat y0.2.2.2.2.2.2.1) (Int.toNat (wi64 (y0.2.2.2.2.2.2.1+(64:Int))))),())))).bind fun p4 =>
(rec0 (y0.1,((y0.2.1.1,(y0.2.1.2.1,(y0.2.1.2.2.1,()))),((y0.2.2.1.1,(y0.2.2.1.2.1,(y0.2.2.1.2.2.1,()))),(p4.1,(y0.2.2.2.2.1,(y0.2.2.2.2.2.1,((wi64 (y0.2.2.2.2.2.2.1+(64:Int))),())))))))))
else none)
else none)
else
((fun(z1:ByteArray×(ByteArray×ByteArray×Int×Unit)×(ByteArray×ByteArray×Int×Unit)×List (Int)×ByteArray×Int×Unit) =>
((qCp k (z1.2.2.2.1,())).bind fun p5 =>
(if 0≤z1.2.2.2.2.2.1∧z1.2.2.2.2.2.1≤(ByteArray.size z1.2.2.2.2.1:Int) then
some ((p5.1,((ByteArray.extract z1.2.2.2.2.1 (Int.toNat z1.2.2.2.2.2.1) (Int.toNat (ByteArray.size z1.2.2.2.2.1:Int))),((wi64 (z1.2.1.2.2.1+(ByteArray.size z1.1:Int))),()))),((),((),())))
else none))) (y0.1,((y0.2.1.1,(y0.2.1.2.1,(y0.2.1.2.2.1,()))),((y0.2.2.1.1,(y0.2.2.1.2.1,(y0.2.2.1.2.2.1,()))),(y0.2.2.2.1,(y0.2.2.2.2.2.1,(y0.2.2.2.2.2.2.1,()))))))))) k (x.2.1,((x.1.1,(x.1.2.1,(x.1.2.2.1,()))),(((⟨#[]⟩:ByteArray),((⟨#[]⟩:ByteArray),((0:Int),()))),(p2.1,(p3.1,((x.1.2.1++x.2.1),((0:Int),()))))))))
else none))))
else
some ((x.1.1,(x.1.2.1,(x.1.2.2.1,()))),((),((),())))))
abbrev E_s_HashMore(k:Nat):qAI:=⟨209,0,(.cons (.agg yP29) (.cons .str .nil)),(.agg yP29),qDf k⟩
theorem t_s_HashMore(k:Nat)(x):evF TTab k [qF0 k,qEM k,E_s_l04K k,qF3 k,qEN k] [(0,⟨[1,2,4,5,6,7,8],(.cons .str (.cons (.ptr 0 yP29) (.cons (.ptr 0 yP29) (.cons yP27 (.cons yP27 (.cons .str yP5))))))⟩,⟨[1,2,4,5,7,8],(.cons .str (.cons (.ptr 0 yP29) (.cons (.ptr 0 yP29) (.cons yP27 (.cons .str yP5)))))⟩)] Tryz.f209 (.cons (.agg yP29) (.cons .str .nil)) (.agg yP29) x=qDf k x:=by kernel_rfl
theorem e_s_HashMore[Names](k:Nat):qAD Tryz.prog (E_s_HashMore k):=qAB tok (qAA (e_s_HasherOk k) (qAA (qF2 k) (qAA (e_s_l04K k) (qAA (e_s_l04Round k) (qAA (qF4 k) qAG))))) (by kernel_rfl) (by kernel_rfl) (by kernel_rfl) fun x r h=>(t_s_HashMore k x).trans h
def qG9(k:Nat)(x:Unit):Option (List (Int)×Unit):=
some (([(1779033703:Int),(3144134277:Int),(1013904242:Int),(2773480762:Int),(1359893119:Int),(2600822924:Int),(528734635:Int),(1541459225:Int)]:List (Int)),())
abbrev E_s_l04First(k:Nat):qAI:=⟨280,0,.nil,yP27,qG9 k⟩
theorem t_s_l04First(k:Nat)(x):evF TTab k [] [] Tryz.f280 .nil yP27 x=qG9 k x:=by kernel_rfl
theorem e_s_l04First[Names](k:Nat):qAD Tryz.prog (E_s_l04First k):=qAB tok qAG (by kernel_rfl) (by kernel_rfl) (by kernel_rfl) fun x r h=>(t_s_l04First k x).trans h
def qFO(k:Nat)(x:Unit):Option ((ByteArray×ByteArray×Int×Unit)×Unit):=
((qG9 k ()).bind fun p1 =>
((qCp k (p1.1,())).bind fun p2 =>
some ((p2.1,((⟨#[]⟩:ByteArray),((0:Int),()))),())))
abbrev qIS(k:Nat):qAI:=⟨210,0,.nil,(.agg yP29),qFO k⟩
theorem t_s_HasherNew(k:Nat)(x):evF TTab k [qEN k,E_s_l04First k] [] Tryz.f210 .nil (.agg yP29) x=qFO k x:=by kernel_rfl
theorem e_s_HasherNew[Names](k:Nat):qAD Tryz.prog (qIS k):=qAB tok (qAA (qF4 k) (qAA (e_s_l04First k) qAG)) (by kernel_rfl) (by kernel_rfl) (by kernel_rfl) fun x r h=>(t_s_HasherNew k x).trans h
def qDg(k:Nat)(x:ByteArray×Unit):Option (ByteArray×Unit×Unit):=
((qFO k ()).bind fun p1 =>
((qDf k ((p1.1.1,(p1.1.2.1,(p1.1.2.2.1,()))),(x.1,()))).bind fun p2 =>
((qF5 k ((p2.1.1,(p2.1.2.1,(p2.1.2.2.1,()))),())).bind fun p3 =>
some (p3.1,((),())))))
abbrev E_s_DigestOf(k:Nat):qAI:=⟨122,0,(.cons .str .nil),.str,qDg k⟩
theorem t_s_DigestOf(k:Nat)(x):evF TTab k [E_s_HashEnd k,E_s_HashMore k,qIS k] [] Tryz.f122 (.cons .str .nil) .str x=qDg k x:=by kernel_rfl
theorem e_s_DigestOf[Names](k:Nat):qAD Tryz.prog (E_s_DigestOf k):=qAB tok (qAA (e_s_HashEnd k) (qAA (e_s_HashMore k) (qAA (e_s_HasherNew k) qAG))) (by kernel_rfl) (by kernel_rfl) (by kernel_rfl) fun x r h=>(t_s_DigestOf k x).trans h
def qCa(k:Nat)(x:(Int×ByteArray×ByteArray×Int×List (Int)×Int×Unit)×Unit):Option ((Int×ByteArray×ByteArray×Int×List (Int)×Int×Unit)×Unit×Unit):=
(if List.length ([]:List (Int))+List.length x.1.2.2.2.2.1≤capMax then
some ((x.1.1,(x.1.2.1,(x.1.2.2.1,(x.1.2.2.2.1,((([]:List (Int))++x.1.2.2.2.2.1),(x.1.2.2.2.2.2.1,())))))),((),()))
else none)
abbrev qF6(k:Nat):qAI:=⟨247,0,(.cons yP15 .nil),(.agg (.cons (.int .i64) (.cons .str (.cons .str (.cons (.int .i64) (.cons yP25 yP5)))))),qCa k⟩
theorem t_s_l17CopySlot(k:Nat)(x):evF TTab k [] [] Tryz.f247 (.cons yP15 .nil) (.agg (.cons (.int .i64) (.cons .str (.cons .str (.cons (.int .i64) (.cons yP25 yP5)))))) x=qCa k x:=by kernel_rfl
theorem e_s_l17CopySlot[Names](k:Nat):qAD Tryz.prog (qF6 k):=qAB tok qAG (by kernel_rfl) (by kernel_rfl) (by kernel_rfl) fun x r h=>(t_s_l17CopySlot k x).trans h
def qEl(k:Nat)(x:(Int×ByteArray×ByteArray×Int×List (Int)×Int×Int×ByteArray×ByteArray×Int×List (Int)×Int×Unit)×Unit):Option ((Int×ByteArray×ByteArray×Int×List (Int)×Int×Int×ByteArray×ByteArray×Int×List (Int)×Int×Unit)×Unit×Unit):=
((qCa k ((x.1.1,(x.1.2.1,(x.1.2.2.1,(x.1.2.2.2.1,(x.1.2.2.2.2.1,(x.1.2.2.2.2.2.1,())))))),())).bind fun p1 =>
((qCa k ((x.1.2.2.2.2.2.2.1,(x.1.2.2.2.2.2.2.2.1,(x.1.2.2.2.2.2.2.2.2.1,(x.1.2.2.2.2.2.2.2.2.2.1,(x.1.2.2.2.2.2.2.2.2.2.2.1,(x.1.2.2.2.2.2.2.2.2.2.2.2.1,())))))),())).bind fun p2 =>
some ((p1.1.1,(p1.1.2.1,(p1.1.2.2.1,(p1.1.2.2.2.1,(p1.1.2.2.2.2.1,(p1.1.2.2.2.2.2.1,(p2.1.1,(p2.1.2.1,(p2.1.2.2.1,(p2.1.2.2.2.1,(p2.1.2.2.2.2.1,(p2.1.2.2.2.2.2.1,())))))))))))),((),()))))
abbrev qHu(k:Nat):qAI:=⟨170,0,(.cons yP8 .nil),yP10,qEl k⟩
theorem t_s_l17Copy(k:Nat)(x):evF TTab k [qF6 k] [] Tryz.f170 (.cons yP8 .nil) yP10 x=qEl k x:=by kernel_rfl
theorem e_s_l17Copy[Names](k:Nat):qAD Tryz.prog (qHu k):=qAB tok (qAA (e_s_l17CopySlot k) qAG) (by kernel_rfl) (by kernel_rfl) (by kernel_rfl) fun x r h=>(t_s_l17Copy k x).trans h
def qDD(k:Nat)(x:(Int×ByteArray×ByteArray×Int×List (Int)×Int×Unit)×Unit):Option (Bool×Unit×Unit):=
(if(decide (x.1.1=(0:Int)))=true then
(if(decide (x.1.2.1=(⟨#[]⟩:ByteArray)))=true then
(if(decide (x.1.2.2.1=(⟨#[]⟩:ByteArray)))=true then
(if(decide (x.1.2.2.2.1=(0:Int)))=true then
(if(decide ((List.length x.1.2.2.2.2.1:Int)=(0:Int)))=true then
some ((decide (x.1.2.2.2.2.2.1=(0:Int))),((),()))
else
some (false,((),())))
else
some (false,((),())))
else
some (false,((),())))
else
some (false,((),())))
else
some (false,((),())))
abbrev qFP(k:Nat):qAI:=⟨193,0,(.cons yP15 .nil),.bool,qDD k⟩
theorem t_s_l17None(k:Nat)(x):evF TTab k [] [] Tryz.f193 (.cons yP15 .nil) .bool x=qDD k x:=by kernel_rfl
theorem qHv[Names](k:Nat):qAD Tryz.prog (qFP k):=qAB tok qAG (by kernel_rfl) (by kernel_rfl) (by kernel_rfl) fun x r h=>(t_s_l17None k x).trans h
def qIT(k:Nat)(x:List (Int)×Unit):Option (Bool×Unit×Unit):=
(qAH (fun(rec0:(List (Int)×Int×Unit)→Option _) (y0:List (Int)×Int×Unit) =>
(if(decide (y0.2.1<(List.length y0.1:Int)))=true then
(if 0≤y0.2.1∧y0.2.1<(List.length y0.1:Int) then
((qBU k ((Ty.rd (t:=(.int .i64)) y0.1 y0.2.1),((1:Int),((1000000000:Int),())))).bind fun p1 =>
(if(!p1.1)=false then
(if(decide ((0:Int)<y0.2.1))=true then
(if 0≤(wi64 (y0.2.1-(1:Int)))∧(wi64 (y0.2.1-(1:Int)))<(List.length y0.1:Int) then
(if 0≤y0.2.1∧y0.2.1<(List.length y0.1:Int) then
(if(decide ((Ty.rd (t:=(.int .i64)) y0.1 (wi64 (y0.2.1-(1:Int))))≤(Ty.rd (t:=(.int .i64)) y0.1 y0.2.1)))=false then
(if 0≤y0.2.1∧y0.2.1<(List.length y0.1:Int) then
(if 0≤(0:Int)∧(0:Int)<(List.length y0.1:Int) then
(if(decide ((Ty.rd (t:=(.int .i64)) y0.1 y0.2.1)≤(wi64 ((Ty.rd (t:=(.int .i64)) y0.1 (0:Int))-(6:Int)))))=true then
some (false,((),()))
else
(rec0 (y0.1,((wi64 (y0.2.1+(1:Int))),()))))
else none)
else none)
else
some (false,((),())))
else none)
else none)
else
(if 0≤y0.2.1∧y0.2.1<(List.length y0.1:Int) then
(if 0≤(0:Int)∧(0:Int)<(List.length y0.1:Int) then
(if(decide ((Ty.rd (t:=(.int .i64)) y0.1 y0.2.1)≤(wi64 ((Ty.rd (t:=(.int .i64)) y0.1 (0:Int))-(6:Int)))))=true then
some (false,((),()))
else
(rec0 (y0.1,((wi64 (y0.2.1+(1:Int))),()))))
else none)
else none))
else
some (false,((),()))))
else none)
else
((fun(z1:List (Int)×Unit) =>
some ((decide ((List.length z1.1:Int)≤(6:Int))),((),()))) (y0.1,())))) k (x.1,((0:Int),())))
abbrev E_s_SeenOk(k:Nat):qAI:=⟨290,0,yP30,.bool,qIT k⟩
theorem t_s_SeenOk(k:Nat)(x):evF TTab k [qBs k] [(0,⟨[0,3],(.cons (.il true (.int .i64)) yP5)⟩,⟨[0],yP30⟩)] Tryz.f290 yP30 .bool x=qIT k x:=by kernel_rfl
theorem e_s_SeenOk[Names](k:Nat):qAD Tryz.prog (E_s_SeenOk k):=qAB tok (qAA (qCE k) qAG) (by kernel_rfl) (by kernel_rfl) (by kernel_rfl) fun x r h=>(t_s_SeenOk k x).trans h
def qHA(k:Nat)(x:(Int×ByteArray×ByteArray×Int×List (Int)×Int×Unit)×Unit):Option (Bool×Unit×Unit):=
((qDD k ((x.1.1,(x.1.2.1,(x.1.2.2.1,(x.1.2.2.2.1,(x.1.2.2.2.2.1,(x.1.2.2.2.2.2.1,())))))),())).bind fun p1 =>
(if p1.1=true then
some (true,((),()))
else
((qBU k (x.1.1,((1:Int),((1000000000:Int),())))).bind fun p2 =>
(if p2.1=true then
(if(decide ((ByteArray.size x.1.2.1:Int)=(32:Int)))=true then
(if(decide ((ByteArray.size x.1.2.2.1:Int)=(32:Int)))=true then
((qBU k (x.1.2.2.2.1,((0:Int),((12:Int),())))).bind fun p3 =>
(if p3.1=true then
((qIT k (x.1.2.2.2.2.1,())).bind fun p4 =>
(if p4.1=true then
((qBU k (x.1.2.2.2.2.2.1,((0:Int),((1000000000:Int),())))).bind fun p5 =>
some (p5.1,((),())))
else
some (false,((),()))))
else
some (false,((),()))))
else
some (false,((),())))
else
some (false,((),())))
else
some (false,((),()))))))
abbrev E_s_SlotOk(k:Nat):qAI:=⟨249,0,(.cons yP15 .nil),.bool,qHA k⟩
theorem t_s_SlotOk(k:Nat)(x):evF TTab k [qBs k,qFP k,E_s_SeenOk k] [] Tryz.f249 (.cons yP15 .nil) .bool x=qHA k x:=by kernel_rfl
theorem e_s_SlotOk[Names](k:Nat):qAD Tryz.prog (E_s_SlotOk k):=qAB tok (qAA (qCE k) (qAA (qHv k) (qAA (e_s_SeenOk k) qAG))) (by kernel_rfl) (by kernel_rfl) (by kernel_rfl) fun x r h=>(t_s_SlotOk k x).trans h
def qF7(k:Nat)(x:(Int×ByteArray×ByteArray×Int×List (Int)×Int×Int×ByteArray×ByteArray×Int×List (Int)×Int×Unit)×Unit):Option (Bool×Unit×Unit):=
((qHA k ((x.1.1,(x.1.2.1,(x.1.2.2.1,(x.1.2.2.2.1,(x.1.2.2.2.2.1,(x.1.2.2.2.2.2.1,())))))),())).bind fun p1 =>
(if(!p1.1)=false then
((qHA k ((x.1.2.2.2.2.2.2.1,(x.1.2.2.2.2.2.2.2.1,(x.1.2.2.2.2.2.2.2.2.1,(x.1.2.2.2.2.2.2.2.2.2.1,(x.1.2.2.2.2.2.2.2.2.2.2.1,(x.1.2.2.2.2.2.2.2.2.2.2.2.1,())))))),())).bind fun p2 =>
(if(!p2.1)=true then
some (false,((),()))
else
((qDD k ((x.1.2.2.2.2.2.2.1,(x.1.2.2.2.2.2.2.2.1,(x.1.2.2.2.2.2.2.2.2.1,(x.1.2.2.2.2.2.2.2.2.2.1,(x.1.2.2.2.2.2.2.2.2.2.2.1,(x.1.2.2.2.2.2.2.2.2.2.2.2.1,())))))),())).bind fun p3 =>
(if p3.1=false then
some ((decide (x.1.2.2.2.2.2.2.1<x.1.1)),((),()))
else
some (true,((),()))))))
else
some (false,((),()))))
abbrev E_s_SlotsOk(k:Nat):qAI:=⟨175,0,(.cons yP8 .nil),.bool,qF7 k⟩
theorem t_s_SlotsOk(k:Nat)(x):evF TTab k [qFP k,E_s_SlotOk k] [] Tryz.f175 (.cons yP8 .nil) .bool x=qF7 k x:=by kernel_rfl
theorem e_s_SlotsOk[Names](k:Nat):qAD Tryz.prog (E_s_SlotsOk k):=qAB tok (qAA (qHv k) (qAA (e_s_SlotOk k) qAG)) (by kernel_rfl) (by kernel_rfl) (by kernel_rfl) fun x r h=>(t_s_SlotsOk k x).trans h
def qEm(k:Nat)(x:(Int×ByteArray×ByteArray×Int×List (Int)×Int×Int×ByteArray×ByteArray×Int×List (Int)×Int×Unit)×ByteArray×ByteArray×Int×Unit):Option (((Int×ByteArray×ByteArray×Int×List (Int)×Int×Int×ByteArray×ByteArray×Int×List (Int)×Int×Unit)×Bool×Unit)×Unit×Unit×Unit×Unit×Unit):=
((qEl k ((x.1.1,(x.1.2.1,(x.1.2.2.1,(x.1.2.2.2.1,(x.1.2.2.2.2.1,(x.1.2.2.2.2.2.1,(x.1.2.2.2.2.2.2.1,(x.1.2.2.2.2.2.2.2.1,(x.1.2.2.2.2.2.2.2.2.1,(x.1.2.2.2.2.2.2.2.2.2.1,(x.1.2.2.2.2.2.2.2.2.2.2.1,(x.1.2.2.2.2.2.2.2.2.2.2.2.1,())))))))))))),())).bind fun p1 =>
((qF7 k ((x.1.1,(x.1.2.1,(x.1.2.2.1,(x.1.2.2.2.1,(x.1.2.2.2.2.1,(x.1.2.2.2.2.2.1,(x.1.2.2.2.2.2.2.1,(x.1.2.2.2.2.2.2.2.1,(x.1.2.2.2.2.2.2.2.2.1,(x.1.2.2.2.2.2.2.2.2.2.1,(x.1.2.2.2.2.2.2.2.2.2.2.1,(x.1.2.2.2.2.2.2.2.2.2.2.2.1,())))))))))))),())).bind fun p2 =>
(if(!p2.1)=false then
(if(!decide ((ByteArray.size x.2.1:Int)=(32:Int)))=false then
(if(!decide ((ByteArray.size x.2.2.1:Int)=(32:Int)))=false then
((qBU k (x.2.2.2.1,((0:Int),((999999990:Int),())))).bind fun p3 =>
(if(!p3.1)=false then
(if(decide (x.1.1=(1000000000:Int)))=true then
some (((p1.1.1,(p1.1.2.1,(p1.1.2.2.1,(p1.1.2.2.2.1,(p1.1.2.2.2.2.1,(p1.1.2.2.2.2.2.1,(p1.1.2.2.2.2.2.2.1,(p1.1.2.2.2.2.2.2.2.1,(p1.1.2.2.2.2.2.2.2.2.1,(p1.1.2.2.2.2.2.2.2.2.2.1,(p1.1.2.2.2.2.2.2.2.2.2.2.1,(p1.1.2.2.2.2.2.2.2.2.2.2.2.1,())))))))))))),(false,())),((),((),((),((),())))))
else
((qDD k ((x.1.1,(x.1.2.1,(x.1.2.2.1,(x.1.2.2.2.1,(x.1.2.2.2.2.1,(x.1.2.2.2.2.2.1,())))))),())).bind fun p4 =>
(if(!p4.1)=true then
some ((((wi64 (x.1.1+(1:Int))),(x.2.1,(x.2.2.1,((0:Int),([],((0:Int),(p1.1.1,(p1.1.2.1,(p1.1.2.2.1,(p1.1.2.2.2.1,(p1.1.2.2.2.2.1,((wi64 (x.2.2.2.1+(10:Int))),())))))))))))),(true,())),((),((),((),((),())))))
else
some ((((wi64 (x.1.1+(1:Int))),(x.2.1,(x.2.2.1,((0:Int),([],((0:Int),(p1.1.1,(p1.1.2.1,(p1.1.2.2.1,(p1.1.2.2.2.1,(p1.1.2.2.2.2.1,(p1.1.2.2.2.2.2.1,())))))))))))),(true,())),((),((),((),((),()))))))))
else
some (((p1.1.1,(p1.1.2.1,(p1.1.2.2.1,(p1.1.2.2.2.1,(p1.1.2.2.2.2.1,(p1.1.2.2.2.2.2.1,(p1.1.2.2.2.2.2.2.1,(p1.1.2.2.2.2.2.2.2.1,(p1.1.2.2.2.2.2.2.2.2.1,(p1.1.2.2.2.2.2.2.2.2.2.1,(p1.1.2.2.2.2.2.2.2.2.2.2.1,(p1.1.2.2.2.2.2.2.2.2.2.2.2.1,())))))))))))),(false,())),((),((),((),((),())))))))
else
some (((p1.1.1,(p1.1.2.1,(p1.1.2.2.1,(p1.1.2.2.2.1,(p1.1.2.2.2.2.1,(p1.1.2.2.2.2.2.1,(p1.1.2.2.2.2.2.2.1,(p1.1.2.2.2.2.2.2.2.1,(p1.1.2.2.2.2.2.2.2.2.1,(p1.1.2.2.2.2.2.2.2.2.2.1,(p1.1.2.2.2.2.2.2.2.2.2.2.1,(p1.1.2.2.2.2.2.2.2.2.2.2.2.1,())))))))))))),(false,())),((),((),((),((),()))))))
else
some (((p1.1.1,(p1.1.2.1,(p1.1.2.2.1,(p1.1.2.2.2.1,(p1.1.2.2.2.2.1,(p1.1.2.2.2.2.2.1,(p1.1.2.2.2.2.2.2.1,(p1.1.2.2.2.2.2.2.2.1,(p1.1.2.2.2.2.2.2.2.2.1,(p1.1.2.2.2.2.2.2.2.2.2.1,(p1.1.2.2.2.2.2.2.2.2.2.2.1,(p1.1.2.2.2.2.2.2.2.2.2.2.2.1,())))))))))))),(false,())),((),((),((),((),()))))))
else
some (((p1.1.1,(p1.1.2.1,(p1.1.2.2.1,(p1.1.2.2.2.1,(p1.1.2.2.2.2.1,(p1.1.2.2.2.2.2.1,(p1.1.2.2.2.2.2.2.1,(p1.1.2.2.2.2.2.2.2.1,(p1.1.2.2.2.2.2.2.2.2.1,(p1.1.2.2.2.2.2.2.2.2.2.1,(p1.1.2.2.2.2.2.2.2.2.2.2.1,(p1.1.2.2.2.2.2.2.2.2.2.2.2.1,())))))))))))),(false,())),((),((),((),((),()))))))))
abbrev E_s_Install(k:Nat):qAI:=⟨123,0,(.cons yP8 yP29),(.tup (.cons yP10 (.cons .bool .nil))),qEm k⟩
theorem t_s_Install(k:Nat)(x):evF TTab k [qBs k,qHu k,E_s_SlotsOk k,qFP k] [] Tryz.f123 (.cons yP8 yP29) (.tup (.cons yP10 (.cons .bool .nil))) x=qEm k x:=by kernel_rfl
theorem e_s_Install[Names](k:Nat):qAD Tryz.prog (E_s_Install k):=qAB tok (qAA (qCE k) (qAA (e_s_l17Copy k) (qAA (e_s_SlotsOk k) (qAA (qHv k) qAG)))) (by kernel_rfl) (by kernel_rfl) (by kernel_rfl) fun x r h=>(t_s_Install k x).trans h
def qDy(k:Nat)(x:ByteArray×Unit):Option (((Int×ByteArray×ByteArray×Int×List (Int)×Int×Int×ByteArray×ByteArray×Int×List (Int)×Int×Unit)×(Int×ByteArray×ByteArray×Int×List (Int)×Int×Int×ByteArray×ByteArray×Int×List (Int)×Int×Unit)×Unit)×Unit×Unit):=
(if ByteArray.size x.1+ByteArray.size (⟨#[97]⟩:ByteArray)≤maxStr then
((qDg k ((x.1++(⟨#[97]⟩:ByteArray)),())).bind fun p1 =>
(if ByteArray.size x.1+ByteArray.size (⟨#[98]⟩:ByteArray)≤maxStr then
((qDg k ((x.1++(⟨#[98]⟩:ByteArray)),())).bind fun p2 =>
((qEm k (((0:Int),((⟨#[]⟩:ByteArray),((⟨#[]⟩:ByteArray),((0:Int),([],((0:Int),((0:Int),((⟨#[]⟩:ByteArray),((⟨#[]⟩:ByteArray),((0:Int),([],((0:Int),())))))))))))),(p1.1,(p2.1,((0:Int),()))))).bind fun p3 =>
((qEm k (((0:Int),((⟨#[]⟩:ByteArray),((⟨#[]⟩:ByteArray),((0:Int),([],((0:Int),((0:Int),((⟨#[]⟩:ByteArray),((⟨#[]⟩:ByteArray),((0:Int),([],((0:Int),())))))))))))),(p2.1,(p1.1,((0:Int),()))))).bind fun p4 =>
some (((p3.1.1.1,(p3.1.1.2.1,(p3.1.1.2.2.1,(p3.1.1.2.2.2.1,(p3.1.1.2.2.2.2.1,(p3.1.1.2.2.2.2.2.1,(p3.1.1.2.2.2.2.2.2.1,(p3.1.1.2.2.2.2.2.2.2.1,(p3.1.1.2.2.2.2.2.2.2.2.1,(p3.1.1.2.2.2.2.2.2.2.2.2.1,(p3.1.1.2.2.2.2.2.2.2.2.2.2.1,(p3.1.1.2.2.2.2.2.2.2.2.2.2.2.1,())))))))))))),((p4.1.1.1,(p4.1.1.2.1,(p4.1.1.2.2.1,(p4.1.1.2.2.2.1,(p4.1.1.2.2.2.2.1,(p4.1.1.2.2.2.2.2.1,(p4.1.1.2.2.2.2.2.2.1,(p4.1.1.2.2.2.2.2.2.2.1,(p4.1.1.2.2.2.2.2.2.2.2.1,(p4.1.1.2.2.2.2.2.2.2.2.2.1,(p4.1.1.2.2.2.2.2.2.2.2.2.2.1,(p4.1.1.2.2.2.2.2.2.2.2.2.2.2.1,())))))))))))),())),((),())))))
else none))
else none)
abbrev qIU(k:Nat):qAI:=⟨48,0,(.cons .str .nil),(.tup (.cons yP10 (.cons yP10 .nil))),qDy k⟩
theorem t_s_PairSlots(k:Nat)(x):evF TTab k [E_s_DigestOf k,E_s_Install k] [] Tryz.f48 (.cons .str .nil) (.tup (.cons yP10 (.cons yP10 .nil))) x=qDy k x:=by kernel_rfl
theorem e_s_PairSlots[Names](k:Nat):qAD Tryz.prog (qIU k):=qAB tok (qAA (e_s_DigestOf k) (qAA (e_s_Install k) qAG)) (by kernel_rfl) (by kernel_rfl) (by kernel_rfl) fun x r h=>(t_s_PairSlots k x).trans h
def qF8(k:Nat)(x:((List (Int×Int×Int×List (ByteArray)×List (Bool)×Int))×Unit)×Unit):Option (((List (Int×Int×Int×List (ByteArray)×List (Bool)×Int))×Unit)×Unit×Unit):=
(qAH (fun(rec0:(((List (Int×Int×Int×List (ByteArray)×List (Bool)×Int))×Unit)×((List (Int×Int×Int×List (ByteArray)×List (Bool)×Int))×Unit)×((List (Int×Int×Int×List (ByteArray)×List (Bool)×Int))×Unit)×Int×Unit)→Option _) (y0:((List (Int×Int×Int×List (ByteArray)×List (Bool)×Int))×Unit)×((List (Int×Int×Int×List (ByteArray)×List (Bool)×Int))×Unit)×((List (Int×Int×Int×List (ByteArray)×List (Bool)×Int))×Unit)×Int×Unit) =>
(if(decide (y0.2.2.2.1<(List.length y0.1.1:Int)))=true then
(if 0≤y0.2.2.2.1∧y0.2.2.2.1<(List.length y0.1.1:Int) then
(if List.length ([]:List (ByteArray))+List.length (Ty.rd (t:=yT4) y0.1.1 y0.2.2.2.1).2.2.2.1≤capMax then
(if List.length ([]:List (Bool))+List.length (Ty.rd (t:=yT4) y0.1.1 y0.2.2.2.1).2.2.2.2.1≤capMax then
(if List.length y0.2.2.1.1+List.length ([((Ty.rd (t:=yT4) y0.1.1 y0.2.2.2.1).1,((Ty.rd (t:=yT4) y0.1.1 y0.2.2.2.1).2.1,((Ty.rd (t:=yT4) y0.1.1 y0.2.2.2.1).2.2.1,((([]:List (ByteArray))++(Ty.rd (t:=yT4) y0.1.1 y0.2.2.2.1).2.2.2.1),((([]:List (Bool))++(Ty.rd (t:=yT4) y0.1.1 y0.2.2.2.1).2.2.2.2.1),(Ty.rd (t:=yT4) y0.1.1 y0.2.2.2.1).2.2.2.2.2)))))]:List (Int×Int×Int×List (ByteArray)×List (Bool)×Int))≤capMax then
(rec0 ((y0.1.1,()),((y0.2.1.1,()),(((y0.2.2.1.1++([((Ty.rd (t:=yT4) y0.1.1 y0.2.2.2.1).1,((Ty.rd (t:=yT4) y0.1.1 y0.2.2.2.1).2.1,((Ty.rd (t:=yT4) y0.1.1 y0.2.2.2.1).2.2.1,((([]:List (ByteArray))++(Ty.rd (t:=yT4) y0.1.1 y0.2.2.2.1).2.2.2.1),((([]:List (Bool))++(Ty.rd (t:=yT4) y0.1.1 y0.2.2.2.1).2.2.2.2.1),(Ty.rd (t:=yT4) y0.1.1 y0.2.2.2.1).2.2.2.2.2)))))]:List (Int×Int×Int×List (ByteArray)×List (Bool)×Int))),()),((wi64 (y0.2.2.2.1+(1:Int))),())))))
else none)
else none)
else none)
else none)
else
((fun(z1:((List (Int×Int×Int×List (ByteArray)×List (Bool)×Int))×Unit)×((List (Int×Int×Int×List (ByteArray)×List (Bool)×Int))×Unit)×Unit) =>
some ((z1.2.1.1,()),((),()))) ((y0.2.1.1,()),((y0.2.2.1.1,()),()))))) k ((x.1.1,()),(([],()),(([],()),((0:Int),())))))
abbrev E_s_l20Copy(k:Nat):qAI:=⟨171,0,(.cons (.agg (.cons (.il true yT4) .nil)) .nil),(.agg (.cons (.own false 229 yT4) .nil)),qF8 k⟩
theorem t_s_l20Copy(k:Nat)(x):evF TTab k [] [(0,⟨[1,2,3,4],(.cons (.ptr 0 (.cons (.il true yT4) .nil)) (.cons (.ptr 0 (.cons (.own false 229 yT4) .nil)) (.cons (.ptr 0 (.cons (.own false 229 yT4) .nil)) yP5)))⟩,⟨[2,3],(.cons (.ptr 0 (.cons (.own false 229 yT4) .nil)) (.cons (.ptr 0 (.cons (.own false 229 yT4) .nil)) .nil))⟩)] Tryz.f171 (.cons (.agg (.cons (.il true yT4) .nil)) .nil) (.agg (.cons (.own false 229 yT4) .nil)) x=qF8 k x:=by kernel_rfl
theorem e_s_l20Copy[Names](k:Nat):qAD Tryz.prog (E_s_l20Copy k):=qAB tok qAG (by kernel_rfl) (by kernel_rfl) (by kernel_rfl) fun x r h=>(t_s_l20Copy k x).trans h
def qCb(k:Nat)(x:(Int×Int×Int×ByteArray×ByteArray×Int×List (Int)×Int×Int×ByteArray×ByteArray×Int×List (Int)×Int×(List (Int×Int×Int×List (ByteArray)×List (Bool)×Int))×Int×Unit)×Unit):Option ((Int×Int×Int×ByteArray×ByteArray×Int×List (Int)×Int×Int×ByteArray×ByteArray×Int×List (Int)×Int×(List (Int×Int×Int×List (ByteArray)×List (Bool)×Int))×Int×Unit)×Unit×Unit):=
((qEl k ((x.1.2.2.1,(x.1.2.2.2.1,(x.1.2.2.2.2.1,(x.1.2.2.2.2.2.1,(x.1.2.2.2.2.2.2.1,(x.1.2.2.2.2.2.2.2.1,(x.1.2.2.2.2.2.2.2.2.1,(x.1.2.2.2.2.2.2.2.2.2.1,(x.1.2.2.2.2.2.2.2.2.2.2.1,(x.1.2.2.2.2.2.2.2.2.2.2.2.1,(x.1.2.2.2.2.2.2.2.2.2.2.2.2.1,(x.1.2.2.2.2.2.2.2.2.2.2.2.2.2.1,())))))))))))),())).bind fun p1 =>
((qF8 k ((x.1.2.2.2.2.2.2.2.2.2.2.2.2.2.2.1,()),())).bind fun p2 =>
some ((x.1.1,(x.1.2.1,(p1.1.1,(p1.1.2.1,(p1.1.2.2.1,(p1.1.2.2.2.1,(p1.1.2.2.2.2.1,(p1.1.2.2.2.2.2.1,(p1.1.2.2.2.2.2.2.1,(p1.1.2.2.2.2.2.2.2.1,(p1.1.2.2.2.2.2.2.2.2.1,(p1.1.2.2.2.2.2.2.2.2.2.1,(p1.1.2.2.2.2.2.2.2.2.2.2.1,(p1.1.2.2.2.2.2.2.2.2.2.2.2.1,(p2.1.1,(x.1.2.2.2.2.2.2.2.2.2.2.2.2.2.2.2.1,())))))))))))))))),((),()))))
abbrev qF9(k:Nat):qAI:=⟨92,0,(.cons yP9 .nil),yP20,qCb k⟩
theorem t_s_l22CopyUser(k:Nat)(x):evF TTab k [qHu k,E_s_l20Copy k] [] Tryz.f92 (.cons yP9 .nil) yP20 x=qCb k x:=by kernel_rfl
theorem e_s_l22CopyUser[Names](k:Nat):qAD Tryz.prog (qF9 k):=qAB tok (qAA (e_s_l17Copy k) (qAA (e_s_l20Copy k) qAG)) (by kernel_rfl) (by kernel_rfl) (by kernel_rfl) fun x r h=>(t_s_l22CopyUser k x).trans h
def qBf(k:Nat)(x:(List (Int×Int×((Int×ByteArray×ByteArray×Int×List (Int)×Int)×Int×ByteArray×ByteArray×Int×List (Int)×Int)×List (Int×Int×Int×List (ByteArray)×List (Bool)×Int)×Int))×Unit):Option ((List (Int×Int×((Int×ByteArray×ByteArray×Int×List (Int)×Int)×Int×ByteArray×ByteArray×Int×List (Int)×Int)×List (Int×Int×Int×List (ByteArray)×List (Bool)×Int)×Int))×Unit×Unit):=
(qAH (fun(rec0:((List (Int×Int×((Int×ByteArray×ByteArray×Int×List (Int)×Int)×Int×ByteArray×ByteArray×Int×List (Int)×Int)×List (Int×Int×Int×List (ByteArray)×List (Bool)×Int)×Int))×(List (Int×Int×((Int×ByteArray×ByteArray×Int×List (Int)×Int)×Int×ByteArray×ByteArray×Int×List (Int)×Int)×List (Int×Int×Int×List (ByteArray)×List (Bool)×Int)×Int))×Int×Unit)→Option _) (y0:(List (Int×Int×((Int×ByteArray×ByteArray×Int×List (Int)×Int)×Int×ByteArray×ByteArray×Int×List (Int)×Int)×List (Int×Int×Int×List (ByteArray)×List (Bool)×Int)×Int))×(List (Int×Int×((Int×ByteArray×ByteArray×Int×List (Int)×Int)×Int×ByteArray×ByteArray×Int×List (Int)×Int)×List (Int×Int×Int×List (ByteArray)×List (Bool)×Int)×Int))×Int×Unit) =>
(if(decide (y0.2.2.1<(List.length y0.1:Int)))=true then
(if 0≤y0.2.2.1∧y0.2.2.1<(List.length y0.1:Int) then
((qCb k (((Ty.rd (t:=yT0) y0.1 y0.2.2.1).1,((Ty.rd (t:=yT0) y0.1 y0.2.2.1).2.1,((Ty.rd (t:=yT0) y0.1 y0.2.2.1).2.2.1.1.1,((Ty.rd (t:=yT0) y0.1 y0.2.2.1).2.2.1.1.2.1,((Ty.rd (t:=yT0) y0.1 y0.2.2.1).2.2.1.1.2.2.1,((Ty.rd (t:=yT0) y0.1 y0.2.2.1).2.2.1.1.2.2.2.1,((Ty.rd (t:=yT0) y0.1 y0.2.2.1).2.2.1.1.2.2.2.2.1,((Ty.rd (t:=yT0) y0.1 y0.2.2.1).2.2.1.1.2.2.2.2.2,((Ty.rd (t:=yT0) y0.1 y0.2.2.1).2.2.1.2.1,((Ty.rd (t:=yT0) y0.1 y0.2.2.1).2.2.1.2.2.1,((Ty.rd (t:=yT0) y0.1 y0.2.2.1).2.2.1.2.2.2.1,((Ty.rd (t:=yT0) y0.1 y0.2.2.1).2.2.1.2.2.2.2.1,((Ty.rd (t:=yT0) y0.1 y0.2.2.1).2.2.1.2.2.2.2.2.1,((Ty.rd (t:=yT0) y0.1 y0.2.2.1).2.2.1.2.2.2.2.2.2,((Ty.rd (t:=yT0) y0.1 y0.2.2.1).2.2.2.1,((Ty.rd (t:=yT0) y0.1 y0.2.2.1).2.2.2.2,())))))))))))))))),())).bind fun p1 =>
(if List.length y0.2.1+List.length ([(p1.1.1,(p1.1.2.1,(((p1.1.2.2.1,(p1.1.2.2.2.1,(p1.1.2.2.2.2.1,(p1.1.2.2.2.2.2.1,(p1.1.2.2.2.2.2.2.1,p1.1.2.2.2.2.2.2.2.1))))),(p1.1.2.2.2.2.2.2.2.2.1,(p1.1.2.2.2.2.2.2.2.2.2.1,(p1.1.2.2.2.2.2.2.2.2.2.2.1,(p1.1.2.2.2.2.2.2.2.2.2.2.2.1,(p1.1.2.2.2.2.2.2.2.2.2.2.2.2.1,p1.1.2.2.2.2.2.2.2.2.2.2.2.2.2.1)))))),(p1.1.2.2.2.2.2.2.2.2.2.2.2.2.2.2.1,p1.1.2.2.2.2.2.2.2.2.2.2.2.2.2.2.2.1))))]:List (Int×Int×((Int×ByteArray×ByteArray×Int×List (Int)×Int)×Int×ByteArray×ByteArray×Int×List (Int)×Int)×List (Int×Int×Int×List (ByteArray)×List (Bool)×Int)×Int))≤capMax then
(rec0 (y0.1,((y0.2.1++([(p1.1.1,(p1.1.2.1,(((p1.1.2.2.1,(p1.1.2.2.2.1,(p1.1.2.2.2.2.1,(p1.1.2.2.2.2.2.1,(p1.1.2.2.2.2.2.2.1,p1.1.2.2.2.2.2.2.2.1))))),(p1.1.2.2.2.2.2.2.2.2.1,(p1.1.2.2.2.2.2.2.2.2.2.1,(p1.1.2.2.2.2.2.2.2.2.2.2.1,(p1.1.2.2.2.2.2.2.2.2.2.2.2.1,(p1.1.2.2.2.2.2.2.2.2.2.2.2.2.1,p1.1.2.2.2.2.2.2.2.2.2.2.2.2.2.1)))))),(p1.1.2.2.2.2.2.2.2.2.2.2.2.2.2.2.1,p1.1.2.2.2.2.2.2.2.2.2.2.2.2.2.2.2.1))))]:List (Int×Int×((Int×ByteArray×ByteArray×Int×List (Int)×Int)×Int×ByteArray×ByteArray×Int×List (Int)×Int)×List (Int×Int×Int×List (ByteArray)×List (Bool)×Int)×Int))),((wi64 (y0.2.2.1+(1:Int))),()))))
else none))
else none)
else
((fun(z1:(List (Int×Int×((Int×ByteArray×ByteArray×Int×List (Int)×Int)×Int×ByteArray×ByteArray×Int×List (Int)×Int)×List (Int×Int×Int×List (ByteArray)×List (Bool)×Int)×Int))×Unit) =>
some (z1.1,((),()))) (y0.2.1,())))) k (x.1,(([]:List (Int×Int×((Int×ByteArray×ByteArray×Int×List (Int)×Int)×Int×ByteArray×ByteArray×Int×List (Int)×Int)×List (Int×Int×Int×List (ByteArray)×List (Bool)×Int)×Int)),((0:Int),()))))
abbrev qDU(k:Nat):qAI:=⟨66,0,(.cons (.il true yT0) .nil),(.own false 45 yT0),qBf k⟩
theorem t_s_l22CopyUsers(k:Nat)(x):evF TTab k [qF9 k] [(0,⟨[0,3,4],(.cons (.il true yT0) (.cons (.own false 45 yT0) yP5))⟩,⟨[3],(.cons (.own false 45 yT0) .nil)⟩)] Tryz.f66 (.cons (.il true yT0) .nil) (.own false 45 yT0) x=qBf k x:=by kernel_rfl
theorem qFj[Names](k:Nat):qAD Tryz.prog (qDU k):=qAB tok (qAA (e_s_l22CopyUser k) qAG) (by kernel_rfl) (by kernel_rfl) (by kernel_rfl) fun x r h=>(t_s_l22CopyUsers k x).trans h
def qEn(k:Nat)(x:(Int×Int×(List (Int×Int×Int))×(List (Int×Int))×Unit)×Unit):Option ((Int×Int×(List (Int×Int×Int))×(List (Int×Int))×Unit)×Unit×Unit):=
(if List.length ([]:List (Int×Int×Int))+List.length x.1.2.2.1≤capMax then
(if List.length ([]:List (Int×Int))+List.length x.1.2.2.2.1≤capMax then
some ((x.1.1,(x.1.2.1,((([]:List (Int×Int×Int))++x.1.2.2.1),((([]:List (Int×Int))++x.1.2.2.2.1),())))),((),()))
else none)
else none)
abbrev qHw(k:Nat):qAI:=⟨144,0,(.cons (.agg yP6) .nil),(.agg yP12),qEn k⟩
theorem t_s_l11Copy(k:Nat)(x):evF TTab k [] [] Tryz.f144 (.cons (.agg yP6) .nil) (.agg yP12) x=qEn k x:=by kernel_rfl
theorem e_s_l11Copy[Names](k:Nat):qAD Tryz.prog (qHw k):=qAB tok qAG (by kernel_rfl) (by kernel_rfl) (by kernel_rfl) fun x r h=>(t_s_l11Copy k x).trans h
def qGA(k:Nat)(x:(Int×Int×(List (Int×Int×Int))×(List (Int×Int))×(List ((Int×Int)×Int))×(List (Int×Int×((Int×ByteArray×ByteArray×Int×List (Int)×Int)×Int×ByteArray×ByteArray×Int×List (Int)×Int)×List (Int×Int×Int×List (ByteArray)×List (Bool)×Int)×Int))×Unit)×Unit):Option ((Int×Int×(List (Int×Int×Int))×(List (Int×Int))×(List ((Int×Int)×Int))×(List (Int×Int×((Int×ByteArray×ByteArray×Int×List (Int)×Int)×Int×ByteArray×ByteArray×Int×List (Int)×Int)×List (Int×Int×Int×List (ByteArray)×List (Bool)×Int)×Int))×Unit)×Unit×Unit):=
((qEn k ((x.1.1,(x.1.2.1,(x.1.2.2.1,(x.1.2.2.2.1,())))),())).bind fun p1 =>
(if List.length ([]:List ((Int×Int)×Int))+List.length x.1.2.2.2.2.1≤capMax then
((qBf k (x.1.2.2.2.2.2.1,())).bind fun p2 =>
some ((p1.1.1,(p1.1.2.1,(p1.1.2.2.1,(p1.1.2.2.2.1,((([]:List ((Int×Int)×Int))++x.1.2.2.2.2.1),(p2.1,())))))),((),())))
else none))
abbrev E_s_l22Copy(k:Nat):qAI:=⟨61,0,(.cons yP11 .nil),(.agg (.cons (.int .i64) (.cons (.int .i64) (.cons yP21 (.cons (.own false 252 yT3) (.cons yP17 (.cons (.own false 45 yT0) .nil))))))),qGA k⟩
theorem t_s_l22Copy(k:Nat)(x):evF TTab k [qDU k,qHw k] [] Tryz.f61 (.cons yP11 .nil) (.agg (.cons (.int .i64) (.cons (.int .i64) (.cons yP21 (.cons (.own false 252 yT3) (.cons yP17 (.cons (.own false 45 yT0) .nil))))))) x=qGA k x:=by kernel_rfl
theorem e_s_l22Copy[Names](k:Nat):qAD Tryz.prog (E_s_l22Copy k):=qAB tok (qAA (qFj k) (qAA (e_s_l11Copy k) qAG)) (by kernel_rfl) (by kernel_rfl) (by kernel_rfl) fun x r h=>(t_s_l22Copy k x).trans h
def s_l22At(k:Nat)(x:(List (Int×Int×((Int×ByteArray×ByteArray×Int×List (Int)×Int)×Int×ByteArray×ByteArray×Int×List (Int)×Int)×List (Int×Int×Int×List (ByteArray)×List (Bool)×Int)×Int))×Int×Unit):Option (Int×Unit×Unit×Unit):=
(qAH (fun(rec0:((List (Int×Int×((Int×ByteArray×ByteArray×Int×List (Int)×Int)×Int×ByteArray×ByteArray×Int×List (Int)×Int)×List (Int×Int×Int×List (ByteArray)×List (Bool)×Int)×Int))×Int×Int×Unit)→Option _) (y0:(List (Int×Int×((Int×ByteArray×ByteArray×Int×List (Int)×Int)×Int×ByteArray×ByteArray×Int×List (Int)×Int)×List (Int×Int×Int×List (ByteArray)×List (Bool)×Int)×Int))×Int×Int×Unit) =>
(if(decide (y0.2.2.1<(List.length y0.1:Int)))=true then
(if 0≤y0.2.2.1∧y0.2.2.1<(List.length y0.1:Int) then
(if(decide ((Ty.rd (t:=yT0) y0.1 y0.2.2.1).1=y0.2.1))=true then
some (y0.2.2.1,((),((),())))
else
(rec0 (y0.1,(y0.2.1,((wi64 (y0.2.2.1+(1:Int))),())))))
else none)
else
((fun(z1:Unit) =>
some ((-1:Int),((),((),())))) ()))) k (x.1,(x.2.1,((0:Int),()))))
abbrev E_s_l22At(k:Nat):qAI:=⟨63,0,(.cons (.il true yT0) yP5),(.int .i64),s_l22At k⟩
theorem t_s_l22At(k:Nat)(x):evF TTab k [] [(0,⟨[0,1,5],(.cons (.il true yT0) (.cons (.int .i64) yP5))⟩,⟨[],.nil⟩)] Tryz.f63 (.cons (.il true yT0) yP5) (.int .i64) x=s_l22At k x:=by kernel_rfl
theorem e_s_l22At[Names](k:Nat):qAD Tryz.prog (E_s_l22At k):=qAB tok qAG (by kernel_rfl) (by kernel_rfl) (by kernel_rfl) fun x r h=>(t_s_l22At k x).trans h
def qDE(k:Nat)(x:Int×Unit):Option (Int×Unit×Unit):=
(qAH (fun(rec0:(Int×Int×Unit)→Option _) (y0:Int×Int×Unit) =>
(if(decide (y0.2.1<(32:Int)))=true then
(rec0 ((wi64 ((2:Int)*y0.1)),((wi64 (y0.2.1+(1:Int))),())))
else
((fun(z1:Int×Unit) =>
some (z1.1,((),()))) (y0.1,())))) k ((1:Int),(x.1,())))
abbrev qDz(k:Nat):qAI:=⟨234,0,yP5,(.int .i64),qDE k⟩
theorem t_s_l08Size(k:Nat)(x):evF TTab k [] [(0,⟨[3,4],(.cons (.int .i64) yP5)⟩,⟨[3],yP5⟩)] Tryz.f234 yP5 (.int .i64) x=qDE k x:=by kernel_rfl
theorem qFQ[Names](k:Nat):qAD Tryz.prog (qDz k):=qAB tok qAG (by kernel_rfl) (by kernel_rfl) (by kernel_rfl) fun x r h=>(t_s_l08Size k x).trans h
def qHB(k:Nat)(x:Int×Unit):Option (Bool×Unit×Unit):=
((qBU k (x.1,((0:Int),((4294967295:Int),())))).bind fun p1 =>
some (p1.1,((),())))
abbrev E_s_AddrOk(k:Nat):qAI:=⟨248,0,yP5,.bool,qHB k⟩
theorem t_s_AddrOk(k:Nat)(x):evF TTab k [qBs k] [] Tryz.f248 yP5 .bool x=qHB k x:=by kernel_rfl
theorem e_s_AddrOk[Names](k:Nat):qAD Tryz.prog (E_s_AddrOk k):=qAB tok (qAA (qCE k) qAG) (by kernel_rfl) (by kernel_rfl) (by kernel_rfl) fun x r h=>(t_s_AddrOk k x).trans h
def qCq(k:Nat)(x:(Int×Int×Unit)×Unit):Option (Bool×Unit×Unit):=
((qHB k (x.1.1,())).bind fun p1 =>
(if p1.1=true then
((qBU k (x.1.2.1,((0:Int),((32:Int),())))).bind fun p2 =>
(if p2.1=true then
((qDE k (x.1.2.1,())).bind fun p3 =>
(if p3.1=0 then
none
else
some ((decide ((Int.tmod x.1.1 p3.1)=(0:Int))),((),()))))
else
some (false,((),()))))
else
some (false,((),()))))
abbrev qEO(k:Nat):qAI:=⟨231,0,(.cons yP22 .nil),.bool,qCq k⟩
theorem t_s_PrefixOk(k:Nat)(x):evF TTab k [qBs k,qDz k,E_s_AddrOk k] [] Tryz.f231 (.cons yP22 .nil) .bool x=qCq k x:=by kernel_rfl
theorem qGB[Names](k:Nat):qAD Tryz.prog (qEO k):=qAB tok (qAA (qCE k) (qAA (qFQ k) (qAA (e_s_AddrOk k) qAG))) (by kernel_rfl) (by kernel_rfl) (by kernel_rfl) fun x r h=>(t_s_PrefixOk k x).trans h
def qEo(k:Nat)(x:(Int×Int×Unit)×Int×Unit):Option (Bool×Unit×Unit×Unit):=
((qCq k ((x.1.1,(x.1.2.1,())),())).bind fun p1 =>
(if p1.1=true then
((qHB k (x.2.1,())).bind fun p2 =>
(if p2.1=true then
((qDE k (x.1.2.1,())).bind fun p3 =>
(if p3.1=0 then
none
else
some ((decide ((wi64 (x.2.1-(Int.tmod x.2.1 p3.1)))=x.1.1)),((),((),())))))
else
some (false,((),((),())))))
else
some (false,((),((),())))))
abbrev E_s_InPrefix(k:Nat):qAI:=⟨287,0,(.cons yP22 yP5),.bool,qEo k⟩
theorem t_s_InPrefix(k:Nat)(x):evF TTab k [qEO k,qDz k,E_s_AddrOk k] [] Tryz.f287 (.cons yP22 yP5) .bool x=qEo k x:=by kernel_rfl
theorem e_s_InPrefix[Names](k:Nat):qAD Tryz.prog (E_s_InPrefix k):=qAB tok (qAA (qGB k) (qAA (qFQ k) (qAA (e_s_AddrOk k) qAG))) (by kernel_rfl) (by kernel_rfl) (by kernel_rfl) fun x r h=>(t_s_InPrefix k x).trans h
def qCr(k:Nat)(x:(Int×Int×(List (Int×Int×Int))×(List (Int×Int))×Unit)×Int×Unit):Option (Bool×Unit×Unit×Unit):=
((qEo k ((x.1.1,(x.1.2.1,())),(x.2.1,()))).bind fun p1 =>
(if p1.1=true then
(if(!decide (x.2.1=x.1.1))=true then
((qDE k (x.1.2.1,())).bind fun p2 =>
some ((!decide (x.2.1=(wi64 ((wi64 (x.1.1+p2.1))-(1:Int))))),((),((),()))))
else
some (false,((),((),()))))
else
some (false,((),((),())))))
abbrev qIV(k:Nat):qAI:=⟨232,0,(.cons (.agg yP6) yP5),.bool,qCr k⟩
theorem t_s_l11Inside(k:Nat)(x):evF TTab k [qDz k,E_s_InPrefix k] [] Tryz.f232 (.cons (.agg yP6) yP5) .bool x=qCr k x:=by kernel_rfl
theorem e_s_l11Inside[Names](k:Nat):qAD Tryz.prog (qIV k):=qAB tok (qAA (qFQ k) (qAA (e_s_InPrefix k) qAG)) (by kernel_rfl) (by kernel_rfl) (by kernel_rfl) fun x r h=>(t_s_l11Inside k x).trans h
def qBD(k:Nat)(x:(Int×Int×(List (Int×Int×Int))×(List (Int×Int))×Unit)×Int×Unit):Option (Int×Unit×Unit×Unit):=
(qAH (fun(rec0:(Int×(Int×Int×(List (Int×Int×Int))×(List (Int×Int))×Unit)×Int×Unit)→Option _) (y0:Int×(Int×Int×(List (Int×Int×Int))×(List (Int×Int))×Unit)×Int×Unit) =>
(if(decide (y0.2.2.1<(List.length y0.2.1.2.2.2.1:Int)))=true then
(if 0≤y0.2.2.1∧y0.2.2.1<(List.length y0.2.1.2.2.2.1:Int) then
(if(decide ((Ty.rd (t:=yT3) y0.2.1.2.2.2.1 y0.2.2.1).2=y0.1))=true then
(if 0≤y0.2.2.1∧y0.2.2.1<(List.length y0.2.1.2.2.2.1:Int) then
some ((Ty.rd (t:=yT3) y0.2.1.2.2.2.1 y0.2.2.1).1,((),((),())))
else none)
else
(rec0 (y0.1,((y0.2.1.1,(y0.2.1.2.1,(y0.2.1.2.2.1,(y0.2.1.2.2.2.1,())))),((wi64 (y0.2.2.1+(1:Int))),())))))
else none)
else
((fun(z1:Unit) =>
some ((0:Int),((),((),())))) ()))) k (x.2.1,((x.1.1,(x.1.2.1,(x.1.2.2.1,(x.1.2.2.2.1,())))),((0:Int),()))))
abbrev qD0(k:Nat):qAI:=⟨233,0,(.cons (.agg yP6) yP5),(.int .i64),qBD k⟩
theorem t_s_l11FixedFor(k:Nat)(x):evF TTab k [] [(0,⟨[1,2,5],(.cons (.int .i64) (.cons (.ptr 0 yP6) yP5))⟩,⟨[],.nil⟩)] Tryz.f233 (.cons (.agg yP6) yP5) (.int .i64) x=qBD k x:=by kernel_rfl
theorem qGC[Names](k:Nat):qAD Tryz.prog (qD0 k):=qAB tok qAG (by kernel_rfl) (by kernel_rfl) (by kernel_rfl) fun x r h=>(t_s_l11FixedFor k x).trans h
def qIW(k:Nat)(x:(Int×Int×(List (Int×Int×Int))×(List (Int×Int))×Unit)×Unit):Option (Bool×Unit×Unit):=
((qCq k ((x.1.1,(x.1.2.1,())),())).bind fun p1 =>
(if(!p1.1)=false then
((qBU k (x.1.2.1,((24:Int),((30:Int),())))).bind fun p2 =>
(if(!p2.1)=false then
(if(decide ((6:Int)<(List.length x.1.2.2.1:Int)))=false then
(if(decide ((4:Int)<(List.length x.1.2.2.2.1:Int)))=true then
some (false,((),()))
else
(qAH (fun(rec0:((Int×Int×(List (Int×Int×Int))×(List (Int×Int))×Unit)×Int×Unit)→Option _) (y0:(Int×Int×(List (Int×Int×Int))×(List (Int×Int))×Unit)×Int×Unit) =>
(if(decide (y0.2.1<(List.length y0.1.2.2.2.1:Int)))=true then
(if 0≤y0.2.1∧y0.2.1<(List.length y0.1.2.2.2.1:Int) then
((qBU k ((Ty.rd (t:=yT3) y0.1.2.2.2.1 y0.2.1).1,((1:Int),((99:Int),())))).bind fun p3 =>
(if(!p3.1)=false then
((qCr k ((y0.1.1,(y0.1.2.1,(y0.1.2.2.1,(y0.1.2.2.2.1,())))),((Ty.rd (t:=yT3) y0.1.2.2.2.1 y0.2.1).2,()))).bind fun p4 =>
(if(!p4.1)=false then
(if(decide ((0:Int)<y0.2.1))=true then
(if 0≤(wi64 (y0.2.1-(1:Int)))∧(wi64 (y0.2.1-(1:Int)))<(List.length y0.1.2.2.2.1:Int) then
(if(decide ((Ty.rd (t:=yT3) y0.1.2.2.2.1 y0.2.1).1≤(Ty.rd (t:=yT3) y0.1.2.2.2.1 (wi64 (y0.2.1-(1:Int)))).1))=false then
((qBD k ((y0.1.1,(y0.1.2.1,(y0.1.2.2.1,(y0.1.2.2.2.1,())))),((Ty.rd (t:=yT3) y0.1.2.2.2.1 y0.2.1).2,()))).bind fun p5 =>
(if(!decide (p5.1=(Ty.rd (t:=yT3) y0.1.2.2.2.1 y0.2.1).1))=true then
some (false,((),()))
else
(rec0 ((y0.1.1,(y0.1.2.1,(y0.1.2.2.1,(y0.1.2.2.2.1,())))),((wi64 (y0.2.1+(1:Int))),())))))
else
some (false,((),())))
else none)
else
((qBD k ((y0.1.1,(y0.1.2.1,(y0.1.2.2.1,(y0.1.2.2.2.1,())))),((Ty.rd (t:=yT3) y0.1.2.2.2.1 y0.2.1).2,()))).bind fun p6 =>
(if(!decide (p6.1=(Ty.rd (t:=yT3) y0.1.2.2.2.1 y0.2.1).1))=true then
some (false,((),()))
else
(rec0 ((y0.1.1,(y0.1.2.1,(y0.1.2.2.1,(y0.1.2.2.2.1,())))),((wi64 (y0.2.1+(1:Int))),()))))))
else
some (false,((),()))))
else
some (false,((),()))))
else none)
else
((fun(z1:(Int×Int×(List (Int×Int×Int))×(List (Int×Int))×Unit)×Unit) =>
(qAH (fun(rec2:((Int×Int×(List (Int×Int×Int))×(List (Int×Int))×Unit)×Int×Unit)→Option _) (y2:(Int×Int×(List (Int×Int×Int))×(List (Int×Int))×Unit)×Int×Unit) =>
(if(decide (y2.2.1<(List.length y2.1.2.2.1:Int)))=true then
(if 0≤y2.2.1∧y2.2.1<(List.length y2.1.2.2.1:Int) then
(jn (
((qBD k ((y2.1.1,(y2.1.2.1,(y2.1.2.2.1,(y2.1.2.2.2.1,())))),((Ty.rd (t:=(.pair (.int .i64) yT3)) y2.1.2.2.1 y2.2.1).1,()))).bind fun p11 =>
(jn (
(qAH (fun(rec4:((Int×Int×(List (Int×Int×Int))×(List (Int×Int))×Unit)×Int×(Int×Int×Int×Unit)×Int×Unit)→Option _) (y4:(Int×Int×(List (Int×Int×Int))×(List (Int×Int))×Unit)×Int×(Int×Int×Int×Unit)×Int×Unit) =>
(if(decide (y4.2.2.2.1<y4.2.1))=true then
(if 0≤y4.2.2.2.1∧y4.2.2.2.1<(List.length y4.1.2.2.1:Int) then
(if(decide ((Ty.rd (t:=(.pair (.int .i64) yT3)) y4.1.2.2.1 y4.2.2.2.1).2.1=y4.2.2.1.2.1))=true then
some (false,((),()))
else
(rec4 ((y4.1.1,(y4.1.2.1,(y4.1.2.2.1,(y4.1.2.2.2.1,())))),(y4.2.1,((y4.2.2.1.1,(y4.2.2.1.2.1,(y4.2.2.1.2.2.1,()))),((wi64 (y4.2.2.2.1+(1:Int))),()))))))
else none)
else
((fun(z5:(Int×Int×(List (Int×Int×Int))×(List (Int×Int))×Unit)×Int×Unit) =>
(rec2 ((z5.1.1,(z5.1.2.1,(z5.1.2.2.1,(z5.1.2.2.2.1,())))),((wi64 (z5.2.1+(1:Int))),())))) ((y4.1.1,(y4.1.2.1,(y4.1.2.2.1,(y4.1.2.2.2.1,())))),(y4.2.1,()))))) k ((y2.1.1,(y2.1.2.1,(y2.1.2.2.1,(y2.1.2.2.2.1,())))),(y2.2.1,(((Ty.rd (t:=(.pair (.int .i64) yT3)) y2.1.2.2.1 y2.2.1).1,((Ty.rd (t:=(.pair (.int .i64) yT3)) y2.1.2.2.1 y2.2.1).2.1,((Ty.rd (t:=(.pair (.int .i64) yT3)) y2.1.2.2.1 y2.2.1).2.2,()))),((0:Int),())))))) (fun(j3:Option _) =>
(if(!decide (p11.1=(0:Int)))=true then
(if(!decide (p11.1=(Ty.rd (t:=(.pair (.int .i64) yT3)) y2.1.2.2.1 y2.2.1).2.1))=true then
some (false,((),()))
else
j3)
else
j3))))) (fun(j2:Option _) =>
((qCr k ((y2.1.1,(y2.1.2.1,(y2.1.2.2.1,(y2.1.2.2.2.1,())))),((Ty.rd (t:=(.pair (.int .i64) yT3)) y2.1.2.2.1 y2.2.1).1,()))).bind fun p7 =>
(if(!p7.1)=false then
((qBU k ((Ty.rd (t:=(.pair (.int .i64) yT3)) y2.1.2.2.1 y2.2.1).2.1,((1:Int),((99:Int),())))).bind fun p8 =>
(if(!p8.1)=false then
((qBU k ((Ty.rd (t:=(.pair (.int .i64) yT3)) y2.1.2.2.1 y2.2.1).2.2,((0:Int),((1000000000:Int),())))).bind fun p9 =>
(if(!p9.1)=false then
(if(decide ((0:Int)<y2.2.1))=true then
(if 0≤(wi64 (y2.2.1-(1:Int)))∧(wi64 (y2.2.1-(1:Int)))<(List.length y2.1.2.2.1:Int) then
(if(decide ((Ty.rd (t:=(.pair (.int .i64) yT3)) y2.1.2.2.1 y2.2.1).1≤(Ty.rd (t:=(.pair (.int .i64) yT3)) y2.1.2.2.1 (wi64 (y2.2.1-(1:Int)))).1))=true then
some (false,((),()))
else
j2)
else none)
else
j2)
else
some (false,((),()))))
else
some (false,((),()))))
else
some (false,((),()))))))
else none)
else
((fun(z6:Unit) =>
some (true,((),()))) ()))) k ((z1.1.1,(z1.1.2.1,(z1.1.2.2.1,(z1.1.2.2.2.1,())))),((0:Int),())))) ((y0.1.1,(y0.1.2.1,(y0.1.2.2.1,(y0.1.2.2.2.1,())))),())))) k ((x.1.1,(x.1.2.1,(x.1.2.2.1,(x.1.2.2.2.1,())))),((0:Int),()))))
else
some (false,((),())))
else
some (false,((),()))))
else
some (false,((),()))))
abbrev E_s_PoolOk(k:Nat):qAI:=⟨145,0,(.cons (.agg yP6) .nil),.bool,qIW k⟩
theorem t_s_PoolOk(k:Nat)(x):evF TTab k [qBs k,qEO k,qIV k,qD0 k] [(0,⟨[1,3],(.cons (.ptr 0 yP6) yP5)⟩,⟨[1],(.cons (.ptr 0 yP6) .nil)⟩),(2,⟨[1,5],(.cons (.ptr 0 yP6) yP5)⟩,⟨[],.nil⟩),(4,⟨[1,5,6,8],(.cons (.ptr 0 yP6) (.cons (.int .i64) (.cons (.ptr 0 yP16) yP5)))⟩,⟨[1,5],(.cons (.ptr 0 yP6) yP5)⟩)] Tryz.f145 (.cons (.agg yP6) .nil) .bool x=qIW k x:=by kernel_rfl
theorem e_s_PoolOk[Names](k:Nat):qAD Tryz.prog (E_s_PoolOk k):=qAB tok (qAA (qCE k) (qAA (qGB k) (qAA (e_s_l11Inside k) (qAA (qGC k) qAG)))) (by kernel_rfl) (by kernel_rfl) (by kernel_rfl) fun x r h=>(t_s_PoolOk k x).trans h
def qDh(k:Nat)(x:(Int×Int×(List (Int×Int×Int))×(List (Int×Int))×Unit)×Int×Unit):Option (Int×Unit×Unit×Unit):=
(qAH (fun(rec0:(Int×(Int×Int×(List (Int×Int×Int))×(List (Int×Int))×Unit)×Int×Unit)→Option _) (y0:Int×(Int×Int×(List (Int×Int×Int))×(List (Int×Int))×Unit)×Int×Unit) =>
(if(decide (y0.2.2.1<(List.length y0.2.1.2.2.1:Int)))=true then
(if 0≤y0.2.2.1∧y0.2.2.1<(List.length y0.2.1.2.2.1:Int) then
(if(decide ((Ty.rd (t:=(.pair (.int .i64) yT3)) y0.2.1.2.2.1 y0.2.2.1).1=y0.1))=true then
(if 0≤y0.2.2.1∧y0.2.2.1<(List.length y0.2.1.2.2.1:Int) then
some ((Ty.rd (t:=(.pair (.int .i64) yT3)) y0.2.1.2.2.1 y0.2.2.1).2.1,((),((),())))
else none)
else
(rec0 (y0.1,((y0.2.1.1,(y0.2.1.2.1,(y0.2.1.2.2.1,(y0.2.1.2.2.2.1,())))),((wi64 (y0.2.2.1+(1:Int))),())))))
else none)
else
((fun(z1:Unit) =>
some ((0:Int),((),((),())))) ()))) k (x.2.1,((x.1.1,(x.1.2.1,(x.1.2.2.1,(x.1.2.2.2.1,())))),((0:Int),()))))
abbrev E_s_HolderOf(k:Nat):qAI:=⟨18,0,(.cons (.agg yP6) yP5),(.int .i64),qDh k⟩
theorem t_s_HolderOf(k:Nat)(x):evF TTab k [] [(0,⟨[1,2,5],(.cons (.int .i64) (.cons (.ptr 0 yP6) yP5))⟩,⟨[],.nil⟩)] Tryz.f18 (.cons (.agg yP6) yP5) (.int .i64) x=qDh k x:=by kernel_rfl
theorem e_s_HolderOf[Names](k:Nat):qAD Tryz.prog (E_s_HolderOf k):=qAB tok qAG (by kernel_rfl) (by kernel_rfl) (by kernel_rfl) fun x r h=>(t_s_HolderOf k x).trans h
def qGD(k:Nat)(x:(Int×Int×(List (Int×Int×Int))×(List (Int×Int))×Unit)×Int×Unit):Option (Int×Unit×Unit×Unit):=
(qAH (fun(rec0:(Int×(Int×Int×(List (Int×Int×Int))×(List (Int×Int))×Unit)×Int×Unit)→Option _) (y0:Int×(Int×Int×(List (Int×Int×Int))×(List (Int×Int))×Unit)×Int×Unit) =>
(if(decide (y0.2.2.1<(List.length y0.2.1.2.2.2.1:Int)))=true then
(if 0≤y0.2.2.1∧y0.2.2.1<(List.length y0.2.1.2.2.2.1:Int) then
(if(decide ((Ty.rd (t:=yT3) y0.2.1.2.2.2.1 y0.2.2.1).1=y0.1))=true then
(if 0≤y0.2.2.1∧y0.2.2.1<(List.length y0.2.1.2.2.2.1:Int) then
some ((Ty.rd (t:=yT3) y0.2.1.2.2.2.1 y0.2.2.1).2,((),((),())))
else none)
else
(rec0 (y0.1,((y0.2.1.1,(y0.2.1.2.1,(y0.2.1.2.2.1,(y0.2.1.2.2.2.1,())))),((wi64 (y0.2.2.1+(1:Int))),())))))
else none)
else
((fun(z1:(Int×Int×(List (Int×Int×Int))×(List (Int×Int))×Unit)×Unit) =>
(qAH (fun(rec2:((Int×Int×(List (Int×Int×Int))×(List (Int×Int))×Unit)×Int×Unit)→Option _) (y2:(Int×Int×(List (Int×Int×Int))×(List (Int×Int))×Unit)×Int×Unit) =>
((qDE k (y2.1.2.1,())).bind fun p1 =>
(if(decide (y2.2.1<(wi64 ((wi64 (y2.1.1+p1.1))-(1:Int)))))=true then
((qDh k ((y2.1.1,(y2.1.2.1,(y2.1.2.2.1,(y2.1.2.2.2.1,())))),(y2.2.1,()))).bind fun p2 =>
(if(decide (p2.1=(0:Int)))=true then
((qBD k ((y2.1.1,(y2.1.2.1,(y2.1.2.2.1,(y2.1.2.2.2.1,())))),(y2.2.1,()))).bind fun p3 =>
(if(decide (p3.1=(0:Int)))=true then
some (y2.2.1,((),((),())))
else
(rec2 ((y2.1.1,(y2.1.2.1,(y2.1.2.2.1,(y2.1.2.2.2.1,())))),((wi64 (y2.2.1+(1:Int))),())))))
else
(rec2 ((y2.1.1,(y2.1.2.1,(y2.1.2.2.1,(y2.1.2.2.2.1,())))),((wi64 (y2.2.1+(1:Int))),())))))
else
((fun(z2:Unit) =>
some ((0:Int),((),((),())))) ())))) k ((z1.1.1,(z1.1.2.1,(z1.1.2.2.1,(z1.1.2.2.2.1,())))),((wi64 (z1.1.1+(1:Int))),())))) ((y0.2.1.1,(y0.2.1.2.1,(y0.2.1.2.2.1,(y0.2.1.2.2.2.1,())))),())))) k (x.2.1,((x.1.1,(x.1.2.1,(x.1.2.2.1,(x.1.2.2.2.1,())))),((0:Int),()))))
abbrev E_s_l11Free(k:Nat):qAI:=⟨146,0,(.cons (.agg yP6) yP5),(.int .i64),qGD k⟩
theorem t_s_l11Free(k:Nat)(x):evF TTab k [E_s_HolderOf k,qD0 k,qDz k] [(0,⟨[1,2,5],(.cons (.int .i64) (.cons (.ptr 0 yP6) yP5))⟩,⟨[2],(.cons (.ptr 0 yP6) .nil)⟩),(2,⟨[2,6],(.cons (.ptr 0 yP6) yP5)⟩,⟨[],.nil⟩)] Tryz.f146 (.cons (.agg yP6) yP5) (.int .i64) x=qGD k x:=by kernel_rfl
theorem e_s_l11Free[Names](k:Nat):qAD Tryz.prog (E_s_l11Free k):=qAB tok (qAA (e_s_HolderOf k) (qAA (qGC k) (qAA (qFQ k) qAG))) (by kernel_rfl) (by kernel_rfl) (by kernel_rfl) fun x r h=>(t_s_l11Free k x).trans h
def s_Grant(k:Nat)(x:(Int×Int×(List (Int×Int×Int))×(List (Int×Int))×Unit)×Int×Int×Unit):Option (((Int×Int×(List (Int×Int×Int))×(List (Int×Int))×Unit)×Int×Bool×Unit)×Unit×Unit×Unit×Unit):=
((qEn k ((x.1.1,(x.1.2.1,(x.1.2.2.1,(x.1.2.2.2.1,())))),())).bind fun p1 =>
((qIW k ((x.1.1,(x.1.2.1,(x.1.2.2.1,(x.1.2.2.2.1,())))),())).bind fun p2 =>
(if(!p2.1)=false then
((qBU k (x.2.1,((1:Int),((99:Int),())))).bind fun p3 =>
(if(!p3.1)=false then
((qBU k (x.2.2.1,((0:Int),((999999980:Int),())))).bind fun p4 =>
(if(!p4.1)=true then
some (((p1.1.1,(p1.1.2.1,(p1.1.2.2.1,(p1.1.2.2.2.1,())))),((0:Int),(false,()))),((),((),((),()))))
else
(qAH (fun(rec0:(Int×Int×(Int×Int×(List (Int×Int×Int))×(List (Int×Int))×Unit)×(Int×Int×(List (Int×Int×Int))×(List (Int×Int))×Unit)×(Int×Int×(List (Int×Int×Int))×(List (Int×Int))×Unit)×Int×Unit)→Option _) (y0:Int×Int×(Int×Int×(List (Int×Int×Int))×(List (Int×Int))×Unit)×(Int×Int×(List (Int×Int×Int))×(List (Int×Int))×Unit)×(Int×Int×(List (Int×Int×Int))×(List (Int×Int))×Unit)×Int×Unit) =>
(if(decide (y0.2.2.2.2.2.1<(List.length y0.2.2.2.2.1.2.2.1:Int)))=true then
(if 0≤y0.2.2.2.2.2.1∧y0.2.2.2.2.2.1<(List.length y0.2.2.2.2.1.2.2.1:Int) then
(if(decide ((Ty.rd (t:=(.pair (.int .i64) yT3)) y0.2.2.2.2.1.2.2.1 y0.2.2.2.2.2.1).2.1=y0.1))=true then
(if 0≤y0.2.2.2.2.2.1∧y0.2.2.2.2.2.1<(List.length y0.2.2.2.2.1.2.2.1:Int) then
(if 0≤y0.2.2.2.2.2.1∧y0.2.2.2.2.2.1<(List.length (List.set y0.2.2.2.2.1.2.2.1 (Int.toNat y0.2.2.2.2.2.1) ((Ty.rd (t:=(.pair (.int .i64) yT3)) y0.2.2.2.2.1.2.2.1 y0.2.2.2.2.2.1).1,((Ty.rd (t:=(.pair (.int .i64) yT3)) y0.2.2.2.2.1.2.2.1 y0.2.2.2.2.2.1).2.1,(wi64 (y0.2.1+(20:Int)))))):Int) then
some (((y0.2.2.2.2.1.1,(y0.2.2.2.2.1.2.1,((List.set y0.2.2.2.2.1.2.2.1 (Int.toNat y0.2.2.2.2.2.1) ((Ty.rd (t:=(.pair (.int .i64) yT3)) y0.2.2.2.2.1.2.2.1 y0.2.2.2.2.2.1).1,((Ty.rd (t:=(.pair (.int .i64) yT3)) y0.2.2.2.2.1.2.2.1 y0.2.2.2.2.2.1).2.1,(wi64 (y0.2.1+(20:Int)))))),(y0.2.2.2.2.1.2.2.2.1,())))),((Ty.rd (t:=(.pair (.int .i64) yT3)) (List.set y0.2.2.2.2.1.2.2.1 (Int.toNat y0.2.2.2.2.2.1) ((Ty.rd (t:=(.pair (.int .i64) yT3)) y0.2.2.2.2.1.2.2.1 y0.2.2.2.2.2.1).1,((Ty.rd (t:=(.pair (.int .i64) yT3)) y0.2.2.2.2.1.2.2.1 y0.2.2.2.2.2.1).2.1,(wi64 (y0.2.1+(20:Int)))))) y0.2.2.2.2.2.1).1,(true,()))),((),((),((),()))))
else none)
else none)
else
(rec0 (y0.1,(y0.2.1,((y0.2.2.1.1,(y0.2.2.1.2.1,(y0.2.2.1.2.2.1,(y0.2.2.1.2.2.2.1,())))),((y0.2.2.2.1.1,(y0.2.2.2.1.2.1,(y0.2.2.2.1.2.2.1,(y0.2.2.2.1.2.2.2.1,())))),((y0.2.2.2.2.1.1,(y0.2.2.2.2.1.2.1,(y0.2.2.2.2.1.2.2.1,(y0.2.2.2.2.1.2.2.2.1,())))),((wi64 (y0.2.2.2.2.2.1+(1:Int))),()))))))))
else none)
else
((fun(z1:Int×Int×(Int×Int×(List (Int×Int×Int))×(List (Int×Int))×Unit)×(Int×Int×(List (Int×Int×Int))×(List (Int×Int))×Unit)×(Int×Int×(List (Int×Int×Int))×(List (Int×Int))×Unit)×Unit) =>
((qGD k ((z1.2.2.1.1,(z1.2.2.1.2.1,(z1.2.2.1.2.2.1,(z1.2.2.1.2.2.2.1,())))),(z1.1,()))).bind fun p5 =>
(if(decide ((List.length z1.2.2.1.2.2.1:Int)=(6:Int)))=false then
(if(decide (p5.1=(0:Int)))=true then
some (((z1.2.2.2.2.1.1,(z1.2.2.2.2.1.2.1,(z1.2.2.2.2.1.2.2.1,(z1.2.2.2.2.1.2.2.2.1,())))),((0:Int),(false,()))),((),((),((),()))))
else
(qAH (fun(rec2:(Int×Int×(Int×Int×(List (Int×Int×Int))×(List (Int×Int))×Unit)×(Int×Int×(List (Int×Int×Int))×(List (Int×Int))×Unit)×(Int×Int×(List (Int×Int×Int))×(List (Int×Int))×Unit)×Int×(List (Int×Int×Int))×Int×Unit)→Option _) (y2:Int×Int×(Int×Int×(List (Int×Int×Int))×(List (Int×Int))×Unit)×(Int×Int×(List (Int×Int×Int))×(List (Int×Int))×Unit)×(Int×Int×(List (Int×Int×Int))×(List (Int×Int))×Unit)×Int×(List (Int×Int×Int))×Int×Unit) =>
(if(decide (y2.2.2.2.2.2.2.2.1<(List.length y2.2.2.1.2.2.1:Int)))=true then
(if 0≤y2.2.2.2.2.2.2.2.1∧y2.2.2.2.2.2.2.2.1<(List.length y2.2.2.1.2.2.1:Int) then
(if(decide ((Ty.rd (t:=(.pair (.int .i64) yT3)) y2.2.2.1.2.2.1 y2.2.2.2.2.2.2.2.1).1<y2.2.2.2.2.2.1))=true then
(if 0≤y2.2.2.2.2.2.2.2.1∧y2.2.2.2.2.2.2.2.1<(List.length y2.2.2.1.2.2.1:Int) then
(if List.length y2.2.2.2.2.2.2.1+List.length ([((Ty.rd (t:=(.pair (.int .i64) yT3)) y2.2.2.1.2.2.1 y2.2.2.2.2.2.2.2.1).1,((Ty.rd (t:=(.pair (.int .i64) yT3)) y2.2.2.1.2.2.1 y2.2.2.2.2.2.2.2.1).2.1,(Ty.rd (t:=(.pair (.int .i64) yT3)) y2.2.2.1.2.2.1 y2.2.2.2.2.2.2.2.1).2.2))]:List (Int×Int×Int))≤capMax then
(rec2 (y2.1,(y2.2.1,((y2.2.2.1.1,(y2.2.2.1.2.1,(y2.2.2.1.2.2.1,(y2.2.2.1.2.2.2.1,())))),((y2.2.2.2.1.1,(y2.2.2.2.1.2.1,(y2.2.2.2.1.2.2.1,(y2.2.2.2.1.2.2.2.1,())))),((y2.2.2.2.2.1.1,(y2.2.2.2.2.1.2.1,(y2.2.2.2.2.1.2.2.1,(y2.2.2.2.2.1.2.2.2.1,())))),(y2.2.2.2.2.2.1,((y2.2.2.2.2.2.2.1++([((Ty.rd (t:=(.pair (.int .i64) yT3)) y2.2.2.1.2.2.1 y2.2.2.2.2.2.2.2.1).1,((Ty.rd (t:=(.pair (.int .i64) yT3)) y2.2.2.1.2.2.1 y2.2.2.2.2.2.2.2.1).2.1,(Ty.rd (t:=(.pair (.int .i64) yT3)) y2.2.2.1.2.2.1 y2.2.2.2.2.2.2.2.1).2.2))]:List (Int×Int×Int))),((wi64 (y2.2.2.2.2.2.2.2.1+(1:Int))),())))))))))
else none)
else none)
else
(rec2 (y2.1,(y2.2.1,((y2.2.2.1.1,(y2.2.2.1.2.1,(y2.2.2.1.2.2.1,(y2.2.2.1.2.2.2.1,())))),((y2.2.2.2.1.1,(y2.2.2.2.1.2.1,(y2.2.2.2.1.2.2.1,(y2.2.2.2.1.2.2.2.1,())))),((y2.2.2.2.2.1.1,(y2.2.2.2.2.1.2.1,(y2.2.2.2.2.1.2.2.1,(y2.2.2.2.2.1.2.2.2.1,())))),(y2.2.2.2.2.2.1,(y2.2.2.2.2.2.2.1,((wi64 (y2.2.2.2.2.2.2.2.1+(1:Int))),()))))))))))
else none)
else
((fun(z2:Int×Int×(Int×Int×(List (Int×Int×Int))×(List (Int×Int))×Unit)×(Int×Int×(List (Int×Int×Int))×(List (Int×Int))×Unit)×(Int×Int×(List (Int×Int×Int))×(List (Int×Int))×Unit)×Int×(List (Int×Int×Int))×Unit) =>
(if List.length z2.2.2.2.2.2.2.1+List.length ([(z2.2.2.2.2.2.1,(z2.1,(wi64 (z2.2.1+(20:Int)))))]:List (Int×Int×Int))≤capMax then
(qAH (fun(rec4:((Int×Int×(List (Int×Int×Int))×(List (Int×Int))×Unit)×(Int×Int×(List (Int×Int×Int))×(List (Int×Int))×Unit)×(Int×Int×(List (Int×Int×Int))×(List (Int×Int))×Unit)×Int×(List (Int×Int×Int))×Int×Unit)→Option _) (y4:(Int×Int×(List (Int×Int×Int))×(List (Int×Int))×Unit)×(Int×Int×(List (Int×Int×Int))×(List (Int×Int))×Unit)×(Int×Int×(List (Int×Int×Int))×(List (Int×Int))×Unit)×Int×(List (Int×Int×Int))×Int×Unit) =>
(if(decide (y4.2.2.2.2.2.1<(List.length y4.1.2.2.1:Int)))=true then
(if 0≤y4.2.2.2.2.2.1∧y4.2.2.2.2.2.1<(List.length y4.1.2.2.1:Int) then
(if(decide (y4.2.2.2.1<(Ty.rd (t:=(.pair (.int .i64) yT3)) y4.1.2.2.1 y4.2.2.2.2.2.1).1))=true then
(if 0≤y4.2.2.2.2.2.1∧y4.2.2.2.2.2.1<(List.length y4.1.2.2.1:Int) then
(if List.length y4.2.2.2.2.1+List.length ([((Ty.rd (t:=(.pair (.int .i64) yT3)) y4.1.2.2.1 y4.2.2.2.2.2.1).1,((Ty.rd (t:=(.pair (.int .i64) yT3)) y4.1.2.2.1 y4.2.2.2.2.2.1).2.1,(Ty.rd (t:=(.pair (.int .i64) yT3)) y4.1.2.2.1 y4.2.2.2.2.2.1).2.2))]:List (Int×Int×Int))≤capMax then
(rec4 ((y4.1.1,(y4.1.2.1,(y4.1.2.2.1,(y4.1.2.2.2.1,())))),((y4.2.1.1,(y4.2.1.2.1,(y4.2.1.2.2.1,(y4.2.1.2.2.2.1,())))),((y4.2.2.1.1,(y4.2.2.1.2.1,(y4.2.2.1.2.2.1,(y4.2.2.1.2.2.2.1,())))),(y4.2.2.2.1,((y4.2.2.2.2.1++([((Ty.rd (t:=(.pair (.int .i64) yT3)) y4.1.2.2.1 y4.2.2.2.2.2.1).1,((Ty.rd (t:=(.pair (.int .i64) yT3)) y4.1.2.2.1 y4.2.2.2.2.2.1).2.1,(Ty.rd (t:=(.pair (.int .i64) yT3)) y4.1.2.2.1 y4.2.2.2.2.2.1).2.2))]:List (Int×Int×Int))),((wi64 (y4.2.2.2.2.2.1+(1:Int))),())))))))
else none)
else none)
else
(rec4 ((y4.1.1,(y4.1.2.1,(y4.1.2.2.1,(y4.1.2.2.2.1,())))),((y4.2.1.1,(y4.2.1.2.1,(y4.2.1.2.2.1,(y4.2.1.2.2.2.1,())))),((y4.2.2.1.1,(y4.2.2.1.2.1,(y4.2.2.1.2.2.1,(y4.2.2.1.2.2.2.1,())))),(y4.2.2.2.1,(y4.2.2.2.2.1,((wi64 (y4.2.2.2.2.2.1+(1:Int))),()))))))))
else none)
else
((fun(z3:(Int×Int×(List (Int×Int×Int))×(List (Int×Int))×Unit)×(Int×Int×(List (Int×Int×Int))×(List (Int×Int))×Unit)×Int×(List (Int×Int×Int))×Unit) =>
some (((z3.2.1.1,(z3.2.1.2.1,(z3.2.2.2.1,(z3.2.1.2.2.2.1,())))),(z3.2.2.1,(true,()))),((),((),((),()))))) ((y4.2.1.1,(y4.2.1.2.1,(y4.2.1.2.2.1,(y4.2.1.2.2.2.1,())))),((y4.2.2.1.1,(y4.2.2.1.2.1,(y4.2.2.1.2.2.1,(y4.2.2.1.2.2.2.1,())))),(y4.2.2.2.1,(y4.2.2.2.2.1,()))))))) k ((z2.2.2.1.1,(z2.2.2.1.2.1,(z2.2.2.1.2.2.1,(z2.2.2.1.2.2.2.1,())))),((z2.2.2.2.1.1,(z2.2.2.2.1.2.1,(z2.2.2.2.1.2.2.1,(z2.2.2.2.1.2.2.2.1,())))),((z2.2.2.2.2.1.1,(z2.2.2.2.2.1.2.1,(z2.2.2.2.2.1.2.2.1,(z2.2.2.2.2.1.2.2.2.1,())))),(z2.2.2.2.2.2.1,((z2.2.2.2.2.2.2.1++([(z2.2.2.2.2.2.1,(z2.1,(wi64 (z2.2.1+(20:Int)))))]:List (Int×Int×Int))),((0:Int),())))))))
else none)) (y2.1,(y2.2.1,((y2.2.2.1.1,(y2.2.2.1.2.1,(y2.2.2.1.2.2.1,(y2.2.2.1.2.2.2.1,())))),((y2.2.2.2.1.1,(y2.2.2.2.1.2.1,(y2.2.2.2.1.2.2.1,(y2.2.2.2.1.2.2.2.1,())))),((y2.2.2.2.2.1.1,(y2.2.2.2.2.1.2.1,(y2.2.2.2.2.1.2.2.1,(y2.2.2.2.2.1.2.2.2.1,())))),(y2.2.2.2.2.2.1,(y2.2.2.2.2.2.2.1,())))))))))) k (z1.1,(z1.2.1,((z1.2.2.1.1,(z1.2.2.1.2.1,(z1.2.2.1.2.2.1,(z1.2.2.1.2.2.2.1,())))),((z1.2.2.2.1.1,(z1.2.2.2.1.2.1,(z1.2.2.2.1.2.2.1,(z1.2.2.2.1.2.2.2.1,())))),((z1.2.2.2.2.1.1,(z1.2.2.2.2.1.2.1,(z1.2.2.2.2.1.2.2.1,(z1.2.2.2.2.1.2.2.2.1,())))),(p5.1,(([]:List (Int×Int×Int)),((0:Int),()))))))))))
else
some (((z1.2.2.2.2.1.1,(z1.2.2.2.2.1.2.1,(z1.2.2.2.2.1.2.2.1,(z1.2.2.2.2.1.2.2.2.1,())))),((0:Int),(false,()))),((),((),((),()))))))) (y0.1,(y0.2.1,((y0.2.2.1.1,(y0.2.2.1.2.1,(y0.2.2.1.2.2.1,(y0.2.2.1.2.2.2.1,())))),((y0.2.2.2.1.1,(y0.2.2.2.1.2.1,(y0.2.2.2.1.2.2.1,(y0.2.2.2.1.2.2.2.1,())))),((y0.2.2.2.2.1.1,(y0.2.2.2.2.1.2.1,(y0.2.2.2.2.1.2.2.1,(y0.2.2.2.2.1.2.2.2.1,())))),())))))))) k (x.2.1,(x.2.2.1,((x.1.1,(x.1.2.1,(x.1.2.2.1,(x.1.2.2.2.1,())))),(((0:Int),((0:Int),([],([],())))),((p1.1.1,(p1.1.2.1,(p1.1.2.2.1,(p1.1.2.2.2.1,())))),((0:Int),())))))))))
else
some (((p1.1.1,(p1.1.2.1,(p1.1.2.2.1,(p1.1.2.2.2.1,())))),((0:Int),(false,()))),((),((),((),()))))))
else
some (((p1.1.1,(p1.1.2.1,(p1.1.2.2.1,(p1.1.2.2.2.1,())))),((0:Int),(false,()))),((),((),((),())))))))
abbrev E_s_Grant(k:Nat):qAI:=⟨64,0,(.cons (.agg yP6) (.cons (.int .i64) yP5)),(.tup (.cons (.agg yP12) (.cons (.int .i64) (.cons .bool .nil)))),s_Grant k⟩
theorem t_s_Grant(k:Nat)(x):evF TTab k [qBs k,qHw k,E_s_PoolOk k,E_s_l11Free k] [(0,⟨[1,2,3,6,9,10],(.cons (.int .i64) (.cons (.int .i64) (.cons (.ptr 0 yP6) (.cons (.ptr 0 yP12) (.cons (.ptr 0 yP12) yP5)))))⟩,⟨[1,2,3,6,9],(.cons (.int .i64) (.cons (.int .i64) (.cons (.ptr 0 yP6) (.cons (.ptr 0 yP12) (.cons (.ptr 0 yP12) .nil)))))⟩),(2,⟨[1,2,3,6,9,11,12,13],(.cons (.int .i64) (.cons (.int .i64) (.cons (.ptr 0 yP6) (.cons (.ptr 0 yP12) (.cons (.ptr 0 yP12) (.cons (.int .i64) (.cons yP21 yP5)))))))⟩,⟨[1,2,3,6,9,11,12],(.cons (.int .i64) (.cons (.int .i64) (.cons (.ptr 0 yP6) (.cons (.ptr 0 yP12) (.cons (.ptr 0 yP12) (.cons (.int .i64) (.cons yP21 .nil)))))))⟩),(4,⟨[3,6,9,11,12,14],(.cons (.ptr 0 yP6) (.cons (.ptr 0 yP12) (.cons (.ptr 0 yP12) (.cons (.int .i64) (.cons yP21 yP5)))))⟩,⟨[6,9,11,12],(.cons (.ptr 0 yP12) (.cons (.ptr 0 yP12) (.cons (.int .i64) (.cons yP21 .nil))))⟩)] Tryz.f64 (.cons (.agg yP6) (.cons (.int .i64) yP5)) (.tup (.cons (.agg yP12) (.cons (.int .i64) (.cons .bool .nil)))) x=s_Grant k x:=by kernel_rfl
theorem e_s_Grant[Names](k:Nat):qAD Tryz.prog (E_s_Grant k):=qAB tok (qAA (qCE k) (qAA (e_s_l11Copy k) (qAA (e_s_PoolOk k) (qAA (e_s_l11Free k) qAG)))) (by kernel_rfl) (by kernel_rfl) (by kernel_rfl) fun x r h=>(t_s_Grant k x).trans h
def qCs(k:Nat)(x:(Int×Int×Unit)×(Int×Int×Unit)×Unit):Option (Bool×Unit×Unit×Unit):=
(if(decide (x.1.1<x.2.1.1))=false then
(if(decide (x.1.1=x.2.1.1))=true then
some ((decide (x.1.2.1<x.2.1.2.1)),((),((),())))
else
some (false,((),((),()))))
else
some (true,((),((),()))))
abbrev qGE(k:Nat):qAI:=⟨147,0,(.cons yP22 (.cons yP22 .nil)),.bool,qCs k⟩
theorem t_s_l09Ahead(k:Nat)(x):evF TTab k [] [] Tryz.f147 (.cons yP22 (.cons yP22 .nil)) .bool x=qCs k x:=by kernel_rfl
theorem e_s_l09Ahead[Names](k:Nat):qAD Tryz.prog (qGE k):=qAB tok qAG (by kernel_rfl) (by kernel_rfl) (by kernel_rfl) fun x r h=>(t_s_l09Ahead k x).trans h
def qDi(k:Nat)(x:(List ((Int×Int)×Int))×Unit):Option (Bool×Unit×Unit):=
(qAH (fun(rec0:((List ((Int×Int)×Int))×Int×Unit)→Option _) (y0:(List ((Int×Int)×Int))×Int×Unit) =>
(if(decide (y0.2.1<(List.length y0.1:Int)))=true then
(if 0≤y0.2.1∧y0.2.1<(List.length y0.1:Int) then
((qCq k (((Ty.rd (t:=(.pair yT3 (.int .i64))) y0.1 y0.2.1).1.1,((Ty.rd (t:=(.pair yT3 (.int .i64))) y0.1 y0.2.1).1.2,())),())).bind fun p1 =>
(if(!p1.1)=false then
(if 0≤y0.2.1∧y0.2.1<(List.length y0.1:Int) then
((qBU k ((Ty.rd (t:=(.pair yT3 (.int .i64))) y0.1 y0.2.1).2,((1:Int),((99:Int),())))).bind fun p2 =>
(if(!p2.1)=false then
(if(decide ((0:Int)<y0.2.1))=true then
(if 0≤(wi64 (y0.2.1-(1:Int)))∧(wi64 (y0.2.1-(1:Int)))<(List.length y0.1:Int) then
(if 0≤y0.2.1∧y0.2.1<(List.length y0.1:Int) then
((qCs k (((Ty.rd (t:=(.pair yT3 (.int .i64))) y0.1 (wi64 (y0.2.1-(1:Int)))).1.1,((Ty.rd (t:=(.pair yT3 (.int .i64))) y0.1 (wi64 (y0.2.1-(1:Int)))).1.2,())),(((Ty.rd (t:=(.pair yT3 (.int .i64))) y0.1 y0.2.1).1.1,((Ty.rd (t:=(.pair yT3 (.int .i64))) y0.1 y0.2.1).1.2,())),()))).bind fun p3 =>
(if(!p3.1)=true then
some (false,((),()))
else
(rec0 (y0.1,((wi64 (y0.2.1+(1:Int))),())))))
else none)
else none)
else
(rec0 (y0.1,((wi64 (y0.2.1+(1:Int))),()))))
else
some (false,((),()))))
else none)
else
some (false,((),()))))
else none)
else
((fun(z1:(List ((Int×Int)×Int))×Unit) =>
some ((decide ((List.length z1.1:Int)≤(12:Int))),((),()))) (y0.1,())))) k (x.1,((0:Int),())))
abbrev E_s_RoutesOk(k:Nat):qAI:=⟨148,0,(.cons yP19 .nil),.bool,qDi k⟩
theorem t_s_RoutesOk(k:Nat)(x):evF TTab k [qBs k,qGE k,qEO k] [(0,⟨[0,3],(.cons yP19 yP5)⟩,⟨[0],(.cons yP19 .nil)⟩)] Tryz.f148 (.cons yP19 .nil) .bool x=qDi k x:=by kernel_rfl
theorem e_s_RoutesOk[Names](k:Nat):qAD Tryz.prog (E_s_RoutesOk k):=qAB tok (qAA (qCE k) (qAA (e_s_l09Ahead k) (qAA (qGB k) qAG))) (by kernel_rfl) (by kernel_rfl) (by kernel_rfl) fun x r h=>(t_s_RoutesOk k x).trans h
def qEp(k:Nat)(x:(List ((Int×Int)×Int))×(Int×Int×Int×Unit)×Unit):Option (((List ((Int×Int)×Int))×Bool×Unit)×Unit×Unit×Unit):=
(qAH (fun(rec0:((List ((Int×Int)×Int))×(Int×Int×Int×Unit)×(List ((Int×Int)×Int))×Int×Unit)→Option _) (y0:(List ((Int×Int)×Int))×(Int×Int×Int×Unit)×(List ((Int×Int)×Int))×Int×Unit) =>
(if(decide (y0.2.2.2.1<(List.length y0.1:Int)))=true then
(if 0≤y0.2.2.2.1∧y0.2.2.2.1<(List.length y0.1:Int) then
((qCs k (((Ty.rd (t:=(.pair yT3 (.int .i64))) y0.1 y0.2.2.2.1).1.1,((Ty.rd (t:=(.pair yT3 (.int .i64))) y0.1 y0.2.2.2.1).1.2,())),((y0.2.1.1,(y0.2.1.2.1,())),()))).bind fun p1 =>
(if p1.1=true then
(if 0≤y0.2.2.2.1∧y0.2.2.2.1<(List.length y0.1:Int) then
(if List.length y0.2.2.1+List.length ([(((Ty.rd (t:=(.pair yT3 (.int .i64))) y0.1 y0.2.2.2.1).1.1,(Ty.rd (t:=(.pair yT3 (.int .i64))) y0.1 y0.2.2.2.1).1.2),(Ty.rd (t:=(.pair yT3 (.int .i64))) y0.1 y0.2.2.2.1).2)]:List ((Int×Int)×Int))≤capMax then
(rec0 (y0.1,((y0.2.1.1,(y0.2.1.2.1,(y0.2.1.2.2.1,()))),((y0.2.2.1++([(((Ty.rd (t:=(.pair yT3 (.int .i64))) y0.1 y0.2.2.2.1).1.1,(Ty.rd (t:=(.pair yT3 (.int .i64))) y0.1 y0.2.2.2.1).1.2),(Ty.rd (t:=(.pair yT3 (.int .i64))) y0.1 y0.2.2.2.1).2)]:List ((Int×Int)×Int))),((wi64 (y0.2.2.2.1+(1:Int))),())))))
else none)
else none)
else
(rec0 (y0.1,((y0.2.1.1,(y0.2.1.2.1,(y0.2.1.2.2.1,()))),(y0.2.2.1,((wi64 (y0.2.2.2.1+(1:Int))),())))))))
else none)
else
((fun(z1:(List ((Int×Int)×Int))×(Int×Int×Int×Unit)×(List ((Int×Int)×Int))×Unit) =>
(if List.length z1.2.2.1+List.length ([((z1.2.1.1,z1.2.1.2.1),z1.2.1.2.2.1)]:List ((Int×Int)×Int))≤capMax then
(qAH (fun(rec2:((List ((Int×Int)×Int))×(Int×Int×Int×Unit)×(List ((Int×Int)×Int))×Int×Unit)→Option _) (y2:(List ((Int×Int)×Int))×(Int×Int×Int×Unit)×(List ((Int×Int)×Int))×Int×Unit) =>
(if(decide (y2.2.2.2.1<(List.length y2.1:Int)))=true then
(if 0≤y2.2.2.2.1∧y2.2.2.2.1<(List.length y2.1:Int) then
((qCs k ((y2.2.1.1,(y2.2.1.2.1,())),(((Ty.rd (t:=(.pair yT3 (.int .i64))) y2.1 y2.2.2.2.1).1.1,((Ty.rd (t:=(.pair yT3 (.int .i64))) y2.1 y2.2.2.2.1).1.2,())),()))).bind fun p2 =>
(if p2.1=true then
(if 0≤y2.2.2.2.1∧y2.2.2.2.1<(List.length y2.1:Int) then
(if List.length y2.2.2.1+List.length ([(((Ty.rd (t:=(.pair yT3 (.int .i64))) y2.1 y2.2.2.2.1).1.1,(Ty.rd (t:=(.pair yT3 (.int .i64))) y2.1 y2.2.2.2.1).1.2),(Ty.rd (t:=(.pair yT3 (.int .i64))) y2.1 y2.2.2.2.1).2)]:List ((Int×Int)×Int))≤capMax then
(rec2 (y2.1,((y2.2.1.1,(y2.2.1.2.1,(y2.2.1.2.2.1,()))),((y2.2.2.1++([(((Ty.rd (t:=(.pair yT3 (.int .i64))) y2.1 y2.2.2.2.1).1.1,(Ty.rd (t:=(.pair yT3 (.int .i64))) y2.1 y2.2.2.2.1).1.2),(Ty.rd (t:=(.pair yT3 (.int .i64))) y2.1 y2.2.2.2.1).2)]:List ((Int×Int)×Int))),((wi64 (y2.2.2.2.1+(1:Int))),())))))
else none)
else none)
else
(rec2 (y2.1,((y2.2.1.1,(y2.2.1.2.1,(y2.2.1.2.2.1,()))),(y2.2.2.1,((wi64 (y2.2.2.2.1+(1:Int))),())))))))
else none)
else
((fun(z2:(List ((Int×Int)×Int))×(List ((Int×Int)×Int))×Unit) =>
((qDi k (z2.1,())).bind fun p3 =>
(if(!p3.1)=false then
((qDi k (z2.2.1,())).bind fun p4 =>
(if(!p4.1)=true then
(if List.length ([]:List ((Int×Int)×Int))+List.length z2.1≤capMax then
some (((([]:List ((Int×Int)×Int))++z2.1),(false,())),((),((),())))
else none)
else
some ((z2.2.1,(true,())),((),((),())))))
else
(if List.length ([]:List ((Int×Int)×Int))+List.length z2.1≤capMax then
some (((([]:List ((Int×Int)×Int))++z2.1),(false,())),((),((),())))
else none)))) (y2.1,(y2.2.2.1,()))))) k (z1.1,((z1.2.1.1,(z1.2.1.2.1,(z1.2.1.2.2.1,()))),((z1.2.2.1++([((z1.2.1.1,z1.2.1.2.1),z1.2.1.2.2.1)]:List ((Int×Int)×Int))),((0:Int),())))))
else none)) (y0.1,((y0.2.1.1,(y0.2.1.2.1,(y0.2.1.2.2.1,()))),(y0.2.2.1,())))))) k (x.1,((x.2.1.1,(x.2.1.2.1,(x.2.1.2.2.1,()))),(([]:List ((Int×Int)×Int)),((0:Int),())))))
abbrev E_s_PutRoute(k:Nat):qAI:=⟨65,0,(.cons yP19 (.cons (.agg yP16) .nil)),(.tup (.cons yP17 (.cons .bool .nil))),qEp k⟩
theorem t_s_PutRoute(k:Nat)(x):evF TTab k [qGE k,E_s_RoutesOk k] [(0,⟨[0,3,6,7],(.cons yP19 (.cons (.ptr 0 yP16) (.cons yP17 yP5)))⟩,⟨[0,3,6],(.cons yP19 (.cons (.ptr 0 yP16) (.cons yP17 .nil)))⟩),(2,⟨[0,3,6,8],(.cons yP19 (.cons (.ptr 0 yP16) (.cons yP17 yP5)))⟩,⟨[0,6],(.cons yP19 (.cons yP17 .nil))⟩)] Tryz.f65 (.cons yP19 (.cons (.agg yP16) .nil)) (.tup (.cons yP17 (.cons .bool .nil))) x=qEp k x:=by kernel_rfl
theorem e_s_PutRoute[Names](k:Nat):qAD Tryz.prog (E_s_PutRoute k):=qAB tok (qAA (e_s_l09Ahead k) (qAA (e_s_RoutesOk k) qAG)) (by kernel_rfl) (by kernel_rfl) (by kernel_rfl) fun x r h=>(t_s_PutRoute k x).trans h
def qIX(k:Nat)(x:(List (Int×Int×((Int×ByteArray×ByteArray×Int×List (Int)×Int)×Int×ByteArray×ByteArray×Int×List (Int)×Int)×List (Int×Int×Int×List (ByteArray)×List (Bool)×Int)×Int))×(Int×Int×Int×ByteArray×ByteArray×Int×List (Int)×Int×Int×ByteArray×ByteArray×Int×List (Int)×Int×(List (Int×Int×Int×List (ByteArray)×List (Bool)×Int))×Int×Unit)×Unit):Option ((List (Int×Int×((Int×ByteArray×ByteArray×Int×List (Int)×Int)×Int×ByteArray×ByteArray×Int×List (Int)×Int)×List (Int×Int×Int×List (ByteArray)×List (Bool)×Int)×Int))×Unit×Unit×Unit):=
(qAH (fun(rec0:((List (Int×Int×((Int×ByteArray×ByteArray×Int×List (Int)×Int)×Int×ByteArray×ByteArray×Int×List (Int)×Int)×List (Int×Int×Int×List (ByteArray)×List (Bool)×Int)×Int))×(Int×Int×Int×ByteArray×ByteArray×Int×List (Int)×Int×Int×ByteArray×ByteArray×Int×List (Int)×Int×(List (Int×Int×Int×List (ByteArray)×List (Bool)×Int))×Int×Unit)×(List (Int×Int×((Int×ByteArray×ByteArray×Int×List (Int)×Int)×Int×ByteArray×ByteArray×Int×List (Int)×Int)×List (Int×Int×Int×List (ByteArray)×List (Bool)×Int)×Int))×Int×Unit)→Option _) (y0:(List (Int×Int×((Int×ByteArray×ByteArray×Int×List (Int)×Int)×Int×ByteArray×ByteArray×Int×List (Int)×Int)×List (Int×Int×Int×List (ByteArray)×List (Bool)×Int)×Int))×(Int×Int×Int×ByteArray×ByteArray×Int×List (Int)×Int×Int×ByteArray×ByteArray×Int×List (Int)×Int×(List (Int×Int×Int×List (ByteArray)×List (Bool)×Int))×Int×Unit)×(List (Int×Int×((Int×ByteArray×ByteArray×Int×List (Int)×Int)×Int×ByteArray×ByteArray×Int×List (Int)×Int)×List (Int×Int×Int×List (ByteArray)×List (Bool)×Int)×Int))×Int×Unit) =>
(if(decide (y0.2.2.2.1<(List.length y0.1:Int)))=true then
(if 0≤y0.2.2.2.1∧y0.2.2.2.1<(List.length y0.1:Int) then
(if(decide ((Ty.rd (t:=yT0) y0.1 y0.2.2.2.1).1<y0.2.1.1))=true then
(if 0≤y0.2.2.2.1∧y0.2.2.2.1<(List.length y0.1:Int) then
(if List.length y0.2.2.1+List.length ([((Ty.rd (t:=yT0) y0.1 y0.2.2.2.1).1,((Ty.rd (t:=yT0) y0.1 y0.2.2.2.1).2.1,((((Ty.rd (t:=yT0) y0.1 y0.2.2.2.1).2.2.1.1.1,((Ty.rd (t:=yT0) y0.1 y0.2.2.2.1).2.2.1.1.2.1,((Ty.rd (t:=yT0) y0.1 y0.2.2.2.1).2.2.1.1.2.2.1,((Ty.rd (t:=yT0) y0.1 y0.2.2.2.1).2.2.1.1.2.2.2.1,((Ty.rd (t:=yT0) y0.1 y0.2.2.2.1).2.2.1.1.2.2.2.2.1,(Ty.rd (t:=yT0) y0.1 y0.2.2.2.1).2.2.1.1.2.2.2.2.2))))),((Ty.rd (t:=yT0) y0.1 y0.2.2.2.1).2.2.1.2.1,((Ty.rd (t:=yT0) y0.1 y0.2.2.2.1).2.2.1.2.2.1,((Ty.rd (t:=yT0) y0.1 y0.2.2.2.1).2.2.1.2.2.2.1,((Ty.rd (t:=yT0) y0.1 y0.2.2.2.1).2.2.1.2.2.2.2.1,((Ty.rd (t:=yT0) y0.1 y0.2.2.2.1).2.2.1.2.2.2.2.2.1,(Ty.rd (t:=yT0) y0.1 y0.2.2.2.1).2.2.1.2.2.2.2.2.2)))))),((Ty.rd (t:=yT0) y0.1 y0.2.2.2.1).2.2.2.1,(Ty.rd (t:=yT0) y0.1 y0.2.2.2.1).2.2.2.2))))]:List (Int×Int×((Int×ByteArray×ByteArray×Int×List (Int)×Int)×Int×ByteArray×ByteArray×Int×List (Int)×Int)×List (Int×Int×Int×List (ByteArray)×List (Bool)×Int)×Int))≤capMax then
(rec0 (y0.1,(y0.2.1,((y0.2.2.1++([((Ty.rd (t:=yT0) y0.1 y0.2.2.2.1).1,((Ty.rd (t:=yT0) y0.1 y0.2.2.2.1).2.1,((((Ty.rd (t:=yT0) y0.1 y0.2.2.2.1).2.2.1.1.1,((Ty.rd (t:=yT0) y0.1 y0.2.2.2.1).2.2.1.1.2.1,((Ty.rd (t:=yT0) y0.1 y0.2.2.2.1).2.2.1.1.2.2.1,((Ty.rd (t:=yT0) y0.1 y0.2.2.2.1).2.2.1.1.2.2.2.1,((Ty.rd (t:=yT0) y0.1 y0.2.2.2.1).2.2.1.1.2.2.2.2.1,(Ty.rd (t:=yT0) y0.1 y0.2.2.2.1).2.2.1.1.2.2.2.2.2))))),((Ty.rd (t:=yT0) y0.1 y0.2.2.2.1).2.2.1.2.1,((Ty.rd (t:=yT0) y0.1 y0.2.2.2.1).2.2.1.2.2.1,((Ty.rd (t:=yT0) y0.1 y0.2.2.2.1).2.2.1.2.2.2.1,((Ty.rd (t:=yT0) y0.1 y0.2.2.2.1).2.2.1.2.2.2.2.1,((Ty.rd (t:=yT0) y0.1 y0.2.2.2.1).2.2.1.2.2.2.2.2.1,(Ty.rd (t:=yT0) y0.1 y0.2.2.2.1).2.2.1.2.2.2.2.2.2)))))),((Ty.rd (t:=yT0) y0.1 y0.2.2.2.1).2.2.2.1,(Ty.rd (t:=yT0) y0.1 y0.2.2.2.1).2.2.2.2))))]:List (Int×Int×((Int×ByteArray×ByteArray×Int×List (Int)×Int)×Int×ByteArray×ByteArray×Int×List (Int)×Int)×List (Int×Int×Int×List (ByteArray)×List (Bool)×Int)×Int))),((wi64 (y0.2.2.2.1+(1:Int))),())))))
else none)
else none)
else
(rec0 (y0.1,(y0.2.1,(y0.2.2.1,((wi64 (y0.2.2.2.1+(1:Int))),()))))))
else none)
else
((fun(z1:(List (Int×Int×((Int×ByteArray×ByteArray×Int×List (Int)×Int)×Int×ByteArray×ByteArray×Int×List (Int)×Int)×List (Int×Int×Int×List (ByteArray)×List (Bool)×Int)×Int))×(Int×Int×Int×ByteArray×ByteArray×Int×List (Int)×Int×Int×ByteArray×ByteArray×Int×List (Int)×Int×(List (Int×Int×Int×List (ByteArray)×List (Bool)×Int))×Int×Unit)×(List (Int×Int×((Int×ByteArray×ByteArray×Int×List (Int)×Int)×Int×ByteArray×ByteArray×Int×List (Int)×Int)×List (Int×Int×Int×List (ByteArray)×List (Bool)×Int)×Int))×Unit) =>
(if List.length z1.2.2.1+List.length ([(z1.2.1.1,(z1.2.1.2.1,(((z1.2.1.2.2.1,(z1.2.1.2.2.2.1,(z1.2.1.2.2.2.2.1,(z1.2.1.2.2.2.2.2.1,(z1.2.1.2.2.2.2.2.2.1,z1.2.1.2.2.2.2.2.2.2.1))))),(z1.2.1.2.2.2.2.2.2.2.2.1,(z1.2.1.2.2.2.2.2.2.2.2.2.1,(z1.2.1.2.2.2.2.2.2.2.2.2.2.1,(z1.2.1.2.2.2.2.2.2.2.2.2.2.2.1,(z1.2.1.2.2.2.2.2.2.2.2.2.2.2.2.1,z1.2.1.2.2.2.2.2.2.2.2.2.2.2.2.2.1)))))),(z1.2.1.2.2.2.2.2.2.2.2.2.2.2.2.2.2.1,z1.2.1.2.2.2.2.2.2.2.2.2.2.2.2.2.2.2.1))))]:List (Int×Int×((Int×ByteArray×ByteArray×Int×List (Int)×Int)×Int×ByteArray×ByteArray×Int×List (Int)×Int)×List (Int×Int×Int×List (ByteArray)×List (Bool)×Int)×Int))≤capMax then
(qAH (fun(rec2:((List (Int×Int×((Int×ByteArray×ByteArray×Int×List (Int)×Int)×Int×ByteArray×ByteArray×Int×List (Int)×Int)×List (Int×Int×Int×List (ByteArray)×List (Bool)×Int)×Int))×(Int×Int×Int×ByteArray×ByteArray×Int×List (Int)×Int×Int×ByteArray×ByteArray×Int×List (Int)×Int×(List (Int×Int×Int×List (ByteArray)×List (Bool)×Int))×Int×Unit)×(List (Int×Int×((Int×ByteArray×ByteArray×Int×List (Int)×Int)×Int×ByteArray×ByteArray×Int×List (Int)×Int)×List (Int×Int×Int×List (ByteArray)×List (Bool)×Int)×Int))×Int×Unit)→Option _) (y2:(List (Int×Int×((Int×ByteArray×ByteArray×Int×List (Int)×Int)×Int×ByteArray×ByteArray×Int×List (Int)×Int)×List (Int×Int×Int×List (ByteArray)×List (Bool)×Int)×Int))×(Int×Int×Int×ByteArray×ByteArray×Int×List (Int)×Int×Int×ByteArray×ByteArray×Int×List (Int)×Int×(List (Int×Int×Int×List (ByteArray)×List (Bool)×Int))×Int×Unit)×(List (Int×Int×((Int×ByteArray×ByteArray×Int×List (Int)×Int)×Int×ByteArray×ByteArray×Int×List (Int)×Int)×List (Int×Int×Int×List (ByteArray)×List (Bool)×Int)×Int))×Int×Unit) =>
(if(decide (y2.2.2.2.1<(List.length y2.1:Int)))=true then
(if 0≤y2.2.2.2.1∧y2.2.2.2.1<(List.length y2.1:Int) then
(if(decide (y2.2.1.1<(Ty.rd (t:=yT0) y2.1 y2.2.2.2.1).1))=true then
(if 0≤y2.2.2.2.1∧y2.2.2.2.1<(List.length y2.1:Int) then
(if List.length y2.2.2.1+List.length ([((Ty.rd (t:=yT0) y2.1 y2.2.2.2.1).1,((Ty.rd (t:=yT0) y2.1 y2.2.2.2.1).2.1,((((Ty.rd (t:=yT0) y2.1 y2.2.2.2.1).2.2.1.1.1,((Ty.rd (t:=yT0) y2.1 y2.2.2.2.1).2.2.1.1.2.1,((Ty.rd (t:=yT0) y2.1 y2.2.2.2.1).2.2.1.1.2.2.1,((Ty.rd (t:=yT0) y2.1 y2.2.2.2.1).2.2.1.1.2.2.2.1,((Ty.rd (t:=yT0) y2.1 y2.2.2.2.1).2.2.1.1.2.2.2.2.1,(Ty.rd (t:=yT0) y2.1 y2.2.2.2.1).2.2.1.1.2.2.2.2.2))))),((Ty.rd (t:=yT0) y2.1 y2.2.2.2.1).2.2.1.2.1,((Ty.rd (t:=yT0) y2.1 y2.2.2.2.1).2.2.1.2.2.1,((Ty.rd (t:=yT0) y2.1 y2.2.2.2.1).2.2.1.2.2.2.1,((Ty.rd (t:=yT0) y2.1 y2.2.2.2.1).2.2.1.2.2.2.2.1,((Ty.rd (t:=yT0) y2.1 y2.2.2.2.1).2.2.1.2.2.2.2.2.1,(Ty.rd (t:=yT0) y2.1 y2.2.2.2.1).2.2.1.2.2.2.2.2.2)))))),((Ty.rd (t:=yT0) y2.1 y2.2.2.2.1).2.2.2.1,(Ty.rd (t:=yT0) y2.1 y2.2.2.2.1).2.2.2.2))))]:List (Int×Int×((Int×ByteArray×ByteArray×Int×List (Int)×Int)×Int×ByteArray×ByteArray×Int×List (Int)×Int)×List (Int×Int×Int×List (ByteArray)×List (Bool)×Int)×Int))≤capMax then
(rec2 (y2.1,(y2.2.1,((y2.2.2.1++([((Ty.rd (t:=yT0) y2.1 y2.2.2.2.1).1,((Ty.rd (t:=yT0) y2.1 y2.2.2.2.1).2.1,((((Ty.rd (t:=yT0) y2.1 y2.2.2.2.1).2.2.1.1.1,((Ty.rd (t:=yT0) y2.1 y2.2.2.2.1).2.2.1.1.2.1,((Ty.rd (t:=yT0) y2.1 y2.2.2.2.1).2.2.1.1.2.2.1,((Ty.rd (t:=yT0) y2.1 y2.2.2.2.1).2.2.1.1.2.2.2.1,((Ty.rd (t:=yT0) y2.1 y2.2.2.2.1).2.2.1.1.2.2.2.2.1,(Ty.rd (t:=yT0) y2.1 y2.2.2.2.1).2.2.1.1.2.2.2.2.2))))),((Ty.rd (t:=yT0) y2.1 y2.2.2.2.1).2.2.1.2.1,((Ty.rd (t:=yT0) y2.1 y2.2.2.2.1).2.2.1.2.2.1,((Ty.rd (t:=yT0) y2.1 y2.2.2.2.1).2.2.1.2.2.2.1,((Ty.rd (t:=yT0) y2.1 y2.2.2.2.1).2.2.1.2.2.2.2.1,((Ty.rd (t:=yT0) y2.1 y2.2.2.2.1).2.2.1.2.2.2.2.2.1,(Ty.rd (t:=yT0) y2.1 y2.2.2.2.1).2.2.1.2.2.2.2.2.2)))))),((Ty.rd (t:=yT0) y2.1 y2.2.2.2.1).2.2.2.1,(Ty.rd (t:=yT0) y2.1 y2.2.2.2.1).2.2.2.2))))]:List (Int×Int×((Int×ByteArray×ByteArray×Int×List (Int)×Int)×Int×ByteArray×ByteArray×Int×List (Int)×Int)×List (Int×Int×Int×List (ByteArray)×List (Bool)×Int)×Int))),((wi64 (y2.2.2.2.1+(1:Int))),())))))
else none)
else none)
else
(rec2 (y2.1,(y2.2.1,(y2.2.2.1,((wi64 (y2.2.2.2.1+(1:Int))),()))))))
else none)
else
((fun(z2:(List (Int×Int×((Int×ByteArray×ByteArray×Int×List (Int)×Int)×Int×ByteArray×ByteArray×Int×List (Int)×Int)×List (Int×Int×Int×List (ByteArray)×List (Bool)×Int)×Int))×Unit) =>
some (z2.1,((),((),())))) (y2.2.2.1,())))) k (z1.1,(z1.2.1,((z1.2.2.1++([(z1.2.1.1,(z1.2.1.2.1,(((z1.2.1.2.2.1,(z1.2.1.2.2.2.1,(z1.2.1.2.2.2.2.1,(z1.2.1.2.2.2.2.2.1,(z1.2.1.2.2.2.2.2.2.1,z1.2.1.2.2.2.2.2.2.2.1))))),(z1.2.1.2.2.2.2.2.2.2.2.1,(z1.2.1.2.2.2.2.2.2.2.2.2.1,(z1.2.1.2.2.2.2.2.2.2.2.2.2.1,(z1.2.1.2.2.2.2.2.2.2.2.2.2.2.1,(z1.2.1.2.2.2.2.2.2.2.2.2.2.2.2.1,z1.2.1.2.2.2.2.2.2.2.2.2.2.2.2.2.1)))))),(z1.2.1.2.2.2.2.2.2.2.2.2.2.2.2.2.2.1,z1.2.1.2.2.2.2.2.2.2.2.2.2.2.2.2.2.2.1))))]:List (Int×Int×((Int×ByteArray×ByteArray×Int×List (Int)×Int)×Int×ByteArray×ByteArray×Int×List (Int)×Int)×List (Int×Int×Int×List (ByteArray)×List (Bool)×Int)×Int))),((0:Int),())))))
else none)) (y0.1,(y0.2.1,(y0.2.2.1,())))))) k (x.1,(x.2.1,(([]:List (Int×Int×((Int×ByteArray×ByteArray×Int×List (Int)×Int)×Int×ByteArray×ByteArray×Int×List (Int)×Int)×List (Int×Int×Int×List (ByteArray)×List (Bool)×Int)×Int)),((0:Int),())))))
abbrev E_s_l22Put(k:Nat):qAI:=⟨67,0,(.cons (.il false yT0) (.cons (.agg yP18) .nil)),(.own false 45 yT0),qIX k⟩
theorem t_s_l22Put(k:Nat)(x):evF TTab k [] [(0,⟨[0,3,5,6],(.cons (.il false yT0) (.cons (.ptr 0 yP18) (.cons (.own false 45 yT0) yP5)))⟩,⟨[0,3,5],(.cons (.il false yT0) (.cons (.ptr 0 yP18) (.cons (.own false 45 yT0) .nil)))⟩),(2,⟨[0,3,5,7],(.cons (.il false yT0) (.cons (.ptr 0 yP18) (.cons (.own false 45 yT0) yP5)))⟩,⟨[5],(.cons (.own false 45 yT0) .nil)⟩)] Tryz.f67 (.cons (.il false yT0) (.cons (.agg yP18) .nil)) (.own false 45 yT0) x=qIX k x:=by kernel_rfl
theorem e_s_l22Put[Names](k:Nat):qAD Tryz.prog (E_s_l22Put k):=qAB tok qAG (by kernel_rfl) (by kernel_rfl) (by kernel_rfl) fun x r h=>(t_s_l22Put k x).trans h
def s_Join(k:Nat)(x:(Int×Int×(List (Int×Int×Int))×(List (Int×Int))×(List ((Int×Int)×Int))×(List (Int×Int×((Int×ByteArray×ByteArray×Int×List (Int)×Int)×Int×ByteArray×ByteArray×Int×List (Int)×Int)×List (Int×Int×Int×List (ByteArray)×List (Bool)×Int)×Int))×Unit)×Int×ByteArray×Int×Unit):Option (((Int×Int×(List (Int×Int×Int))×(List (Int×Int))×(List ((Int×Int)×Int))×(List (Int×Int×((Int×ByteArray×ByteArray×Int×List (Int)×Int)×Int×ByteArray×ByteArray×Int×List (Int)×Int)×List (Int×Int×Int×List (ByteArray)×List (Bool)×Int)×Int))×Unit)×(Int×Int×Int×ByteArray×ByteArray×Int×List (Int)×Int×Int×ByteArray×ByteArray×Int×List (Int)×Int×(List (Int×Int×Int×List (ByteArray)×List (Bool)×Int))×Int×Unit)×Bool×Unit)×Unit×Unit×Unit×Unit×Unit):=
((qGA k ((x.1.1,(x.1.2.1,(x.1.2.2.1,(x.1.2.2.2.1,(x.1.2.2.2.2.1,(x.1.2.2.2.2.2.1,())))))),())).bind fun p1 =>
((qBU k (x.2.1,((1:Int),((98:Int),())))).bind fun p2 =>
(if(!p2.1)=false then
((s_l22At k (x.1.2.2.2.2.2.1,(x.2.1,()))).bind fun p3 =>
(if(decide ((0:Int)≤p3.1))=false then
(if(decide ((3:Int)≤(List.length x.1.2.2.2.2.2.1:Int)))=true then
some (((p1.1.1,(p1.1.2.1,(p1.1.2.2.1,(p1.1.2.2.2.1,(p1.1.2.2.2.2.1,(p1.1.2.2.2.2.2.1,())))))),(((0:Int),((0:Int),((0:Int),((⟨#[]⟩:ByteArray),((⟨#[]⟩:ByteArray),((0:Int),([],((0:Int),((0:Int),((⟨#[]⟩:ByteArray),((⟨#[]⟩:ByteArray),((0:Int),([],((0:Int),([],((0:Int),())))))))))))))))),(false,()))),((),((),((),((),())))))
else
((s_Grant k ((x.1.1,(x.1.2.1,(x.1.2.2.1,(x.1.2.2.2.1,())))),(x.2.1,(x.2.2.2.1,())))).bind fun p4 =>
((qEp k (x.1.2.2.2.2.1,((p4.1.2.1,((32:Int),(x.2.1,()))),()))).bind fun p5 =>
(if(!p4.1.2.2.1)=false then
(if(!p5.1.2.1)=true then
some (((p1.1.1,(p1.1.2.1,(p1.1.2.2.1,(p1.1.2.2.2.1,(p1.1.2.2.2.2.1,(p1.1.2.2.2.2.2.1,())))))),(((0:Int),((0:Int),((0:Int),((⟨#[]⟩:ByteArray),((⟨#[]⟩:ByteArray),((0:Int),([],((0:Int),((0:Int),((⟨#[]⟩:ByteArray),((⟨#[]⟩:ByteArray),((0:Int),([],((0:Int),([],((0:Int),())))))))))))))))),(false,()))),((),((),((),((),())))))
else
((qDy k (x.2.2.1,())).bind fun p6 =>
((qIX k (x.1.2.2.2.2.2.1,((x.2.1,(p4.1.2.1,(p6.1.2.1.1,(p6.1.2.1.2.1,(p6.1.2.1.2.2.1,(p6.1.2.1.2.2.2.1,(p6.1.2.1.2.2.2.2.1,(p6.1.2.1.2.2.2.2.2.1,(p6.1.2.1.2.2.2.2.2.2.1,(p6.1.2.1.2.2.2.2.2.2.2.1,(p6.1.2.1.2.2.2.2.2.2.2.2.1,(p6.1.2.1.2.2.2.2.2.2.2.2.2.1,(p6.1.2.1.2.2.2.2.2.2.2.2.2.2.1,(p6.1.2.1.2.2.2.2.2.2.2.2.2.2.2.1,([],((0:Int),())))))))))))))))),()))).bind fun p7 =>
((qBf k (p7.1,())).bind fun p8 =>
some (((p4.1.1.1,(p4.1.1.2.1,(p4.1.1.2.2.1,(p4.1.1.2.2.2.1,(p5.1.1,(p8.1,())))))),((x.2.1,(p4.1.2.1,(p6.1.1.1,(p6.1.1.2.1,(p6.1.1.2.2.1,(p6.1.1.2.2.2.1,(p6.1.1.2.2.2.2.1,(p6.1.1.2.2.2.2.2.1,(p6.1.1.2.2.2.2.2.2.1,(p6.1.1.2.2.2.2.2.2.2.1,(p6.1.1.2.2.2.2.2.2.2.2.1,(p6.1.1.2.2.2.2.2.2.2.2.2.1,(p6.1.1.2.2.2.2.2.2.2.2.2.2.1,(p6.1.1.2.2.2.2.2.2.2.2.2.2.2.1,([],((0:Int),())))))))))))))))),(true,()))),((),((),((),((),())))))))))
else
some (((p1.1.1,(p1.1.2.1,(p1.1.2.2.1,(p1.1.2.2.2.1,(p1.1.2.2.2.2.1,(p1.1.2.2.2.2.2.1,())))))),(((0:Int),((0:Int),((0:Int),((⟨#[]⟩:ByteArray),((⟨#[]⟩:ByteArray),((0:Int),([],((0:Int),((0:Int),((⟨#[]⟩:ByteArray),((⟨#[]⟩:ByteArray),((0:Int),([],((0:Int),([],((0:Int),())))))))))))))))),(false,()))),((),((),((),((),())))))))))
else
some (((p1.1.1,(p1.1.2.1,(p1.1.2.2.1,(p1.1.2.2.2.1,(p1.1.2.2.2.2.1,(p1.1.2.2.2.2.2.1,())))))),(((0:Int),((0:Int),((0:Int),((⟨#[]⟩:ByteArray),((⟨#[]⟩:ByteArray),((0:Int),([],((0:Int),((0:Int),((⟨#[]⟩:ByteArray),((⟨#[]⟩:ByteArray),((0:Int),([],((0:Int),([],((0:Int),())))))))))))))))),(false,()))),((),((),((),((),())))))))
else
some (((p1.1.1,(p1.1.2.1,(p1.1.2.2.1,(p1.1.2.2.2.1,(p1.1.2.2.2.2.1,(p1.1.2.2.2.2.2.1,())))))),(((0:Int),((0:Int),((0:Int),((⟨#[]⟩:ByteArray),((⟨#[]⟩:ByteArray),((0:Int),([],((0:Int),((0:Int),((⟨#[]⟩:ByteArray),((⟨#[]⟩:ByteArray),((0:Int),([],((0:Int),([],((0:Int),())))))))))))))))),(false,()))),((),((),((),((),()))))))))
abbrev E_s_Join(k:Nat):qAI:=⟨14,0,(.cons (.agg (.cons (.int .i64) (.cons (.int .i64) (.cons (.il false (.pair (.int .i64) yT3)) (.cons (.il false yT3) (.cons (.il false (.pair yT3 (.int .i64))) (.cons (.il false yT0) .nil))))))) (.cons (.int .i64) (.cons .str yP5))),(.tup (.cons (.agg (.cons (.int .i64) (.cons (.int .i64) (.cons yP21 (.cons (.own false 252 yT3) (.cons yP17 (.cons (.own false 45 yT0) .nil))))))) (.cons yP20 (.cons .bool .nil)))),s_Join k⟩
theorem t_s_Join(k:Nat)(x):evF TTab k [qIU k,E_s_l22Copy k,qBs k,E_s_l22At k,E_s_Grant k,E_s_PutRoute k,qDU k,E_s_l22Put k] [] Tryz.f14 (.cons (.agg (.cons (.int .i64) (.cons (.int .i64) (.cons (.il false (.pair (.int .i64) yT3)) (.cons (.il false yT3) (.cons (.il false (.pair yT3 (.int .i64))) (.cons (.il false yT0) .nil))))))) (.cons (.int .i64) (.cons .str yP5))) (.tup (.cons (.agg (.cons (.int .i64) (.cons (.int .i64) (.cons yP21 (.cons (.own false 252 yT3) (.cons yP17 (.cons (.own false 45 yT0) .nil))))))) (.cons yP20 (.cons .bool .nil)))) x=s_Join k x:=by kernel_rfl
theorem e_s_Join[Names](k:Nat):qAD Tryz.prog (E_s_Join k):=qAB tok (qAA (e_s_PairSlots k) (qAA (e_s_l22Copy k) (qAA (qCE k) (qAA (e_s_l22At k) (qAA (e_s_Grant k) (qAA (e_s_PutRoute k) (qAA (qFj k) (qAA (e_s_l22Put k) qAG)))))))) (by kernel_rfl) (by kernel_rfl) (by kernel_rfl) fun x r h=>(t_s_Join k x).trans h
def qDj(k:Nat)(x:(Int×Int×(List (Int×Int×Int))×(List (Int×Int))×Unit)×Unit):Option ((Int×Int×(List (Int×Int×Int))×(List (Int×Int))×Unit)×Unit×Unit):=
(if List.length ([]:List (Int×Int×Int))+List.length x.1.2.2.1≤capMax then
(if List.length ([]:List (Int×Int))+List.length x.1.2.2.2.1≤capMax then
some ((x.1.1,(x.1.2.1,((([]:List (Int×Int×Int))++x.1.2.2.1),((([]:List (Int×Int))++x.1.2.2.2.1),())))),((),()))
else none)
else none)
abbrev qGF(k:Nat):qAI:=⟨128,0,(.cons (.agg yP6) .nil),(.agg yP12),qDj k⟩
theorem t_i_copyPool(k:Nat)(x):evF TTab k [] [] Tryz.f128 (.cons (.agg yP6) .nil) (.agg yP12) x=qDj k x:=by kernel_rfl
theorem e_i_copyPool[Names](k:Nat):qAD Tryz.prog (qGF k):=qAB tok qAG (by kernel_rfl) (by kernel_rfl) (by kernel_rfl) fun x r h=>(t_i_copyPool k x).trans h
def qBE(k:Nat)(x:(List ((Int×Int)×Int))×Unit):Option ((List ((Int×Int)×Int))×Unit×Unit):=
(if List.length ([]:List ((Int×Int)×Int))+List.length x.1≤capMax then
some ((([]:List ((Int×Int)×Int))++x.1),((),()))
else none)
abbrev qC9(k:Nat):qAI:=⟨129,0,(.cons yP19 .nil),yP17,qBE k⟩
theorem t_i_copyRoutes(k:Nat)(x):evF TTab k [] [] Tryz.f129 (.cons yP19 .nil) yP17 x=qBE k x:=by kernel_rfl
theorem qEa[Names](k:Nat):qAD Tryz.prog (qC9 k):=qAB tok qAG (by kernel_rfl) (by kernel_rfl) (by kernel_rfl) fun x r h=>(t_i_copyRoutes k x).trans h
def qEq(k:Nat)(x:List (Int)×Unit):Option (List (Int)×Unit×Unit):=
(if List.length ([]:List (Int))+List.length x.1≤capMax then
some ((([]:List (Int))++x.1),((),()))
else none)
abbrev E_i_copyInts(k:Nat):qAI:=⟨254,0,yP30,yP25,qEq k⟩
theorem t_i_copyInts(k:Nat)(x):evF TTab k [] [] Tryz.f254 yP30 yP25 x=qEq k x:=by kernel_rfl
theorem e_i_copyInts[Names](k:Nat):qAD Tryz.prog (E_i_copyInts k):=qAB tok qAG (by kernel_rfl) (by kernel_rfl) (by kernel_rfl) fun x r h=>(t_i_copyInts k x).trans h
def qCt(k:Nat)(x:(Int×ByteArray×ByteArray×Int×List (Int)×Int×Int×ByteArray×ByteArray×Int×List (Int)×Int×Unit)×Unit):Option ((Int×ByteArray×ByteArray×Int×List (Int)×Int×Int×ByteArray×ByteArray×Int×List (Int)×Int×Unit)×Unit×Unit):=
((qEq k (x.1.2.2.2.2.1,())).bind fun p1 =>
((qEq k (x.1.2.2.2.2.2.2.2.2.2.2.1,())).bind fun p2 =>
some ((x.1.1,(x.1.2.1,(x.1.2.2.1,(x.1.2.2.2.1,(p1.1,(x.1.2.2.2.2.2.1,(x.1.2.2.2.2.2.2.1,(x.1.2.2.2.2.2.2.2.1,(x.1.2.2.2.2.2.2.2.2.1,(x.1.2.2.2.2.2.2.2.2.2.1,(p2.1,(x.1.2.2.2.2.2.2.2.2.2.2.2.1,())))))))))))),((),()))))
abbrev qFR(k:Nat):qAI:=⟨183,0,(.cons yP8 .nil),yP10,qCt k⟩
theorem t_i_copySlots(k:Nat)(x):evF TTab k [E_i_copyInts k] [] Tryz.f183 (.cons yP8 .nil) yP10 x=qCt k x:=by kernel_rfl
theorem qIY[Names](k:Nat):qAD Tryz.prog (qFR k):=qAB tok (qAA (e_i_copyInts k) qAG) (by kernel_rfl) (by kernel_rfl) (by kernel_rfl) fun x r h=>(t_i_copySlots k x).trans h
def qD1(k:Nat)(x:List (ByteArray)×Unit):Option (List (ByteArray)×Unit×Unit):=
(if List.length ([]:List (ByteArray))+List.length x.1≤capMax then
some ((([]:List (ByteArray))++x.1),((),()))
else none)
abbrev qIZ(k:Nat):qAI:=⟨255,0,(.cons (.il true .str) .nil),(.own false 9 .str),qD1 k⟩
theorem t_i_copyTexts(k:Nat)(x):evF TTab k [] [] Tryz.f255 (.cons (.il true .str) .nil) (.own false 9 .str) x=qD1 k x:=by kernel_rfl
theorem e_i_copyTexts[Names](k:Nat):qAD Tryz.prog (qIZ k):=qAB tok qAG (by kernel_rfl) (by kernel_rfl) (by kernel_rfl) fun x r h=>(t_i_copyTexts k x).trans h
def qD2(k:Nat)(x:((List (Int×Int×Int×List (ByteArray)×List (Bool)×Int))×Unit)×Unit):Option (((List (Int×Int×Int×List (ByteArray)×List (Bool)×Int))×Unit)×Unit×Unit):=
(qAH (fun(rec0:(((List (Int×Int×Int×List (ByteArray)×List (Bool)×Int))×Unit)×((List (Int×Int×Int×List (ByteArray)×List (Bool)×Int))×Unit)×(List (Int×Int×Int×List (ByteArray)×List (Bool)×Int))×Int×Int×Unit)→Option _) (y0:((List (Int×Int×Int×List (ByteArray)×List (Bool)×Int))×Unit)×((List (Int×Int×Int×List (ByteArray)×List (Bool)×Int))×Unit)×(List (Int×Int×Int×List (ByteArray)×List (Bool)×Int))×Int×Int×Unit) =>
(if(decide (y0.2.2.2.2.1<y0.2.2.2.1))=true then
(if 0≤y0.2.2.2.2.1∧y0.2.2.2.2.1<(List.length y0.2.2.1:Int) then
((qD1 k ((Ty.rd (t:=yT4) y0.2.2.1 y0.2.2.2.2.1).2.2.2.1,())).bind fun p1 =>
(if List.length ([]:List (Bool))+List.length (Ty.rd (t:=yT4) y0.2.2.1 y0.2.2.2.2.1).2.2.2.2.1≤capMax then
(if List.length y0.2.1.1+List.length ([((Ty.rd (t:=yT4) y0.2.2.1 y0.2.2.2.2.1).1,((Ty.rd (t:=yT4) y0.2.2.1 y0.2.2.2.2.1).2.1,((Ty.rd (t:=yT4) y0.2.2.1 y0.2.2.2.2.1).2.2.1,(p1.1,((([]:List (Bool))++(Ty.rd (t:=yT4) y0.2.2.1 y0.2.2.2.2.1).2.2.2.2.1),(Ty.rd (t:=yT4) y0.2.2.1 y0.2.2.2.2.1).2.2.2.2.2)))))]:List (Int×Int×Int×List (ByteArray)×List (Bool)×Int))≤capMax then
(rec0 ((y0.1.1,()),(((y0.2.1.1++([((Ty.rd (t:=yT4) y0.2.2.1 y0.2.2.2.2.1).1,((Ty.rd (t:=yT4) y0.2.2.1 y0.2.2.2.2.1).2.1,((Ty.rd (t:=yT4) y0.2.2.1 y0.2.2.2.2.1).2.2.1,(p1.1,((([]:List (Bool))++(Ty.rd (t:=yT4) y0.2.2.1 y0.2.2.2.2.1).2.2.2.2.1),(Ty.rd (t:=yT4) y0.2.2.1 y0.2.2.2.2.1).2.2.2.2.2)))))]:List (Int×Int×Int×List (ByteArray)×List (Bool)×Int))),()),(y0.2.2.1,(y0.2.2.2.1,((wi64 (y0.2.2.2.2.1+(1:Int))),()))))))
else none)
else none))
else none)
else
((fun(z1:((List (Int×Int×Int×List (ByteArray)×List (Bool)×Int))×Unit)×((List (Int×Int×Int×List (ByteArray)×List (Bool)×Int))×Unit)×Unit) =>
some ((z1.2.1.1,()),((),()))) ((y0.1.1,()),((y0.2.1.1,()),()))))) k (([],()),(([],()),(x.1.1,((List.length x.1.1:Int),((0:Int),()))))))
abbrev qIa(k:Nat):qAI:=⟨184,0,(.cons (.agg (.cons (.il true yT4) .nil)) .nil),(.agg (.cons (.own false 229 yT7) .nil)),qD2 k⟩
theorem t_i_copyShelf(k:Nat)(x):evF qBr k [qIZ k] [(0,⟨[2,3,8,9,10],(.cons (.ptr 0 (.cons (.own false 229 yT7) .nil)) (.cons (.ptr 0 (.cons (.own false 229 yT7) .nil)) (.cons (.il true yT4) (.cons (.int .i64) yP5))))⟩,⟨[2,3],(.cons (.ptr 0 (.cons (.own false 229 yT7) .nil)) (.cons (.ptr 0 (.cons (.own false 229 yT7) .nil)) .nil))⟩)] Tryz.f184 (.cons (.agg (.cons (.il true yT4) .nil)) .nil) (.agg (.cons (.own false 229 yT7) .nil)) x=qD2 k x:=by kernel_rfl
theorem e_i_copyShelf[Names](k:Nat):qAD Tryz.prog (qIa k):=qAB tokO (qAA (e_i_copyTexts k) qAG) (by kernel_rfl) (by kernel_rfl) (by kernel_rfl) fun x r h=>(t_i_copyShelf k x).trans h
def qEr(k:Nat)(x:(Int×Int×Int×ByteArray×ByteArray×Int×List (Int)×Int×Int×ByteArray×ByteArray×Int×List (Int)×Int×(List (Int×Int×Int×List (ByteArray)×List (Bool)×Int))×Int×Unit)×Unit):Option ((Int×Int×Int×ByteArray×ByteArray×Int×List (Int)×Int×Int×ByteArray×ByteArray×Int×List (Int)×Int×(List (Int×Int×Int×List (ByteArray)×List (Bool)×Int))×Int×Unit)×Unit×Unit):=
((qCt k ((x.1.2.2.1,(x.1.2.2.2.1,(x.1.2.2.2.2.1,(x.1.2.2.2.2.2.1,(x.1.2.2.2.2.2.2.1,(x.1.2.2.2.2.2.2.2.1,(x.1.2.2.2.2.2.2.2.2.1,(x.1.2.2.2.2.2.2.2.2.2.1,(x.1.2.2.2.2.2.2.2.2.2.2.1,(x.1.2.2.2.2.2.2.2.2.2.2.2.1,(x.1.2.2.2.2.2.2.2.2.2.2.2.2.1,(x.1.2.2.2.2.2.2.2.2.2.2.2.2.2.1,())))))))))))),())).bind fun p1 =>
((qD2 k ((x.1.2.2.2.2.2.2.2.2.2.2.2.2.2.2.1,()),())).bind fun p2 =>
some ((x.1.1,(x.1.2.1,(p1.1.1,(p1.1.2.1,(p1.1.2.2.1,(p1.1.2.2.2.1,(p1.1.2.2.2.2.1,(p1.1.2.2.2.2.2.1,(p1.1.2.2.2.2.2.2.1,(p1.1.2.2.2.2.2.2.2.1,(p1.1.2.2.2.2.2.2.2.2.1,(p1.1.2.2.2.2.2.2.2.2.2.1,(p1.1.2.2.2.2.2.2.2.2.2.2.1,(p1.1.2.2.2.2.2.2.2.2.2.2.2.1,(p2.1.1,(x.1.2.2.2.2.2.2.2.2.2.2.2.2.2.2.2.1,())))))))))))))))),((),()))))
abbrev E_i_copyUser(k:Nat):qAI:=⟨100,0,(.cons yP9 .nil),yP13,qEr k⟩
theorem t_i_copyUser(k:Nat)(x):evF qBr k [qFR k,qIa k] [] Tryz.f100 (.cons yP9 .nil) yP13 x=qEr k x:=by kernel_rfl
theorem e_i_copyUser[Names](k:Nat):qAD Tryz.prog (E_i_copyUser k):=qAB tokO (qAA (qIY k) (qAA (e_i_copyShelf k) qAG)) (by kernel_rfl) (by kernel_rfl) (by kernel_rfl) fun x r h=>(t_i_copyUser k x).trans h
def qD3(k:Nat)(x:(List (Int×Int×((Int×ByteArray×ByteArray×Int×List (Int)×Int)×Int×ByteArray×ByteArray×Int×List (Int)×Int)×List (Int×Int×Int×List (ByteArray)×List (Bool)×Int)×Int))×Unit):Option ((List (Int×Int×((Int×ByteArray×ByteArray×Int×List (Int)×Int)×Int×ByteArray×ByteArray×Int×List (Int)×Int)×List (Int×Int×Int×List (ByteArray)×List (Bool)×Int)×Int))×Unit×Unit):=
(qAH (fun(rec0:((List (Int×Int×((Int×ByteArray×ByteArray×Int×List (Int)×Int)×Int×ByteArray×ByteArray×Int×List (Int)×Int)×List (Int×Int×Int×List (ByteArray)×List (Bool)×Int)×Int))×(List (Int×Int×((Int×ByteArray×ByteArray×Int×List (Int)×Int)×Int×ByteArray×ByteArray×Int×List (Int)×Int)×List (Int×Int×Int×List (ByteArray)×List (Bool)×Int)×Int))×Int×Int×Unit)→Option _) (y0:(List (Int×Int×((Int×ByteArray×ByteArray×Int×List (Int)×Int)×Int×ByteArray×ByteArray×Int×List (Int)×Int)×List (Int×Int×Int×List (ByteArray)×List (Bool)×Int)×Int))×(List (Int×Int×((Int×ByteArray×ByteArray×Int×List (Int)×Int)×Int×ByteArray×ByteArray×Int×List (Int)×Int)×List (Int×Int×Int×List (ByteArray)×List (Bool)×Int)×Int))×Int×Int×Unit) =>
(if(decide (y0.2.2.2.1<y0.2.2.1))=true then
(if 0≤y0.2.2.2.1∧y0.2.2.2.1<(List.length y0.2.1:Int) then
((qEr k (((Ty.rd (t:=yT0) y0.2.1 y0.2.2.2.1).1,((Ty.rd (t:=yT0) y0.2.1 y0.2.2.2.1).2.1,((Ty.rd (t:=yT0) y0.2.1 y0.2.2.2.1).2.2.1.1.1,((Ty.rd (t:=yT0) y0.2.1 y0.2.2.2.1).2.2.1.1.2.1,((Ty.rd (t:=yT0) y0.2.1 y0.2.2.2.1).2.2.1.1.2.2.1,((Ty.rd (t:=yT0) y0.2.1 y0.2.2.2.1).2.2.1.1.2.2.2.1,((Ty.rd (t:=yT0) y0.2.1 y0.2.2.2.1).2.2.1.1.2.2.2.2.1,((Ty.rd (t:=yT0) y0.2.1 y0.2.2.2.1).2.2.1.1.2.2.2.2.2,((Ty.rd (t:=yT0) y0.2.1 y0.2.2.2.1).2.2.1.2.1,((Ty.rd (t:=yT0) y0.2.1 y0.2.2.2.1).2.2.1.2.2.1,((Ty.rd (t:=yT0) y0.2.1 y0.2.2.2.1).2.2.1.2.2.2.1,((Ty.rd (t:=yT0) y0.2.1 y0.2.2.2.1).2.2.1.2.2.2.2.1,((Ty.rd (t:=yT0) y0.2.1 y0.2.2.2.1).2.2.1.2.2.2.2.2.1,((Ty.rd (t:=yT0) y0.2.1 y0.2.2.2.1).2.2.1.2.2.2.2.2.2,((Ty.rd (t:=yT0) y0.2.1 y0.2.2.2.1).2.2.2.1,((Ty.rd (t:=yT0) y0.2.1 y0.2.2.2.1).2.2.2.2,())))))))))))))))),())).bind fun p1 =>
(if List.length y0.1+List.length ([(p1.1.1,(p1.1.2.1,(((p1.1.2.2.1,(p1.1.2.2.2.1,(p1.1.2.2.2.2.1,(p1.1.2.2.2.2.2.1,(p1.1.2.2.2.2.2.2.1,p1.1.2.2.2.2.2.2.2.1))))),(p1.1.2.2.2.2.2.2.2.2.1,(p1.1.2.2.2.2.2.2.2.2.2.1,(p1.1.2.2.2.2.2.2.2.2.2.2.1,(p1.1.2.2.2.2.2.2.2.2.2.2.2.1,(p1.1.2.2.2.2.2.2.2.2.2.2.2.2.1,p1.1.2.2.2.2.2.2.2.2.2.2.2.2.2.1)))))),(p1.1.2.2.2.2.2.2.2.2.2.2.2.2.2.2.1,p1.1.2.2.2.2.2.2.2.2.2.2.2.2.2.2.2.1))))]:List (Int×Int×((Int×ByteArray×ByteArray×Int×List (Int)×Int)×Int×ByteArray×ByteArray×Int×List (Int)×Int)×List (Int×Int×Int×List (ByteArray)×List (Bool)×Int)×Int))≤capMax then
(rec0 ((y0.1++([(p1.1.1,(p1.1.2.1,(((p1.1.2.2.1,(p1.1.2.2.2.1,(p1.1.2.2.2.2.1,(p1.1.2.2.2.2.2.1,(p1.1.2.2.2.2.2.2.1,p1.1.2.2.2.2.2.2.2.1))))),(p1.1.2.2.2.2.2.2.2.2.1,(p1.1.2.2.2.2.2.2.2.2.2.1,(p1.1.2.2.2.2.2.2.2.2.2.2.1,(p1.1.2.2.2.2.2.2.2.2.2.2.2.1,(p1.1.2.2.2.2.2.2.2.2.2.2.2.2.1,p1.1.2.2.2.2.2.2.2.2.2.2.2.2.2.1)))))),(p1.1.2.2.2.2.2.2.2.2.2.2.2.2.2.2.1,p1.1.2.2.2.2.2.2.2.2.2.2.2.2.2.2.2.1))))]:List (Int×Int×((Int×ByteArray×ByteArray×Int×List (Int)×Int)×Int×ByteArray×ByteArray×Int×List (Int)×Int)×List (Int×Int×Int×List (ByteArray)×List (Bool)×Int)×Int))),(y0.2.1,(y0.2.2.1,((wi64 (y0.2.2.2.1+(1:Int))),())))))
else none))
else none)
else
((fun(z1:(List (Int×Int×((Int×ByteArray×ByteArray×Int×List (Int)×Int)×Int×ByteArray×ByteArray×Int×List (Int)×Int)×List (Int×Int×Int×List (ByteArray)×List (Bool)×Int)×Int))×Unit) =>
some (z1.1,((),()))) (y0.1,())))) k (([]:List (Int×Int×((Int×ByteArray×ByteArray×Int×List (Int)×Int)×Int×ByteArray×ByteArray×Int×List (Int)×Int)×List (Int×Int×Int×List (ByteArray)×List (Bool)×Int)×Int)),(x.1,((List.length x.1:Int),((0:Int),())))))
abbrev qIb(k:Nat):qAI:=⟨130,0,(.cons (.il true yT0) .nil),(.own false 45 yT1),qD3 k⟩
theorem t_i_copyUsers(k:Nat)(x):evF qBr k [E_i_copyUser k] [(0,⟨[3,7,8,9],(.cons (.own false 45 yT1) (.cons (.il true yT0) (.cons (.int .i64) yP5)))⟩,⟨[3],(.cons (.own false 45 yT1) .nil)⟩)] Tryz.f130 (.cons (.il true yT0) .nil) (.own false 45 yT1) x=qD3 k x:=by kernel_rfl
theorem e_i_copyUsers[Names](k:Nat):qAD Tryz.prog (qIb k):=qAB tokO (qAA (e_i_copyUser k) qAG) (by kernel_rfl) (by kernel_rfl) (by kernel_rfl) fun x r h=>(t_i_copyUsers k x).trans h
def qGG(k:Nat)(x:(Int×Int×(List (Int×Int×Int))×(List (Int×Int))×(List ((Int×Int)×Int))×(List (Int×Int×((Int×ByteArray×ByteArray×Int×List (Int)×Int)×Int×ByteArray×ByteArray×Int×List (Int)×Int)×List (Int×Int×Int×List (ByteArray)×List (Bool)×Int)×Int))×Unit)×Unit):Option ((Int×Int×(List (Int×Int×Int))×(List (Int×Int))×(List ((Int×Int)×Int))×(List (Int×Int×((Int×ByteArray×ByteArray×Int×List (Int)×Int)×Int×ByteArray×ByteArray×Int×List (Int)×Int)×List (Int×Int×Int×List (ByteArray)×List (Bool)×Int)×Int))×Unit)×Unit×Unit):=
((qDj k ((x.1.1,(x.1.2.1,(x.1.2.2.1,(x.1.2.2.2.1,())))),())).bind fun p1 =>
((qBE k (x.1.2.2.2.2.1,())).bind fun p2 =>
((qD3 k (x.1.2.2.2.2.2.1,())).bind fun p3 =>
some ((p1.1.1,(p1.1.2.1,(p1.1.2.2.1,(p1.1.2.2.2.1,(p2.1,(p3.1,())))))),((),())))))
abbrev E_i_copyHub(k:Nat):qAI:=⟨54,0,(.cons yP11 .nil),yP26,qGG k⟩
theorem t_i_copyHub(k:Nat)(x):evF qBr k [qGF k,qC9 k,qIb k] [] Tryz.f54 (.cons yP11 .nil) yP26 x=qGG k x:=by kernel_rfl
theorem e_i_copyHub[Names](k:Nat):qAD Tryz.prog (E_i_copyHub k):=qAB tokO (qAA (e_i_copyPool k) (qAA (qEa k) (qAA (e_i_copyUsers k) qAG))) (by kernel_rfl) (by kernel_rfl) (by kernel_rfl) fun x r h=>(t_i_copyHub k x).trans h
def qBK(k:Nat)(x:Int×Int×Int×Unit):Option (Bool×Unit×Unit×Unit×Unit):=
(if(decide (x.2.1≤x.1))=true then
some ((decide (x.1≤x.2.2.1)),((),((),((),()))))
else
some (false,((),((),((),())))))
abbrev qBV(k:Nat):qAI:=⟨55,0,yP16,.bool,qBK k⟩
theorem t_i_within(k:Nat)(x):evF TTab k [] [] Tryz.f55 yP16 .bool x=qBK k x:=by kernel_rfl
theorem qBg[Names](k:Nat):qAD Tryz.prog (qBV k):=qAB tok qAG (by kernel_rfl) (by kernel_rfl) (by kernel_rfl) fun x r h=>(t_i_within k x).trans h
def qHC(k:Nat)(x:(Int×Int×Int×ByteArray×ByteArray×Int×List (Int)×Int×Int×ByteArray×ByteArray×Int×List (Int)×Int×(List (Int×Int×Int×List (ByteArray)×List (Bool)×Int))×Int×Unit)×(Int×Unit)×Unit):Option (Bool×Unit×(Int×Unit)×Unit):=
some ((decide (x.1.1=x.2.1.1)),((),((x.2.1.1,()),())))
abbrev E_i_userAt_1(k:Nat):qAI:=⟨132,0,(.cons yP9 (.cons (.ptr 0 yP5) .nil)),.bool,qHC k⟩
theorem t_i_userAt_1(k:Nat)(x):evF qBr k [] [] Tryz.f132 (.cons yP9 (.cons (.ptr 0 yP5) .nil)) .bool x=qHC k x:=by kernel_rfl
theorem e_i_userAt_1[Names](k:Nat):qAD Tryz.prog (E_i_userAt_1 k):=qAB tokO qAG (by kernel_rfl) (by kernel_rfl) (by kernel_rfl) fun x r h=>(t_i_userAt_1 k x).trans h
def qAP(k:Nat)(x:(List (Int×Int×((Int×ByteArray×ByteArray×Int×List (Int)×Int)×Int×ByteArray×ByteArray×Int×List (Int)×Int)×List (Int×Int×Int×List (ByteArray)×List (Bool)×Int)×Int))×((Int×Unit)×Unit)×Unit):Option (Int×Unit×((Int×Unit)×Unit)×Unit):=
(qAH (fun(rec0:((List (Int×Int×((Int×ByteArray×ByteArray×Int×List (Int)×Int)×Int×ByteArray×ByteArray×Int×List (Int)×Int)×List (Int×Int×Int×List (ByteArray)×List (Bool)×Int)×Int))×((Int×Unit)×Unit)×Int×Int×Unit)→Option _) (y0:(List (Int×Int×((Int×ByteArray×ByteArray×Int×List (Int)×Int)×Int×ByteArray×ByteArray×Int×List (Int)×Int)×List (Int×Int×Int×List (ByteArray)×List (Bool)×Int)×Int))×((Int×Unit)×Unit)×Int×Int×Unit) =>
(if(decide (y0.2.2.2.1<y0.2.2.1))=true then
(if 0≤y0.2.2.2.1∧y0.2.2.2.1<(List.length y0.1:Int) then
((qHC k (((Ty.rd (t:=yT0) y0.1 y0.2.2.2.1).1,((Ty.rd (t:=yT0) y0.1 y0.2.2.2.1).2.1,((Ty.rd (t:=yT0) y0.1 y0.2.2.2.1).2.2.1.1.1,((Ty.rd (t:=yT0) y0.1 y0.2.2.2.1).2.2.1.1.2.1,((Ty.rd (t:=yT0) y0.1 y0.2.2.2.1).2.2.1.1.2.2.1,((Ty.rd (t:=yT0) y0.1 y0.2.2.2.1).2.2.1.1.2.2.2.1,((Ty.rd (t:=yT0) y0.1 y0.2.2.2.1).2.2.1.1.2.2.2.2.1,((Ty.rd (t:=yT0) y0.1 y0.2.2.2.1).2.2.1.1.2.2.2.2.2,((Ty.rd (t:=yT0) y0.1 y0.2.2.2.1).2.2.1.2.1,((Ty.rd (t:=yT0) y0.1 y0.2.2.2.1).2.2.1.2.2.1,((Ty.rd (t:=yT0) y0.1 y0.2.2.2.1).2.2.1.2.2.2.1,((Ty.rd (t:=yT0) y0.1 y0.2.2.2.1).2.2.1.2.2.2.2.1,((Ty.rd (t:=yT0) y0.1 y0.2.2.2.1).2.2.1.2.2.2.2.2.1,((Ty.rd (t:=yT0) y0.1 y0.2.2.2.1).2.2.1.2.2.2.2.2.2,((Ty.rd (t:=yT0) y0.1 y0.2.2.2.1).2.2.2.1,((Ty.rd (t:=yT0) y0.1 y0.2.2.2.1).2.2.2.2,())))))))))))))))),((y0.2.1.1.1,()),()))).bind fun p1 =>
(if p1.1=true then
some (y0.2.2.2.1,((),(((p1.2.2.1.1,()),()),())))
else
(rec0 (y0.1,(((p1.2.2.1.1,()),()),(y0.2.2.1,((wi64 (y0.2.2.2.1+(1:Int))),())))))))
else none)
else
((fun(z1:((Int×Unit)×Unit)×Unit) =>
some ((-1:Int),((),(((z1.1.1.1,()),()),())))) (((y0.2.1.1.1,()),()),())))) k (x.1,(((x.2.1.1.1,()),()),((List.length x.1:Int),((0:Int),())))))
abbrev qAl(k:Nat):qAI:=⟨131,133,(.cons (.il true yT0) (.cons (.fn 132 (.cons (.ptr 0 yP5) .nil)) .nil)),(.int .i64),qAP k⟩
theorem qA9(k:Nat)(x):evF qBr k [E_i_userAt_1 k] [(0,⟨[0,1,7,8],(.cons (.il true yT0) (.cons (.fn 132 (.cons (.ptr 0 yP5) .nil)) (.cons (.int .i64) yP5)))⟩,⟨[1],(.cons (.fn 132 (.cons (.ptr 0 yP5) .nil)) .nil)⟩)] Tryz.f131 (.cons (.il true yT0) (.cons (.fn 132 (.cons (.ptr 0 yP5) .nil)) .nil)) (.int .i64) x=qAP k x:=by kernel_rfl
theorem qBA[Names](k:Nat):qAD Tryz.prog (qAl k):=qAB tokO (qAA (e_i_userAt_1 k) qAG) (by kernel_rfl) (by kernel_rfl) (by kernel_rfl) fun x r h=>(qA9 k x).trans h
def qIc(k:Nat)(x:(List (Int×Int×((Int×ByteArray×ByteArray×Int×List (Int)×Int)×Int×ByteArray×ByteArray×Int×List (Int)×Int)×List (Int×Int×Int×List (ByteArray)×List (Bool)×Int)×Int))×Int×Unit):Option (Int×Unit×Unit×Unit):=
((qAP k (x.1,(((x.2.1,()),()),()))).bind fun p1 =>
some (p1.1,((),((),()))))
abbrev E_i_userAt(k:Nat):qAI:=⟨56,0,(.cons (.il true yT0) yP5),(.int .i64),qIc k⟩
theorem t_i_userAt(k:Nat)(x):evF qBr k [qAl k] [] Tryz.f56 (.cons (.il true yT0) yP5) (.int .i64) x=qIc k x:=by kernel_rfl
theorem e_i_userAt[Names](k:Nat):qAD Tryz.prog (E_i_userAt k):=qAB tokO (qAA (qBA k) qAG) (by kernel_rfl) (by kernel_rfl) (by kernel_rfl) fun x r h=>(t_i_userAt k x).trans h
def qId(k:Nat)(x:Int×Unit):Option (Bool×Unit×Unit):=
((qBK k (x.1,((1:Int),((99:Int),())))).bind fun p1 =>
some (p1.1,((),())))
abbrev qIe(k:Nat):qAI:=⟨133,0,yP5,.bool,qId k⟩
theorem t_i_isId(k:Nat)(x):evF TTab k [qBV k] [] Tryz.f133 yP5 .bool x=qId k x:=by kernel_rfl
theorem e_i_isId[Names](k:Nat):qAD Tryz.prog (qIe k):=qAB tok (qAA (qBg k) qAG) (by kernel_rfl) (by kernel_rfl) (by kernel_rfl) fun x r h=>(t_i_isId k x).trans h
def qFS(k:Nat)(x:(Int×Int×Int×Unit)×(Int×Unit)×Unit):Option (Bool×Unit×(Int×Unit)×Unit):=
some ((decide (x.1.2.1=x.2.1.1)),((),((x.2.1.1,()),())))
abbrev qIf(k:Nat):qAI:=⟨218,0,(.cons (.agg yP16) (.cons (.ptr 0 yP5) .nil)),.bool,qFS k⟩
theorem t_i_leaseOf_1(k:Nat)(x):evF TTab k [] [] Tryz.f218 (.cons (.agg yP16) (.cons (.ptr 0 yP5) .nil)) .bool x=qFS k x:=by kernel_rfl
theorem e_i_leaseOf_1[Names](k:Nat):qAD Tryz.prog (qIf k):=qAB tok qAG (by kernel_rfl) (by kernel_rfl) (by kernel_rfl) fun x r h=>(t_i_leaseOf_1 k x).trans h
def qAN(k:Nat)(x:(List (Int×Int×Int))×((Int×Unit)×Unit)×Unit):Option (Int×Unit×((Int×Unit)×Unit)×Unit):=
(qAH (fun(rec0:((List (Int×Int×Int))×((Int×Unit)×Unit)×Int×Int×Unit)→Option _) (y0:(List (Int×Int×Int))×((Int×Unit)×Unit)×Int×Int×Unit) =>
(if(decide (y0.2.2.2.1<y0.2.2.1))=true then
(if 0≤y0.2.2.2.1∧y0.2.2.2.1<(List.length y0.1:Int) then
((qFS k (((Ty.rd (t:=(.pair (.int .i64) yT3)) y0.1 y0.2.2.2.1).1,((Ty.rd (t:=(.pair (.int .i64) yT3)) y0.1 y0.2.2.2.1).2.1,((Ty.rd (t:=(.pair (.int .i64) yT3)) y0.1 y0.2.2.2.1).2.2,()))),((y0.2.1.1.1,()),()))).bind fun p1 =>
(if p1.1=true then
some (y0.2.2.2.1,((),(((p1.2.2.1.1,()),()),())))
else
(rec0 (y0.1,(((p1.2.2.1.1,()),()),(y0.2.2.1,((wi64 (y0.2.2.2.1+(1:Int))),())))))))
else none)
else
((fun(z1:((Int×Unit)×Unit)×Unit) =>
some ((-1:Int),((),(((z1.1.1.1,()),()),())))) (((y0.2.1.1.1,()),()),())))) k (x.1,(((x.2.1.1.1,()),()),((List.length x.1:Int),((0:Int),())))))
abbrev qAi(k:Nat):qAI:=⟨217,219,(.cons yP28 (.cons (.fn 218 (.cons (.ptr 0 yP5) .nil)) .nil)),(.int .i64),qAN k⟩
theorem qA2(k:Nat)(x):evF TTab k [qIf k] [(0,⟨[0,1,7,8],(.cons yP28 (.cons (.fn 218 (.cons (.ptr 0 yP5) .nil)) (.cons (.int .i64) yP5)))⟩,⟨[1],(.cons (.fn 218 (.cons (.ptr 0 yP5) .nil)) .nil)⟩)] Tryz.f217 (.cons yP28 (.cons (.fn 218 (.cons (.ptr 0 yP5) .nil)) .nil)) (.int .i64) x=qAN k x:=by kernel_rfl
theorem qA3[Names](k:Nat):qAD Tryz.prog (qAi k):=qAB tok (qAA (e_i_leaseOf_1 k) qAG) (by kernel_rfl) (by kernel_rfl) (by kernel_rfl) fun x r h=>(qA2 k x).trans h
def qD4(k:Nat)(x:(Int×Int×(List (Int×Int×Int))×(List (Int×Int))×Unit)×Int×Unit):Option (Int×Unit×Unit×Unit):=
((qAN k (x.1.2.2.1,(((x.2.1,()),()),()))).bind fun p1 =>
some (p1.1,((),((),()))))
abbrev qHx(k:Nat):qAI:=⟨134,0,(.cons (.agg yP6) yP5),(.int .i64),qD4 k⟩
theorem t_i_leaseOf(k:Nat)(x):evF TTab k [qAi k] [] Tryz.f134 (.cons (.agg yP6) yP5) (.int .i64) x=qD4 k x:=by kernel_rfl
theorem e_i_leaseOf[Names](k:Nat):qAD Tryz.prog (qHx k):=qAB tok (qAA (qA3 k) qAG) (by kernel_rfl) (by kernel_rfl) (by kernel_rfl) fun x r h=>(t_i_leaseOf k x).trans h
def qIg(k:Nat)(x:Int×Unit):Option (Bool×Unit×Unit):=
((qBK k (x.1,((0:Int),((4294967295:Int),())))).bind fun p1 =>
some (p1.1,((),())))
abbrev E_i_AddrOk(k:Nat):qAI:=⟨236,0,yP5,.bool,qIg k⟩
theorem t_i_AddrOk(k:Nat)(x):evF TTab k [qBV k] [] Tryz.f236 yP5 .bool x=qIg k x:=by kernel_rfl
theorem e_i_AddrOk[Names](k:Nat):qAD Tryz.prog (E_i_AddrOk k):=qAB tok (qAA (qBg k) qAG) (by kernel_rfl) (by kernel_rfl) (by kernel_rfl) fun x r h=>(t_i_AddrOk k x).trans h
def qCu(k:Nat)(x:Int×Unit):Option (Int×Unit×Unit):=
(if(wi64 ((32:Int)-x.1))<0 then
none
else
some ((wi64 ((wi64 ((1:Int)*2^(min (Int.toNat (wi64 ((32:Int)-x.1))) (IntKind.bits .i64))))-(1:Int))),((),())))
abbrev qEP(k:Nat):qAI:=⟨237,0,yP5,(.int .i64),qCu k⟩
theorem t_i_lastBits(k:Nat)(x):evF TTab k [] [] Tryz.f237 yP5 (.int .i64) x=qCu k x:=by kernel_rfl
theorem qGH[Names](k:Nat):qAD Tryz.prog (qEP k):=qAB tok qAG (by kernel_rfl) (by kernel_rfl) (by kernel_rfl) fun x r h=>(t_i_lastBits k x).trans h
def qCv(k:Nat)(x:(Int×Int×Unit)×Unit):Option (Bool×Unit×Unit):=
((qIg k (x.1.1,())).bind fun p1 =>
(if p1.1=true then
((qBK k (x.1.2.1,((0:Int),((32:Int),())))).bind fun p2 =>
(if p2.1=true then
((qCu k (x.1.2.1,())).bind fun p3 =>
some ((decide ((qAX .and .i64 x.1.1 p3.1)=(0:Int))),((),())))
else
some (false,((),()))))
else
some (false,((),()))))
abbrev qEQ(k:Nat):qAI:=⟨211,0,(.cons yP22 .nil),.bool,qCv k⟩
theorem t_i_PrefixOk(k:Nat)(x):evF TTab k [qBV k,E_i_AddrOk k,qEP k] [] Tryz.f211 (.cons yP22 .nil) .bool x=qCv k x:=by kernel_rfl
theorem qGI[Names](k:Nat):qAD Tryz.prog (qEQ k):=qAB tok (qAA (qBg k) (qAA (e_i_AddrOk k) (qAA (qGH k) qAG))) (by kernel_rfl) (by kernel_rfl) (by kernel_rfl) fun x r h=>(t_i_PrefixOk k x).trans h
def qEs(k:Nat)(x:(Int×Int×Unit)×Int×Unit):Option (Bool×Unit×Unit×Unit):=
((qCv k ((x.1.1,(x.1.2.1,())),())).bind fun p1 =>
(if p1.1=true then
((qIg k (x.2.1,())).bind fun p2 =>
(if p2.1=true then
((qCu k (x.1.2.1,())).bind fun p3 =>
some ((decide ((qAX .andNot .i64 x.2.1 p3.1)=x.1.1)),((),((),()))))
else
some (false,((),((),())))))
else
some (false,((),((),())))))
abbrev E_i_InPrefix(k:Nat):qAI:=⟨152,0,(.cons yP22 yP5),.bool,qEs k⟩
theorem t_i_InPrefix(k:Nat)(x):evF TTab k [qEQ k,E_i_AddrOk k,qEP k] [] Tryz.f152 (.cons yP22 yP5) .bool x=qEs k x:=by kernel_rfl
theorem e_i_InPrefix[Names](k:Nat):qAD Tryz.prog (E_i_InPrefix k):=qAB tok (qAA (qGI k) (qAA (e_i_AddrOk k) (qAA (qGH k) qAG))) (by kernel_rfl) (by kernel_rfl) (by kernel_rfl) fun x r h=>(t_i_InPrefix k x).trans h
end Go.Proofs.YtnfllchbpechlaaGreat
