import Derived.Test.YtnfllchbpechlaaGreatFun0
/- What functions of the program compute, as plain functions, and that their calls do so (part 1). Conditions: the plain function answers. -/
set_option linter.unusedVariables false
namespace Go.Proofs.YtnfllchbpechlaaGreat
open Go Go.Eng Go.Proofs
/- Names of types and patterns that come often. -/
abbrev yT5:Ty:=(.pair (.int .i64) (.pair (.int .i64) (.pair (.int .i64) (.pair (.list .str) (.pair (.list .bool) (.int .i64))))))
abbrev yT0:Ty:=(.pair (.int .i64) (.pair (.int .i64) (.pair (.pair (.pair (.int .i64) (.pair .str (.pair .str (.pair (.int .i64) (.pair (.list (.int .i64)) (.int .i64)))))) (.pair (.int .i64) (.pair .str (.pair .str (.pair (.int .i64) (.pair (.list (.int .i64)) (.int .i64))))))) (.pair (.list yT5) (.int .i64)))))
abbrev yT1:Ty:=(.pair (.int .i64) (.pair (.int .i64) (.pair (.pair (.pair (.int .i64) (.pair .str (.pair .str (.pair (.int .i64) (.pair .nm (.int .i64)))))) (.pair (.int .i64) (.pair .str (.pair .str (.pair (.int .i64) (.pair .nm (.int .i64))))))) (.pair .nm (.int .i64)))))
abbrev yT25:Ty:=(.pair (.int .i64) (.pair (.int .i64) (.pair (.int .i64) (.pair (.ols 9 .str) (.pair (.ols 4 .bool) (.int .i64))))))
abbrev yT2:Ty:=(.pair (.int .i64) (.pair (.int .i64) (.pair (.pair (.pair (.int .i64) (.pair .str (.pair .str (.pair (.int .i64) (.pair (.ols 3 (.int .i64)) (.int .i64)))))) (.pair (.int .i64) (.pair .str (.pair .str (.pair (.int .i64) (.pair (.ols 3 (.int .i64)) (.int .i64))))))) (.pair (.ols 229 yT25) (.int .i64)))))
abbrev yT3:Ty:=(.pair (.int .i64) (.int .i64))
abbrev yP4:Pat:=(.cons (.int .i64) .nil)
abbrev yP6:Pat:=(.cons (.int .i64) (.cons (.int .i64) (.cons (.il true (.pair (.int .i64) yT3)) (.cons (.il true yT3) .nil))))
abbrev yP7:Pat:=(.cons (.int .i64) (.cons (.int .i64) (.cons (.il false (.pair (.int .i64) yT3)) (.cons (.il false yT3) (.cons (.il false (.pair yT3 (.int .i64))) (.cons (.il false yT0) .nil))))))
abbrev yP31:Pat:=(.own false 3 (.int .i64))
abbrev yP8:Pat:=(.cons (.int .i64) (.cons (.int .i64) (.cons (.int .i64) (.cons .str (.cons .str (.cons (.int .i64) (.cons yP31 (.cons (.int .i64) (.cons (.int .i64) (.cons .str (.cons .str (.cons (.int .i64) (.cons yP31 (.cons (.int .i64) (.cons (.own false 229 yT25) yP4)))))))))))))))
abbrev yP29:Pat:=(.own false 135 (.pair (.int .i64) yT3))
abbrev yP9:Pat:=(.cons (.int .i64) (.cons (.int .i64) (.cons yP29 (.cons (.own false 252 yT3) .nil))))
abbrev yP10:Pat:=(.cons (.int .i64) (.cons (.int .i64) (.cons (.int .i64) (.cons .str (.cons .str (.cons (.int .i64) (.cons (.il false (.int .i64)) (.cons (.int .i64) (.cons (.int .i64) (.cons .str (.cons .str (.cons (.int .i64) (.cons (.il false (.int .i64)) (.cons (.int .i64) (.cons (.il false yT5) yP4)))))))))))))))
abbrev yP11:Pat:=(.agg (.cons (.int .i64) (.cons .str (.cons .str (.cons (.int .i64) (.cons yP31 (.cons (.int .i64) (.cons (.int .i64) (.cons .str (.cons .str (.cons (.int .i64) (.cons yP31 yP4))))))))))))
abbrev yP22:Pat:=(.cons (.int .i64) (.cons (.int .i64) yP4))
abbrev yP12:Pat:=(.cons (.int .i64) (.cons (.int .i64) (.cons (.int .i64) (.cons (.int .i64) (.cons (.int .i64) (.cons (.int .i64) (.cons (.int .i64) (.cons (.int .i64) (.cons (.int .i64) (.cons (.int .i64) (.cons (.int .i64) (.cons (.int .i64) (.cons (.int .i64) (.cons (.int .i64) (.cons (.int .i64) (.cons (.int .i64) (.cons (.int .i64) (.cons (.int .i64) (.cons (.int .i64) (.cons (.int .i64) (.cons (.int .i64) (.cons (.int .i64) (.cons (.int .i64) (.cons (.int .i64) (.cons (.int .i64) (.cons (.int .i64) (.cons (.int .i64) (.cons (.int .i64) (.cons (.int .i64) (.cons (.int .i64) (.cons (.int .i64) (.cons (.int .i64) (.cons (.int .i64) (.cons (.int .i64) (.cons (.int .i64) (.cons (.int .i64) (.cons (.int .i64) (.cons (.int .i64) (.cons (.int .i64) (.cons (.int .i64) (.cons (.int .i64) (.cons (.int .i64) (.cons (.int .i64) (.cons (.int .i64) (.cons (.int .i64) (.cons (.int .i64) (.cons (.int .i64) (.cons (.int .i64) (.cons (.int .i64) (.cons (.int .i64) (.cons (.int .i64) (.cons (.int .i64) (.cons (.int .i64) (.cons (.int .i64) (.cons (.int .i64) (.cons (.int .i64) (.cons (.int .i64) (.cons (.int .i64) (.cons (.int .i64) (.cons (.int .i64) (.cons (.int .i64) yP22)))))))))))))))))))))))))))))))))))))))))))))))))))))))))))))
abbrev yP13:Pat:=(.agg (.cons (.int .i64) (.cons .str (.cons .str (.cons (.int .i64) (.cons (.il true (.int .i64)) (.cons (.int .i64) (.cons (.int .i64) (.cons .str (.cons .str (.cons (.int .i64) (.cons (.il true (.int .i64)) yP4))))))))))))
abbrev yP20:Pat:=(.il true (.pair yT3 (.int .i64)))
abbrev yP14:Pat:=(.agg (.cons (.int .i64) (.cons (.int .i64) (.cons (.il true (.pair (.int .i64) yT3)) (.cons (.il true yT3) (.cons yP20 (.cons (.il true yT0) .nil)))))))
abbrev yP16:Pat:=(.own false 53 (.pair yT3 (.int .i64)))
abbrev yP15:Pat:=(.cons (.int .i64) (.cons (.int .i64) (.cons yP29 (.cons (.own false 252 yT3) (.cons yP16 (.cons (.own false 45 yT2) .nil))))))
abbrev yP17:Pat:=(.agg (.cons (.int .i64) (.cons (.int .i64) (.cons (.int .i64) (.cons .str (.cons .str (.cons (.int .i64) (.cons (.il true (.int .i64)) (.cons (.int .i64) (.cons (.int .i64) (.cons .str (.cons .str (.cons (.int .i64) (.cons (.il true (.int .i64)) (.cons (.int .i64) (.cons (.il true yT5) yP4))))))))))))))))
abbrev yP18:Pat:=(.cons (.int .i64) (.cons (.int .i64) (.cons (.int .i64) (.cons .str (.cons .str (.cons (.int .i64) (.cons .nm (.cons (.int .i64) (.cons (.int .i64) (.cons .str (.cons .str (.cons (.int .i64) (.cons .nm (.cons (.int .i64) (.cons .nm yP4)))))))))))))))
abbrev yP19:Pat:=(.cons (.int .i64) (.cons (.int .i64) (.cons yP29 (.cons (.own false 252 yT3) (.cons yP16 (.cons (.own false 45 yT0) .nil))))))
abbrev yP21:Pat:=(.cons (.il true (.int .u8)) (.cons (.int .i64) yP4))
abbrev yP23:Pat:=(.agg (.cons (.int .i64) (.cons (.int .i64) (.cons (.int .i64) (.cons .str (.cons .str (.cons (.int .i64) (.cons yP31 (.cons (.int .i64) (.cons (.int .i64) (.cons .str (.cons .str (.cons (.int .i64) (.cons yP31 (.cons (.int .i64) (.cons (.own false 229 yT5) yP4))))))))))))))))
abbrev yP24:Pat:=(.cons (.agg (.cons (.int .i64) (.cons .str (.cons .str (.cons (.int .i64) (.cons (.il true (.int .i64)) yP4)))))) .nil)
abbrev yP26:Pat:=(.cons (.int .i64) (.cons (.int .i64) (.cons (.int .i64) (.cons .str (.cons .str (.cons (.int .i64) (.cons .any (.cons (.int .i64) (.cons (.int .i64) (.cons .str (.cons .str (.cons (.int .i64) (.cons .any (.cons (.int .i64) (.cons .any yP4)))))))))))))))
abbrev yP27:Pat:=(.agg (.cons (.int .i64) yP4))
abbrev yP28:Pat:=(.cons (.ptr 0 yP4) .nil)
abbrev yP30:Pat:=(.own false 311 (.int .u32))
abbrev yP32:Pat:=(.cons .str (.cons .str yP4))

def w_big(k:Nat)(x:List (Int)×Unit):Option (Bool×Unit×Unit):=
some ((decide ((1048576:Int)<(List.length x.1:Int))),((),()))
abbrev E_w_big(k:Nat):qAL:=⟨10,0,(.cons (.il true (.int .u8)) .nil),.bool,w_big k⟩
theorem t_w_big(k:Nat)(x):evF TTab k [] [] Tryz.f10 (.cons (.il true (.int .u8)) .nil) .bool x=w_big k x:=by kernel_rfl
theorem e_w_big[Names](k:Nat):qAE Tryz.prog (E_w_big k):=qAD tok qAI (by kernel_rfl) (by kernel_rfl) (by kernel_rfl) fun x r h=>(t_w_big k x).trans h
def qBk(k:Nat)(x:Int×Int×Int×Unit):Option (Bool×Unit×Unit×Unit×Unit):=
(if(decide (x.2.1≤x.1))=true then
some ((decide (x.1≤x.2.2.1)),((),((),((),()))))
else
some (false,((),((),((),())))))
abbrev qBt(k:Nat):qAL:=⟨62,0,yP22,.bool,qBk k⟩
theorem t_s_l01In(k:Nat)(x):evF TTab k [] [] Tryz.f62 yP22 .bool x=qBk k x:=by kernel_rfl
theorem qB2[Names](k:Nat):qAE Tryz.prog (qBt k):=qAD tok qAI (by kernel_rfl) (by kernel_rfl) (by kernel_rfl) fun x r h=>(t_s_l01In k x).trans h
def qDn(k:Nat)(x:(ByteArray×ByteArray×Int×Unit)×Unit):Option (Bool×Unit×Unit):=
(if(decide ((ByteArray.size x.1.1:Int)=(32:Int)))=true then
(if(decide ((ByteArray.size x.1.2.1:Int)<(64:Int)))=true then
((qBk k (x.1.2.2.1,((0:Int),((1000000000:Int),())))).bind fun p1 =>
(if p1.1=true then
some ((decide ((Int.tmod x.1.2.2.1 (64:Int))=(ByteArray.size x.1.2.1:Int))),((),()))
else
some (false,((),()))))
else
some (false,((),())))
else
some (false,((),())))
abbrev qF2(k:Nat):qAL:=⟨275,0,(.cons (.agg yP32) .nil),.bool,qDn k⟩
theorem t_s_HasherOk(k:Nat)(x):evF TTab k [qBt k] [] Tryz.f275 (.cons (.agg yP32) .nil) .bool x=qDn k x:=by kernel_rfl
theorem e_s_HasherOk[Names](k:Nat):qAE Tryz.prog (qF2 k):=qAD tok (qAA (qB2 k) qAI) (by kernel_rfl) (by kernel_rfl) (by kernel_rfl) fun x r h=>(t_s_HasherOk k x).trans h
def qF3(k:Nat)(x:ByteArray×Int×Unit):Option (Int×Unit×Unit×Unit):=
(if 0≤x.2.1∧x.2.1<(ByteArray.size x.1:Int) then
(if 0≤(wi64 (x.2.1+(1:Int)))∧(wi64 (x.2.1+(1:Int)))<(ByteArray.size x.1:Int) then
(if 0≤(wi64 (x.2.1+(2:Int)))∧(wi64 (x.2.1+(2:Int)))<(ByteArray.size x.1:Int) then
(if 0≤(wi64 (x.2.1+(3:Int)))∧(wi64 (x.2.1+(3:Int)))<(ByteArray.size x.1:Int) then
some ((wu32 ((wu32 ((wu32 ((wu32 ((wu32 ((bt x.1 x.2.1)))*(16777216:Int)))+(wu32 ((wu32 ((bt x.1 (wi64 (x.2.1+(1:Int))))))*(65536:Int)))))+(wu32 ((wu32 ((bt x.1 (wi64 (x.2.1+(2:Int))))))*(256:Int)))))+(wu32 ((bt x.1 (wi64 (x.2.1+(3:Int)))))))),((),((),())))
else none)
else none)
else none)
else none)
abbrev E_s_l04Word(k:Nat):qAL:=⟨311,0,(.cons .str yP4),(.int .u32),qF3 k⟩
theorem t_s_l04Word(k:Nat)(x):evF TTab k [] [] Tryz.f311 (.cons .str yP4) (.int .u32) x=qF3 k x:=by kernel_rfl
theorem e_s_l04Word[Names](k:Nat):qAE Tryz.prog (E_s_l04Word k):=qAD tok qAI (by kernel_rfl) (by kernel_rfl) (by kernel_rfl) fun x r h=>(t_s_l04Word k x).trans h
def qC4(k:Nat)(x:ByteArray×Unit):Option (List (Int)×Unit×Unit):=
(qAG (fun(rec0:(ByteArray×List (Int)×Int×Unit)→Option _) (y0:ByteArray×List (Int)×Int×Unit) =>
(if(decide ((wi64 (y0.2.2.1+(4:Int)))≤(ByteArray.size y0.1:Int)))=true then
((qF3 k (y0.1,(y0.2.2.1,()))).bind fun p1 =>
(if List.length y0.2.1+List.length ([p1.1]:List (Int))≤capMax then
(rec0 (y0.1,((y0.2.1++([p1.1]:List (Int))),((wi64 (y0.2.2.1+(4:Int))),()))))
else none))
else
((fun(z1:List (Int)×Unit) =>
some (z1.1,((),()))) (y0.2.1,())))) k (x.1,(([]:List (Int)),((0:Int),()))))
abbrev qES(k:Nat):qAL:=⟨276,0,(.cons .str .nil),yP30,qC4 k⟩
theorem t_s_l04Words(k:Nat)(x):evF TTab k [E_s_l04Word k] [(0,⟨[0,3,4],(.cons .str (.cons yP30 yP4))⟩,⟨[3],(.cons yP30 .nil)⟩)] Tryz.f276 (.cons .str .nil) yP30 x=qC4 k x:=by kernel_rfl
theorem qF4[Names](k:Nat):qAE Tryz.prog (qES k):=qAD tok (qAA (e_s_l04Word k) qAI) (by kernel_rfl) (by kernel_rfl) (by kernel_rfl) fun x r h=>(t_s_l04Words k x).trans h
def s_l04K(k:Nat)(x:Unit):Option (List (Int)×Unit):=
some (([(1116352408:Int),(1899447441:Int),(3049323471:Int),(3921009573:Int),(961987163:Int),(1508970993:Int),(2453635748:Int),(2870763221:Int),(3624381080:Int),(310598401:Int),(607225278:Int),(1426881987:Int),(1925078388:Int),(2162078206:Int),(2614888103:Int),(3248222580:Int),(3835390401:Int),(4022224774:Int),(264347078:Int),(604807628:Int),(770255983:Int),(1249150122:Int),(1555081692:Int),(1996064986:Int),(2554220882:Int),(2821834349:Int),(2952996808:Int),(3210313671:Int),(3336571891:Int),(3584528711:Int),(113926993:Int),(338241895:Int),(666307205:Int),(773529912:Int),(1294757372:Int),(1396182291:Int),(1695183700:Int),(1986661051:Int),(2177026350:Int),(2456956037:Int),(2730485921:Int),(2820302411:Int),(3259730800:Int),(3345764771:Int),(3516065817:Int),(3600352804:Int),(4094571909:Int),(275423344:Int),(430227734:Int),(506948616:Int),(659060556:Int),(883997877:Int),(958139571:Int),(1322822218:Int),(1537002063:Int),(1747873779:Int),(1955562222:Int),(2024104815:Int),(2227730452:Int),(2361852424:Int),(2428436474:Int),(2756734187:Int),(3204031479:Int),(3329325298:Int)]:List (Int)),())
abbrev E_s_l04K(k:Nat):qAL:=⟨277,0,.nil,yP30,s_l04K k⟩
theorem t_s_l04K(k:Nat)(x):evF TTab k [] [] Tryz.f277 .nil yP30 x=s_l04K k x:=by kernel_rfl
theorem e_s_l04K[Names](k:Nat):qAE Tryz.prog (E_s_l04K k):=qAD tok qAI (by kernel_rfl) (by kernel_rfl) (by kernel_rfl) fun x r h=>(t_s_l04K k x).trans h
def qC5(k:Nat)(x:Int×Int×Int×Unit):Option (Int×Unit×Unit×Unit×Unit):=
(if x.2.1=0 then
none
else
(if x.2.1=0 then
none
else
some ((wu32 ((wu32 (Int.tdiv x.1 x.2.1))+(wu32 ((Int.tmod x.1 x.2.1)*x.2.2.1)))),((),((),((),()))))))
abbrev E_s_l04Right(k:Nat):qAL:=⟨330,0,(.cons (.int .u32) (.cons (.int .u32) (.cons (.int .u32) .nil))),(.int .u32),qC5 k⟩
theorem t_s_l04Right(k:Nat)(x):evF TTab k [] [] Tryz.f330 (.cons (.int .u32) (.cons (.int .u32) (.cons (.int .u32) .nil))) (.int .u32) x=qC5 k x:=by kernel_rfl
theorem e_s_l04Right[Names](k:Nat):qAE Tryz.prog (E_s_l04Right k):=qAD tok qAI (by kernel_rfl) (by kernel_rfl) (by kernel_rfl) fun x r h=>(t_s_l04Right k x).trans h
def qHI(k:Nat)(x:Int×Int×Int×Int×Bool×Unit):Option (Int×Unit×Unit×Unit×Unit×Unit×Unit):=
(if x.2.1=0 then
none
else
((qC5 k (x.1,(x.2.1,((wu32 ((wu32 (Int.tdiv (2147483648:Int) x.2.1))*(2:Int))),())))).bind fun p1 =>
(if x.2.2.1=0 then
none
else
((qC5 k (x.1,(x.2.2.1,((wu32 ((wu32 (Int.tdiv (2147483648:Int) x.2.2.1))*(2:Int))),())))).bind fun p2 =>
(if x.2.2.2.1=0 then
none
else
(if(!x.2.2.2.2.1)=true then
(if x.2.2.2.1=0 then
none
else
((qC5 k (x.1,(x.2.2.2.1,((wu32 ((wu32 (Int.tdiv (2147483648:Int) x.2.2.2.1))*(2:Int))),())))).bind fun p3 =>
some ((qAa .xor .u32 (qAa .xor .u32 p1.1 p2.1) p3.1),((),((),((),((),((),()))))))))
else
some ((qAa .xor .u32 (qAa .xor .u32 p1.1 p2.1) (wu32 (Int.tdiv x.1 x.2.2.2.1))),((),((),((),((),((),()))))))))))))
abbrev E_s_l04S(k:Nat):qAL:=⟨312,0,(.cons (.int .u32) (.cons (.int .u32) (.cons (.int .u32) (.cons (.int .u32) (.cons .bool .nil))))),(.int .u32),qHI k⟩
theorem t_s_l04S(k:Nat)(x):evF TTab k [E_s_l04Right k] [] Tryz.f312 (.cons (.int .u32) (.cons (.int .u32) (.cons (.int .u32) (.cons (.int .u32) (.cons .bool .nil))))) (.int .u32) x=qHI k x:=by kernel_rfl
theorem e_s_l04S[Names](k:Nat):qAE Tryz.prog (E_s_l04S k):=qAD tok (qAA (e_s_l04Right k) qAI) (by kernel_rfl) (by kernel_rfl) (by kernel_rfl) fun x r h=>(t_s_l04S k x).trans h
def qDo(k:Nat)(x:List (Int)×List (Int)×ByteArray×Unit):Option (List (Int)×Unit×Unit×Unit×Unit):=
((qC4 k (x.2.2.1,())).bind fun p1 =>
(qAG (fun(rec0:(List (Int)×List (Int)×List (Int)×Int×Unit)→Option _) (y0:List (Int)×List (Int)×List (Int)×Int×Unit) =>
(if(decide (y0.2.2.2.1<(64:Int)))=true then
(if 0≤(wi64 (y0.2.2.2.1-(2:Int)))∧(wi64 (y0.2.2.2.1-(2:Int)))<(List.length y0.2.2.1:Int) then
((qHI k ((Ty.rd (t:=(.int .u32)) y0.2.2.1 (wi64 (y0.2.2.2.1-(2:Int)))),((131072:Int),((524288:Int),((1024:Int),(true,())))))).bind fun p2 =>
(if 0≤(wi64 (y0.2.2.2.1-(7:Int)))∧(wi64 (y0.2.2.2.1-(7:Int)))<(List.length y0.2.2.1:Int) then
(if 0≤(wi64 (y0.2.2.2.1-(15:Int)))∧(wi64 (y0.2.2.2.1-(15:Int)))<(List.length y0.2.2.1:Int) then
((qHI k ((Ty.rd (t:=(.int .u32)) y0.2.2.1 (wi64 (y0.2.2.2.1-(15:Int)))),((128:Int),((262144:Int),((8:Int),(true,())))))).bind fun p3 =>
(if 0≤(wi64 (y0.2.2.2.1-(16:Int)))∧(wi64 (y0.2.2.2.1-(16:Int)))<(List.length y0.2.2.1:Int) then
(if List.length y0.2.2.1+List.length ([(wu32 ((wu32 ((wu32 (p2.1+(Ty.rd (t:=(.int .u32)) y0.2.2.1 (wi64 (y0.2.2.2.1-(7:Int))))))+p3.1))+(Ty.rd (t:=(.int .u32)) y0.2.2.1 (wi64 (y0.2.2.2.1-(16:Int))))))]:List (Int))≤capMax then
(rec0 (y0.1,(y0.2.1,((y0.2.2.1++([(wu32 ((wu32 ((wu32 (p2.1+(Ty.rd (t:=(.int .u32)) y0.2.2.1 (wi64 (y0.2.2.2.1-(7:Int))))))+p3.1))+(Ty.rd (t:=(.int .u32)) y0.2.2.1 (wi64 (y0.2.2.2.1-(16:Int))))))]:List (Int))),((wi64 (y0.2.2.2.1+(1:Int))),())))))
else none)
else none))
else none)
else none))
else none)
else
((fun(z1:List (Int)×List (Int)×List (Int)×Unit) =>
(if List.length ([]:List (Int))+List.length z1.1≤capMax then
(qAG (fun(rec2:(List (Int)×List (Int)×List (Int)×List (Int)×Int×Unit)→Option _) (y2:List (Int)×List (Int)×List (Int)×List (Int)×Int×Unit) =>
(if(decide (y2.2.2.2.2.1<(64:Int)))=true then
(if 0≤(4:Int)∧(4:Int)<(List.length y2.2.2.2.1:Int) then
(if 0≤(5:Int)∧(5:Int)<(List.length y2.2.2.2.1:Int) then
(if 0≤(6:Int)∧(6:Int)<(List.length y2.2.2.2.1:Int) then
(if 0≤(7:Int)∧(7:Int)<(List.length y2.2.2.2.1:Int) then
((qHI k ((Ty.rd (t:=(.int .u32)) y2.2.2.2.1 (4:Int)),((64:Int),((2048:Int),((33554432:Int),(false,())))))).bind fun p4 =>
(if 0≤y2.2.2.2.2.1∧y2.2.2.2.2.1<(List.length y2.2.1:Int) then
(if 0≤y2.2.2.2.2.1∧y2.2.2.2.2.1<(List.length y2.2.2.1:Int) then
(if 0≤(0:Int)∧(0:Int)<(List.length y2.2.2.2.1:Int) then
(if 0≤(1:Int)∧(1:Int)<(List.length y2.2.2.2.1:Int) then
(if 0≤(0:Int)∧(0:Int)<(List.length y2.2.2.2.1:Int) then
(if 0≤(2:Int)∧(2:Int)<(List.length y2.2.2.2.1:Int) then
(if 0≤(1:Int)∧(1:Int)<(List.length y2.2.2.2.1:Int) then
(if 0≤(2:Int)∧(2:Int)<(List.length y2.2.2.2.1:Int) then
(if 0≤(0:Int)∧(0:Int)<(List.length y2.2.2.2.1:Int) then
((qHI k ((Ty.rd (t:=(.int .u32)) y2.2.2.2.1 (0:Int)),((4:Int),((8192:Int),((4194304:Int),(false,())))))).bind fun p5 =>
(qAG (fun(rec4:(List (Int)×List (Int)×List (Int)×List (Int)×Int×Int×Int×Int×Unit)→Option _) (y4:List (Int)×List (Int)×List (Int)×List (Int)×Int×Int×Int×Int×Unit) =>
(if(decide ((0:Int)<y4.2.2.2.2.2.2.2.1))=true then
(if 0≤(wi64 (y4.2.2.2.2.2.2.2.1-(1:Int)))∧(wi64 (y4.2.2.2.2.2.2.2.1-(1:Int)))<(List.length y4.2.2.2.1:Int) then
(if 0≤y4.2.2.2.2.2.2.2.1∧y4.2.2.2.2.2.2.2.1<(List.length y4.2.2.2.1:Int) then
(rec4 (y4.1,(y4.2.1,(y4.2.2.1,((List.set y4.2.2.2.1 (Int.toNat y4.2.2.2.2.2.2.2.1) (Ty.rd (t:=(.int .u32)) y4.2.2.2.1 (wi64 (y4.2.2.2.2.2.2.2.1-(1:Int))))),(y4.2.2.2.2.1,(y4.2.2.2.2.2.1,(y4.2.2.2.2.2.2.1,((wi64 (y4.2.2.2.2.2.2.2.1-(1:Int))),())))))))))
else none)
else none)
else
((fun(z2:List (Int)×List (Int)×List (Int)×List (Int)×Int×Int×Int×Unit) =>
(if 0≤(4:Int)∧(4:Int)<(List.length z2.2.2.2.1:Int) then
(if 0≤(4:Int)∧(4:Int)<(List.length z2.2.2.2.1:Int) then
(if 0≤(0:Int)∧(0:Int)<(List.length (List.set z2.2.2.2.1 (Int.toNat (4:Int)) (wu32 ((Ty.rd (t:=(.int .u32)) z2.2.2.2.1 (4:Int))+z2.2.2.2.2.2.1))):Int) then
(rec2 (z2.1,(z2.2.1,(z2.2.2.1,((List.set (List.set z2.2.2.2.1 (Int.toNat (4:Int)) (wu32 ((Ty.rd (t:=(.int .u32)) z2.2.2.2.1 (4:Int))+z2.2.2.2.2.2.1))) (Int.toNat (0:Int)) (wu32 (z2.2.2.2.2.2.1+z2.2.2.2.2.2.2.1))),((wi64 (z2.2.2.2.2.1+(1:Int))),()))))))
else none)
else none)
else none)) (y4.1,(y4.2.1,(y4.2.2.1,(y4.2.2.2.1,(y4.2.2.2.2.1,(y4.2.2.2.2.2.1,(y4.2.2.2.2.2.2.1,())))))))))) k (y2.1,(y2.2.1,(y2.2.2.1,(y2.2.2.2.1,(y2.2.2.2.2.1,((wu32 ((wu32 ((wu32 ((wu32 ((Ty.rd (t:=(.int .u32)) y2.2.2.2.1 (7:Int))+p4.1))+(qAa .xor .u32 (qAa .and .u32 (Ty.rd (t:=(.int .u32)) y2.2.2.2.1 (4:Int)) (Ty.rd (t:=(.int .u32)) y2.2.2.2.1 (5:Int))) (qAa .and .u32 (wu32 ((4294967295:Int)-(Ty.rd (t:=(.int .u32)) y2.2.2.2.1 (4:Int)))) (Ty.rd (t:=(.int .u32)) y2.2.2.2.1 (6:Int))))))+(Ty.rd (t:=(.int .u32)) y2.2.1 y2.2.2.2.2.1)))+(Ty.rd (t:=(.int .u32)) y2.2.2.1 y2.2.2.2.2.1))),((wu32 (p5.1+(qAa .xor .u32 (qAa .xor .u32 (qAa .and .u32 (Ty.rd (t:=(.int .u32)) y2.2.2.2.1 (0:Int)) (Ty.rd (t:=(.int .u32)) y2.2.2.2.1 (1:Int))) (qAa .and .u32 (Ty.rd (t:=(.int .u32)) y2.2.2.2.1 (0:Int)) (Ty.rd (t:=(.int .u32)) y2.2.2.2.1 (2:Int)))) (qAa .and .u32 (Ty.rd (t:=(.int .u32)) y2.2.2.2.1 (1:Int)) (Ty.rd (t:=(.int .u32)) y2.2.2.2.1 (2:Int)))))),((7:Int),()))))))))))
else none)
else none)
else none)
else none)
else none)
else none)
else none)
else none)
else none))
else none)
else none)
else none)
else none)
else
((fun(z3:List (Int)×List (Int)×Unit) =>
(qAG (fun(rec6:(List (Int)×List (Int)×List (Int)×Int×Unit)→Option _) (y6:List (Int)×List (Int)×List (Int)×Int×Unit) =>
(if(decide (y6.2.2.2.1<(8:Int)))=true then
(if 0≤y6.2.2.2.1∧y6.2.2.2.1<(List.length y6.1:Int) then
(if 0≤y6.2.2.2.1∧y6.2.2.2.1<(List.length y6.2.1:Int) then
(if List.length y6.2.2.1+List.length ([(wu32 ((Ty.rd (t:=(.int .u32)) y6.1 y6.2.2.2.1)+(Ty.rd (t:=(.int .u32)) y6.2.1 y6.2.2.2.1)))]:List (Int))≤capMax then
(rec6 (y6.1,(y6.2.1,((y6.2.2.1++([(wu32 ((Ty.rd (t:=(.int .u32)) y6.1 y6.2.2.2.1)+(Ty.rd (t:=(.int .u32)) y6.2.1 y6.2.2.2.1)))]:List (Int))),((wi64 (y6.2.2.2.1+(1:Int))),())))))
else none)
else none)
else none)
else
((fun(z4:List (Int)×Unit) =>
some (z4.1,((),((),((),()))))) (y6.2.2.1,())))) k (z3.1,(z3.2.1,(([]:List (Int)),((0:Int),())))))) (y2.1,(y2.2.2.2.1,()))))) k (z1.1,(z1.2.1,(z1.2.2.1,((([]:List (Int))++z1.1),((0:Int),()))))))
else none)) (y0.1,(y0.2.1,(y0.2.2.1,())))))) k (x.1,(x.2.1,(p1.1,((16:Int),()))))))
abbrev qF5(k:Nat):qAL:=⟨278,0,(.cons (.il true (.int .u32)) (.cons (.il true (.int .u32)) (.cons .str .nil))),yP30,qDo k⟩
theorem t_s_l04Round(k:Nat)(x):evF TTab k [qES k,E_s_l04S k] [(0,⟨[0,1,7,8],(.cons (.il true (.int .u32)) (.cons (.il true (.int .u32)) (.cons yP30 yP4)))⟩,⟨[0,1,7],(.cons (.il true (.int .u32)) (.cons (.il true (.int .u32)) (.cons yP30 .nil)))⟩),(2,⟨[0,1,7,9,10],(.cons (.il true (.int .u32)) (.cons (.il true (.int .u32)) (.cons yP30 (.cons yP30 yP4))))⟩,⟨[0,9],(.cons (.il true (.int .u32)) (.cons yP30 .nil))⟩),(4,⟨[0,1,7,9,10,13,15,16],(.cons (.il true (.int .u32)) (.cons (.il true (.int .u32)) (.cons yP30 (.cons yP30 (.cons (.int .i64) (.cons (.int .u32) (.cons (.int .u32) yP4)))))))⟩,⟨[0,1,7,9,10,13,15],(.cons (.il true (.int .u32)) (.cons (.il true (.int .u32)) (.cons yP30 (.cons yP30 (.cons (.int .i64) (.cons (.int .u32) (.cons (.int .u32) .nil)))))))⟩),(6,⟨[0,9,17,18],(.cons (.il true (.int .u32)) (.cons yP30 (.cons yP30 yP4)))⟩,⟨[17],(.cons yP30 .nil)⟩)] Tryz.f278 (.cons (.il true (.int .u32)) (.cons (.il true (.int .u32)) (.cons .str .nil))) yP30 x=qDo k x:=by kernel_rfl
theorem e_s_l04Round[Names](k:Nat):qAE Tryz.prog (qF5 k):=qAD tok (qAA (qF4 k) (qAA (e_s_l04S k) qAI)) (by kernel_rfl) (by kernel_rfl) (by kernel_rfl) fun x r h=>(t_s_l04Round k x).trans h
def qC6(k:Nat)(x:List (Int)×Unit):Option (ByteArray×Unit×Unit):=
(qAG (fun(rec0:(List (Int)×List (Int)×Int×Unit)→Option _) (y0:List (Int)×List (Int)×Int×Unit) =>
(if(decide (y0.2.2.1<(List.length y0.1:Int)))=true then
(if 0≤y0.2.2.1∧y0.2.2.1<(List.length y0.1:Int) then
(if List.length y0.2.1+List.length ([(wu8 ((wu32 (Int.tdiv (Ty.rd (t:=(.int .u32)) y0.1 y0.2.2.1) (16777216:Int))))),(wu8 ((Int.tmod (wu32 (Int.tdiv (Ty.rd (t:=(.int .u32)) y0.1 y0.2.2.1) (65536:Int))) (256:Int)))),(wu8 ((Int.tmod (wu32 (Int.tdiv (Ty.rd (t:=(.int .u32)) y0.1 y0.2.2.1) (256:Int))) (256:Int)))),(wu8 ((Int.tmod (Ty.rd (t:=(.int .u32)) y0.1 y0.2.2.1) (256:Int))))]:List (Int))≤capMax then
(rec0 (y0.1,((y0.2.1++([(wu8 ((wu32 (Int.tdiv (Ty.rd (t:=(.int .u32)) y0.1 y0.2.2.1) (16777216:Int))))),(wu8 ((Int.tmod (wu32 (Int.tdiv (Ty.rd (t:=(.int .u32)) y0.1 y0.2.2.1) (65536:Int))) (256:Int)))),(wu8 ((Int.tmod (wu32 (Int.tdiv (Ty.rd (t:=(.int .u32)) y0.1 y0.2.2.1) (256:Int))) (256:Int)))),(wu8 ((Int.tmod (Ty.rd (t:=(.int .u32)) y0.1 y0.2.2.1) (256:Int))))]:List (Int))),((wi64 (y0.2.2.1+(1:Int))),()))))
else none)
else none)
else
((fun(z1:List (Int)×Unit) =>
some ((qAl z1.1),((),()))) (y0.2.1,())))) k (x.1,(([]:List (Int)),((0:Int),()))))
abbrev qET(k:Nat):qAL:=⟨279,0,(.cons (.il true (.int .u32)) .nil),.str,qC6 k⟩
theorem t_s_l04Bytes(k:Nat)(x):evF TTab k [] [(0,⟨[0,3,4],(.cons (.il true (.int .u32)) (.cons (.own false 5 (.int .u8)) yP4))⟩,⟨[3],(.cons (.own false 5 (.int .u8)) .nil)⟩)] Tryz.f279 (.cons (.il true (.int .u32)) .nil) .str x=qC6 k x:=by kernel_rfl
theorem qF6[Names](k:Nat):qAE Tryz.prog (qET k):=qAD tok qAI (by kernel_rfl) (by kernel_rfl) (by kernel_rfl) fun x r h=>(t_s_l04Bytes k x).trans h
def qF7(k:Nat)(x:(ByteArray×ByteArray×Int×Unit)×Unit):Option (ByteArray×Unit×Unit):=
((qDn k ((x.1.1,(x.1.2.1,(x.1.2.2.1,()))),())).bind fun p1 =>
(if(!p1.1)=true then
some ((⟨#[]⟩:ByteArray),((),()))
else
(if ByteArray.size x.1.2.1≤maxStr then
(if List.length (qAF x.1.2.1)+List.length ([(128:Int)]:List (Int))≤capMax then
(qAG (fun(rec0:((ByteArray×ByteArray×Int×Unit)×List (Int)×Unit)→Option _) (y0:(ByteArray×ByteArray×Int×Unit)×List (Int)×Unit) =>
(if(!decide ((Int.tmod (List.length y0.2.1:Int) (64:Int))=(56:Int)))=true then
(if List.length y0.2.1+List.length ([(0:Int)]:List (Int))≤capMax then
(rec0 ((y0.1.1,(y0.1.2.1,(y0.1.2.2.1,()))),((y0.2.1++([(0:Int)]:List (Int))),())))
else none)
else
((fun(z1:(ByteArray×ByteArray×Int×Unit)×List (Int)×Unit) =>
(qAG (fun(rec2:((ByteArray×ByteArray×Int×Unit)×List (Int)×Int×Int×Unit)→Option _) (y2:(ByteArray×ByteArray×Int×Unit)×List (Int)×Int×Int×Unit) =>
(if(decide ((0:Int)≤y2.2.2.2.1))=true then
(qAG (fun(rec4:((ByteArray×ByteArray×Int×Unit)×List (Int)×Int×Int×Int×Int×Unit)→Option _) (y4:(ByteArray×ByteArray×Int×Unit)×List (Int)×Int×Int×Int×Int×Unit) =>
(if(decide (y4.2.2.2.2.2.1<y4.2.2.2.1))=true then
(rec4 ((y4.1.1,(y4.1.2.1,(y4.1.2.2.1,()))),(y4.2.1,(y4.2.2.1,(y4.2.2.2.1,((wi64 (Int.tdiv y4.2.2.2.2.1 (256:Int))),((wi64 (y4.2.2.2.2.2.1+(1:Int))),())))))))
else
((fun(z2:(ByteArray×ByteArray×Int×Unit)×List (Int)×Int×Int×Int×Unit) =>
(if List.length z2.2.1+List.length ([(wu8 ((Int.tmod z2.2.2.2.2.1 (256:Int))))]:List (Int))≤capMax then
(rec2 ((z2.1.1,(z2.1.2.1,(z2.1.2.2.1,()))),((z2.2.1++([(wu8 ((Int.tmod z2.2.2.2.2.1 (256:Int))))]:List (Int))),(z2.2.2.1,((wi64 (z2.2.2.2.1-(1:Int))),())))))
else none)) ((y4.1.1,(y4.1.2.1,(y4.1.2.2.1,()))),(y4.2.1,(y4.2.2.1,(y4.2.2.2.1,(y4.2.2.2.2.1,())))))))) k ((y2.1.1,(y2.1.2.1,(y2.1.2.2.1,()))),(y2.2.1,(y2.2.2.1,(y2.2.2.2.1,(y2.2.2.1,((0:Int),())))))))
else
((fun(z3:(ByteArray×ByteArray×Int×Unit)×List (Int)×Unit) =>
((qC4 k (z3.1.1,())).bind fun p2 =>
((s_l04K k ()).bind fun p3 =>
(qAG (fun(rec6:(List (Int)×List (Int)×List (Int)×Int×Unit)→Option _) (y6:List (Int)×List (Int)×List (Int)×Int×Unit) =>
(if(decide (y6.2.2.2.1<(List.length y6.1:Int)))=true then
(if 0≤(wi64 (y6.2.2.2.1+(64:Int)))∧(wi64 (y6.2.2.2.1+(64:Int)))≤(List.length y6.1:Int) then
(if 0≤y6.2.2.2.1∧y6.2.2.2.1≤(wi64 (y6.2.2.2.1+(64:Int))) then
((qDo k (y6.2.1,(y6.2.2.1,((qAl (List.drop (Int.toNat y6.2.2.2.1) (List.take (Int.toNat (wi64 (y6.2.2.2.1+(64:Int)))) y6.1))),())))).bind fun p4 =>
(rec6 (y6.1,(p4.1,(y6.2.2.1,((wi64 (y6.2.2.2.1+(64:Int))),()))))))
else none)
else none)
else
((fun(z4:List (Int)×Unit) =>
((qC6 k (z4.1,())).bind fun p5 =>
some (p5.1,((),())))) (y6.2.1,())))) k (z3.2.1,(p2.1,(p3.1,((0:Int),())))))))) ((y2.1.1,(y2.1.2.1,(y2.1.2.2.1,()))),(y2.2.1,()))))) k ((z1.1.1,(z1.1.2.1,(z1.1.2.2.1,()))),(z1.2.1,((wi64 ((8:Int)*z1.1.2.2.1)),((7:Int),())))))) ((y0.1.1,(y0.1.2.1,(y0.1.2.2.1,()))),(y0.2.1,()))))) k ((x.1.1,(x.1.2.1,(x.1.2.2.1,()))),(((qAF x.1.2.1)++([(128:Int)]:List (Int))),())))
else none)
else none)))
abbrev E_s_HashEnd(k:Nat):qAL:=⟨208,0,(.cons (.agg yP32) .nil),.str,qF7 k⟩
theorem t_s_HashEnd(k:Nat)(x):evF TTab k [qF2 k,qES k,E_s_l04K k,qF5 k,qET k] [(0,⟨[1,3],(.cons (.ptr 0 yP32) (.cons (.own true 5 (.int .u8)) .nil))⟩,⟨[1,3],(.cons (.ptr 0 yP32) (.cons (.own true 5 (.int .u8)) .nil))⟩),(2,⟨[1,3,4,5],(.cons (.ptr 0 yP32) (.cons (.own true 5 (.int .u8)) (.cons (.int .i64) yP4)))⟩,⟨[1,3],(.cons (.ptr 0 yP32) (.cons (.own true 5 (.int .u8)) .nil))⟩),(4,⟨[1,3,4,5,6,7],(.cons (.ptr 0 yP32) (.cons (.own true 5 (.int .u8)) (.cons (.int .i64) yP22)))⟩,⟨[1,3,4,5,6],(.cons (.ptr 0 yP32) (.cons (.own true 5 (.int .u8)) yP22))⟩),(6,⟨[3,8,9,10],(.cons (.own true 5 (.int .u8)) (.cons yP30 (.cons yP30 yP4)))⟩,⟨[8],(.cons yP30 .nil)⟩)] Tryz.f208 (.cons (.agg yP32) .nil) .str x=qF7 k x:=by kernel_rfl
theorem e_s_HashEnd[Names](k:Nat):qAE Tryz.prog (E_s_HashEnd k):=qAD tok (qAA (e_s_HasherOk k) (qAA (qF4 k) (qAA (e_s_l04K k) (qAA (e_s_l04Round k) (qAA (qF6 k) qAI))))) (by kernel_rfl) (by kernel_rfl) (by kernel_rfl) fun x r h=>(t_s_HashEnd k x).trans h
def qDp(k:Nat)(x:(ByteArray×ByteArray×Int×Unit)×ByteArray×Unit):Option ((ByteArray×ByteArray×Int×Unit)×Unit×Unit×Unit):=
((qDn k ((x.1.1,(x.1.2.1,(x.1.2.2.1,()))),())).bind fun p1 =>
(if(!p1.1)=false then
(if(decide ((1000000000:Int)<(wi64 (x.1.2.2.1+(ByteArray.size x.2.1:Int)))))=true then
some ((x.1.1,(x.1.2.1,(x.1.2.2.1,()))),((),((),())))
else
((qC4 k (x.1.1,())).bind fun p2 =>
((s_l04K k ()).bind fun p3 =>
(if ByteArray.size x.1.2.1+ByteArray.size x.2.1≤maxStr then
(qAG (fun(rec0:(ByteArray×(ByteArray×ByteArray×Int×Unit)×(ByteArray×ByteArray×Int×Unit)×List (Int)×List (Int)×ByteArray×Int×Unit)→Option _) (y0:ByteArray×(ByteArray×ByteArray×Int×Unit)×(ByteArray×ByteArray×Int×Unit)×List (Int)×List (Int)×ByteArray×Int×Unit) =>
(if(decide ((wi64 (y0.2.2.2.2.2.2.1+(64:Int)))≤(ByteArray.size y0.2.2.2.2.2.1:Int)))=true then
(if 0≤(wi64 (y0.2.2.2.2.2.2.1+(64:Int)))∧(wi64 (y0.2.2.2.2.2.2.1+(64:Int)))≤(ByteArray.size y0.2.2.2.2.2.1:Int) then
(if 0≤y0.2.2.2.2.2.2.1∧y0.2.2.2.2.2.2.1≤(wi64 (y0.2.2.2.2.2.2.1+(64:Int))) then
((qDo k (y0.2.2.2.1,(y0.2.2.2.2.1,((ByteArray.extract y0.2.2.2.2.2.1 (Int.toNat y0.2.2.2.2.2.2.1) (Int.toNat (wi64 (y0.2.2.2.2.2.2.1+(64:Int))))),())))).bind fun p4 =>
(rec0 (y0.1,((y0.2.1.1,(y0.2.1.2.1,(y0.2.1.2.2.1,()))),((y0.2.2.1.1,(y0.2.2.1.2.1,(y0.2.2.1.2.2.1,()))),(p4.1,(y0.2.2.2.2.1,(y0.2.2.2.2.2.1,((wi64 (y0.2.2.2.2.2.2.1+(64:Int))),())))))))))
else none)
else none)
else
((fun(z1:ByteArray×(ByteArray×ByteArray×Int×Unit)×(ByteArray×ByteArray×Int×Unit)×List (Int)×ByteArray×Int×Unit) =>
((qC6 k (z1.2.2.2.1,())).bind fun p5 =>
(if 0≤z1.2.2.2.2.2.1∧z1.2.2.2.2.2.1≤(ByteArray.size z1.2.2.2.2.1:Int) then
some ((p5.1,((ByteArray.extract z1.2.2.2.2.1 (Int.toNat z1.2.2.2.2.2.1) (Int.toNat (ByteArray.size z1.2.2.2.2.1:Int))),((wi64 (z1.2.1.2.2.1+(ByteArray.size z1.1:Int))),()))),((),((),())))
else none))) (y0.1,((y0.2.1.1,(y0.2.1.2.1,(y0.2.1.2.2.1,()))),((y0.2.2.1.1,(y0.2.2.1.2.1,(y0.2.2.1.2.2.1,()))),(y0.2.2.2.1,(y0.2.2.2.2.2.1,(y0.2.2.2.2.2.2.1,()))))))))) k (x.2.1,((x.1.1,(x.1.2.1,(x.1.2.2.1,()))),(((⟨#[]⟩:ByteArray),((⟨#[]⟩:ByteArray),((0:Int),()))),(p2.1,(p3.1,((x.1.2.1++x.2.1),((0:Int),()))))))))
else none))))
else
some ((x.1.1,(x.1.2.1,(x.1.2.2.1,()))),((),((),())))))
abbrev E_s_HashMore(k:Nat):qAL:=⟨209,0,(.cons (.agg yP32) (.cons .str .nil)),(.agg yP32),qDp k⟩
theorem t_s_HashMore(k:Nat)(x):evF TTab k [qF2 k,qES k,E_s_l04K k,qF5 k,qET k] [(0,⟨[1,2,4,5,6,7,8],(.cons .str (.cons (.ptr 0 yP32) (.cons (.ptr 0 yP32) (.cons yP30 (.cons yP30 (.cons .str yP4))))))⟩,⟨[1,2,4,5,7,8],(.cons .str (.cons (.ptr 0 yP32) (.cons (.ptr 0 yP32) (.cons yP30 (.cons .str yP4)))))⟩)] Tryz.f209 (.cons (.agg yP32) (.cons .str .nil)) (.agg yP32) x=qDp k x:=by kernel_rfl
theorem e_s_HashMore[Names](k:Nat):qAE Tryz.prog (E_s_HashMore k):=qAD tok (qAA (e_s_HasherOk k) (qAA (qF4 k) (qAA (e_s_l04K k) (qAA (e_s_l04Round k) (qAA (qF6 k) qAI))))) (by kernel_rfl) (by kernel_rfl) (by kernel_rfl) fun x r h=>(t_s_HashMore k x).trans h
def qGu(k:Nat)(x:Unit):Option (List (Int)×Unit):=
some (([(1779033703:Int),(3144134277:Int),(1013904242:Int),(2773480762:Int),(1359893119:Int),(2600822924:Int),(528734635:Int),(1541459225:Int)]:List (Int)),())
abbrev E_s_l04First(k:Nat):qAL:=⟨280,0,.nil,yP30,qGu k⟩
theorem t_s_l04First(k:Nat)(x):evF TTab k [] [] Tryz.f280 .nil yP30 x=qGu k x:=by kernel_rfl
theorem e_s_l04First[Names](k:Nat):qAE Tryz.prog (E_s_l04First k):=qAD tok qAI (by kernel_rfl) (by kernel_rfl) (by kernel_rfl) fun x r h=>(t_s_l04First k x).trans h
def qFI(k:Nat)(x:Unit):Option ((ByteArray×ByteArray×Int×Unit)×Unit):=
((qGu k ()).bind fun p1 =>
((qC6 k (p1.1,())).bind fun p2 =>
some ((p2.1,((⟨#[]⟩:ByteArray),((0:Int),()))),())))
abbrev qID(k:Nat):qAL:=⟨210,0,.nil,(.agg yP32),qFI k⟩
theorem t_s_HasherNew(k:Nat)(x):evF TTab k [qET k,E_s_l04First k] [] Tryz.f210 .nil (.agg yP32) x=qFI k x:=by kernel_rfl
theorem e_s_HasherNew[Names](k:Nat):qAE Tryz.prog (qID k):=qAD tok (qAA (qF6 k) (qAA (e_s_l04First k) qAI)) (by kernel_rfl) (by kernel_rfl) (by kernel_rfl) fun x r h=>(t_s_HasherNew k x).trans h
def qDq(k:Nat)(x:ByteArray×Unit):Option (ByteArray×Unit×Unit):=
((qFI k ()).bind fun p1 =>
((qDp k ((p1.1.1,(p1.1.2.1,(p1.1.2.2.1,()))),(x.1,()))).bind fun p2 =>
((qF7 k ((p2.1.1,(p2.1.2.1,(p2.1.2.2.1,()))),())).bind fun p3 =>
some (p3.1,((),())))))
abbrev E_s_DigestOf(k:Nat):qAL:=⟨122,0,(.cons .str .nil),.str,qDq k⟩
theorem t_s_DigestOf(k:Nat)(x):evF TTab k [E_s_HashEnd k,E_s_HashMore k,qID k] [] Tryz.f122 (.cons .str .nil) .str x=qDq k x:=by kernel_rfl
theorem e_s_DigestOf[Names](k:Nat):qAE Tryz.prog (E_s_DigestOf k):=qAD tok (qAA (e_s_HashEnd k) (qAA (e_s_HashMore k) (qAA (e_s_HasherNew k) qAI))) (by kernel_rfl) (by kernel_rfl) (by kernel_rfl) fun x r h=>(t_s_DigestOf k x).trans h
def qCu(k:Nat)(x:(Int×ByteArray×ByteArray×Int×List (Int)×Int×Unit)×Unit):Option ((Int×ByteArray×ByteArray×Int×List (Int)×Int×Unit)×Unit×Unit):=
(if List.length ([]:List (Int))+List.length x.1.2.2.2.2.1≤capMax then
some ((x.1.1,(x.1.2.1,(x.1.2.2.1,(x.1.2.2.2.1,((([]:List (Int))++x.1.2.2.2.2.1),(x.1.2.2.2.2.2.1,())))))),((),()))
else none)
abbrev qF8(k:Nat):qAL:=⟨247,0,yP24,(.agg (.cons (.int .i64) (.cons .str (.cons .str (.cons (.int .i64) (.cons yP31 yP4)))))),qCu k⟩
theorem t_s_l17CopySlot(k:Nat)(x):evF TTab k [] [] Tryz.f247 yP24 (.agg (.cons (.int .i64) (.cons .str (.cons .str (.cons (.int .i64) (.cons yP31 yP4)))))) x=qCu k x:=by kernel_rfl
theorem e_s_l17CopySlot[Names](k:Nat):qAE Tryz.prog (qF8 k):=qAD tok qAI (by kernel_rfl) (by kernel_rfl) (by kernel_rfl) fun x r h=>(t_s_l17CopySlot k x).trans h
def qEu(k:Nat)(x:(Int×ByteArray×ByteArray×Int×List (Int)×Int×Int×ByteArray×ByteArray×Int×List (Int)×Int×Unit)×Unit):Option ((Int×ByteArray×ByteArray×Int×List (Int)×Int×Int×ByteArray×ByteArray×Int×List (Int)×Int×Unit)×Unit×Unit):=
((qCu k ((x.1.1,(x.1.2.1,(x.1.2.2.1,(x.1.2.2.2.1,(x.1.2.2.2.2.1,(x.1.2.2.2.2.2.1,())))))),())).bind fun p1 =>
((qCu k ((x.1.2.2.2.2.2.2.1,(x.1.2.2.2.2.2.2.2.1,(x.1.2.2.2.2.2.2.2.2.1,(x.1.2.2.2.2.2.2.2.2.2.1,(x.1.2.2.2.2.2.2.2.2.2.2.1,(x.1.2.2.2.2.2.2.2.2.2.2.2.1,())))))),())).bind fun p2 =>
some ((p1.1.1,(p1.1.2.1,(p1.1.2.2.1,(p1.1.2.2.2.1,(p1.1.2.2.2.2.1,(p1.1.2.2.2.2.2.1,(p2.1.1,(p2.1.2.1,(p2.1.2.2.1,(p2.1.2.2.2.1,(p2.1.2.2.2.2.1,(p2.1.2.2.2.2.2.1,())))))))))))),((),()))))
abbrev qHe(k:Nat):qAL:=⟨170,0,(.cons yP13 .nil),yP11,qEu k⟩
theorem t_s_l17Copy(k:Nat)(x):evF TTab k [qF8 k] [] Tryz.f170 (.cons yP13 .nil) yP11 x=qEu k x:=by kernel_rfl
theorem e_s_l17Copy[Names](k:Nat):qAE Tryz.prog (qHe k):=qAD tok (qAA (e_s_l17CopySlot k) qAI) (by kernel_rfl) (by kernel_rfl) (by kernel_rfl) fun x r h=>(t_s_l17Copy k x).trans h
def qDT(k:Nat)(x:(Int×ByteArray×ByteArray×Int×List (Int)×Int×Unit)×Unit):Option (Bool×Unit×Unit):=
(if(decide (x.1.1=(0:Int)))=true then
(if(decide (x.1.2.1=(⟨#[]⟩:ByteArray)))=true then
(if(decide (x.1.2.2.1=(⟨#[]⟩:ByteArray)))=true then
(if(decide (x.1.2.2.2.1=(0:Int)))=true then
(if(decide ((List.length x.1.2.2.2.2.1:Int)=(0:Int)))=true then
some ((decide (x.1.2.2.2.2.2.1=(0:Int))),((),()))
else
some (false,((),())))
else
some (false,((),())))
else
some (false,((),())))
else
some (false,((),())))
else
some (false,((),())))
abbrev qFJ(k:Nat):qAL:=⟨193,0,yP24,.bool,qDT k⟩
theorem t_s_l17None(k:Nat)(x):evF TTab k [] [] Tryz.f193 yP24 .bool x=qDT k x:=by kernel_rfl
theorem qHf[Names](k:Nat):qAE Tryz.prog (qFJ k):=qAD tok qAI (by kernel_rfl) (by kernel_rfl) (by kernel_rfl) fun x r h=>(t_s_l17None k x).trans h
def qIE(k:Nat)(x:List (Int)×Unit):Option (Bool×Unit×Unit):=
(qAG (fun(rec0:(List (Int)×Int×Unit)→Option _) (y0:List (Int)×Int×Unit) =>
(if(decide (y0.2.1<(List.length y0.1:Int)))=true then
(if 0≤y0.2.1∧y0.2.1<(List.length y0.1:Int) then
((qBk k ((Ty.rd (t:=(.int .i64)) y0.1 y0.2.1),((1:Int),((1000000000:Int),())))).bind fun p1 =>
(if(!p1.1)=false then
(if(decide ((0:Int)<y0.2.1))=true then
(if 0≤(wi64 (y0.2.1-(1:Int)))∧(wi64 (y0.2.1-(1:Int)))<(List.length y0.1:Int) then
(if 0≤y0.2.1∧y0.2.1<(List.length y0.1:Int) then
(if(decide ((Ty.rd (t:=(.int .i64)) y0.1 (wi64 (y0.2.1-(1:Int))))≤(Ty.rd (t:=(.int .i64)) y0.1 y0.2.1)))=false then
(if 0≤y0.2.1∧y0.2.1<(List.length y0.1:Int) then
(if 0≤(0:Int)∧(0:Int)<(List.length y0.1:Int) then
(if(decide ((Ty.rd (t:=(.int .i64)) y0.1 y0.2.1)≤(wi64 ((Ty.rd (t:=(.int .i64)) y0.1 (0:Int))-(6:Int)))))=true then
some (false,((),()))
else
(rec0 (y0.1,((wi64 (y0.2.1+(1:Int))),()))))
else none)
else none)
else
some (false,((),())))
else none)
else none)
else
(if 0≤y0.2.1∧y0.2.1<(List.length y0.1:Int) then
(if 0≤(0:Int)∧(0:Int)<(List.length y0.1:Int) then
(if(decide ((Ty.rd (t:=(.int .i64)) y0.1 y0.2.1)≤(wi64 ((Ty.rd (t:=(.int .i64)) y0.1 (0:Int))-(6:Int)))))=true then
some (false,((),()))
else
(rec0 (y0.1,((wi64 (y0.2.1+(1:Int))),()))))
else none)
else none))
else
some (false,((),()))))
else none)
else
((fun(z1:List (Int)×Unit) =>
some ((decide ((List.length z1.1:Int)≤(6:Int))),((),()))) (y0.1,())))) k (x.1,((0:Int),())))
abbrev E_s_SeenOk(k:Nat):qAL:=⟨290,0,(.cons (.il true (.int .i64)) .nil),.bool,qIE k⟩
theorem t_s_SeenOk(k:Nat)(x):evF TTab k [qBt k] [(0,⟨[0,3],(.cons (.il true (.int .i64)) yP4)⟩,⟨[0],(.cons (.il true (.int .i64)) .nil)⟩)] Tryz.f290 (.cons (.il true (.int .i64)) .nil) .bool x=qIE k x:=by kernel_rfl
theorem e_s_SeenOk[Names](k:Nat):qAE Tryz.prog (E_s_SeenOk k):=qAD tok (qAA (qB2 k) qAI) (by kernel_rfl) (by kernel_rfl) (by kernel_rfl) fun x r h=>(t_s_SeenOk k x).trans h
def qGv(k:Nat)(x:(Int×ByteArray×ByteArray×Int×List (Int)×Int×Unit)×Unit):Option (Bool×Unit×Unit):=
((qDT k ((x.1.1,(x.1.2.1,(x.1.2.2.1,(x.1.2.2.2.1,(x.1.2.2.2.2.1,(x.1.2.2.2.2.2.1,())))))),())).bind fun p1 =>
(if p1.1=true then
some (true,((),()))
else
((qBk k (x.1.1,((1:Int),((1000000000:Int),())))).bind fun p2 =>
(if p2.1=true then
(if(decide ((ByteArray.size x.1.2.1:Int)=(32:Int)))=true then
(if(decide ((ByteArray.size x.1.2.2.1:Int)=(32:Int)))=true then
((qBk k (x.1.2.2.2.1,((0:Int),((12:Int),())))).bind fun p3 =>
(if p3.1=true then
((qIE k (x.1.2.2.2.2.1,())).bind fun p4 =>
(if p4.1=true then
((qBk k (x.1.2.2.2.2.2.1,((0:Int),((1000000000:Int),())))).bind fun p5 =>
some (p5.1,((),())))
else
some (false,((),()))))
else
some (false,((),()))))
else
some (false,((),())))
else
some (false,((),())))
else
some (false,((),()))))))
abbrev E_s_SlotOk(k:Nat):qAL:=⟨249,0,yP24,.bool,qGv k⟩
theorem t_s_SlotOk(k:Nat)(x):evF TTab k [qBt k,qFJ k,E_s_SeenOk k] [] Tryz.f249 yP24 .bool x=qGv k x:=by kernel_rfl
theorem e_s_SlotOk[Names](k:Nat):qAE Tryz.prog (E_s_SlotOk k):=qAD tok (qAA (qB2 k) (qAA (qHf k) (qAA (e_s_SeenOk k) qAI))) (by kernel_rfl) (by kernel_rfl) (by kernel_rfl) fun x r h=>(t_s_SlotOk k x).trans h
def qF9(k:Nat)(x:(Int×ByteArray×ByteArray×Int×List (Int)×Int×Int×ByteArray×ByteArray×Int×List (Int)×Int×Unit)×Unit):Option (Bool×Unit×Unit):=
((qGv k ((x.1.1,(x.1.2.1,(x.1.2.2.1,(x.1.2.2.2.1,(x.1.2.2.2.2.1,(x.1.2.2.2.2.2.1,())))))),())).bind fun p1 =>
(if(!p1.1)=false then
((qGv k ((x.1.2.2.2.2.2.2.1,(x.1.2.2.2.2.2.2.2.1,(x.1.2.2.2.2.2.2.2.2.1,(x.1.2.2.2.2.2.2.2.2.2.1,(x.1.2.2.2.2.2.2.2.2.2.2.1,(x.1.2.2.2.2.2.2.2.2.2.2.2.1,())))))),())).bind fun p2 =>
(if(!p2.1)=true then
some (false,((),()))
else
((qDT k ((x.1.2.2.2.2.2.2.1,(x.1.2.2.2.2.2.2.2.1,(x.1.2.2.2.2.2.2.2.2.1,(x.1.2.2.2.2.2.2.2.2.2.1,(x.1.2.2.2.2.2.2.2.2.2.2.1,(x.1.2.2.2.2.2.2.2.2.2.2.2.1,())))))),())).bind fun p3 =>
(if p3.1=false then
some ((decide (x.1.2.2.2.2.2.2.1<x.1.1)),((),()))
else
some (true,((),()))))))
else
some (false,((),()))))
abbrev E_s_SlotsOk(k:Nat):qAL:=⟨175,0,(.cons yP13 .nil),.bool,qF9 k⟩
theorem t_s_SlotsOk(k:Nat)(x):evF TTab k [qFJ k,E_s_SlotOk k] [] Tryz.f175 (.cons yP13 .nil) .bool x=qF9 k x:=by kernel_rfl
theorem e_s_SlotsOk[Names](k:Nat):qAE Tryz.prog (E_s_SlotsOk k):=qAD tok (qAA (qHf k) (qAA (e_s_SlotOk k) qAI)) (by kernel_rfl) (by kernel_rfl) (by kernel_rfl) fun x r h=>(t_s_SlotsOk k x).trans h
def qEv(k:Nat)(x:(Int×ByteArray×ByteArray×Int×List (Int)×Int×Int×ByteArray×ByteArray×Int×List (Int)×Int×Unit)×ByteArray×ByteArray×Int×Unit):Option (((Int×ByteArray×ByteArray×Int×List (Int)×Int×Int×ByteArray×ByteArray×Int×List (Int)×Int×Unit)×Bool×Unit)×Unit×Unit×Unit×Unit×Unit):=
((qEu k ((x.1.1,(x.1.2.1,(x.1.2.2.1,(x.1.2.2.2.1,(x.1.2.2.2.2.1,(x.1.2.2.2.2.2.1,(x.1.2.2.2.2.2.2.1,(x.1.2.2.2.2.2.2.2.1,(x.1.2.2.2.2.2.2.2.2.1,(x.1.2.2.2.2.2.2.2.2.2.1,(x.1.2.2.2.2.2.2.2.2.2.2.1,(x.1.2.2.2.2.2.2.2.2.2.2.2.1,())))))))))))),())).bind fun p1 =>
((qF9 k ((x.1.1,(x.1.2.1,(x.1.2.2.1,(x.1.2.2.2.1,(x.1.2.2.2.2.1,(x.1.2.2.2.2.2.1,(x.1.2.2.2.2.2.2.1,(x.1.2.2.2.2.2.2.2.1,(x.1.2.2.2.2.2.2.2.2.1,(x.1.2.2.2.2.2.2.2.2.2.1,(x.1.2.2.2.2.2.2.2.2.2.2.1,(x.1.2.2.2.2.2.2.2.2.2.2.2.1,())))))))))))),())).bind fun p2 =>
(if(!p2.1)=false then
(if(!decide ((ByteArray.size x.2.1:Int)=(32:Int)))=false then
(if(!decide ((ByteArray.size x.2.2.1:Int)=(32:Int)))=false then
((qBk k (x.2.2.2.1,((0:Int),((999999990:Int),())))).bind fun p3 =>
(if(!p3.1)=false then
(if(decide (x.1.1=(1000000000:Int)))=true then
some (((p1.1.1,(p1.1.2.1,(p1.1.2.2.1,(p1.1.2.2.2.1,(p1.1.2.2.2.2.1,(p1.1.2.2.2.2.2.1,(p1.1.2.2.2.2.2.2.1,(p1.1.2.2.2.2.2.2.2.1,(p1.1.2.2.2.2.2.2.2.2.1,(p1.1.2.2.2.2.2.2.2.2.2.1,(p1.1.2.2.2.2.2.2.2.2.2.2.1,(p1.1.2.2.2.2.2.2.2.2.2.2.2.1,())))))))))))),(false,())),((),((),((),((),())))))
else
((qDT k ((x.1.1,(x.1.2.1,(x.1.2.2.1,(x.1.2.2.2.1,(x.1.2.2.2.2.1,(x.1.2.2.2.2.2.1,())))))),())).bind fun p4 =>
(if(!p4.1)=true then
some ((((wi64 (x.1.1+(1:Int))),(x.2.1,(x.2.2.1,((0:Int),([],((0:Int),(p1.1.1,(p1.1.2.1,(p1.1.2.2.1,(p1.1.2.2.2.1,(p1.1.2.2.2.2.1,((wi64 (x.2.2.2.1+(10:Int))),())))))))))))),(true,())),((),((),((),((),())))))
else
some ((((wi64 (x.1.1+(1:Int))),(x.2.1,(x.2.2.1,((0:Int),([],((0:Int),(p1.1.1,(p1.1.2.1,(p1.1.2.2.1,(p1.1.2.2.2.1,(p1.1.2.2.2.2.1,(p1.1.2.2.2.2.2.1,())))))))))))),(true,())),((),((),((),((),()))))))))
else
some (((p1.1.1,(p1.1.2.1,(p1.1.2.2.1,(p1.1.2.2.2.1,(p1.1.2.2.2.2.1,(p1.1.2.2.2.2.2.1,(p1.1.2.2.2.2.2.2.1,(p1.1.2.2.2.2.2.2.2.1,(p1.1.2.2.2.2.2.2.2.2.1,(p1.1.2.2.2.2.2.2.2.2.2.1,(p1.1.2.2.2.2.2.2.2.2.2.2.1,(p1.1.2.2.2.2.2.2.2.2.2.2.2.1,())))))))))))),(false,())),((),((),((),((),())))))))
else
some (((p1.1.1,(p1.1.2.1,(p1.1.2.2.1,(p1.1.2.2.2.1,(p1.1.2.2.2.2.1,(p1.1.2.2.2.2.2.1,(p1.1.2.2.2.2.2.2.1,(p1.1.2.2.2.2.2.2.2.1,(p1.1.2.2.2.2.2.2.2.2.1,(p1.1.2.2.2.2.2.2.2.2.2.1,(p1.1.2.2.2.2.2.2.2.2.2.2.1,(p1.1.2.2.2.2.2.2.2.2.2.2.2.1,())))))))))))),(false,())),((),((),((),((),()))))))
else
some (((p1.1.1,(p1.1.2.1,(p1.1.2.2.1,(p1.1.2.2.2.1,(p1.1.2.2.2.2.1,(p1.1.2.2.2.2.2.1,(p1.1.2.2.2.2.2.2.1,(p1.1.2.2.2.2.2.2.2.1,(p1.1.2.2.2.2.2.2.2.2.1,(p1.1.2.2.2.2.2.2.2.2.2.1,(p1.1.2.2.2.2.2.2.2.2.2.2.1,(p1.1.2.2.2.2.2.2.2.2.2.2.2.1,())))))))))))),(false,())),((),((),((),((),()))))))
else
some (((p1.1.1,(p1.1.2.1,(p1.1.2.2.1,(p1.1.2.2.2.1,(p1.1.2.2.2.2.1,(p1.1.2.2.2.2.2.1,(p1.1.2.2.2.2.2.2.1,(p1.1.2.2.2.2.2.2.2.1,(p1.1.2.2.2.2.2.2.2.2.1,(p1.1.2.2.2.2.2.2.2.2.2.1,(p1.1.2.2.2.2.2.2.2.2.2.2.1,(p1.1.2.2.2.2.2.2.2.2.2.2.2.1,())))))))))))),(false,())),((),((),((),((),()))))))))
abbrev E_s_Install(k:Nat):qAL:=⟨123,0,(.cons yP13 yP32),(.tup (.cons yP11 (.cons .bool .nil))),qEv k⟩
theorem t_s_Install(k:Nat)(x):evF TTab k [qBt k,qHe k,E_s_SlotsOk k,qFJ k] [] Tryz.f123 (.cons yP13 yP32) (.tup (.cons yP11 (.cons .bool .nil))) x=qEv k x:=by kernel_rfl
theorem e_s_Install[Names](k:Nat):qAE Tryz.prog (E_s_Install k):=qAD tok (qAA (qB2 k) (qAA (e_s_l17Copy k) (qAA (e_s_SlotsOk k) (qAA (qHf k) qAI)))) (by kernel_rfl) (by kernel_rfl) (by kernel_rfl) fun x r h=>(t_s_Install k x).trans h
def qC7(k:Nat)(x:ByteArray×Unit):Option (((Int×ByteArray×ByteArray×Int×List (Int)×Int×Int×ByteArray×ByteArray×Int×List (Int)×Int×Unit)×(Int×ByteArray×ByteArray×Int×List (Int)×Int×Int×ByteArray×ByteArray×Int×List (Int)×Int×Unit)×Unit)×Unit×Unit):=
(if ByteArray.size x.1+ByteArray.size (⟨#[97]⟩:ByteArray)≤maxStr then
((qDq k ((x.1++(⟨#[97]⟩:ByteArray)),())).bind fun p1 =>
(if ByteArray.size x.1+ByteArray.size (⟨#[98]⟩:ByteArray)≤maxStr then
((qDq k ((x.1++(⟨#[98]⟩:ByteArray)),())).bind fun p2 =>
((qEv k (((0:Int),((⟨#[]⟩:ByteArray),((⟨#[]⟩:ByteArray),((0:Int),([],((0:Int),((0:Int),((⟨#[]⟩:ByteArray),((⟨#[]⟩:ByteArray),((0:Int),([],((0:Int),())))))))))))),(p1.1,(p2.1,((0:Int),()))))).bind fun p3 =>
((qEv k (((0:Int),((⟨#[]⟩:ByteArray),((⟨#[]⟩:ByteArray),((0:Int),([],((0:Int),((0:Int),((⟨#[]⟩:ByteArray),((⟨#[]⟩:ByteArray),((0:Int),([],((0:Int),())))))))))))),(p2.1,(p1.1,((0:Int),()))))).bind fun p4 =>
some (((p3.1.1.1,(p3.1.1.2.1,(p3.1.1.2.2.1,(p3.1.1.2.2.2.1,(p3.1.1.2.2.2.2.1,(p3.1.1.2.2.2.2.2.1,(p3.1.1.2.2.2.2.2.2.1,(p3.1.1.2.2.2.2.2.2.2.1,(p3.1.1.2.2.2.2.2.2.2.2.1,(p3.1.1.2.2.2.2.2.2.2.2.2.1,(p3.1.1.2.2.2.2.2.2.2.2.2.2.1,(p3.1.1.2.2.2.2.2.2.2.2.2.2.2.1,())))))))))))),((p4.1.1.1,(p4.1.1.2.1,(p4.1.1.2.2.1,(p4.1.1.2.2.2.1,(p4.1.1.2.2.2.2.1,(p4.1.1.2.2.2.2.2.1,(p4.1.1.2.2.2.2.2.2.1,(p4.1.1.2.2.2.2.2.2.2.1,(p4.1.1.2.2.2.2.2.2.2.2.1,(p4.1.1.2.2.2.2.2.2.2.2.2.1,(p4.1.1.2.2.2.2.2.2.2.2.2.2.1,(p4.1.1.2.2.2.2.2.2.2.2.2.2.2.1,())))))))))))),())),((),())))))
else none))
else none)
abbrev qFK(k:Nat):qAL:=⟨48,0,(.cons .str .nil),(.tup (.cons yP11 (.cons yP11 .nil))),qC7 k⟩
theorem t_s_PairSlots(k:Nat)(x):evF TTab k [E_s_DigestOf k,E_s_Install k] [] Tryz.f48 (.cons .str .nil) (.tup (.cons yP11 (.cons yP11 .nil))) x=qC7 k x:=by kernel_rfl
theorem qIF[Names](k:Nat):qAE Tryz.prog (qFK k):=qAD tok (qAA (e_s_DigestOf k) (qAA (e_s_Install k) qAI)) (by kernel_rfl) (by kernel_rfl) (by kernel_rfl) fun x r h=>(t_s_PairSlots k x).trans h
def qGA(k:Nat)(x:((List (Int×Int×Int×List (ByteArray)×List (Bool)×Int))×Unit)×Unit):Option (((List (Int×Int×Int×List (ByteArray)×List (Bool)×Int))×Unit)×Unit×Unit):=
(qAG (fun(rec0:(((List (Int×Int×Int×List (ByteArray)×List (Bool)×Int))×Unit)×((List (Int×Int×Int×List (ByteArray)×List (Bool)×Int))×Unit)×((List (Int×Int×Int×List (ByteArray)×List (Bool)×Int))×Unit)×Int×Unit)→Option _) (y0:((List (Int×Int×Int×List (ByteArray)×List (Bool)×Int))×Unit)×((List (Int×Int×Int×List (ByteArray)×List (Bool)×Int))×Unit)×((List (Int×Int×Int×List (ByteArray)×List (Bool)×Int))×Unit)×Int×Unit) =>
(if(decide (y0.2.2.2.1<(List.length y0.1.1:Int)))=true then
(if 0≤y0.2.2.2.1∧y0.2.2.2.1<(List.length y0.1.1:Int) then
(if List.length ([]:List (ByteArray))+List.length (Ty.rd (t:=yT5) y0.1.1 y0.2.2.2.1).2.2.2.1≤capMax then
(if List.length ([]:List (Bool))+List.length (Ty.rd (t:=yT5) y0.1.1 y0.2.2.2.1).2.2.2.2.1≤capMax then
(if List.length y0.2.2.1.1+List.length ([((Ty.rd (t:=yT5) y0.1.1 y0.2.2.2.1).1,((Ty.rd (t:=yT5) y0.1.1 y0.2.2.2.1).2.1,((Ty.rd (t:=yT5) y0.1.1 y0.2.2.2.1).2.2.1,((([]:List (ByteArray))++(Ty.rd (t:=yT5) y0.1.1 y0.2.2.2.1).2.2.2.1),((([]:List (Bool))++(Ty.rd (t:=yT5) y0.1.1 y0.2.2.2.1).2.2.2.2.1),(Ty.rd (t:=yT5) y0.1.1 y0.2.2.2.1).2.2.2.2.2)))))]:List (Int×Int×Int×List (ByteArray)×List (Bool)×Int))≤capMax then
(rec0 ((y0.1.1,()),((y0.2.1.1,()),(((y0.2.2.1.1++([((Ty.rd (t:=yT5) y0.1.1 y0.2.2.2.1).1,((Ty.rd (t:=yT5) y0.1.1 y0.2.2.2.1).2.1,((Ty.rd (t:=yT5) y0.1.1 y0.2.2.2.1).2.2.1,((([]:List (ByteArray))++(Ty.rd (t:=yT5) y0.1.1 y0.2.2.2.1).2.2.2.1),((([]:List (Bool))++(Ty.rd (t:=yT5) y0.1.1 y0.2.2.2.1).2.2.2.2.1),(Ty.rd (t:=yT5) y0.1.1 y0.2.2.2.1).2.2.2.2.2)))))]:List (Int×Int×Int×List (ByteArray)×List (Bool)×Int))),()),((wi64 (y0.2.2.2.1+(1:Int))),())))))
else none)
else none)
else none)
else none)
else
((fun(z1:((List (Int×Int×Int×List (ByteArray)×List (Bool)×Int))×Unit)×((List (Int×Int×Int×List (ByteArray)×List (Bool)×Int))×Unit)×Unit) =>
some ((z1.2.1.1,()),((),()))) ((y0.2.1.1,()),((y0.2.2.1.1,()),()))))) k ((x.1.1,()),(([],()),(([],()),((0:Int),())))))
abbrev E_s_l20Copy(k:Nat):qAL:=⟨171,0,(.cons (.agg (.cons (.il true yT5) .nil)) .nil),(.agg (.cons (.own false 229 yT5) .nil)),qGA k⟩
theorem t_s_l20Copy(k:Nat)(x):evF TTab k [] [(0,⟨[1,2,3,4],(.cons (.ptr 0 (.cons (.il true yT5) .nil)) (.cons (.ptr 0 (.cons (.own false 229 yT5) .nil)) (.cons (.ptr 0 (.cons (.own false 229 yT5) .nil)) yP4)))⟩,⟨[2,3],(.cons (.ptr 0 (.cons (.own false 229 yT5) .nil)) (.cons (.ptr 0 (.cons (.own false 229 yT5) .nil)) .nil))⟩)] Tryz.f171 (.cons (.agg (.cons (.il true yT5) .nil)) .nil) (.agg (.cons (.own false 229 yT5) .nil)) x=qGA k x:=by kernel_rfl
theorem e_s_l20Copy[Names](k:Nat):qAE Tryz.prog (E_s_l20Copy k):=qAD tok qAI (by kernel_rfl) (by kernel_rfl) (by kernel_rfl) fun x r h=>(t_s_l20Copy k x).trans h
def qCv(k:Nat)(x:(Int×Int×Int×ByteArray×ByteArray×Int×List (Int)×Int×Int×ByteArray×ByteArray×Int×List (Int)×Int×(List (Int×Int×Int×List (ByteArray)×List (Bool)×Int))×Int×Unit)×Unit):Option ((Int×Int×Int×ByteArray×ByteArray×Int×List (Int)×Int×Int×ByteArray×ByteArray×Int×List (Int)×Int×(List (Int×Int×Int×List (ByteArray)×List (Bool)×Int))×Int×Unit)×Unit×Unit):=
((qEu k ((x.1.2.2.1,(x.1.2.2.2.1,(x.1.2.2.2.2.1,(x.1.2.2.2.2.2.1,(x.1.2.2.2.2.2.2.1,(x.1.2.2.2.2.2.2.2.1,(x.1.2.2.2.2.2.2.2.2.1,(x.1.2.2.2.2.2.2.2.2.2.1,(x.1.2.2.2.2.2.2.2.2.2.2.1,(x.1.2.2.2.2.2.2.2.2.2.2.2.1,(x.1.2.2.2.2.2.2.2.2.2.2.2.2.1,(x.1.2.2.2.2.2.2.2.2.2.2.2.2.2.1,())))))))))))),())).bind fun p1 =>
((qGA k ((x.1.2.2.2.2.2.2.2.2.2.2.2.2.2.2.1,()),())).bind fun p2 =>
some ((x.1.1,(x.1.2.1,(p1.1.1,(p1.1.2.1,(p1.1.2.2.1,(p1.1.2.2.2.1,(p1.1.2.2.2.2.1,(p1.1.2.2.2.2.2.1,(p1.1.2.2.2.2.2.2.1,(p1.1.2.2.2.2.2.2.2.1,(p1.1.2.2.2.2.2.2.2.2.1,(p1.1.2.2.2.2.2.2.2.2.2.1,(p1.1.2.2.2.2.2.2.2.2.2.2.1,(p1.1.2.2.2.2.2.2.2.2.2.2.2.1,(p2.1.1,(x.1.2.2.2.2.2.2.2.2.2.2.2.2.2.2.2.1,())))))))))))))))),((),()))))
abbrev qGB(k:Nat):qAL:=⟨92,0,(.cons yP17 .nil),yP23,qCv k⟩
theorem t_s_l22CopyUser(k:Nat)(x):evF TTab k [qHe k,E_s_l20Copy k] [] Tryz.f92 (.cons yP17 .nil) yP23 x=qCv k x:=by kernel_rfl
theorem e_s_l22CopyUser[Names](k:Nat):qAE Tryz.prog (qGB k):=qAD tok (qAA (e_s_l17Copy k) (qAA (e_s_l20Copy k) qAI)) (by kernel_rfl) (by kernel_rfl) (by kernel_rfl) fun x r h=>(t_s_l22CopyUser k x).trans h
def qBE(k:Nat)(x:(List (Int×Int×((Int×ByteArray×ByteArray×Int×List (Int)×Int)×Int×ByteArray×ByteArray×Int×List (Int)×Int)×List (Int×Int×Int×List (ByteArray)×List (Bool)×Int)×Int))×Unit):Option ((List (Int×Int×((Int×ByteArray×ByteArray×Int×List (Int)×Int)×Int×ByteArray×ByteArray×Int×List (Int)×Int)×List (Int×Int×Int×List (ByteArray)×List (Bool)×Int)×Int))×Unit×Unit):=
(qAG (fun(rec0:((List (Int×Int×((Int×ByteArray×ByteArray×Int×List (Int)×Int)×Int×ByteArray×ByteArray×Int×List (Int)×Int)×List (Int×Int×Int×List (ByteArray)×List (Bool)×Int)×Int))×(List (Int×Int×((Int×ByteArray×ByteArray×Int×List (Int)×Int)×Int×ByteArray×ByteArray×Int×List (Int)×Int)×List (Int×Int×Int×List (ByteArray)×List (Bool)×Int)×Int))×Int×Unit)→Option _) (y0:(List (Int×Int×((Int×ByteArray×ByteArray×Int×List (Int)×Int)×Int×ByteArray×ByteArray×Int×List (Int)×Int)×List (Int×Int×Int×List (ByteArray)×List (Bool)×Int)×Int))×(List (Int×Int×((Int×ByteArray×ByteArray×Int×List (Int)×Int)×Int×ByteArray×ByteArray×Int×List (Int)×Int)×List (Int×Int×Int×List (ByteArray)×List (Bool)×Int)×Int))×Int×Unit) =>
(if(decide (y0.2.2.1<(List.length y0.1:Int)))=true then
(if 0≤y0.2.2.1∧y0.2.2.1<(List.length y0.1:Int) then
((qCv k (((Ty.rd (t:=yT0) y0.1 y0.2.2.1).1,((Ty.rd (t:=yT0) y0.1 y0.2.2.1).2.1,((Ty.rd (t:=yT0) y0.1 y0.2.2.1).2.2.1.1.1,((Ty.rd (t:=yT0) y0.1 y0.2.2.1).2.2.1.1.2.1,((Ty.rd (t:=yT0) y0.1 y0.2.2.1).2.2.1.1.2.2.1,((Ty.rd (t:=yT0) y0.1 y0.2.2.1).2.2.1.1.2.2.2.1,((Ty.rd (t:=yT0) y0.1 y0.2.2.1).2.2.1.1.2.2.2.2.1,((Ty.rd (t:=yT0) y0.1 y0.2.2.1).2.2.1.1.2.2.2.2.2,((Ty.rd (t:=yT0) y0.1 y0.2.2.1).2.2.1.2.1,((Ty.rd (t:=yT0) y0.1 y0.2.2.1).2.2.1.2.2.1,((Ty.rd (t:=yT0) y0.1 y0.2.2.1).2.2.1.2.2.2.1,((Ty.rd (t:=yT0) y0.1 y0.2.2.1).2.2.1.2.2.2.2.1,((Ty.rd (t:=yT0) y0.1 y0.2.2.1).2.2.1.2.2.2.2.2.1,((Ty.rd (t:=yT0) y0.1 y0.2.2.1).2.2.1.2.2.2.2.2.2,((Ty.rd (t:=yT0) y0.1 y0.2.2.1).2.2.2.1,((Ty.rd (t:=yT0) y0.1 y0.2.2.1).2.2.2.2,())))))))))))))))),())).bind fun p1 =>
(if List.length y0.2.1+List.length ([(p1.1.1,(p1.1.2.1,(((p1.1.2.2.1,(p1.1.2.2.2.1,(p1.1.2.2.2.2.1,(p1.1.2.2.2.2.2.1,(p1.1.2.2.2.2.2.2.1,p1.1.2.2.2.2.2.2.2.1))))),(p1.1.2.2.2.2.2.2.2.2.1,(p1.1.2.2.2.2.2.2.2.2.2.1,(p1.1.2.2.2.2.2.2.2.2.2.2.1,(p1.1.2.2.2.2.2.2.2.2.2.2.2.1,(p1.1.2.2.2.2.2.2.2.2.2.2.2.2.1,p1.1.2.2.2.2.2.2.2.2.2.2.2.2.2.1)))))),(p1.1.2.2.2.2.2.2.2.2.2.2.2.2.2.2.1,p1.1.2.2.2.2.2.2.2.2.2.2.2.2.2.2.2.1))))]:List (Int×Int×((Int×ByteArray×ByteArray×Int×List (Int)×Int)×Int×ByteArray×ByteArray×Int×List (Int)×Int)×List (Int×Int×Int×List (ByteArray)×List (Bool)×Int)×Int))≤capMax then
(rec0 (y0.1,((y0.2.1++([(p1.1.1,(p1.1.2.1,(((p1.1.2.2.1,(p1.1.2.2.2.1,(p1.1.2.2.2.2.1,(p1.1.2.2.2.2.2.1,(p1.1.2.2.2.2.2.2.1,p1.1.2.2.2.2.2.2.2.1))))),(p1.1.2.2.2.2.2.2.2.2.1,(p1.1.2.2.2.2.2.2.2.2.2.1,(p1.1.2.2.2.2.2.2.2.2.2.2.1,(p1.1.2.2.2.2.2.2.2.2.2.2.2.1,(p1.1.2.2.2.2.2.2.2.2.2.2.2.2.1,p1.1.2.2.2.2.2.2.2.2.2.2.2.2.2.1)))))),(p1.1.2.2.2.2.2.2.2.2.2.2.2.2.2.2.1,p1.1.2.2.2.2.2.2.2.2.2.2.2.2.2.2.2.1))))]:List (Int×Int×((Int×ByteArray×ByteArray×Int×List (Int)×Int)×Int×ByteArray×ByteArray×Int×List (Int)×Int)×List (Int×Int×Int×List (ByteArray)×List (Bool)×Int)×Int))),((wi64 (y0.2.2.1+(1:Int))),()))))
else none))
else none)
else
((fun(z1:(List (Int×Int×((Int×ByteArray×ByteArray×Int×List (Int)×Int)×Int×ByteArray×ByteArray×Int×List (Int)×Int)×List (Int×Int×Int×List (ByteArray)×List (Bool)×Int)×Int))×Unit) =>
some (z1.1,((),()))) (y0.2.1,())))) k (x.1,(([]:List (Int×Int×((Int×ByteArray×ByteArray×Int×List (Int)×Int)×Int×ByteArray×ByteArray×Int×List (Int)×Int)×List (Int×Int×Int×List (ByteArray)×List (Bool)×Int)×Int)),((0:Int),()))))
abbrev qB3(k:Nat):qAL:=⟨66,0,(.cons (.il true yT0) .nil),(.own false 45 yT0),qBE k⟩
theorem t_s_l22CopyUsers(k:Nat)(x):evF TTab k [qGB k] [(0,⟨[0,3,4],(.cons (.il true yT0) (.cons (.own false 45 yT0) yP4))⟩,⟨[3],(.cons (.own false 45 yT0) .nil)⟩)] Tryz.f66 (.cons (.il true yT0) .nil) (.own false 45 yT0) x=qBE k x:=by kernel_rfl
theorem qCd[Names](k:Nat):qAE Tryz.prog (qB3 k):=qAD tok (qAA (e_s_l22CopyUser k) qAI) (by kernel_rfl) (by kernel_rfl) (by kernel_rfl) fun x r h=>(t_s_l22CopyUsers k x).trans h
def qD7(k:Nat)(x:(Int×Int×(List (Int×Int×Int))×(List (Int×Int))×Unit)×Unit):Option ((Int×Int×(List (Int×Int×Int))×(List (Int×Int))×Unit)×Unit×Unit):=
(if List.length ([]:List (Int×Int×Int))+List.length x.1.2.2.1≤capMax then
(if List.length ([]:List (Int×Int))+List.length x.1.2.2.2.1≤capMax then
some ((x.1.1,(x.1.2.1,((([]:List (Int×Int×Int))++x.1.2.2.1),((([]:List (Int×Int))++x.1.2.2.2.1),())))),((),()))
else none)
else none)
abbrev qFL(k:Nat):qAL:=⟨144,0,(.cons (.agg yP6) .nil),(.agg yP9),qD7 k⟩
theorem t_s_l11Copy(k:Nat)(x):evF TTab k [] [] Tryz.f144 (.cons (.agg yP6) .nil) (.agg yP9) x=qD7 k x:=by kernel_rfl
theorem qHg[Names](k:Nat):qAE Tryz.prog (qFL k):=qAD tok qAI (by kernel_rfl) (by kernel_rfl) (by kernel_rfl) fun x r h=>(t_s_l11Copy k x).trans h
def qDU(k:Nat)(x:(Int×Int×(List (Int×Int×Int))×(List (Int×Int))×(List ((Int×Int)×Int))×(List (Int×Int×((Int×ByteArray×ByteArray×Int×List (Int)×Int)×Int×ByteArray×ByteArray×Int×List (Int)×Int)×List (Int×Int×Int×List (ByteArray)×List (Bool)×Int)×Int))×Unit)×Unit):Option ((Int×Int×(List (Int×Int×Int))×(List (Int×Int))×(List ((Int×Int)×Int))×(List (Int×Int×((Int×ByteArray×ByteArray×Int×List (Int)×Int)×Int×ByteArray×ByteArray×Int×List (Int)×Int)×List (Int×Int×Int×List (ByteArray)×List (Bool)×Int)×Int))×Unit)×Unit×Unit):=
((qD7 k ((x.1.1,(x.1.2.1,(x.1.2.2.1,(x.1.2.2.2.1,())))),())).bind fun p1 =>
(if List.length ([]:List ((Int×Int)×Int))+List.length x.1.2.2.2.2.1≤capMax then
((qBE k (x.1.2.2.2.2.2.1,())).bind fun p2 =>
some ((p1.1.1,(p1.1.2.1,(p1.1.2.2.1,(p1.1.2.2.2.1,((([]:List ((Int×Int)×Int))++x.1.2.2.2.2.1),(p2.1,())))))),((),())))
else none))
abbrev qD8(k:Nat):qAL:=⟨61,0,(.cons yP14 .nil),(.agg yP19),qDU k⟩
theorem t_s_l22Copy(k:Nat)(x):evF TTab k [qB3 k,qFL k] [] Tryz.f61 (.cons yP14 .nil) (.agg yP19) x=qDU k x:=by kernel_rfl
theorem qFM[Names](k:Nat):qAE Tryz.prog (qD8 k):=qAD tok (qAA (qCd k) (qAA (qHg k) qAI)) (by kernel_rfl) (by kernel_rfl) (by kernel_rfl) fun x r h=>(t_s_l22Copy k x).trans h
def qGC(k:Nat)(x:(List (Int×Int×((Int×ByteArray×ByteArray×Int×List (Int)×Int)×Int×ByteArray×ByteArray×Int×List (Int)×Int)×List (Int×Int×Int×List (ByteArray)×List (Bool)×Int)×Int))×Int×Unit):Option (Int×Unit×Unit×Unit):=
(qAG (fun(rec0:((List (Int×Int×((Int×ByteArray×ByteArray×Int×List (Int)×Int)×Int×ByteArray×ByteArray×Int×List (Int)×Int)×List (Int×Int×Int×List (ByteArray)×List (Bool)×Int)×Int))×Int×Int×Unit)→Option _) (y0:(List (Int×Int×((Int×ByteArray×ByteArray×Int×List (Int)×Int)×Int×ByteArray×ByteArray×Int×List (Int)×Int)×List (Int×Int×Int×List (ByteArray)×List (Bool)×Int)×Int))×Int×Int×Unit) =>
(if(decide (y0.2.2.1<(List.length y0.1:Int)))=true then
(if 0≤y0.2.2.1∧y0.2.2.1<(List.length y0.1:Int) then
(if(decide ((Ty.rd (t:=yT0) y0.1 y0.2.2.1).1=y0.2.1))=true then
some (y0.2.2.1,((),((),())))
else
(rec0 (y0.1,(y0.2.1,((wi64 (y0.2.2.1+(1:Int))),())))))
else none)
else
((fun(z1:Unit) =>
some ((-1:Int),((),((),())))) ()))) k (x.1,(x.2.1,((0:Int),()))))
abbrev qGD(k:Nat):qAL:=⟨63,0,(.cons (.il true yT0) yP4),(.int .i64),qGC k⟩
theorem t_s_l22At(k:Nat)(x):evF TTab k [] [(0,⟨[0,1,5],(.cons (.il true yT0) (.cons (.int .i64) yP4))⟩,⟨[],.nil⟩)] Tryz.f63 (.cons (.il true yT0) yP4) (.int .i64) x=qGC k x:=by kernel_rfl
theorem qIG[Names](k:Nat):qAE Tryz.prog (qGD k):=qAD tok qAI (by kernel_rfl) (by kernel_rfl) (by kernel_rfl) fun x r h=>(t_s_l22At k x).trans h
def qCw(k:Nat)(x:Int×Unit):Option (Int×Unit×Unit):=
(qAG (fun(rec0:(Int×Int×Unit)→Option _) (y0:Int×Int×Unit) =>
(if(decide (y0.2.1<(32:Int)))=true then
(rec0 ((wi64 ((2:Int)*y0.1)),((wi64 (y0.2.1+(1:Int))),())))
else
((fun(z1:Int×Unit) =>
some (z1.1,((),()))) (y0.1,())))) k ((1:Int),(x.1,())))
abbrev qC8(k:Nat):qAL:=⟨234,0,yP4,(.int .i64),qCw k⟩
theorem t_s_l08Size(k:Nat)(x):evF TTab k [] [(0,⟨[3,4],(.cons (.int .i64) yP4)⟩,⟨[3],yP4⟩)] Tryz.f234 yP4 (.int .i64) x=qCw k x:=by kernel_rfl
theorem qD9[Names](k:Nat):qAE Tryz.prog (qC8 k):=qAD tok qAI (by kernel_rfl) (by kernel_rfl) (by kernel_rfl) fun x r h=>(t_s_l08Size k x).trans h
def qFN(k:Nat)(x:Int×Unit):Option (Bool×Unit×Unit):=
((qBk k (x.1,((0:Int),((4294967295:Int),())))).bind fun p1 =>
some (p1.1,((),())))
abbrev qGw(k:Nat):qAL:=⟨248,0,yP4,.bool,qFN k⟩
theorem t_s_AddrOk(k:Nat)(x):evF TTab k [qBt k] [] Tryz.f248 yP4 .bool x=qFN k x:=by kernel_rfl
theorem e_s_AddrOk[Names](k:Nat):qAE Tryz.prog (qGw k):=qAD tok (qAA (qB2 k) qAI) (by kernel_rfl) (by kernel_rfl) (by kernel_rfl) fun x r h=>(t_s_AddrOk k x).trans h
def qC9(k:Nat)(x:(Int×Int×Unit)×Unit):Option (Bool×Unit×Unit):=
((qFN k (x.1.1,())).bind fun p1 =>
(if p1.1=true then
((qBk k (x.1.2.1,((0:Int),((32:Int),())))).bind fun p2 =>
(if p2.1=true then
((qCw k (x.1.2.1,())).bind fun p3 =>
(if p3.1=0 then
none
else
some ((decide ((Int.tmod x.1.1 p3.1)=(0:Int))),((),()))))
else
some (false,((),()))))
else
some (false,((),()))))
abbrev qEU(k:Nat):qAL:=⟨231,0,(.cons yP27 .nil),.bool,qC9 k⟩
theorem t_s_PrefixOk(k:Nat)(x):evF TTab k [qBt k,qC8 k,qGw k] [] Tryz.f231 (.cons yP27 .nil) .bool x=qC9 k x:=by kernel_rfl
theorem qGE[Names](k:Nat):qAE Tryz.prog (qEU k):=qAD tok (qAA (qB2 k) (qAA (qD9 k) (qAA (e_s_AddrOk k) qAI))) (by kernel_rfl) (by kernel_rfl) (by kernel_rfl) fun x r h=>(t_s_PrefixOk k x).trans h
def qEw(k:Nat)(x:(Int×Int×Unit)×Int×Unit):Option (Bool×Unit×Unit×Unit):=
((qC9 k ((x.1.1,(x.1.2.1,())),())).bind fun p1 =>
(if p1.1=true then
((qFN k (x.2.1,())).bind fun p2 =>
(if p2.1=true then
((qCw k (x.1.2.1,())).bind fun p3 =>
(if p3.1=0 then
none
else
some ((decide ((wi64 (x.2.1-(Int.tmod x.2.1 p3.1)))=x.1.1)),((),((),())))))
else
some (false,((),((),())))))
else
some (false,((),((),())))))
abbrev E_s_InPrefix(k:Nat):qAL:=⟨287,0,(.cons yP27 yP4),.bool,qEw k⟩
theorem t_s_InPrefix(k:Nat)(x):evF TTab k [qEU k,qC8 k,qGw k] [] Tryz.f287 (.cons yP27 yP4) .bool x=qEw k x:=by kernel_rfl
theorem e_s_InPrefix[Names](k:Nat):qAE Tryz.prog (E_s_InPrefix k):=qAD tok (qAA (qGE k) (qAA (qD9 k) (qAA (e_s_AddrOk k) qAI))) (by kernel_rfl) (by kernel_rfl) (by kernel_rfl) fun x r h=>(t_s_InPrefix k x).trans h
def qDA(k:Nat)(x:(Int×Int×(List (Int×Int×Int))×(List (Int×Int))×Unit)×Int×Unit):Option (Bool×Unit×Unit×Unit):=
((qEw k ((x.1.1,(x.1.2.1,())),(x.2.1,()))).bind fun p1 =>
(if p1.1=true then
(if(!decide (x.2.1=x.1.1))=true then
((qCw k (x.1.2.1,())).bind fun p2 =>
some ((!decide (x.2.1=(wi64 ((wi64 (x.1.1+p2.1))-(1:Int))))),((),((),()))))
else
some (false,((),((),()))))
else
some (false,((),((),())))))
abbrev qIH(k:Nat):qAL:=⟨232,0,(.cons (.agg yP6) yP4),.bool,qDA k⟩
theorem t_s_l11Inside(k:Nat)(x):evF TTab k [qC8 k,E_s_InPrefix k] [] Tryz.f232 (.cons (.agg yP6) yP4) .bool x=qDA k x:=by kernel_rfl
theorem e_s_l11Inside[Names](k:Nat):qAE Tryz.prog (qIH k):=qAD tok (qAA (qD9 k) (qAA (e_s_InPrefix k) qAI)) (by kernel_rfl) (by kernel_rfl) (by kernel_rfl) fun x r h=>(t_s_l11Inside k x).trans h
def qBZ(k:Nat)(x:(Int×Int×(List (Int×Int×Int))×(List (Int×Int))×Unit)×Int×Unit):Option (Int×Unit×Unit×Unit):=
(qAG (fun(rec0:(Int×(Int×Int×(List (Int×Int×Int))×(List (Int×Int))×Unit)×Int×Unit)→Option _) (y0:Int×(Int×Int×(List (Int×Int×Int))×(List (Int×Int))×Unit)×Int×Unit) =>
(if(decide (y0.2.2.1<(List.length y0.2.1.2.2.2.1:Int)))=true then
(if 0≤y0.2.2.1∧y0.2.2.1<(List.length y0.2.1.2.2.2.1:Int) then
(if(decide ((Ty.rd (t:=yT3) y0.2.1.2.2.2.1 y0.2.2.1).2=y0.1))=true then
(if 0≤y0.2.2.1∧y0.2.2.1<(List.length y0.2.1.2.2.2.1:Int) then
some ((Ty.rd (t:=yT3) y0.2.1.2.2.2.1 y0.2.2.1).1,((),((),())))
else none)
else
(rec0 (y0.1,((y0.2.1.1,(y0.2.1.2.1,(y0.2.1.2.2.1,(y0.2.1.2.2.2.1,())))),((wi64 (y0.2.2.1+(1:Int))),())))))
else none)
else
((fun(z1:Unit) =>
some ((0:Int),((),((),())))) ()))) k (x.2.1,((x.1.1,(x.1.2.1,(x.1.2.2.1,(x.1.2.2.2.1,())))),((0:Int),()))))
abbrev qEA(k:Nat):qAL:=⟨233,0,(.cons (.agg yP6) yP4),(.int .i64),qBZ k⟩
theorem t_s_l11FixedFor(k:Nat)(x):evF TTab k [] [(0,⟨[1,2,5],(.cons (.int .i64) (.cons (.ptr 0 yP6) yP4))⟩,⟨[],.nil⟩)] Tryz.f233 (.cons (.agg yP6) yP4) (.int .i64) x=qBZ k x:=by kernel_rfl
theorem qGF[Names](k:Nat):qAE Tryz.prog (qEA k):=qAD tok qAI (by kernel_rfl) (by kernel_rfl) (by kernel_rfl) fun x r h=>(t_s_l11FixedFor k x).trans h
def qFO(k:Nat)(x:(Int×Int×(List (Int×Int×Int))×(List (Int×Int))×Unit)×Unit):Option (Bool×Unit×Unit):=
((qC9 k ((x.1.1,(x.1.2.1,())),())).bind fun p1 =>
(if(!p1.1)=false then
((qBk k (x.1.2.1,((24:Int),((30:Int),())))).bind fun p2 =>
(if(!p2.1)=false then
(if(decide ((6:Int)<(List.length x.1.2.2.1:Int)))=false then
(if(decide ((4:Int)<(List.length x.1.2.2.2.1:Int)))=true then
some (false,((),()))
else
(qAG (fun(rec0:((Int×Int×(List (Int×Int×Int))×(List (Int×Int))×Unit)×Int×Unit)→Option _) (y0:(Int×Int×(List (Int×Int×Int))×(List (Int×Int))×Unit)×Int×Unit) =>
(if(decide (y0.2.1<(List.length y0.1.2.2.2.1:Int)))=true then
(if 0≤y0.2.1∧y0.2.1<(List.length y0.1.2.2.2.1:Int) then
((qBk k ((Ty.rd (t:=yT3) y0.1.2.2.2.1 y0.2.1).1,((1:Int),((99:Int),())))).bind fun p3 =>
(if(!p3.1)=false then
((qDA k ((y0.1.1,(y0.1.2.1,(y0.1.2.2.1,(y0.1.2.2.2.1,())))),((Ty.rd (t:=yT3) y0.1.2.2.2.1 y0.2.1).2,()))).bind fun p4 =>
(if(!p4.1)=false then
(if(decide ((0:Int)<y0.2.1))=true then
(if 0≤(wi64 (y0.2.1-(1:Int)))∧(wi64 (y0.2.1-(1:Int)))<(List.length y0.1.2.2.2.1:Int) then
(if(decide ((Ty.rd (t:=yT3) y0.1.2.2.2.1 y0.2.1).1≤(Ty.rd (t:=yT3) y0.1.2.2.2.1 (wi64 (y0.2.1-(1:Int)))).1))=false then
((qBZ k ((y0.1.1,(y0.1.2.1,(y0.1.2.2.1,(y0.1.2.2.2.1,())))),((Ty.rd (t:=yT3) y0.1.2.2.2.1 y0.2.1).2,()))).bind fun p5 =>
(if(!decide (p5.1=(Ty.rd (t:=yT3) y0.1.2.2.2.1 y0.2.1).1))=true then
some (false,((),()))
else
(rec0 ((y0.1.1,(y0.1.2.1,(y0.1.2.2.1,(y0.1.2.2.2.1,())))),((wi64 (y0.2.1+(1:Int))),())))))
else
some (false,((),())))
else none)
else
((qBZ k ((y0.1.1,(y0.1.2.1,(y0.1.2.2.1,(y0.1.2.2.2.1,())))),((Ty.rd (t:=yT3) y0.1.2.2.2.1 y0.2.1).2,()))).bind fun p6 =>
(if(!decide (p6.1=(Ty.rd (t:=yT3) y0.1.2.2.2.1 y0.2.1).1))=true then
some (false,((),()))
else
(rec0 ((y0.1.1,(y0.1.2.1,(y0.1.2.2.1,(y0.1.2.2.2.1,())))),((wi64 (y0.2.1+(1:Int))),()))))))
else
some (false,((),()))))
else
some (false,((),()))))
else none)
else
((fun(z1:(Int×Int×(List (Int×Int×Int))×(List (Int×Int))×Unit)×Unit) =>
(qAG (fun(rec2:((Int×Int×(List (Int×Int×Int))×(List (Int×Int))×Unit)×Int×Unit)→Option _) (y2:(Int×Int×(List (Int×Int×Int))×(List (Int×Int))×Unit)×Int×Unit) =>
(if(decide (y2.2.1<(List.length y2.1.2.2.1:Int)))=true then
(if 0≤y2.2.1∧y2.2.1<(List.length y2.1.2.2.1:Int) then
(jn (
((qBZ k ((y2.1.1,(y2.1.2.1,(y2.1.2.2.1,(y2.1.2.2.2.1,())))),((Ty.rd (t:=(.pair (.int .i64) yT3)) y2.1.2.2.1 y2.2.1).1,()))).bind fun p11 =>
(jn (
(qAG (fun(rec4:((Int×Int×(List (Int×Int×Int))×(List (Int×Int))×Unit)×Int×(Int×Int×Int×Unit)×Int×Unit)→Option _) (y4:(Int×Int×(List (Int×Int×Int))×(List (Int×Int))×Unit)×Int×(Int×Int×Int×Unit)×Int×Unit) =>
(if(decide (y4.2.2.2.1<y4.2.1))=true then
(if 0≤y4.2.2.2.1∧y4.2.2.2.1<(List.length y4.1.2.2.1:Int) then
(if(decide ((Ty.rd (t:=(.pair (.int .i64) yT3)) y4.1.2.2.1 y4.2.2.2.1).2.1=y4.2.2.1.2.1))=true then
some (false,((),()))
else
(rec4 ((y4.1.1,(y4.1.2.1,(y4.1.2.2.1,(y4.1.2.2.2.1,())))),(y4.2.1,((y4.2.2.1.1,(y4.2.2.1.2.1,(y4.2.2.1.2.2.1,()))),((wi64 (y4.2.2.2.1+(1:Int))),()))))))
else none)
else
((fun(z5:(Int×Int×(List (Int×Int×Int))×(List (Int×Int))×Unit)×Int×Unit) =>
(rec2 ((z5.1.1,(z5.1.2.1,(z5.1.2.2.1,(z5.1.2.2.2.1,())))),((wi64 (z5.2.1+(1:Int))),())))) ((y4.1.1,(y4.1.2.1,(y4.1.2.2.1,(y4.1.2.2.2.1,())))),(y4.2.1,()))))) k ((y2.1.1,(y2.1.2.1,(y2.1.2.2.1,(y2.1.2.2.2.1,())))),(y2.2.1,(((Ty.rd (t:=(.pair (.int .i64) yT3)) y2.1.2.2.1 y2.2.1).1,((Ty.rd (t:=(.pair (.int .i64) yT3)) y2.1.2.2.1 y2.2.1).2.1,((Ty.rd (t:=(.pair (.int .i64) yT3)) y2.1.2.2.1 y2.2.1).2.2,()))),((0:Int),())))))) (fun(j3:Option _) =>
(if(!decide (p11.1=(0:Int)))=true then
(if(!decide (p11.1=(Ty.rd (t:=(.pair (.int .i64) yT3)) y2.1.2.2.1 y2.2.1).2.1))=true then
some (false,((),()))
else
j3)
else
j3))))) (fun(j2:Option _) =>
((qDA k ((y2.1.1,(y2.1.2.1,(y2.1.2.2.1,(y2.1.2.2.2.1,())))),((Ty.rd (t:=(.pair (.int .i64) yT3)) y2.1.2.2.1 y2.2.1).1,()))).bind fun p7 =>
(if(!p7.1)=false then
((qBk k ((Ty.rd (t:=(.pair (.int .i64) yT3)) y2.1.2.2.1 y2.2.1).2.1,((1:Int),((99:Int),())))).bind fun p8 =>
(if(!p8.1)=false then
((qBk k ((Ty.rd (t:=(.pair (.int .i64) yT3)) y2.1.2.2.1 y2.2.1).2.2,((0:Int),((1000000000:Int),())))).bind fun p9 =>
(if(!p9.1)=false then
(if(decide ((0:Int)<y2.2.1))=true then
(if 0≤(wi64 (y2.2.1-(1:Int)))∧(wi64 (y2.2.1-(1:Int)))<(List.length y2.1.2.2.1:Int) then
(if(decide ((Ty.rd (t:=(.pair (.int .i64) yT3)) y2.1.2.2.1 y2.2.1).1≤(Ty.rd (t:=(.pair (.int .i64) yT3)) y2.1.2.2.1 (wi64 (y2.2.1-(1:Int)))).1))=true then
some (false,((),()))
else
j2)
else none)
else
j2)
else
some (false,((),()))))
else
some (false,((),()))))
else
some (false,((),()))))))
else none)
else
((fun(z6:Unit) =>
some (true,((),()))) ()))) k ((z1.1.1,(z1.1.2.1,(z1.1.2.2.1,(z1.1.2.2.2.1,())))),((0:Int),())))) ((y0.1.1,(y0.1.2.1,(y0.1.2.2.1,(y0.1.2.2.2.1,())))),())))) k ((x.1.1,(x.1.2.1,(x.1.2.2.1,(x.1.2.2.2.1,())))),((0:Int),()))))
else
some (false,((),())))
else
some (false,((),()))))
else
some (false,((),()))))
abbrev qGx(k:Nat):qAL:=⟨145,0,(.cons (.agg yP6) .nil),.bool,qFO k⟩
theorem t_s_PoolOk(k:Nat)(x):evF TTab k [qBt k,qEU k,qIH k,qEA k] [(0,⟨[1,3],(.cons (.ptr 0 yP6) yP4)⟩,⟨[1],(.cons (.ptr 0 yP6) .nil)⟩),(2,⟨[1,5],(.cons (.ptr 0 yP6) yP4)⟩,⟨[],.nil⟩),(4,⟨[1,5,6,8],(.cons (.ptr 0 yP6) (.cons (.int .i64) (.cons (.ptr 0 yP22) yP4)))⟩,⟨[1,5],(.cons (.ptr 0 yP6) yP4)⟩)] Tryz.f145 (.cons (.agg yP6) .nil) .bool x=qFO k x:=by kernel_rfl
theorem e_s_PoolOk[Names](k:Nat):qAE Tryz.prog (qGx k):=qAD tok (qAA (qB2 k) (qAA (qGE k) (qAA (e_s_l11Inside k) (qAA (qGF k) qAI)))) (by kernel_rfl) (by kernel_rfl) (by kernel_rfl) fun x r h=>(t_s_PoolOk k x).trans h
def qCm(k:Nat)(x:(Int×Int×(List (Int×Int×Int))×(List (Int×Int))×Unit)×Int×Unit):Option (Int×Unit×Unit×Unit):=
(qAG (fun(rec0:(Int×(Int×Int×(List (Int×Int×Int))×(List (Int×Int))×Unit)×Int×Unit)→Option _) (y0:Int×(Int×Int×(List (Int×Int×Int))×(List (Int×Int))×Unit)×Int×Unit) =>
(if(decide (y0.2.2.1<(List.length y0.2.1.2.2.1:Int)))=true then
(if 0≤y0.2.2.1∧y0.2.2.1<(List.length y0.2.1.2.2.1:Int) then
(if(decide ((Ty.rd (t:=(.pair (.int .i64) yT3)) y0.2.1.2.2.1 y0.2.2.1).1=y0.1))=true then
(if 0≤y0.2.2.1∧y0.2.2.1<(List.length y0.2.1.2.2.1:Int) then
some ((Ty.rd (t:=(.pair (.int .i64) yT3)) y0.2.1.2.2.1 y0.2.2.1).2.1,((),((),())))
else none)
else
(rec0 (y0.1,((y0.2.1.1,(y0.2.1.2.1,(y0.2.1.2.2.1,(y0.2.1.2.2.2.1,())))),((wi64 (y0.2.2.1+(1:Int))),())))))
else none)
else
((fun(z1:Unit) =>
some ((0:Int),((),((),())))) ()))) k (x.2.1,((x.1.1,(x.1.2.1,(x.1.2.2.1,(x.1.2.2.2.1,())))),((0:Int),()))))
abbrev qGG(k:Nat):qAL:=⟨18,0,(.cons (.agg yP6) yP4),(.int .i64),qCm k⟩
theorem t_s_HolderOf(k:Nat)(x):evF TTab k [] [(0,⟨[1,2,5],(.cons (.int .i64) (.cons (.ptr 0 yP6) yP4))⟩,⟨[],.nil⟩)] Tryz.f18 (.cons (.agg yP6) yP4) (.int .i64) x=qCm k x:=by kernel_rfl
theorem e_s_HolderOf[Names](k:Nat):qAE Tryz.prog (qGG k):=qAD tok qAI (by kernel_rfl) (by kernel_rfl) (by kernel_rfl) fun x r h=>(t_s_HolderOf k x).trans h
def qGH(k:Nat)(x:(Int×Int×(List (Int×Int×Int))×(List (Int×Int))×Unit)×Int×Unit):Option (Int×Unit×Unit×Unit):=
(qAG (fun(rec0:(Int×(Int×Int×(List (Int×Int×Int))×(List (Int×Int))×Unit)×Int×Unit)→Option _) (y0:Int×(Int×Int×(List (Int×Int×Int))×(List (Int×Int))×Unit)×Int×Unit) =>
(if(decide (y0.2.2.1<(List.length y0.2.1.2.2.2.1:Int)))=true then
(if 0≤y0.2.2.1∧y0.2.2.1<(List.length y0.2.1.2.2.2.1:Int) then
(if(decide ((Ty.rd (t:=yT3) y0.2.1.2.2.2.1 y0.2.2.1).1=y0.1))=true then
(if 0≤y0.2.2.1∧y0.2.2.1<(List.length y0.2.1.2.2.2.1:Int) then
some ((Ty.rd (t:=yT3) y0.2.1.2.2.2.1 y0.2.2.1).2,((),((),())))
else none)
else
(rec0 (y0.1,((y0.2.1.1,(y0.2.1.2.1,(y0.2.1.2.2.1,(y0.2.1.2.2.2.1,())))),((wi64 (y0.2.2.1+(1:Int))),())))))
else none)
else
((fun(z1:(Int×Int×(List (Int×Int×Int))×(List (Int×Int))×Unit)×Unit) =>
(qAG (fun(rec2:((Int×Int×(List (Int×Int×Int))×(List (Int×Int))×Unit)×Int×Unit)→Option _) (y2:(Int×Int×(List (Int×Int×Int))×(List (Int×Int))×Unit)×Int×Unit) =>
((qCw k (y2.1.2.1,())).bind fun p1 =>
(if(decide (y2.2.1<(wi64 ((wi64 (y2.1.1+p1.1))-(1:Int)))))=true then
((qCm k ((y2.1.1,(y2.1.2.1,(y2.1.2.2.1,(y2.1.2.2.2.1,())))),(y2.2.1,()))).bind fun p2 =>
(if(decide (p2.1=(0:Int)))=true then
((qBZ k ((y2.1.1,(y2.1.2.1,(y2.1.2.2.1,(y2.1.2.2.2.1,())))),(y2.2.1,()))).bind fun p3 =>
(if(decide (p3.1=(0:Int)))=true then
some (y2.2.1,((),((),())))
else
(rec2 ((y2.1.1,(y2.1.2.1,(y2.1.2.2.1,(y2.1.2.2.2.1,())))),((wi64 (y2.2.1+(1:Int))),())))))
else
(rec2 ((y2.1.1,(y2.1.2.1,(y2.1.2.2.1,(y2.1.2.2.2.1,())))),((wi64 (y2.2.1+(1:Int))),())))))
else
((fun(z2:Unit) =>
some ((0:Int),((),((),())))) ())))) k ((z1.1.1,(z1.1.2.1,(z1.1.2.2.1,(z1.1.2.2.2.1,())))),((wi64 (z1.1.1+(1:Int))),())))) ((y0.2.1.1,(y0.2.1.2.1,(y0.2.1.2.2.1,(y0.2.1.2.2.2.1,())))),())))) k (x.2.1,((x.1.1,(x.1.2.1,(x.1.2.2.1,(x.1.2.2.2.1,())))),((0:Int),()))))
abbrev E_s_l11Free(k:Nat):qAL:=⟨146,0,(.cons (.agg yP6) yP4),(.int .i64),qGH k⟩
theorem t_s_l11Free(k:Nat)(x):evF TTab k [qGG k,qEA k,qC8 k] [(0,⟨[1,2,5],(.cons (.int .i64) (.cons (.ptr 0 yP6) yP4))⟩,⟨[2],(.cons (.ptr 0 yP6) .nil)⟩),(2,⟨[2,6],(.cons (.ptr 0 yP6) yP4)⟩,⟨[],.nil⟩)] Tryz.f146 (.cons (.agg yP6) yP4) (.int .i64) x=qGH k x:=by kernel_rfl
theorem e_s_l11Free[Names](k:Nat):qAE Tryz.prog (E_s_l11Free k):=qAD tok (qAA (e_s_HolderOf k) (qAA (qGF k) (qAA (qD9 k) qAI))) (by kernel_rfl) (by kernel_rfl) (by kernel_rfl) fun x r h=>(t_s_l11Free k x).trans h
def s_Grant(k:Nat)(x:(Int×Int×(List (Int×Int×Int))×(List (Int×Int))×Unit)×Int×Int×Unit):Option (((Int×Int×(List (Int×Int×Int))×(List (Int×Int))×Unit)×Int×Bool×Unit)×Unit×Unit×Unit×Unit):=
((qD7 k ((x.1.1,(x.1.2.1,(x.1.2.2.1,(x.1.2.2.2.1,())))),())).bind fun p1 =>
((qFO k ((x.1.1,(x.1.2.1,(x.1.2.2.1,(x.1.2.2.2.1,())))),())).bind fun p2 =>
(if(!p2.1)=false then
((qBk k (x.2.1,((1:Int),((99:Int),())))).bind fun p3 =>
(if(!p3.1)=false then
((qBk k (x.2.2.1,((0:Int),((999999980:Int),())))).bind fun p4 =>
(if(!p4.1)=true then
some (((p1.1.1,(p1.1.2.1,(p1.1.2.2.1,(p1.1.2.2.2.1,())))),((0:Int),(false,()))),((),((),((),()))))
else
(qAG (fun(rec0:(Int×Int×(Int×Int×(List (Int×Int×Int))×(List (Int×Int))×Unit)×(Int×Int×(List (Int×Int×Int))×(List (Int×Int))×Unit)×(Int×Int×(List (Int×Int×Int))×(List (Int×Int))×Unit)×Int×Unit)→Option _) (y0:Int×Int×(Int×Int×(List (Int×Int×Int))×(List (Int×Int))×Unit)×(Int×Int×(List (Int×Int×Int))×(List (Int×Int))×Unit)×(Int×Int×(List (Int×Int×Int))×(List (Int×Int))×Unit)×Int×Unit) =>
(if(decide (y0.2.2.2.2.2.1<(List.length y0.2.2.2.2.1.2.2.1:Int)))=true then
(if 0≤y0.2.2.2.2.2.1∧y0.2.2.2.2.2.1<(List.length y0.2.2.2.2.1.2.2.1:Int) then
(if(decide ((Ty.rd (t:=(.pair (.int .i64) yT3)) y0.2.2.2.2.1.2.2.1 y0.2.2.2.2.2.1).2.1=y0.1))=true then
(if 0≤y0.2.2.2.2.2.1∧y0.2.2.2.2.2.1<(List.length y0.2.2.2.2.1.2.2.1:Int) then
(if 0≤y0.2.2.2.2.2.1∧y0.2.2.2.2.2.1<(List.length (List.set y0.2.2.2.2.1.2.2.1 (Int.toNat y0.2.2.2.2.2.1) ((Ty.rd (t:=(.pair (.int .i64) yT3)) y0.2.2.2.2.1.2.2.1 y0.2.2.2.2.2.1).1,((Ty.rd (t:=(.pair (.int .i64) yT3)) y0.2.2.2.2.1.2.2.1 y0.2.2.2.2.2.1).2.1,(wi64 (y0.2.1+(20:Int)))))):Int) then
some (((y0.2.2.2.2.1.1,(y0.2.2.2.2.1.2.1,((List.set y0.2.2.2.2.1.2.2.1 (Int.toNat y0.2.2.2.2.2.1) ((Ty.rd (t:=(.pair (.int .i64) yT3)) y0.2.2.2.2.1.2.2.1 y0.2.2.2.2.2.1).1,((Ty.rd (t:=(.pair (.int .i64) yT3)) y0.2.2.2.2.1.2.2.1 y0.2.2.2.2.2.1).2.1,(wi64 (y0.2.1+(20:Int)))))),(y0.2.2.2.2.1.2.2.2.1,())))),((Ty.rd (t:=(.pair (.int .i64) yT3)) (List.set y0.2.2.2.2.1.2.2.1 (Int.toNat y0.2.2.2.2.2.1) ((Ty.rd (t:=(.pair (.int .i64) yT3)) y0.2.2.2.2.1.2.2.1 y0.2.2.2.2.2.1).1,((Ty.rd (t:=(.pair (.int .i64) yT3)) y0.2.2.2.2.1.2.2.1 y0.2.2.2.2.2.1).2.1,(wi64 (y0.2.1+(20:Int)))))) y0.2.2.2.2.2.1).1,(true,()))),((),((),((),()))))
else none)
else none)
else
(rec0 (y0.1,(y0.2.1,((y0.2.2.1.1,(y0.2.2.1.2.1,(y0.2.2.1.2.2.1,(y0.2.2.1.2.2.2.1,())))),((y0.2.2.2.1.1,(y0.2.2.2.1.2.1,(y0.2.2.2.1.2.2.1,(y0.2.2.2.1.2.2.2.1,())))),((y0.2.2.2.2.1.1,(y0.2.2.2.2.1.2.1,(y0.2.2.2.2.1.2.2.1,(y0.2.2.2.2.1.2.2.2.1,())))),((wi64 (y0.2.2.2.2.2.1+(1:Int))),()))))))))
else none)
else
((fun(z1:Int×Int×(Int×Int×(List (Int×Int×Int))×(List (Int×Int))×Unit)×(Int×Int×(List (Int×Int×Int))×(List (Int×Int))×Unit)×(Int×Int×(List (Int×Int×Int))×(List (Int×Int))×Unit)×Unit) =>
((qGH k ((z1.2.2.1.1,(z1.2.2.1.2.1,(z1.2.2.1.2.2.1,(z1.2.2.1.2.2.2.1,())))),(z1.1,()))).bind fun p5 =>
(if(decide ((List.length z1.2.2.1.2.2.1:Int)=(6:Int)))=false then
(if(decide (p5.1=(0:Int)))=true then
some (((z1.2.2.2.2.1.1,(z1.2.2.2.2.1.2.1,(z1.2.2.2.2.1.2.2.1,(z1.2.2.2.2.1.2.2.2.1,())))),((0:Int),(false,()))),((),((),((),()))))
else
(qAG (fun(rec2:(Int×Int×(Int×Int×(List (Int×Int×Int))×(List (Int×Int))×Unit)×(Int×Int×(List (Int×Int×Int))×(List (Int×Int))×Unit)×(Int×Int×(List (Int×Int×Int))×(List (Int×Int))×Unit)×Int×(List (Int×Int×Int))×Int×Unit)→Option _) (y2:Int×Int×(Int×Int×(List (Int×Int×Int))×(List (Int×Int))×Unit)×(Int×Int×(List (Int×Int×Int))×(List (Int×Int))×Unit)×(Int×Int×(List (Int×Int×Int))×(List (Int×Int))×Unit)×Int×(List (Int×Int×Int))×Int×Unit) =>
(if(decide (y2.2.2.2.2.2.2.2.1<(List.length y2.2.2.1.2.2.1:Int)))=true then
(if 0≤y2.2.2.2.2.2.2.2.1∧y2.2.2.2.2.2.2.2.1<(List.length y2.2.2.1.2.2.1:Int) then
(if(decide ((Ty.rd (t:=(.pair (.int .i64) yT3)) y2.2.2.1.2.2.1 y2.2.2.2.2.2.2.2.1).1<y2.2.2.2.2.2.1))=true then
(if 0≤y2.2.2.2.2.2.2.2.1∧y2.2.2.2.2.2.2.2.1<(List.length y2.2.2.1.2.2.1:Int) then
(if List.length y2.2.2.2.2.2.2.1+List.length ([((Ty.rd (t:=(.pair (.int .i64) yT3)) y2.2.2.1.2.2.1 y2.2.2.2.2.2.2.2.1).1,((Ty.rd (t:=(.pair (.int .i64) yT3)) y2.2.2.1.2.2.1 y2.2.2.2.2.2.2.2.1).2.1,(Ty.rd (t:=(.pair (.int .i64) yT3)) y2.2.2.1.2.2.1 y2.2.2.2.2.2.2.2.1).2.2))]:List (Int×Int×Int))≤capMax then
(rec2 (y2.1,(y2.2.1,((y2.2.2.1.1,(y2.2.2.1.2.1,(y2.2.2.1.2.2.1,(y2.2.2.1.2.2.2.1,())))),((y2.2.2.2.1.1,(y2.2.2.2.1.2.1,(y2.2.2.2.1.2.2.1,(y2.2.2.2.1.2.2.2.1,())))),((y2.2.2.2.2.1.1,(y2.2.2.2.2.1.2.1,(y2.2.2.2.2.1.2.2.1,(y2.2.2.2.2.1.2.2.2.1,())))),(y2.2.2.2.2.2.1,((y2.2.2.2.2.2.2.1++([((Ty.rd (t:=(.pair (.int .i64) yT3)) y2.2.2.1.2.2.1 y2.2.2.2.2.2.2.2.1).1,((Ty.rd (t:=(.pair (.int .i64) yT3)) y2.2.2.1.2.2.1 y2.2.2.2.2.2.2.2.1).2.1,(Ty.rd (t:=(.pair (.int .i64) yT3)) y2.2.2.1.2.2.1 y2.2.2.2.2.2.2.2.1).2.2))]:List (Int×Int×Int))),((wi64 (y2.2.2.2.2.2.2.2.1+(1:Int))),())))))))))
else none)
else none)
else
(rec2 (y2.1,(y2.2.1,((y2.2.2.1.1,(y2.2.2.1.2.1,(y2.2.2.1.2.2.1,(y2.2.2.1.2.2.2.1,())))),((y2.2.2.2.1.1,(y2.2.2.2.1.2.1,(y2.2.2.2.1.2.2.1,(y2.2.2.2.1.2.2.2.1,())))),((y2.2.2.2.2.1.1,(y2.2.2.2.2.1.2.1,(y2.2.2.2.2.1.2.2.1,(y2.2.2.2.2.1.2.2.2.1,())))),(y2.2.2.2.2.2.1,(y2.2.2.2.2.2.2.1,((wi64 (y2.2.2.2.2.2.2.2.1+(1:Int))),()))))))))))
else none)
else
((fun(z2:Int×Int×(Int×Int×(List (Int×Int×Int))×(List (Int×Int))×Unit)×(Int×Int×(List (Int×Int×Int))×(List (Int×Int))×Unit)×(Int×Int×(List (Int×Int×Int))×(List (Int×Int))×Unit)×Int×(List (Int×Int×Int))×Unit) =>
(if List.length z2.2.2.2.2.2.2.1+List.length ([(z2.2.2.2.2.2.1,(z2.1,(wi64 (z2.2.1+(20:Int)))))]:List (Int×Int×Int))≤capMax then
(qAG (fun(rec4:((Int×Int×(List (Int×Int×Int))×(List (Int×Int))×Unit)×(Int×Int×(List (Int×Int×Int))×(List (Int×Int))×Unit)×(Int×Int×(List (Int×Int×Int))×(List (Int×Int))×Unit)×Int×(List (Int×Int×Int))×Int×Unit)→Option _) (y4:(Int×Int×(List (Int×Int×Int))×(List (Int×Int))×Unit)×(Int×Int×(List (Int×Int×Int))×(List (Int×Int))×Unit)×(Int×Int×(List (Int×Int×Int))×(List (Int×Int))×Unit)×Int×(List (Int×Int×Int))×Int×Unit) =>
(if(decide (y4.2.2.2.2.2.1<(List.length y4.1.2.2.1:Int)))=true then
(if 0≤y4.2.2.2.2.2.1∧y4.2.2.2.2.2.1<(List.length y4.1.2.2.1:Int) then
(if(decide (y4.2.2.2.1<(Ty.rd (t:=(.pair (.int .i64) yT3)) y4.1.2.2.1 y4.2.2.2.2.2.1).1))=true then
(if 0≤y4.2.2.2.2.2.1∧y4.2.2.2.2.2.1<(List.length y4.1.2.2.1:Int) then
(if List.length y4.2.2.2.2.1+List.length ([((Ty.rd (t:=(.pair (.int .i64) yT3)) y4.1.2.2.1 y4.2.2.2.2.2.1).1,((Ty.rd (t:=(.pair (.int .i64) yT3)) y4.1.2.2.1 y4.2.2.2.2.2.1).2.1,(Ty.rd (t:=(.pair (.int .i64) yT3)) y4.1.2.2.1 y4.2.2.2.2.2.1).2.2))]:List (Int×Int×Int))≤capMax then
(rec4 ((y4.1.1,(y4.1.2.1,(y4.1.2.2.1,(y4.1.2.2.2.1,())))),((y4.2.1.1,(y4.2.1.2.1,(y4.2.1.2.2.1,(y4.2.1.2.2.2.1,())))),((y4.2.2.1.1,(y4.2.2.1.2.1,(y4.2.2.1.2.2.1,(y4.2.2.1.2.2.2.1,())))),(y4.2.2.2.1,((y4.2.2.2.2.1++([((Ty.rd (t:=(.pair (.int .i64) yT3)) y4.1.2.2.1 y4.2.2.2.2.2.1).1,((Ty.rd (t:=(.pair (.int .i64) yT3)) y4.1.2.2.1 y4.2.2.2.2.2.1).2.1,(Ty.rd (t:=(.pair (.int .i64) yT3)) y4.1.2.2.1 y4.2.2.2.2.2.1).2.2))]:List (Int×Int×Int))),((wi64 (y4.2.2.2.2.2.1+(1:Int))),())))))))
else none)
else none)
else
(rec4 ((y4.1.1,(y4.1.2.1,(y4.1.2.2.1,(y4.1.2.2.2.1,())))),((y4.2.1.1,(y4.2.1.2.1,(y4.2.1.2.2.1,(y4.2.1.2.2.2.1,())))),((y4.2.2.1.1,(y4.2.2.1.2.1,(y4.2.2.1.2.2.1,(y4.2.2.1.2.2.2.1,())))),(y4.2.2.2.1,(y4.2.2.2.2.1,((wi64 (y4.2.2.2.2.2.1+(1:Int))),()))))))))
else none)
else
((fun(z3:(Int×Int×(List (Int×Int×Int))×(List (Int×Int))×Unit)×(Int×Int×(List (Int×Int×Int))×(List (Int×Int))×Unit)×Int×(List (Int×Int×Int))×Unit) =>
some (((z3.2.1.1,(z3.2.1.2.1,(z3.2.2.2.1,(z3.2.1.2.2.2.1,())))),(z3.2.2.1,(true,()))),((),((),((),()))))) ((y4.2.1.1,(y4.2.1.2.1,(y4.2.1.2.2.1,(y4.2.1.2.2.2.1,())))),((y4.2.2.1.1,(y4.2.2.1.2.1,(y4.2.2.1.2.2.1,(y4.2.2.1.2.2.2.1,())))),(y4.2.2.2.1,(y4.2.2.2.2.1,()))))))) k ((z2.2.2.1.1,(z2.2.2.1.2.1,(z2.2.2.1.2.2.1,(z2.2.2.1.2.2.2.1,())))),((z2.2.2.2.1.1,(z2.2.2.2.1.2.1,(z2.2.2.2.1.2.2.1,(z2.2.2.2.1.2.2.2.1,())))),((z2.2.2.2.2.1.1,(z2.2.2.2.2.1.2.1,(z2.2.2.2.2.1.2.2.1,(z2.2.2.2.2.1.2.2.2.1,())))),(z2.2.2.2.2.2.1,((z2.2.2.2.2.2.2.1++([(z2.2.2.2.2.2.1,(z2.1,(wi64 (z2.2.1+(20:Int)))))]:List (Int×Int×Int))),((0:Int),())))))))
else none)) (y2.1,(y2.2.1,((y2.2.2.1.1,(y2.2.2.1.2.1,(y2.2.2.1.2.2.1,(y2.2.2.1.2.2.2.1,())))),((y2.2.2.2.1.1,(y2.2.2.2.1.2.1,(y2.2.2.2.1.2.2.1,(y2.2.2.2.1.2.2.2.1,())))),((y2.2.2.2.2.1.1,(y2.2.2.2.2.1.2.1,(y2.2.2.2.2.1.2.2.1,(y2.2.2.2.2.1.2.2.2.1,())))),(y2.2.2.2.2.2.1,(y2.2.2.2.2.2.2.1,())))))))))) k (z1.1,(z1.2.1,((z1.2.2.1.1,(z1.2.2.1.2.1,(z1.2.2.1.2.2.1,(z1.2.2.1.2.2.2.1,())))),((z1.2.2.2.1.1,(z1.2.2.2.1.2.1,(z1.2.2.2.1.2.2.1,(z1.2.2.2.1.2.2.2.1,())))),((z1.2.2.2.2.1.1,(z1.2.2.2.2.1.2.1,(z1.2.2.2.2.1.2.2.1,(z1.2.2.2.2.1.2.2.2.1,())))),(p5.1,(([]:List (Int×Int×Int)),((0:Int),()))))))))))
else
some (((z1.2.2.2.2.1.1,(z1.2.2.2.2.1.2.1,(z1.2.2.2.2.1.2.2.1,(z1.2.2.2.2.1.2.2.2.1,())))),((0:Int),(false,()))),((),((),((),()))))))) (y0.1,(y0.2.1,((y0.2.2.1.1,(y0.2.2.1.2.1,(y0.2.2.1.2.2.1,(y0.2.2.1.2.2.2.1,())))),((y0.2.2.2.1.1,(y0.2.2.2.1.2.1,(y0.2.2.2.1.2.2.1,(y0.2.2.2.1.2.2.2.1,())))),((y0.2.2.2.2.1.1,(y0.2.2.2.2.1.2.1,(y0.2.2.2.2.1.2.2.1,(y0.2.2.2.2.1.2.2.2.1,())))),())))))))) k (x.2.1,(x.2.2.1,((x.1.1,(x.1.2.1,(x.1.2.2.1,(x.1.2.2.2.1,())))),(((0:Int),((0:Int),([],([],())))),((p1.1.1,(p1.1.2.1,(p1.1.2.2.1,(p1.1.2.2.2.1,())))),((0:Int),())))))))))
else
some (((p1.1.1,(p1.1.2.1,(p1.1.2.2.1,(p1.1.2.2.2.1,())))),((0:Int),(false,()))),((),((),((),()))))))
else
some (((p1.1.1,(p1.1.2.1,(p1.1.2.2.1,(p1.1.2.2.2.1,())))),((0:Int),(false,()))),((),((),((),())))))))
abbrev E_s_Grant(k:Nat):qAL:=⟨64,0,(.cons (.agg yP6) (.cons (.int .i64) yP4)),(.tup (.cons (.agg yP9) (.cons (.int .i64) (.cons .bool .nil)))),s_Grant k⟩
theorem t_s_Grant(k:Nat)(x):evF TTab k [qBt k,qFL k,qGx k,E_s_l11Free k] [(0,⟨[1,2,3,6,9,10],(.cons (.int .i64) (.cons (.int .i64) (.cons (.ptr 0 yP6) (.cons (.ptr 0 yP9) (.cons (.ptr 0 yP9) yP4)))))⟩,⟨[1,2,3,6,9],(.cons (.int .i64) (.cons (.int .i64) (.cons (.ptr 0 yP6) (.cons (.ptr 0 yP9) (.cons (.ptr 0 yP9) .nil)))))⟩),(2,⟨[1,2,3,6,9,11,12,13],(.cons (.int .i64) (.cons (.int .i64) (.cons (.ptr 0 yP6) (.cons (.ptr 0 yP9) (.cons (.ptr 0 yP9) (.cons (.int .i64) (.cons yP29 yP4)))))))⟩,⟨[1,2,3,6,9,11,12],(.cons (.int .i64) (.cons (.int .i64) (.cons (.ptr 0 yP6) (.cons (.ptr 0 yP9) (.cons (.ptr 0 yP9) (.cons (.int .i64) (.cons yP29 .nil)))))))⟩),(4,⟨[3,6,9,11,12,14],(.cons (.ptr 0 yP6) (.cons (.ptr 0 yP9) (.cons (.ptr 0 yP9) (.cons (.int .i64) (.cons yP29 yP4)))))⟩,⟨[6,9,11,12],(.cons (.ptr 0 yP9) (.cons (.ptr 0 yP9) (.cons (.int .i64) (.cons yP29 .nil))))⟩)] Tryz.f64 (.cons (.agg yP6) (.cons (.int .i64) yP4)) (.tup (.cons (.agg yP9) (.cons (.int .i64) (.cons .bool .nil)))) x=s_Grant k x:=by kernel_rfl
theorem e_s_Grant[Names](k:Nat):qAE Tryz.prog (E_s_Grant k):=qAD tok (qAA (qB2 k) (qAA (qHg k) (qAA (e_s_PoolOk k) (qAA (e_s_l11Free k) qAI)))) (by kernel_rfl) (by kernel_rfl) (by kernel_rfl) fun x r h=>(t_s_Grant k x).trans h
def qDB(k:Nat)(x:(Int×Int×Unit)×(Int×Int×Unit)×Unit):Option (Bool×Unit×Unit×Unit):=
(if(decide (x.1.1<x.2.1.1))=false then
(if(decide (x.1.1=x.2.1.1))=true then
some ((decide (x.1.2.1<x.2.1.2.1)),((),((),())))
else
some (false,((),((),()))))
else
some (true,((),((),()))))
abbrev qGI(k:Nat):qAL:=⟨147,0,(.cons yP27 (.cons yP27 .nil)),.bool,qDB k⟩
theorem t_s_l09Ahead(k:Nat)(x):evF TTab k [] [] Tryz.f147 (.cons yP27 (.cons yP27 .nil)) .bool x=qDB k x:=by kernel_rfl
theorem e_s_l09Ahead[Names](k:Nat):qAE Tryz.prog (qGI k):=qAD tok qAI (by kernel_rfl) (by kernel_rfl) (by kernel_rfl) fun x r h=>(t_s_l09Ahead k x).trans h
def qDr(k:Nat)(x:(List ((Int×Int)×Int))×Unit):Option (Bool×Unit×Unit):=
(qAG (fun(rec0:((List ((Int×Int)×Int))×Int×Unit)→Option _) (y0:(List ((Int×Int)×Int))×Int×Unit) =>
(if(decide (y0.2.1<(List.length y0.1:Int)))=true then
(if 0≤y0.2.1∧y0.2.1<(List.length y0.1:Int) then
((qC9 k (((Ty.rd (t:=(.pair yT3 (.int .i64))) y0.1 y0.2.1).1.1,((Ty.rd (t:=(.pair yT3 (.int .i64))) y0.1 y0.2.1).1.2,())),())).bind fun p1 =>
(if(!p1.1)=false then
(if 0≤y0.2.1∧y0.2.1<(List.length y0.1:Int) then
((qBk k ((Ty.rd (t:=(.pair yT3 (.int .i64))) y0.1 y0.2.1).2,((1:Int),((99:Int),())))).bind fun p2 =>
(if(!p2.1)=false then
(if(decide ((0:Int)<y0.2.1))=true then
(if 0≤(wi64 (y0.2.1-(1:Int)))∧(wi64 (y0.2.1-(1:Int)))<(List.length y0.1:Int) then
(if 0≤y0.2.1∧y0.2.1<(List.length y0.1:Int) then
((qDB k (((Ty.rd (t:=(.pair yT3 (.int .i64))) y0.1 (wi64 (y0.2.1-(1:Int)))).1.1,((Ty.rd (t:=(.pair yT3 (.int .i64))) y0.1 (wi64 (y0.2.1-(1:Int)))).1.2,())),(((Ty.rd (t:=(.pair yT3 (.int .i64))) y0.1 y0.2.1).1.1,((Ty.rd (t:=(.pair yT3 (.int .i64))) y0.1 y0.2.1).1.2,())),()))).bind fun p3 =>
(if(!p3.1)=true then
some (false,((),()))
else
(rec0 (y0.1,((wi64 (y0.2.1+(1:Int))),())))))
else none)
else none)
else
(rec0 (y0.1,((wi64 (y0.2.1+(1:Int))),()))))
else
some (false,((),()))))
else none)
else
some (false,((),()))))
else none)
else
((fun(z1:(List ((Int×Int)×Int))×Unit) =>
some ((decide ((List.length z1.1:Int)≤(12:Int))),((),()))) (y0.1,())))) k (x.1,((0:Int),())))
abbrev E_s_RoutesOk(k:Nat):qAL:=⟨148,0,(.cons yP20 .nil),.bool,qDr k⟩
theorem t_s_RoutesOk(k:Nat)(x):evF TTab k [qBt k,qGI k,qEU k] [(0,⟨[0,3],(.cons yP20 yP4)⟩,⟨[0],(.cons yP20 .nil)⟩)] Tryz.f148 (.cons yP20 .nil) .bool x=qDr k x:=by kernel_rfl
theorem e_s_RoutesOk[Names](k:Nat):qAE Tryz.prog (E_s_RoutesOk k):=qAD tok (qAA (qB2 k) (qAA (e_s_l09Ahead k) (qAA (qGE k) qAI))) (by kernel_rfl) (by kernel_rfl) (by kernel_rfl) fun x r h=>(t_s_RoutesOk k x).trans h
def qDC(k:Nat)(x:(List ((Int×Int)×Int))×(Int×Int×Int×Unit)×Unit):Option (((List ((Int×Int)×Int))×Bool×Unit)×Unit×Unit×Unit):=
(qAG (fun(rec0:((List ((Int×Int)×Int))×(Int×Int×Int×Unit)×(List ((Int×Int)×Int))×Int×Unit)→Option _) (y0:(List ((Int×Int)×Int))×(Int×Int×Int×Unit)×(List ((Int×Int)×Int))×Int×Unit) =>
(if(decide (y0.2.2.2.1<(List.length y0.1:Int)))=true then
(if 0≤y0.2.2.2.1∧y0.2.2.2.1<(List.length y0.1:Int) then
((qDB k (((Ty.rd (t:=(.pair yT3 (.int .i64))) y0.1 y0.2.2.2.1).1.1,((Ty.rd (t:=(.pair yT3 (.int .i64))) y0.1 y0.2.2.2.1).1.2,())),((y0.2.1.1,(y0.2.1.2.1,())),()))).bind fun p1 =>
(if p1.1=true then
(if 0≤y0.2.2.2.1∧y0.2.2.2.1<(List.length y0.1:Int) then
(if List.length y0.2.2.1+List.length ([(((Ty.rd (t:=(.pair yT3 (.int .i64))) y0.1 y0.2.2.2.1).1.1,(Ty.rd (t:=(.pair yT3 (.int .i64))) y0.1 y0.2.2.2.1).1.2),(Ty.rd (t:=(.pair yT3 (.int .i64))) y0.1 y0.2.2.2.1).2)]:List ((Int×Int)×Int))≤capMax then
(rec0 (y0.1,((y0.2.1.1,(y0.2.1.2.1,(y0.2.1.2.2.1,()))),((y0.2.2.1++([(((Ty.rd (t:=(.pair yT3 (.int .i64))) y0.1 y0.2.2.2.1).1.1,(Ty.rd (t:=(.pair yT3 (.int .i64))) y0.1 y0.2.2.2.1).1.2),(Ty.rd (t:=(.pair yT3 (.int .i64))) y0.1 y0.2.2.2.1).2)]:List ((Int×Int)×Int))),((wi64 (y0.2.2.2.1+(1:Int))),())))))
else none)
else none)
else
(rec0 (y0.1,((y0.2.1.1,(y0.2.1.2.1,(y0.2.1.2.2.1,()))),(y0.2.2.1,((wi64 (y0.2.2.2.1+(1:Int))),())))))))
else none)
else
((fun(z1:(List ((Int×Int)×Int))×(Int×Int×Int×Unit)×(List ((Int×Int)×Int))×Unit) =>
(if List.length z1.2.2.1+List.length ([((z1.2.1.1,z1.2.1.2.1),z1.2.1.2.2.1)]:List ((Int×Int)×Int))≤capMax then
(qAG (fun(rec2:((List ((Int×Int)×Int))×(Int×Int×Int×Unit)×(List ((Int×Int)×Int))×Int×Unit)→Option _) (y2:(List ((Int×Int)×Int))×(Int×Int×Int×Unit)×(List ((Int×Int)×Int))×Int×Unit) =>
(if(decide (y2.2.2.2.1<(List.length y2.1:Int)))=true then
(if 0≤y2.2.2.2.1∧y2.2.2.2.1<(List.length y2.1:Int) then
((qDB k ((y2.2.1.1,(y2.2.1.2.1,())),(((Ty.rd (t:=(.pair yT3 (.int .i64))) y2.1 y2.2.2.2.1).1.1,((Ty.rd (t:=(.pair yT3 (.int .i64))) y2.1 y2.2.2.2.1).1.2,())),()))).bind fun p2 =>
(if p2.1=true then
(if 0≤y2.2.2.2.1∧y2.2.2.2.1<(List.length y2.1:Int) then
(if List.length y2.2.2.1+List.length ([(((Ty.rd (t:=(.pair yT3 (.int .i64))) y2.1 y2.2.2.2.1).1.1,(Ty.rd (t:=(.pair yT3 (.int .i64))) y2.1 y2.2.2.2.1).1.2),(Ty.rd (t:=(.pair yT3 (.int .i64))) y2.1 y2.2.2.2.1).2)]:List ((Int×Int)×Int))≤capMax then
(rec2 (y2.1,((y2.2.1.1,(y2.2.1.2.1,(y2.2.1.2.2.1,()))),((y2.2.2.1++([(((Ty.rd (t:=(.pair yT3 (.int .i64))) y2.1 y2.2.2.2.1).1.1,(Ty.rd (t:=(.pair yT3 (.int .i64))) y2.1 y2.2.2.2.1).1.2),(Ty.rd (t:=(.pair yT3 (.int .i64))) y2.1 y2.2.2.2.1).2)]:List ((Int×Int)×Int))),((wi64 (y2.2.2.2.1+(1:Int))),())))))
else none)
else none)
else
(rec2 (y2.1,((y2.2.1.1,(y2.2.1.2.1,(y2.2.1.2.2.1,()))),(y2.2.2.1,((wi64 (y2.2.2.2.1+(1:Int))),())))))))
else none)
else
((fun(z2:(List ((Int×Int)×Int))×(List ((Int×Int)×Int))×Unit) =>
((qDr k (z2.1,())).bind fun p3 =>
(if(!p3.1)=false then
((qDr k (z2.2.1,())).bind fun p4 =>
(if(!p4.1)=true then
(if List.length ([]:List ((Int×Int)×Int))+List.length z2.1≤capMax then
some (((([]:List ((Int×Int)×Int))++z2.1),(false,())),((),((),())))
else none)
else
some ((z2.2.1,(true,())),((),((),())))))
else
(if List.length ([]:List ((Int×Int)×Int))+List.length z2.1≤capMax then
some (((([]:List ((Int×Int)×Int))++z2.1),(false,())),((),((),())))
else none)))) (y2.1,(y2.2.2.1,()))))) k (z1.1,((z1.2.1.1,(z1.2.1.2.1,(z1.2.1.2.2.1,()))),((z1.2.2.1++([((z1.2.1.1,z1.2.1.2.1),z1.2.1.2.2.1)]:List ((Int×Int)×Int))),((0:Int),())))))
else none)) (y0.1,((y0.2.1.1,(y0.2.1.2.1,(y0.2.1.2.2.1,()))),(y0.2.2.1,())))))) k (x.1,((x.2.1.1,(x.2.1.2.1,(x.2.1.2.2.1,()))),(([]:List ((Int×Int)×Int)),((0:Int),())))))
abbrev qEV(k:Nat):qAL:=⟨65,0,(.cons yP20 (.cons (.agg yP22) .nil)),(.tup (.cons yP16 (.cons .bool .nil))),qDC k⟩
theorem t_s_PutRoute(k:Nat)(x):evF TTab k [qGI k,E_s_RoutesOk k] [(0,⟨[0,3,6,7],(.cons yP20 (.cons (.ptr 0 yP22) (.cons yP16 yP4)))⟩,⟨[0,3,6],(.cons yP20 (.cons (.ptr 0 yP22) (.cons yP16 .nil)))⟩),(2,⟨[0,3,6,8],(.cons yP20 (.cons (.ptr 0 yP22) (.cons yP16 yP4)))⟩,⟨[0,6],(.cons yP20 (.cons yP16 .nil))⟩)] Tryz.f65 (.cons yP20 (.cons (.agg yP22) .nil)) (.tup (.cons yP16 (.cons .bool .nil))) x=qDC k x:=by kernel_rfl
theorem qGJ[Names](k:Nat):qAE Tryz.prog (qEV k):=qAD tok (qAA (e_s_l09Ahead k) (qAA (e_s_RoutesOk k) qAI)) (by kernel_rfl) (by kernel_rfl) (by kernel_rfl) fun x r h=>(t_s_PutRoute k x).trans h
def qGy(k:Nat)(x:(List (Int×Int×((Int×ByteArray×ByteArray×Int×List (Int)×Int)×Int×ByteArray×ByteArray×Int×List (Int)×Int)×List (Int×Int×Int×List (ByteArray)×List (Bool)×Int)×Int))×(Int×Int×Int×ByteArray×ByteArray×Int×List (Int)×Int×Int×ByteArray×ByteArray×Int×List (Int)×Int×(List (Int×Int×Int×List (ByteArray)×List (Bool)×Int))×Int×Unit)×Unit):Option ((List (Int×Int×((Int×ByteArray×ByteArray×Int×List (Int)×Int)×Int×ByteArray×ByteArray×Int×List (Int)×Int)×List (Int×Int×Int×List (ByteArray)×List (Bool)×Int)×Int))×Unit×Unit×Unit):=
(qAG (fun(rec0:((List (Int×Int×((Int×ByteArray×ByteArray×Int×List (Int)×Int)×Int×ByteArray×ByteArray×Int×List (Int)×Int)×List (Int×Int×Int×List (ByteArray)×List (Bool)×Int)×Int))×(Int×Int×Int×ByteArray×ByteArray×Int×List (Int)×Int×Int×ByteArray×ByteArray×Int×List (Int)×Int×(List (Int×Int×Int×List (ByteArray)×List (Bool)×Int))×Int×Unit)×(List (Int×Int×((Int×ByteArray×ByteArray×Int×List (Int)×Int)×Int×ByteArray×ByteArray×Int×List (Int)×Int)×List (Int×Int×Int×List (ByteArray)×List (Bool)×Int)×Int))×Int×Unit)→Option _) (y0:(List (Int×Int×((Int×ByteArray×ByteArray×Int×List (Int)×Int)×Int×ByteArray×ByteArray×Int×List (Int)×Int)×List (Int×Int×Int×List (ByteArray)×List (Bool)×Int)×Int))×(Int×Int×Int×ByteArray×ByteArray×Int×List (Int)×Int×Int×ByteArray×ByteArray×Int×List (Int)×Int×(List (Int×Int×Int×List (ByteArray)×List (Bool)×Int))×Int×Unit)×(List (Int×Int×((Int×ByteArray×ByteArray×Int×List (Int)×Int)×Int×ByteArray×ByteArray×Int×List (Int)×Int)×List (Int×Int×Int×List (ByteArray)×List (Bool)×Int)×Int))×Int×Unit) =>
(if(decide (y0.2.2.2.1<(List.length y0.1:Int)))=true then
(if 0≤y0.2.2.2.1∧y0.2.2.2.1<(List.length y0.1:Int) then
(if(decide ((Ty.rd (t:=yT0) y0.1 y0.2.2.2.1).1<y0.2.1.1))=true then
(if 0≤y0.2.2.2.1∧y0.2.2.2.1<(List.length y0.1:Int) then
(if List.length y0.2.2.1+List.length ([((Ty.rd (t:=yT0) y0.1 y0.2.2.2.1).1,((Ty.rd (t:=yT0) y0.1 y0.2.2.2.1).2.1,((((Ty.rd (t:=yT0) y0.1 y0.2.2.2.1).2.2.1.1.1,((Ty.rd (t:=yT0) y0.1 y0.2.2.2.1).2.2.1.1.2.1,((Ty.rd (t:=yT0) y0.1 y0.2.2.2.1).2.2.1.1.2.2.1,((Ty.rd (t:=yT0) y0.1 y0.2.2.2.1).2.2.1.1.2.2.2.1,((Ty.rd (t:=yT0) y0.1 y0.2.2.2.1).2.2.1.1.2.2.2.2.1,(Ty.rd (t:=yT0) y0.1 y0.2.2.2.1).2.2.1.1.2.2.2.2.2))))),((Ty.rd (t:=yT0) y0.1 y0.2.2.2.1).2.2.1.2.1,((Ty.rd (t:=yT0) y0.1 y0.2.2.2.1).2.2.1.2.2.1,((Ty.rd (t:=yT0) y0.1 y0.2.2.2.1).2.2.1.2.2.2.1,((Ty.rd (t:=yT0) y0.1 y0.2.2.2.1).2.2.1.2.2.2.2.1,((Ty.rd (t:=yT0) y0.1 y0.2.2.2.1).2.2.1.2.2.2.2.2.1,(Ty.rd (t:=yT0) y0.1 y0.2.2.2.1).2.2.1.2.2.2.2.2.2)))))),((Ty.rd (t:=yT0) y0.1 y0.2.2.2.1).2.2.2.1,(Ty.rd (t:=yT0) y0.1 y0.2.2.2.1).2.2.2.2))))]:List (Int×Int×((Int×ByteArray×ByteArray×Int×List (Int)×Int)×Int×ByteArray×ByteArray×Int×List (Int)×Int)×List (Int×Int×Int×List (ByteArray)×List (Bool)×Int)×Int))≤capMax then
(rec0 (y0.1,(y0.2.1,((y0.2.2.1++([((Ty.rd (t:=yT0) y0.1 y0.2.2.2.1).1,((Ty.rd (t:=yT0) y0.1 y0.2.2.2.1).2.1,((((Ty.rd (t:=yT0) y0.1 y0.2.2.2.1).2.2.1.1.1,((Ty.rd (t:=yT0) y0.1 y0.2.2.2.1).2.2.1.1.2.1,((Ty.rd (t:=yT0) y0.1 y0.2.2.2.1).2.2.1.1.2.2.1,((Ty.rd (t:=yT0) y0.1 y0.2.2.2.1).2.2.1.1.2.2.2.1,((Ty.rd (t:=yT0) y0.1 y0.2.2.2.1).2.2.1.1.2.2.2.2.1,(Ty.rd (t:=yT0) y0.1 y0.2.2.2.1).2.2.1.1.2.2.2.2.2))))),((Ty.rd (t:=yT0) y0.1 y0.2.2.2.1).2.2.1.2.1,((Ty.rd (t:=yT0) y0.1 y0.2.2.2.1).2.2.1.2.2.1,((Ty.rd (t:=yT0) y0.1 y0.2.2.2.1).2.2.1.2.2.2.1,((Ty.rd (t:=yT0) y0.1 y0.2.2.2.1).2.2.1.2.2.2.2.1,((Ty.rd (t:=yT0) y0.1 y0.2.2.2.1).2.2.1.2.2.2.2.2.1,(Ty.rd (t:=yT0) y0.1 y0.2.2.2.1).2.2.1.2.2.2.2.2.2)))))),((Ty.rd (t:=yT0) y0.1 y0.2.2.2.1).2.2.2.1,(Ty.rd (t:=yT0) y0.1 y0.2.2.2.1).2.2.2.2))))]:List (Int×Int×((Int×ByteArray×ByteArray×Int×List (Int)×Int)×Int×ByteArray×ByteArray×Int×List (Int)×Int)×List (Int×Int×Int×List (ByteArray)×List (Bool)×Int)×Int))),((wi64 (y0.2.2.2.1+(1:Int))),())))))
else none)
else none)
else
(rec0 (y0.1,(y0.2.1,(y0.2.2.1,((wi64 (y0.2.2.2.1+(1:Int))),()))))))
else none)
else
((fun(z1:(List (Int×Int×((Int×ByteArray×ByteArray×Int×List (Int)×Int)×Int×ByteArray×ByteArray×Int×List (Int)×Int)×List (Int×Int×Int×List (ByteArray)×List (Bool)×Int)×Int))×(Int×Int×Int×ByteArray×ByteArray×Int×List (Int)×Int×Int×ByteArray×ByteArray×Int×List (Int)×Int×(List (Int×Int×Int×List (ByteArray)×List (Bool)×Int))×Int×Unit)×(List (Int×Int×((Int×ByteArray×ByteArray×Int×List (Int)×Int)×Int×ByteArray×ByteArray×Int×List (Int)×Int)×List (Int×Int×Int×List (ByteArray)×List (Bool)×Int)×Int))×Unit) =>
(if List.length z1.2.2.1+List.length ([(z1.2.1.1,(z1.2.1.2.1,(((z1.2.1.2.2.1,(z1.2.1.2.2.2.1,(z1.2.1.2.2.2.2.1,(z1.2.1.2.2.2.2.2.1,(z1.2.1.2.2.2.2.2.2.1,z1.2.1.2.2.2.2.2.2.2.1))))),(z1.2.1.2.2.2.2.2.2.2.2.1,(z1.2.1.2.2.2.2.2.2.2.2.2.1,(z1.2.1.2.2.2.2.2.2.2.2.2.2.1,(z1.2.1.2.2.2.2.2.2.2.2.2.2.2.1,(z1.2.1.2.2.2.2.2.2.2.2.2.2.2.2.1,z1.2.1.2.2.2.2.2.2.2.2.2.2.2.2.2.1)))))),(z1.2.1.2.2.2.2.2.2.2.2.2.2.2.2.2.2.1,z1.2.1.2.2.2.2.2.2.2.2.2.2.2.2.2.2.2.1))))]:List (Int×Int×((Int×ByteArray×ByteArray×Int×List (Int)×Int)×Int×ByteArray×ByteArray×Int×List (Int)×Int)×List (Int×Int×Int×List (ByteArray)×List (Bool)×Int)×Int))≤capMax then
(qAG (fun(rec2:((List (Int×Int×((Int×ByteArray×ByteArray×Int×List (Int)×Int)×Int×ByteArray×ByteArray×Int×List (Int)×Int)×List (Int×Int×Int×List (ByteArray)×List (Bool)×Int)×Int))×(Int×Int×Int×ByteArray×ByteArray×Int×List (Int)×Int×Int×ByteArray×ByteArray×Int×List (Int)×Int×(List (Int×Int×Int×List (ByteArray)×List (Bool)×Int))×Int×Unit)×(List (Int×Int×((Int×ByteArray×ByteArray×Int×List (Int)×Int)×Int×ByteArray×ByteArray×Int×List (Int)×Int)×List (Int×Int×Int×List (ByteArray)×List (Bool)×Int)×Int))×Int×Unit)→Option _) (y2:(List (Int×Int×((Int×ByteArray×ByteArray×Int×List (Int)×Int)×Int×ByteArray×ByteArray×Int×List (Int)×Int)×List (Int×Int×Int×List (ByteArray)×List (Bool)×Int)×Int))×(Int×Int×Int×ByteArray×ByteArray×Int×List (Int)×Int×Int×ByteArray×ByteArray×Int×List (Int)×Int×(List (Int×Int×Int×List (ByteArray)×List (Bool)×Int))×Int×Unit)×(List (Int×Int×((Int×ByteArray×ByteArray×Int×List (Int)×Int)×Int×ByteArray×ByteArray×Int×List (Int)×Int)×List (Int×Int×Int×List (ByteArray)×List (Bool)×Int)×Int))×Int×Unit) =>
(if(decide (y2.2.2.2.1<(List.length y2.1:Int)))=true then
(if 0≤y2.2.2.2.1∧y2.2.2.2.1<(List.length y2.1:Int) then
(if(decide (y2.2.1.1<(Ty.rd (t:=yT0) y2.1 y2.2.2.2.1).1))=true then
(if 0≤y2.2.2.2.1∧y2.2.2.2.1<(List.length y2.1:Int) then
(if List.length y2.2.2.1+List.length ([((Ty.rd (t:=yT0) y2.1 y2.2.2.2.1).1,((Ty.rd (t:=yT0) y2.1 y2.2.2.2.1).2.1,((((Ty.rd (t:=yT0) y2.1 y2.2.2.2.1).2.2.1.1.1,((Ty.rd (t:=yT0) y2.1 y2.2.2.2.1).2.2.1.1.2.1,((Ty.rd (t:=yT0) y2.1 y2.2.2.2.1).2.2.1.1.2.2.1,((Ty.rd (t:=yT0) y2.1 y2.2.2.2.1).2.2.1.1.2.2.2.1,((Ty.rd (t:=yT0) y2.1 y2.2.2.2.1).2.2.1.1.2.2.2.2.1,(Ty.rd (t:=yT0) y2.1 y2.2.2.2.1).2.2.1.1.2.2.2.2.2))))),((Ty.rd (t:=yT0) y2.1 y2.2.2.2.1).2.2.1.2.1,((Ty.rd (t:=yT0) y2.1 y2.2.2.2.1).2.2.1.2.2.1,((Ty.rd (t:=yT0) y2.1 y2.2.2.2.1).2.2.1.2.2.2.1,((Ty.rd (t:=yT0) y2.1 y2.2.2.2.1).2.2.1.2.2.2.2.1,((Ty.rd (t:=yT0) y2.1 y2.2.2.2.1).2.2.1.2.2.2.2.2.1,(Ty.rd (t:=yT0) y2.1 y2.2.2.2.1).2.2.1.2.2.2.2.2.2)))))),((Ty.rd (t:=yT0) y2.1 y2.2.2.2.1).2.2.2.1,(Ty.rd (t:=yT0) y2.1 y2.2.2.2.1).2.2.2.2))))]:List (Int×Int×((Int×ByteArray×ByteArray×Int×List (Int)×Int)×Int×ByteArray×ByteArray×Int×List (Int)×Int)×List (Int×Int×Int×List (ByteArray)×List (Bool)×Int)×Int))≤capMax then
(rec2 (y2.1,(y2.2.1,((y2.2.2.1++([((Ty.rd (t:=yT0) y2.1 y2.2.2.2.1).1,((Ty.rd (t:=yT0) y2.1 y2.2.2.2.1).2.1,((((Ty.rd (t:=yT0) y2.1 y2.2.2.2.1).2.2.1.1.1,((Ty.rd (t:=yT0) y2.1 y2.2.2.2.1).2.2.1.1.2.1,((Ty.rd (t:=yT0) y2.1 y2.2.2.2.1).2.2.1.1.2.2.1,((Ty.rd (t:=yT0) y2.1 y2.2.2.2.1).2.2.1.1.2.2.2.1,((Ty.rd (t:=yT0) y2.1 y2.2.2.2.1).2.2.1.1.2.2.2.2.1,(Ty.rd (t:=yT0) y2.1 y2.2.2.2.1).2.2.1.1.2.2.2.2.2))))),((Ty.rd (t:=yT0) y2.1 y2.2.2.2.1).2.2.1.2.1,((Ty.rd (t:=yT0) y2.1 y2.2.2.2.1).2.2.1.2.2.1,((Ty.rd (t:=yT0) y2.1 y2.2.2.2.1).2.2.1.2.2.2.1,((Ty.rd (t:=yT0) y2.1 y2.2.2.2.1).2.2.1.2.2.2.2.1,((Ty.rd (t:=yT0) y2.1 y2.2.2.2.1).2.2.1.2.2.2.2.2.1,(Ty.rd (t:=yT0) y2.1 y2.2.2.2.1).2.2.1.2.2.2.2.2.2)))))),((Ty.rd (t:=yT0) y2.1 y2.2.2.2.1).2.2.2.1,(Ty.rd (t:=yT0) y2.1 y2.2.2.2.1).2.2.2.2))))]:List (Int×Int×((Int×ByteArray×ByteArray×Int×List (Int)×Int)×Int×ByteArray×ByteArray×Int×List (Int)×Int)×List (Int×Int×Int×List (ByteArray)×List (Bool)×Int)×Int))),((wi64 (y2.2.2.2.1+(1:Int))),())))))
else none)
else none)
else
(rec2 (y2.1,(y2.2.1,(y2.2.2.1,((wi64 (y2.2.2.2.1+(1:Int))),()))))))
else none)
else
((fun(z2:(List (Int×Int×((Int×ByteArray×ByteArray×Int×List (Int)×Int)×Int×ByteArray×ByteArray×Int×List (Int)×Int)×List (Int×Int×Int×List (ByteArray)×List (Bool)×Int)×Int))×Unit) =>
some (z2.1,((),((),())))) (y2.2.2.1,())))) k (z1.1,(z1.2.1,((z1.2.2.1++([(z1.2.1.1,(z1.2.1.2.1,(((z1.2.1.2.2.1,(z1.2.1.2.2.2.1,(z1.2.1.2.2.2.2.1,(z1.2.1.2.2.2.2.2.1,(z1.2.1.2.2.2.2.2.2.1,z1.2.1.2.2.2.2.2.2.2.1))))),(z1.2.1.2.2.2.2.2.2.2.2.1,(z1.2.1.2.2.2.2.2.2.2.2.2.1,(z1.2.1.2.2.2.2.2.2.2.2.2.2.1,(z1.2.1.2.2.2.2.2.2.2.2.2.2.2.1,(z1.2.1.2.2.2.2.2.2.2.2.2.2.2.2.1,z1.2.1.2.2.2.2.2.2.2.2.2.2.2.2.2.1)))))),(z1.2.1.2.2.2.2.2.2.2.2.2.2.2.2.2.2.1,z1.2.1.2.2.2.2.2.2.2.2.2.2.2.2.2.2.2.1))))]:List (Int×Int×((Int×ByteArray×ByteArray×Int×List (Int)×Int)×Int×ByteArray×ByteArray×Int×List (Int)×Int)×List (Int×Int×Int×List (ByteArray)×List (Bool)×Int)×Int))),((0:Int),())))))
else none)) (y0.1,(y0.2.1,(y0.2.2.1,())))))) k (x.1,(x.2.1,(([]:List (Int×Int×((Int×ByteArray×ByteArray×Int×List (Int)×Int)×Int×ByteArray×ByteArray×Int×List (Int)×Int)×List (Int×Int×Int×List (ByteArray)×List (Bool)×Int)×Int)),((0:Int),())))))
abbrev E_s_l22Put(k:Nat):qAL:=⟨67,0,(.cons (.il false yT0) (.cons (.agg yP10) .nil)),(.own false 45 yT0),qGy k⟩
theorem t_s_l22Put(k:Nat)(x):evF TTab k [] [(0,⟨[0,3,5,6],(.cons (.il false yT0) (.cons (.ptr 0 yP10) (.cons (.own false 45 yT0) yP4)))⟩,⟨[0,3,5],(.cons (.il false yT0) (.cons (.ptr 0 yP10) (.cons (.own false 45 yT0) .nil)))⟩),(2,⟨[0,3,5,7],(.cons (.il false yT0) (.cons (.ptr 0 yP10) (.cons (.own false 45 yT0) yP4)))⟩,⟨[5],(.cons (.own false 45 yT0) .nil)⟩)] Tryz.f67 (.cons (.il false yT0) (.cons (.agg yP10) .nil)) (.own false 45 yT0) x=qGy k x:=by kernel_rfl
theorem e_s_l22Put[Names](k:Nat):qAE Tryz.prog (E_s_l22Put k):=qAD tok qAI (by kernel_rfl) (by kernel_rfl) (by kernel_rfl) fun x r h=>(t_s_l22Put k x).trans h
def s_Join(k:Nat)(x:(Int×Int×(List (Int×Int×Int))×(List (Int×Int))×(List ((Int×Int)×Int))×(List (Int×Int×((Int×ByteArray×ByteArray×Int×List (Int)×Int)×Int×ByteArray×ByteArray×Int×List (Int)×Int)×List (Int×Int×Int×List (ByteArray)×List (Bool)×Int)×Int))×Unit)×Int×ByteArray×Int×Unit):Option (((Int×Int×(List (Int×Int×Int))×(List (Int×Int))×(List ((Int×Int)×Int))×(List (Int×Int×((Int×ByteArray×ByteArray×Int×List (Int)×Int)×Int×ByteArray×ByteArray×Int×List (Int)×Int)×List (Int×Int×Int×List (ByteArray)×List (Bool)×Int)×Int))×Unit)×(Int×Int×Int×ByteArray×ByteArray×Int×List (Int)×Int×Int×ByteArray×ByteArray×Int×List (Int)×Int×(List (Int×Int×Int×List (ByteArray)×List (Bool)×Int))×Int×Unit)×Bool×Unit)×Unit×Unit×Unit×Unit×Unit):=
((qDU k ((x.1.1,(x.1.2.1,(x.1.2.2.1,(x.1.2.2.2.1,(x.1.2.2.2.2.1,(x.1.2.2.2.2.2.1,())))))),())).bind fun p1 =>
((qBk k (x.2.1,((1:Int),((98:Int),())))).bind fun p2 =>
(if(!p2.1)=false then
((qGC k (x.1.2.2.2.2.2.1,(x.2.1,()))).bind fun p3 =>
(if(decide ((0:Int)≤p3.1))=false then
(if(decide ((3:Int)≤(List.length x.1.2.2.2.2.2.1:Int)))=true then
some (((p1.1.1,(p1.1.2.1,(p1.1.2.2.1,(p1.1.2.2.2.1,(p1.1.2.2.2.2.1,(p1.1.2.2.2.2.2.1,())))))),(((0:Int),((0:Int),((0:Int),((⟨#[]⟩:ByteArray),((⟨#[]⟩:ByteArray),((0:Int),([],((0:Int),((0:Int),((⟨#[]⟩:ByteArray),((⟨#[]⟩:ByteArray),((0:Int),([],((0:Int),([],((0:Int),())))))))))))))))),(false,()))),((),((),((),((),())))))
else
((s_Grant k ((x.1.1,(x.1.2.1,(x.1.2.2.1,(x.1.2.2.2.1,())))),(x.2.1,(x.2.2.2.1,())))).bind fun p4 =>
((qDC k (x.1.2.2.2.2.1,((p4.1.2.1,((32:Int),(x.2.1,()))),()))).bind fun p5 =>
(if(!p4.1.2.2.1)=false then
(if(!p5.1.2.1)=true then
some (((p1.1.1,(p1.1.2.1,(p1.1.2.2.1,(p1.1.2.2.2.1,(p1.1.2.2.2.2.1,(p1.1.2.2.2.2.2.1,())))))),(((0:Int),((0:Int),((0:Int),((⟨#[]⟩:ByteArray),((⟨#[]⟩:ByteArray),((0:Int),([],((0:Int),((0:Int),((⟨#[]⟩:ByteArray),((⟨#[]⟩:ByteArray),((0:Int),([],((0:Int),([],((0:Int),())))))))))))))))),(false,()))),((),((),((),((),())))))
else
((qC7 k (x.2.2.1,())).bind fun p6 =>
((qGy k (x.1.2.2.2.2.2.1,((x.2.1,(p4.1.2.1,(p6.1.2.1.1,(p6.1.2.1.2.1,(p6.1.2.1.2.2.1,(p6.1.2.1.2.2.2.1,(p6.1.2.1.2.2.2.2.1,(p6.1.2.1.2.2.2.2.2.1,(p6.1.2.1.2.2.2.2.2.2.1,(p6.1.2.1.2.2.2.2.2.2.2.1,(p6.1.2.1.2.2.2.2.2.2.2.2.1,(p6.1.2.1.2.2.2.2.2.2.2.2.2.1,(p6.1.2.1.2.2.2.2.2.2.2.2.2.2.1,(p6.1.2.1.2.2.2.2.2.2.2.2.2.2.2.1,([],((0:Int),())))))))))))))))),()))).bind fun p7 =>
((qBE k (p7.1,())).bind fun p8 =>
some (((p4.1.1.1,(p4.1.1.2.1,(p4.1.1.2.2.1,(p4.1.1.2.2.2.1,(p5.1.1,(p8.1,())))))),((x.2.1,(p4.1.2.1,(p6.1.1.1,(p6.1.1.2.1,(p6.1.1.2.2.1,(p6.1.1.2.2.2.1,(p6.1.1.2.2.2.2.1,(p6.1.1.2.2.2.2.2.1,(p6.1.1.2.2.2.2.2.2.1,(p6.1.1.2.2.2.2.2.2.2.1,(p6.1.1.2.2.2.2.2.2.2.2.1,(p6.1.1.2.2.2.2.2.2.2.2.2.1,(p6.1.1.2.2.2.2.2.2.2.2.2.2.1,(p6.1.1.2.2.2.2.2.2.2.2.2.2.2.1,([],((0:Int),())))))))))))))))),(true,()))),((),((),((),((),())))))))))
else
some (((p1.1.1,(p1.1.2.1,(p1.1.2.2.1,(p1.1.2.2.2.1,(p1.1.2.2.2.2.1,(p1.1.2.2.2.2.2.1,())))))),(((0:Int),((0:Int),((0:Int),((⟨#[]⟩:ByteArray),((⟨#[]⟩:ByteArray),((0:Int),([],((0:Int),((0:Int),((⟨#[]⟩:ByteArray),((⟨#[]⟩:ByteArray),((0:Int),([],((0:Int),([],((0:Int),())))))))))))))))),(false,()))),((),((),((),((),())))))))))
else
some (((p1.1.1,(p1.1.2.1,(p1.1.2.2.1,(p1.1.2.2.2.1,(p1.1.2.2.2.2.1,(p1.1.2.2.2.2.2.1,())))))),(((0:Int),((0:Int),((0:Int),((⟨#[]⟩:ByteArray),((⟨#[]⟩:ByteArray),((0:Int),([],((0:Int),((0:Int),((⟨#[]⟩:ByteArray),((⟨#[]⟩:ByteArray),((0:Int),([],((0:Int),([],((0:Int),())))))))))))))))),(false,()))),((),((),((),((),())))))))
else
some (((p1.1.1,(p1.1.2.1,(p1.1.2.2.1,(p1.1.2.2.2.1,(p1.1.2.2.2.2.1,(p1.1.2.2.2.2.2.1,())))))),(((0:Int),((0:Int),((0:Int),((⟨#[]⟩:ByteArray),((⟨#[]⟩:ByteArray),((0:Int),([],((0:Int),((0:Int),((⟨#[]⟩:ByteArray),((⟨#[]⟩:ByteArray),((0:Int),([],((0:Int),([],((0:Int),())))))))))))))))),(false,()))),((),((),((),((),()))))))))
abbrev E_s_Join(k:Nat):qAL:=⟨14,0,(.cons (.agg yP7) (.cons (.int .i64) (.cons .str yP4))),(.tup (.cons (.agg yP19) (.cons yP23 (.cons .bool .nil)))),s_Join k⟩
theorem t_s_Join(k:Nat)(x):evF TTab k [qFK k,qD8 k,qBt k,qGD k,E_s_Grant k,qEV k,qB3 k,E_s_l22Put k] [] Tryz.f14 (.cons (.agg yP7) (.cons (.int .i64) (.cons .str yP4))) (.tup (.cons (.agg yP19) (.cons yP23 (.cons .bool .nil)))) x=s_Join k x:=by kernel_rfl
theorem e_s_Join[Names](k:Nat):qAE Tryz.prog (E_s_Join k):=qAD tok (qAA (qIF k) (qAA (qFM k) (qAA (qB2 k) (qAA (qIG k) (qAA (e_s_Grant k) (qAA (qGJ k) (qAA (qCd k) (qAA (e_s_l22Put k) qAI)))))))) (by kernel_rfl) (by kernel_rfl) (by kernel_rfl) fun x r h=>(t_s_Join k x).trans h
def qGK(k:Nat)(x:(Int×Int×(List (Int×Int×Int))×(List (Int×Int))×Unit)×Int×Unit):Option (((Int×Int×(List (Int×Int×Int))×(List (Int×Int))×Unit)×Bool×Unit)×Unit×Unit×Unit):=
((qD7 k ((x.1.1,(x.1.2.1,(x.1.2.2.1,(x.1.2.2.2.1,())))),())).bind fun p1 =>
(qAG (fun(rec0:(Int×(Int×Int×(List (Int×Int×Int))×(List (Int×Int))×Unit)×(Int×Int×(List (Int×Int×Int))×(List (Int×Int))×Unit)×(Int×Int×(List (Int×Int×Int))×(List (Int×Int))×Unit)×(List (Int×Int×Int))×Int×Unit)→Option _) (y0:Int×(Int×Int×(List (Int×Int×Int))×(List (Int×Int))×Unit)×(Int×Int×(List (Int×Int×Int))×(List (Int×Int))×Unit)×(Int×Int×(List (Int×Int×Int))×(List (Int×Int))×Unit)×(List (Int×Int×Int))×Int×Unit) =>
(if(decide (y0.2.2.2.2.2.1<(List.length y0.2.1.2.2.1:Int)))=true then
(if 0≤y0.2.2.2.2.2.1∧y0.2.2.2.2.2.1<(List.length y0.2.1.2.2.1:Int) then
(if(!decide ((Ty.rd (t:=(.pair (.int .i64) yT3)) y0.2.1.2.2.1 y0.2.2.2.2.2.1).2.1=y0.1))=true then
(if 0≤y0.2.2.2.2.2.1∧y0.2.2.2.2.2.1<(List.length y0.2.1.2.2.1:Int) then
(if List.length y0.2.2.2.2.1+List.length ([((Ty.rd (t:=(.pair (.int .i64) yT3)) y0.2.1.2.2.1 y0.2.2.2.2.2.1).1,((Ty.rd (t:=(.pair (.int .i64) yT3)) y0.2.1.2.2.1 y0.2.2.2.2.2.1).2.1,(Ty.rd (t:=(.pair (.int .i64) yT3)) y0.2.1.2.2.1 y0.2.2.2.2.2.1).2.2))]:List (Int×Int×Int))≤capMax then
(rec0 (y0.1,((y0.2.1.1,(y0.2.1.2.1,(y0.2.1.2.2.1,(y0.2.1.2.2.2.1,())))),((y0.2.2.1.1,(y0.2.2.1.2.1,(y0.2.2.1.2.2.1,(y0.2.2.1.2.2.2.1,())))),((y0.2.2.2.1.1,(y0.2.2.2.1.2.1,(y0.2.2.2.1.2.2.1,(y0.2.2.2.1.2.2.2.1,())))),((y0.2.2.2.2.1++([((Ty.rd (t:=(.pair (.int .i64) yT3)) y0.2.1.2.2.1 y0.2.2.2.2.2.1).1,((Ty.rd (t:=(.pair (.int .i64) yT3)) y0.2.1.2.2.1 y0.2.2.2.2.2.1).2.1,(Ty.rd (t:=(.pair (.int .i64) yT3)) y0.2.1.2.2.1 y0.2.2.2.2.2.1).2.2))]:List (Int×Int×Int))),((wi64 (y0.2.2.2.2.2.1+(1:Int))),())))))))
else none)
else none)
else
(rec0 (y0.1,((y0.2.1.1,(y0.2.1.2.1,(y0.2.1.2.2.1,(y0.2.1.2.2.2.1,())))),((y0.2.2.1.1,(y0.2.2.1.2.1,(y0.2.2.1.2.2.1,(y0.2.2.1.2.2.2.1,())))),((y0.2.2.2.1.1,(y0.2.2.2.1.2.1,(y0.2.2.2.1.2.2.1,(y0.2.2.2.1.2.2.2.1,())))),(y0.2.2.2.2.1,((wi64 (y0.2.2.2.2.2.1+(1:Int))),()))))))))
else none)
else
((fun(z1:(Int×Int×(List (Int×Int×Int))×(List (Int×Int))×Unit)×(Int×Int×(List (Int×Int×Int))×(List (Int×Int))×Unit)×(Int×Int×(List (Int×Int×Int))×(List (Int×Int))×Unit)×(List (Int×Int×Int))×Unit) =>
((qFO k ((z1.1.1,(z1.1.2.1,(z1.1.2.2.1,(z1.1.2.2.2.1,())))),())).bind fun p2 =>
(if(!p2.1)=false then
(if(decide ((List.length z1.2.2.2.1:Int)=(List.length z1.1.2.2.1:Int)))=true then
some (((z1.2.2.1.1,(z1.2.2.1.2.1,(z1.2.2.1.2.2.1,(z1.2.2.1.2.2.2.1,())))),(false,())),((),((),())))
else
some (((z1.2.2.1.1,(z1.2.2.1.2.1,(z1.2.2.2.1,(z1.2.2.1.2.2.2.1,())))),(true,())),((),((),()))))
else
some (((z1.2.2.1.1,(z1.2.2.1.2.1,(z1.2.2.1.2.2.1,(z1.2.2.1.2.2.2.1,())))),(false,())),((),((),())))))) ((y0.2.1.1,(y0.2.1.2.1,(y0.2.1.2.2.1,(y0.2.1.2.2.2.1,())))),((y0.2.2.1.1,(y0.2.2.1.2.1,(y0.2.2.1.2.2.1,(y0.2.2.1.2.2.2.1,())))),((y0.2.2.2.1.1,(y0.2.2.2.1.2.1,(y0.2.2.2.1.2.2.1,(y0.2.2.2.1.2.2.2.1,())))),(y0.2.2.2.2.1,()))))))) k (x.2.1,((x.1.1,(x.1.2.1,(x.1.2.2.1,(x.1.2.2.2.1,())))),(((0:Int),((0:Int),([],([],())))),((p1.1.1,(p1.1.2.1,(p1.1.2.2.1,(p1.1.2.2.2.1,())))),(([]:List (Int×Int×Int)),((0:Int),()))))))))
abbrev E_s_Release(k:Nat):qAL:=⟨88,0,(.cons (.agg yP6) yP4),(.tup (.cons (.agg yP9) (.cons .bool .nil))),qGK k⟩
theorem t_s_Release(k:Nat)(x):evF TTab k [qFL k,qGx k] [(0,⟨[1,2,4,6,7,8],(.cons (.int .i64) (.cons (.ptr 0 yP6) (.cons (.ptr 0 yP9) (.cons (.ptr 0 yP9) (.cons yP29 yP4)))))⟩,⟨[2,4,6,7],(.cons (.ptr 0 yP6) (.cons (.ptr 0 yP9) (.cons (.ptr 0 yP9) (.cons yP29 .nil))))⟩)] Tryz.f88 (.cons (.agg yP6) yP4) (.tup (.cons (.agg yP9) (.cons .bool .nil))) x=qGK k x:=by kernel_rfl
theorem e_s_Release[Names](k:Nat):qAE Tryz.prog (E_s_Release k):=qAD tok (qAA (qHg k) (qAA (e_s_PoolOk k) qAI)) (by kernel_rfl) (by kernel_rfl) (by kernel_rfl) fun x r h=>(t_s_Release k x).trans h
def qII(k:Nat)(x:(List ((Int×Int)×Int))×Int×Unit):Option ((List ((Int×Int)×Int))×Unit×Unit×Unit):=
(qAG (fun(rec0:((List ((Int×Int)×Int))×Int×(List ((Int×Int)×Int))×Int×Unit)→Option _) (y0:(List ((Int×Int)×Int))×Int×(List ((Int×Int)×Int))×Int×Unit) =>
(if(decide (y0.2.2.2.1<(List.length y0.1:Int)))=true then
(if 0≤y0.2.2.2.1∧y0.2.2.2.1<(List.length y0.1:Int) then
(if(!decide ((Ty.rd (t:=(.pair yT3 (.int .i64))) y0.1 y0.2.2.2.1).2=y0.2.1))=true then
(if 0≤y0.2.2.2.1∧y0.2.2.2.1<(List.length y0.1:Int) then
(if List.length y0.2.2.1+List.length ([(((Ty.rd (t:=(.pair yT3 (.int .i64))) y0.1 y0.2.2.2.1).1.1,(Ty.rd (t:=(.pair yT3 (.int .i64))) y0.1 y0.2.2.2.1).1.2),(Ty.rd (t:=(.pair yT3 (.int .i64))) y0.1 y0.2.2.2.1).2)]:List ((Int×Int)×Int))≤capMax then
(rec0 (y0.1,(y0.2.1,((y0.2.2.1++([(((Ty.rd (t:=(.pair yT3 (.int .i64))) y0.1 y0.2.2.2.1).1.1,(Ty.rd (t:=(.pair yT3 (.int .i64))) y0.1 y0.2.2.2.1).1.2),(Ty.rd (t:=(.pair yT3 (.int .i64))) y0.1 y0.2.2.2.1).2)]:List ((Int×Int)×Int))),((wi64 (y0.2.2.2.1+(1:Int))),())))))
else none)
else none)
else
(rec0 (y0.1,(y0.2.1,(y0.2.2.1,((wi64 (y0.2.2.2.1+(1:Int))),()))))))
else none)
else
((fun(z1:(List ((Int×Int)×Int))×Unit) =>
some (z1.1,((),((),())))) (y0.2.2.1,())))) k (x.1,(x.2.1,(([]:List ((Int×Int)×Int)),((0:Int),())))))
abbrev E_s_DropTo(k:Nat):qAL:=⟨89,0,(.cons yP20 yP4),yP16,qII k⟩
theorem t_s_DropTo(k:Nat)(x):evF TTab k [] [(0,⟨[0,1,5,6],(.cons yP20 (.cons (.int .i64) (.cons yP16 yP4)))⟩,⟨[5],(.cons yP16 .nil)⟩)] Tryz.f89 (.cons yP20 yP4) yP16 x=qII k x:=by kernel_rfl
theorem e_s_DropTo[Names](k:Nat):qAE Tryz.prog (E_s_DropTo k):=qAD tok qAI (by kernel_rfl) (by kernel_rfl) (by kernel_rfl) fun x r h=>(t_s_DropTo k x).trans h
def qB4(k:Nat)(x:(List (Int)×Int×Int×Unit)×Unit):Option (Int×(List (Int)×Int×Int×Unit)×Unit):=
(if(decide (x.1.2.1<(List.length x.1.1:Int)))=true then
(if 0≤x.1.2.1∧x.1.2.1<(List.length x.1.1:Int) then
some ((qAa .and .i64 (wi64 ((qAa .and .i64 (qAa .xor .i64 (Int.fdiv (wi64 ((wi64 (x.1.2.2.1*(6364136223846793005:Int)))+(1442695040888963407:Int))) (2^(min (Int.toNat (33:Int)) (IntKind.bits .i64)))) (Int.fdiv (wi64 ((wi64 (x.1.2.2.1*(6364136223846793005:Int)))+(1442695040888963407:Int))) (2^(min (Int.toNat (45:Int)) (IntKind.bits .i64))))) (255:Int))+(wi64 ((Ty.rd (t:=(.int .u8)) x.1.1 x.1.2.1))))) (255:Int)),((x.1.1,((wi64 (x.1.2.1+(1:Int))),((wi64 ((wi64 (x.1.2.2.1*(6364136223846793005:Int)))+(1442695040888963407:Int))),()))),()))
else none)
else
some ((qAa .and .i64 (qAa .xor .i64 (Int.fdiv (wi64 ((wi64 (x.1.2.2.1*(6364136223846793005:Int)))+(1442695040888963407:Int))) (2^(min (Int.toNat (33:Int)) (IntKind.bits .i64)))) (Int.fdiv (wi64 ((wi64 (x.1.2.2.1*(6364136223846793005:Int)))+(1442695040888963407:Int))) (2^(min (Int.toNat (45:Int)) (IntKind.bits .i64))))) (255:Int)),((x.1.1,(x.1.2.1,((wi64 ((wi64 (x.1.2.2.1*(6364136223846793005:Int)))+(1442695040888963407:Int))),()))),())))
abbrev qFP(k:Nat):qAL:=⟨52,0,(.cons (.ptr 0 yP21) .nil),(.int .i64),qB4 k⟩
theorem t_s_l01Byte(k:Nat)(x):evF TTab k [] [] Tryz.f52 (.cons (.ptr 0 yP21) .nil) (.int .i64) x=qB4 k x:=by kernel_rfl
theorem qHh[Names](k:Nat):qAE Tryz.prog (qFP k):=qAD tok qAI (by kernel_rfl) (by kernel_rfl) (by kernel_rfl) fun x r h=>(t_s_l01Byte k x).trans h
def qBl(k:Nat)(x:(List (Int)×Int×Int×Unit)×Int×Unit):Option (Int×(List (Int)×Int×Int×Unit)×Unit×Unit):=
(if(decide (x.2.1≤(0:Int)))=true then
some ((0:Int),((x.1.1,(x.1.2.1,(x.1.2.2.1,()))),((),())))
else
(if(decide (x.2.1≤(256:Int)))=true then
((qB4 k ((x.1.1,(x.1.2.1,(x.1.2.2.1,()))),())).bind fun p1 =>
(if x.2.1=0 then
none
else
some ((Int.tmod p1.1 x.2.1),((p1.2.1.1,(p1.2.1.2.1,(p1.2.1.2.2.1,()))),((),())))))
else
((qB4 k ((x.1.1,(x.1.2.1,(x.1.2.2.1,()))),())).bind fun p2 =>
((qB4 k ((p2.2.1.1,(p2.2.1.2.1,(p2.2.1.2.2.1,()))),())).bind fun p3 =>
((qB4 k ((p3.2.1.1,(p3.2.1.2.1,(p3.2.1.2.2.1,()))),())).bind fun p4 =>
((qB4 k ((p4.2.1.1,(p4.2.1.2.1,(p4.2.1.2.2.1,()))),())).bind fun p5 =>
(if x.2.1=0 then
none
else
some ((Int.tmod (wi64 ((wi64 ((wi64 ((wi64 (p2.1*(16777216:Int)))+(wi64 (p3.1*(65536:Int)))))+(wi64 (p4.1*(256:Int)))))+p5.1)) x.2.1),((p5.2.1.1,(p5.2.1.2.1,(p5.2.1.2.2.1,()))),((),()))))))))))
abbrev qDV(k:Nat):qAL:=⟨53,0,(.cons (.ptr 0 yP21) yP4),(.int .i64),qBl k⟩
theorem t_s_l01Below(k:Nat)(x):evF TTab k [qFP k] [] Tryz.f53 (.cons (.ptr 0 yP21) yP4) (.int .i64) x=qBl k x:=by kernel_rfl
theorem qEW[Names](k:Nat):qAE Tryz.prog (qDV k):=qAD tok (qAA (qHh k) qAI) (by kernel_rfl) (by kernel_rfl) (by kernel_rfl) fun x r h=>(t_s_l01Below k x).trans h
def qGL(k:Nat)(x:(List (Int)×Int×Int×Unit)×Int×Unit):Option (ByteArray×(List (Int)×Int×Int×Unit)×Unit×Unit):=
(jn (fun(j1v0:Int) =>
(qAG (fun(rec0:((List (Int)×Int×Int×Unit)×Int×List (Int)×Int×Unit)→Option _) (y0:(List (Int)×Int×Int×Unit)×Int×List (Int)×Int×Unit) =>
(if(decide (y0.2.2.2.1<y0.2.1))=true then
((qB4 k ((y0.1.1,(y0.1.2.1,(y0.1.2.2.1,()))),())).bind fun p2 =>
(if List.length y0.2.2.1+List.length ([(wu8 (p2.1))]:List (Int))≤capMax then
(rec0 ((p2.2.1.1,(p2.2.1.2.1,(p2.2.1.2.2.1,()))),(y0.2.1,((y0.2.2.1++([(wu8 (p2.1))]:List (Int))),((wi64 (y0.2.2.2.1+(1:Int))),())))))
else none))
else
((fun(z2:(List (Int)×Int×Int×Unit)×List (Int)×Unit) =>
some ((qAl z2.2.1),((z2.1.1,(z2.1.2.1,(z2.1.2.2.1,()))),((),())))) ((y0.1.1,(y0.1.2.1,(y0.1.2.2.1,()))),(y0.2.2.1,()))))) k ((x.1.1,(x.1.2.1,(x.1.2.2.1,()))),(j1v0,(([]:List (Int)),((0:Int),())))))) (fun(j1:Int→Option _) =>
(if(decide ((5000:Int)<x.2.1))=true then
(j1 (5000:Int))
else
(j1 x.2.1))))
abbrev E_s_l01Text(k:Nat):qAL:=⟨120,0,(.cons (.ptr 0 yP21) yP4),.str,qGL k⟩
theorem t_s_l01Text(k:Nat)(x):evF TTab k [qFP k] [(0,⟨[0,1,5,6],(.cons (.ptr 0 yP21) (.cons (.int .i64) (.cons (.own false 5 (.int .u8)) yP4)))⟩,⟨[0,5],(.cons (.ptr 0 yP21) (.cons (.own false 5 (.int .u8)) .nil))⟩)] Tryz.f120 (.cons (.ptr 0 yP21) yP4) .str x=qGL k x:=by kernel_rfl
theorem e_s_l01Text[Names](k:Nat):qAE Tryz.prog (E_s_l01Text k):=qAD tok (qAA (qHh k) qAI) (by kernel_rfl) (by kernel_rfl) (by kernel_rfl) fun x r h=>(t_s_l01Text k x).trans h
def qDs(k:Nat)(x:Int×Int×Unit):Option (((Int×Int×Unit)×Bool×Unit)×Unit×Unit×Unit):=
((qFN k (x.1,())).bind fun p1 =>
(if(!p1.1)=false then
((qBk k (x.2.1,((0:Int),((32:Int),())))).bind fun p2 =>
(if(!p2.1)=true then
some ((((0:Int),((0:Int),())),(false,())),((),((),())))
else
((qCw k (x.2.1,())).bind fun p3 =>
(if p3.1=0 then
none
else
some ((((wi64 (x.1-(Int.tmod x.1 p3.1))),(x.2.1,())),(true,())),((),((),())))))))
else
some ((((0:Int),((0:Int),())),(false,())),((),((),())))))
abbrev qGM(k:Nat):qAL:=⟨215,0,(.cons (.int .i64) yP4),(.tup (.cons yP27 (.cons .bool .nil))),qDs k⟩
theorem t_s_PrefixOf(k:Nat)(x):evF TTab k [qBt k,qC8 k,qGw k] [] Tryz.f215 (.cons (.int .i64) yP4) (.tup (.cons yP27 (.cons .bool .nil))) x=qDs k x:=by kernel_rfl
theorem e_s_PrefixOf[Names](k:Nat):qAE Tryz.prog (qGM k):=qAD tok (qAA (qB2 k) (qAA (qD9 k) (qAA (e_s_AddrOk k) qAI))) (by kernel_rfl) (by kernel_rfl) (by kernel_rfl) fun x r h=>(t_s_PrefixOf k x).trans h
def qCn(k:Nat)(x:(List (Int)×Int×Int×Unit)×List (Int)×Unit):Option (Int×(List (Int)×Int×Int×Unit)×Unit×Unit):=
((qBl k ((x.1.1,(x.1.2.1,(x.1.2.2.1,()))),((List.length x.2.1:Int),()))).bind fun p1 =>
(if 0≤p1.1∧p1.1<(List.length x.2.1:Int) then
some ((Ty.rd (t:=(.int .i64)) x.2.1 p1.1),((p1.2.1.1,(p1.2.1.2.1,(p1.2.1.2.2.1,()))),((),())))
else none))
abbrev qEi(k:Nat):qAL:=⟨216,0,(.cons (.ptr 0 yP21) (.cons (.il false (.int .i64)) .nil)),(.int .i64),qCn k⟩
theorem t_s_l01PickInt(k:Nat)(x):evF TTab k [qDV k] [] Tryz.f216 (.cons (.ptr 0 yP21) (.cons (.il false (.int .i64)) .nil)) (.int .i64) x=qCn k x:=by kernel_rfl
theorem qHJ[Names](k:Nat):qAE Tryz.prog (qEi k):=qAD tok (qAA (qEW k) qAI) (by kernel_rfl) (by kernel_rfl) (by kernel_rfl) fun x r h=>(t_s_l01PickInt k x).trans h
def qIJ(k:Nat)(x:(List (Int)×Int×Int×Unit)×Unit):Option ((Int×Int×Unit)×(List (Int)×Int×Int×Unit)×Unit):=
((qCn k ((x.1.1,(x.1.2.1,(x.1.2.2.1,()))),(([(24:Int),(28:Int),(29:Int)]:List (Int)),()))).bind fun p1 =>
((qDs k ((167772160:Int),(p1.1,()))).bind fun p2 =>
some ((p2.1.1.1,(p2.1.1.2.1,())),((p1.2.1.1,(p1.2.1.2.1,(p1.2.1.2.2.1,()))),()))))
abbrev E_s_l22Net(k:Nat):qAL:=⟨126,0,(.cons (.ptr 0 yP21) .nil),yP27,qIJ k⟩
theorem t_s_l22Net(k:Nat)(x):evF TTab k [qGM k,qEi k] [] Tryz.f126 (.cons (.ptr 0 yP21) .nil) yP27 x=qIJ k x:=by kernel_rfl
theorem e_s_l22Net[Names](k:Nat):qAE Tryz.prog (E_s_l22Net k):=qAD tok (qAA (e_s_PrefixOf k) (qAA (qHJ k) qAI)) (by kernel_rfl) (by kernel_rfl) (by kernel_rfl) fun x r h=>(t_s_l22Net k x).trans h
def qEB(k:Nat)(x:(List (Int)×Int×Int×Unit)×Unit):Option ((Int×Int×Unit)×(List (Int)×Int×Int×Unit)×Unit):=
((qBl k ((x.1.1,(x.1.2.1,(x.1.2.2.1,()))),((1024:Int),()))).bind fun p1 =>
((qCn k ((p1.2.1.1,(p1.2.1.2.1,(p1.2.1.2.2.1,()))),(([(0:Int),(8:Int),(22:Int),(24:Int),(25:Int),(26:Int),(28:Int),(29:Int),(30:Int),(31:Int),(32:Int)]:List (Int)),()))).bind fun p2 =>
((qDs k ((wi64 ((167772160:Int)+p1.1)),(p2.1,()))).bind fun p3 =>
some ((p3.1.1.1,(p3.1.1.2.1,())),((p2.2.1.1,(p2.2.1.2.1,(p2.2.1.2.2.1,()))),())))))
abbrev qIK(k:Nat):qAL:=⟨127,0,(.cons (.ptr 0 yP21) .nil),yP27,qEB k⟩
theorem t_s_l08Prefix(k:Nat)(x):evF TTab k [qDV k,qGM k,qEi k] [] Tryz.f127 (.cons (.ptr 0 yP21) .nil) yP27 x=qEB k x:=by kernel_rfl
theorem e_s_l08Prefix[Names](k:Nat):qAE Tryz.prog (qIK k):=qAD tok (qAA (qEW k) (qAA (e_s_PrefixOf k) (qAA (qHJ k) qAI))) (by kernel_rfl) (by kernel_rfl) (by kernel_rfl) fun x r h=>(t_s_l08Prefix k x).trans h
def qEx(k:Nat)(x:(Int×Int×Unit)×Unit):Option (((Int×Int×(List (Int×Int×Int))×(List (Int×Int))×(List ((Int×Int)×Int))×(List (Int×Int×((Int×ByteArray×ByteArray×Int×List (Int)×Int)×Int×ByteArray×ByteArray×Int×List (Int)×Int)×List (Int×Int×Int×List (ByteArray)×List (Bool)×Int)×Int))×Unit)×Bool×Unit)×Unit×Unit):=
((qFO k ((x.1.1,(x.1.2.1,([],([],())))),())).bind fun p1 =>
(if(!p1.1)=true then
some ((((0:Int),((0:Int),([],([],([],([],())))))),(false,())),((),()))
else
some (((x.1.1,(x.1.2.1,([],([],([],([],())))))),(true,())),((),()))))
abbrev E_s_HubNew_f(k:Nat):qAL:=⟨125,0,(.cons yP27 .nil),(.tup (.cons (.agg yP7) (.cons .bool .nil))),qEx k⟩
theorem t_s_HubNew_f(k:Nat)(x):evF TTab k [qGx k] [] Tryz.f125 (.cons yP27 .nil) (.tup (.cons (.agg yP7) (.cons .bool .nil))) x=qEx k x:=by kernel_rfl
theorem e_s_HubNew_f[Names](k:Nat):qAE Tryz.prog (E_s_HubNew_f k):=qAD tok (qAA (e_s_PoolOk k) qAI) (by kernel_rfl) (by kernel_rfl) (by kernel_rfl) fun x r h=>(t_s_HubNew_f k x).trans h
def qGN(k:Nat)(x:(Int×Int×(List (Int×Int×Int))×(List (Int×Int))×(List ((Int×Int)×Int))×(List (Int×Int×((Int×ByteArray×ByteArray×Int×List (Int)×Int)×Int×ByteArray×ByteArray×Int×List (Int)×Int)×List (Int×Int×Int×List (ByteArray)×List (Bool)×Int)×Int))×Unit)×Int×Unit):Option (((Int×Int×(List (Int×Int×Int))×(List (Int×Int))×(List ((Int×Int)×Int))×(List (Int×Int×((Int×ByteArray×ByteArray×Int×List (Int)×Int)×Int×ByteArray×ByteArray×Int×List (Int)×Int)×List (Int×Int×Int×List (ByteArray)×List (Bool)×Int)×Int))×Unit)×Bool×Unit)×Unit×Unit×Unit):=
((qDU k ((x.1.1,(x.1.2.1,(x.1.2.2.1,(x.1.2.2.2.1,(x.1.2.2.2.2.1,(x.1.2.2.2.2.2.1,())))))),())).bind fun p1 =>
((qGC k (x.1.2.2.2.2.2.1,(x.2.1,()))).bind fun p2 =>
(if(decide (p2.1<(0:Int)))=true then
some (((p1.1.1,(p1.1.2.1,(p1.1.2.2.1,(p1.1.2.2.2.1,(p1.1.2.2.2.2.1,(p1.1.2.2.2.2.2.1,())))))),(false,())),((),((),())))
else
((qGK k ((x.1.1,(x.1.2.1,(x.1.2.2.1,(x.1.2.2.2.1,())))),(x.2.1,()))).bind fun p3 =>
((qII k (x.1.2.2.2.2.1,(x.2.1,()))).bind fun p4 =>
(qAG (fun(rec0:(Int×(Int×Int×(List (Int×Int×Int))×(List (Int×Int))×(List ((Int×Int)×Int))×(List (Int×Int×((Int×ByteArray×ByteArray×Int×List (Int)×Int)×Int×ByteArray×ByteArray×Int×List (Int)×Int)×List (Int×Int×Int×List (ByteArray)×List (Bool)×Int)×Int))×Unit)×(Int×Int×(List (Int×Int×Int))×(List (Int×Int))×(List ((Int×Int)×Int))×(List (Int×Int×((Int×ByteArray×ByteArray×Int×List (Int)×Int)×Int×ByteArray×ByteArray×Int×List (Int)×Int)×List (Int×Int×Int×List (ByteArray)×List (Bool)×Int)×Int))×Unit)×(Int×Int×(List (Int×Int×Int))×(List (Int×Int))×(List ((Int×Int)×Int))×(List (Int×Int×((Int×ByteArray×ByteArray×Int×List (Int)×Int)×Int×ByteArray×ByteArray×Int×List (Int)×Int)×List (Int×Int×Int×List (ByteArray)×List (Bool)×Int)×Int))×Unit)×(List (Int×Int×((Int×ByteArray×ByteArray×Int×List (Int)×Int)×Int×ByteArray×ByteArray×Int×List (Int)×Int)×List (Int×Int×Int×List (ByteArray)×List (Bool)×Int)×Int))×Int×Unit)→Option _) (y0:Int×(Int×Int×(List (Int×Int×Int))×(List (Int×Int))×(List ((Int×Int)×Int))×(List (Int×Int×((Int×ByteArray×ByteArray×Int×List (Int)×Int)×Int×ByteArray×ByteArray×Int×List (Int)×Int)×List (Int×Int×Int×List (ByteArray)×List (Bool)×Int)×Int))×Unit)×(Int×Int×(List (Int×Int×Int))×(List (Int×Int))×(List ((Int×Int)×Int))×(List (Int×Int×((Int×ByteArray×ByteArray×Int×List (Int)×Int)×Int×ByteArray×ByteArray×Int×List (Int)×Int)×List (Int×Int×Int×List (ByteArray)×List (Bool)×Int)×Int))×Unit)×(Int×Int×(List (Int×Int×Int))×(List (Int×Int))×(List ((Int×Int)×Int))×(List (Int×Int×((Int×ByteArray×ByteArray×Int×List (Int)×Int)×Int×ByteArray×ByteArray×Int×List (Int)×Int)×List (Int×Int×Int×List (ByteArray)×List (Bool)×Int)×Int))×Unit)×(List (Int×Int×((Int×ByteArray×ByteArray×Int×List (Int)×Int)×Int×ByteArray×ByteArray×Int×List (Int)×Int)×List (Int×Int×Int×List (ByteArray)×List (Bool)×Int)×Int))×Int×Unit) =>
(if(decide (y0.2.2.2.2.2.1<(List.length y0.2.1.2.2.2.2.2.1:Int)))=true then
(if 0≤y0.2.2.2.2.2.1∧y0.2.2.2.2.2.1<(List.length y0.2.1.2.2.2.2.2.1:Int) then
(if(!decide ((Ty.rd (t:=yT0) y0.2.1.2.2.2.2.2.1 y0.2.2.2.2.2.1).1=y0.1))=true then
(if 0≤y0.2.2.2.2.2.1∧y0.2.2.2.2.2.1<(List.length y0.2.1.2.2.2.2.2.1:Int) then
(if List.length y0.2.2.2.2.1+List.length ([((Ty.rd (t:=yT0) y0.2.1.2.2.2.2.2.1 y0.2.2.2.2.2.1).1,((Ty.rd (t:=yT0) y0.2.1.2.2.2.2.2.1 y0.2.2.2.2.2.1).2.1,((((Ty.rd (t:=yT0) y0.2.1.2.2.2.2.2.1 y0.2.2.2.2.2.1).2.2.1.1.1,((Ty.rd (t:=yT0) y0.2.1.2.2.2.2.2.1 y0.2.2.2.2.2.1).2.2.1.1.2.1,((Ty.rd (t:=yT0) y0.2.1.2.2.2.2.2.1 y0.2.2.2.2.2.1).2.2.1.1.2.2.1,((Ty.rd (t:=yT0) y0.2.1.2.2.2.2.2.1 y0.2.2.2.2.2.1).2.2.1.1.2.2.2.1,((Ty.rd (t:=yT0) y0.2.1.2.2.2.2.2.1 y0.2.2.2.2.2.1).2.2.1.1.2.2.2.2.1,(Ty.rd (t:=yT0) y0.2.1.2.2.2.2.2.1 y0.2.2.2.2.2.1).2.2.1.1.2.2.2.2.2))))),((Ty.rd (t:=yT0) y0.2.1.2.2.2.2.2.1 y0.2.2.2.2.2.1).2.2.1.2.1,((Ty.rd (t:=yT0) y0.2.1.2.2.2.2.2.1 y0.2.2.2.2.2.1).2.2.1.2.2.1,((Ty.rd (t:=yT0) y0.2.1.2.2.2.2.2.1 y0.2.2.2.2.2.1).2.2.1.2.2.2.1,((Ty.rd (t:=yT0) y0.2.1.2.2.2.2.2.1 y0.2.2.2.2.2.1).2.2.1.2.2.2.2.1,((Ty.rd (t:=yT0) y0.2.1.2.2.2.2.2.1 y0.2.2.2.2.2.1).2.2.1.2.2.2.2.2.1,(Ty.rd (t:=yT0) y0.2.1.2.2.2.2.2.1 y0.2.2.2.2.2.1).2.2.1.2.2.2.2.2.2)))))),((Ty.rd (t:=yT0) y0.2.1.2.2.2.2.2.1 y0.2.2.2.2.2.1).2.2.2.1,(Ty.rd (t:=yT0) y0.2.1.2.2.2.2.2.1 y0.2.2.2.2.2.1).2.2.2.2))))]:List (Int×Int×((Int×ByteArray×ByteArray×Int×List (Int)×Int)×Int×ByteArray×ByteArray×Int×List (Int)×Int)×List (Int×Int×Int×List (ByteArray)×List (Bool)×Int)×Int))≤capMax then
(rec0 (y0.1,((y0.2.1.1,(y0.2.1.2.1,(y0.2.1.2.2.1,(y0.2.1.2.2.2.1,(y0.2.1.2.2.2.2.1,(y0.2.1.2.2.2.2.2.1,())))))),((y0.2.2.1.1,(y0.2.2.1.2.1,(y0.2.2.1.2.2.1,(y0.2.2.1.2.2.2.1,(y0.2.2.1.2.2.2.2.1,(y0.2.2.1.2.2.2.2.2.1,())))))),((y0.2.2.2.1.1,(y0.2.2.2.1.2.1,(y0.2.2.2.1.2.2.1,(y0.2.2.2.1.2.2.2.1,(y0.2.2.2.1.2.2.2.2.1,(y0.2.2.2.1.2.2.2.2.2.1,())))))),((y0.2.2.2.2.1++([((Ty.rd (t:=yT0) y0.2.1.2.2.2.2.2.1 y0.2.2.2.2.2.1).1,((Ty.rd (t:=yT0) y0.2.1.2.2.2.2.2.1 y0.2.2.2.2.2.1).2.1,((((Ty.rd (t:=yT0) y0.2.1.2.2.2.2.2.1 y0.2.2.2.2.2.1).2.2.1.1.1,((Ty.rd (t:=yT0) y0.2.1.2.2.2.2.2.1 y0.2.2.2.2.2.1).2.2.1.1.2.1,((Ty.rd (t:=yT0) y0.2.1.2.2.2.2.2.1 y0.2.2.2.2.2.1).2.2.1.1.2.2.1,((Ty.rd (t:=yT0) y0.2.1.2.2.2.2.2.1 y0.2.2.2.2.2.1).2.2.1.1.2.2.2.1,((Ty.rd (t:=yT0) y0.2.1.2.2.2.2.2.1 y0.2.2.2.2.2.1).2.2.1.1.2.2.2.2.1,(Ty.rd (t:=yT0) y0.2.1.2.2.2.2.2.1 y0.2.2.2.2.2.1).2.2.1.1.2.2.2.2.2))))),((Ty.rd (t:=yT0) y0.2.1.2.2.2.2.2.1 y0.2.2.2.2.2.1).2.2.1.2.1,((Ty.rd (t:=yT0) y0.2.1.2.2.2.2.2.1 y0.2.2.2.2.2.1).2.2.1.2.2.1,((Ty.rd (t:=yT0) y0.2.1.2.2.2.2.2.1 y0.2.2.2.2.2.1).2.2.1.2.2.2.1,((Ty.rd (t:=yT0) y0.2.1.2.2.2.2.2.1 y0.2.2.2.2.2.1).2.2.1.2.2.2.2.1,((Ty.rd (t:=yT0) y0.2.1.2.2.2.2.2.1 y0.2.2.2.2.2.1).2.2.1.2.2.2.2.2.1,(Ty.rd (t:=yT0) y0.2.1.2.2.2.2.2.1 y0.2.2.2.2.2.1).2.2.1.2.2.2.2.2.2)))))),((Ty.rd (t:=yT0) y0.2.1.2.2.2.2.2.1 y0.2.2.2.2.2.1).2.2.2.1,(Ty.rd (t:=yT0) y0.2.1.2.2.2.2.2.1 y0.2.2.2.2.2.1).2.2.2.2))))]:List (Int×Int×((Int×ByteArray×ByteArray×Int×List (Int)×Int)×Int×ByteArray×ByteArray×Int×List (Int)×Int)×List (Int×Int×Int×List (ByteArray)×List (Bool)×Int)×Int))),((wi64 (y0.2.2.2.2.2.1+(1:Int))),())))))))
else none)
else none)
else
(rec0 (y0.1,((y0.2.1.1,(y0.2.1.2.1,(y0.2.1.2.2.1,(y0.2.1.2.2.2.1,(y0.2.1.2.2.2.2.1,(y0.2.1.2.2.2.2.2.1,())))))),((y0.2.2.1.1,(y0.2.2.1.2.1,(y0.2.2.1.2.2.1,(y0.2.2.1.2.2.2.1,(y0.2.2.1.2.2.2.2.1,(y0.2.2.1.2.2.2.2.2.1,())))))),((y0.2.2.2.1.1,(y0.2.2.2.1.2.1,(y0.2.2.2.1.2.2.1,(y0.2.2.2.1.2.2.2.1,(y0.2.2.2.1.2.2.2.2.1,(y0.2.2.2.1.2.2.2.2.2.1,())))))),(y0.2.2.2.2.1,((wi64 (y0.2.2.2.2.2.1+(1:Int))),()))))))))
else none)
else
((fun(z1:(Int×Int×(List (Int×Int×Int))×(List (Int×Int))×(List ((Int×Int)×Int))×(List (Int×Int×((Int×ByteArray×ByteArray×Int×List (Int)×Int)×Int×ByteArray×ByteArray×Int×List (Int)×Int)×List (Int×Int×Int×List (ByteArray)×List (Bool)×Int)×Int))×Unit)×(Int×Int×(List (Int×Int×Int))×(List (Int×Int))×(List ((Int×Int)×Int))×(List (Int×Int×((Int×ByteArray×ByteArray×Int×List (Int)×Int)×Int×ByteArray×ByteArray×Int×List (Int)×Int)×List (Int×Int×Int×List (ByteArray)×List (Bool)×Int)×Int))×Unit)×(List (Int×Int×((Int×ByteArray×ByteArray×Int×List (Int)×Int)×Int×ByteArray×ByteArray×Int×List (Int)×Int)×List (Int×Int×Int×List (ByteArray)×List (Bool)×Int)×Int))×Unit) =>
((qBE k (z1.2.2.1,())).bind fun p5 =>
some (((z1.2.1.1,(z1.2.1.2.1,(z1.2.1.2.2.1,(z1.2.1.2.2.2.1,(z1.2.1.2.2.2.2.1,(p5.1,())))))),(true,())),((),((),()))))) ((y0.2.2.1.1,(y0.2.2.1.2.1,(y0.2.2.1.2.2.1,(y0.2.2.1.2.2.2.1,(y0.2.2.1.2.2.2.2.1,(y0.2.2.1.2.2.2.2.2.1,())))))),((y0.2.2.2.1.1,(y0.2.2.2.1.2.1,(y0.2.2.2.1.2.2.1,(y0.2.2.2.1.2.2.2.1,(y0.2.2.2.1.2.2.2.2.1,(y0.2.2.2.1.2.2.2.2.2.1,())))))),(y0.2.2.2.2.1,())))))) k (x.2.1,((x.1.1,(x.1.2.1,(x.1.2.2.1,(x.1.2.2.2.1,(x.1.2.2.2.2.1,(x.1.2.2.2.2.2.1,())))))),(((0:Int),((0:Int),([],([],([],([],())))))),((p3.1.1.1,(p3.1.1.2.1,(p3.1.1.2.2.1,(p3.1.1.2.2.2.1,(p4.1,(p1.1.2.2.2.2.2.1,())))))),(([]:List (Int×Int×((Int×ByteArray×ByteArray×Int×List (Int)×Int)×Int×ByteArray×ByteArray×Int×List (Int)×Int)×List (Int×Int×Int×List (ByteArray)×List (Bool)×Int)×Int)),((0:Int),()))))))))))))
abbrev E_s_Leave_f(k:Nat):qAL:=⟨27,0,(.cons (.agg yP7) yP4),(.tup (.cons (.agg yP7) (.cons .bool .nil))),qGN k⟩
theorem t_s_Leave_f(k:Nat)(x):evF TTab k [qD8 k,qGD k,qB3 k,E_s_Release k,E_s_DropTo k] [(0,⟨[1,2,4,6,7,8],(.cons (.int .i64) (.cons (.ptr 0 yP7) (.cons (.ptr 0 yP19) (.cons (.ptr 0 yP19) (.cons (.own false 45 yT0) yP4)))))⟩,⟨[4,6,7],(.cons (.ptr 0 yP19) (.cons (.ptr 0 yP19) (.cons (.own false 45 yT0) .nil)))⟩)] Tryz.f27 (.cons (.agg yP7) yP4) (.tup (.cons (.agg yP7) (.cons .bool .nil))) x=qGN k x:=by kernel_rfl
theorem e_s_Leave_f[Names](k:Nat):qAE Tryz.prog (E_s_Leave_f k):=qAD tok (qAA (qFM k) (qAA (qIG k) (qAA (qCd k) (qAA (e_s_Release k) (qAA (e_s_DropTo k) qAI))))) (by kernel_rfl) (by kernel_rfl) (by kernel_rfl) fun x r h=>(t_s_Leave_f k x).trans h
end Go.Proofs.YtnfllchbpechlaaGreat
