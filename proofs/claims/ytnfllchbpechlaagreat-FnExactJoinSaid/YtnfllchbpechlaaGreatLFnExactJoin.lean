import Derived.Test.YtnfllchbpechlaaGreatPFnExactJoin
import Derived.Test.YtnfllchbpechlaaGreatRows
import Derived.Test.YtnfllchbpechlaaGreatFun3
import Derived.Test.YtnfllchbpechlaaGreatBase
import Derived.Test.YtnfllchbpechlaaGreatFacts
import Derived.WalkKit
import Derived.ProofKit
import Derived.OpenShut
import Derived.ShutString
import Derived.ChangeOld
import Derived.Below
import Derived.SizedLaws
/- FnExactJoin answers true for every input, and its arguments read behind the call as they did ahead of it. Conditions: none. -/
set_option linter.unusedVariables false
set_option linter.unusedSimpArgs false
namespace Go.Proofs.YtnfllchbpechlaaGreat
open Go Go.Eng Go.Proofs
theorem Inside_is(k:Nat)(x:qCF)(a:Int)(hk:40<k):qCr k (x,(a,()))=some (qFF x.1 x.2.1 a,((),((),()))):=by
 unfold qCr qFF
 simp only[s_InPrefix_is k _ _ _ hk,Option.bind_some]
 cases hb:inB x.1 x.2.1 a with
 | false=>simp
 | true =>
  obtain⟨h1,h2,h3⟩:=inB_in hb
  have hp:=qH7 (32-x.2.1.toNat)
  have hq:=pow_le_32 x.2.1
  have w1:wi64 (x.1+(2:Int)^(32-x.2.1.toNat))=x.1+(2:Int)^(32-x.2.1.toNat):=qAF _ (by omega)
  have w2:wi64 (x.1+((2:Int)^(32-x.2.1.toNat)-1))=x.1+((2:Int)^(32-x.2.1.toNat)-1):=qAF _ (by omega)
  have e2:x.1+(2:Int)^(32-x.2.1.toNat)-1=x.1+((2:Int)^(32-x.2.1.toNat)-1):=by omega
  simp only[qHM k x.2.1 h2 hk,Option.bind_some,if_true,Bool.true_and,w1,e2,w2]
  by_cases e:a=x.1 <;> simp[e]
def qBW(q:List qAK.den)(a:Int):Int:=match (List.range q.length).find? (fun j=>decide ((Ty.rd (t:=qAK) q (j:Nat)).2=a)) with | some j=>(Ty.rd (t:=qAK) q (j:Nat)).1 | none=>0
theorem qH8(k:Nat)(x:qCF)(a:Int)(hk:1048576<k)(hl:x.2.2.2.1.length≤1048576):qBh k (x,(a,()))=some (qBW x.2.2.2.1 a,((),((),()))):=by
 unfold qBh qBW
 refine(qBm (R:=Int×Unit×Unit×Unit) (fun j=>(a,(x.2.2.2.1,((x.2.2.2.1.length:Int),(((j:Nat):Int),()))))) x.2.2.2.1.length (fun j=>decide ((Ty.rd (t:=qAK) x.2.2.2.1 (j:Nat)).2=a)) (fun j=>((Ty.rd (t:=qAK) x.2.2.2.1 (j:Nat)).1,((),((),())))) (0,((),((),()))) ?_ ?_ k (by omega)).trans ?_
 ·intro ag j hj
  have q1:(0:Int)≤(j:Int)∧(j:Int)<(x.2.2.2.1.length:Int):=by omega
  have w3:wi64 ((j:Int)+1)=((j+1:Nat):Int):=(qAF _ (by omega)).trans (by omega)
  simp only[q1,w3,and_self,decide_true,if_true]
 ·intro ag
  simp only[Int.lt_irrefl,decide_false,Bool.false_eq_true,if_false]
 ·cases (List.range x.2.2.2.1.length).find? (fun j=>decide ((Ty.rd (t:=qAK) x.2.2.2.1 (j:Nat)).2=a)) <;> rfl
theorem qEe(k:Nat)(x:qCF)(a:Int)(hk:1048576<k)(hl:x.2.2.2.1.length≤1048576):qBD k (x,(a,()))=some (qBW x.2.2.2.1 a,((),((),()))):=by
 unfold qBD qBW
 refine(qBm (R:=Int×Unit×Unit×Unit) (fun j=>(a,(x,(((j:Nat):Int),())))) x.2.2.2.1.length (fun j=>decide ((Ty.rd (t:=qAK) x.2.2.2.1 (j:Nat)).2=a)) (fun j=>((Ty.rd (t:=qAK) x.2.2.2.1 (j:Nat)).1,((),((),())))) (0,((),((),()))) ?_ ?_ k (by omega)).trans ?_
 ·intro ag j hj
  have q1:(0:Int)≤(j:Int)∧(j:Int)<(x.2.2.2.1.length:Int):=by omega
  have w3:wi64 ((j:Int)+1)=((j+1:Nat):Int):=(qAF _ (by omega)).trans (by omega)
  simp only[q1,w3,and_self,decide_true,if_true]
 ·intro ag
  simp only[Int.lt_irrefl,decide_false,Bool.false_eq_true,if_false]
 ·cases (List.range x.2.2.2.1.length).find? (fun j=>decide ((Ty.rd (t:=qAK) x.2.2.2.1 (j:Nat)).2=a)) <;> rfl
def badF(x:qCF)(i:Nat):Bool:=!(decide (1≤(Ty.rd (t:=qAK) x.2.2.2.1 i).1∧(Ty.rd (t:=qAK) x.2.2.2.1 i).1≤99)&&(qFF x.1 x.2.1 (Ty.rd (t:=qAK) x.2.2.2.1 i).2&&(!(decide (0<(i:Int))&&decide ((Ty.rd (t:=qAK) x.2.2.2.1 i).1≤(Ty.rd (t:=qAK) x.2.2.2.1 (wi64 ((i:Int)-1))).1))&&decide (qBW x.2.2.2.1 (Ty.rd (t:=qAK) x.2.2.2.1 i).2=(Ty.rd (t:=qAK) x.2.2.2.1 i).1))))
def qB7(q:List qAE.den)(w:Int):Int:=match (List.range q.length).find? (fun j=>decide ((Ty.rd (t:=qAE) q (j:Nat)).2.1=w)) with | some j=>((j:Nat):Int) | none=>-1
theorem leaseOf_is(k:Nat)(x:qCF)(w:Int)(hk:1048576<k)(hl:x.2.2.1.length≤1048576):qD4 k (x,(w,()))=some (qB7 x.2.2.1 w,((),((),()))):=by
 have h:qAN k (x.2.2.1,(((w,()),()),()))=some (qB7 x.2.2.1 w,((),((((w,()),()),())))):=by
  unfold qAN qB7
  refine(qBm (R:=Int×Unit×((Int×Unit)×Unit)×Unit) (fun j=>(x.2.2.1,((((w,()),())),((x.2.2.1.length:Int),(((j:Nat):Int),()))))) x.2.2.1.length (fun j=>decide ((Ty.rd (t:=qAE) x.2.2.1 (j:Nat)).2.1=w)) (fun j=>(((j:Nat):Int),((),((((w,()),()),()))))) (-1,((),((((w,()),()),())))) ?_ ?_ k (by omega)).trans ?_
  ·intro ag j hj
   have q1:(0:Int)≤(j:Int)∧(j:Int)<(x.2.2.1.length:Int):=by omega
   have w3:wi64 ((j:Int)+1)=((j+1:Nat):Int):=(qAF _ (by omega)).trans (by omega)
   simp only[q1,w3,qFS,and_self,decide_true,if_true,Option.bind_some]
  ·intro ag
   simp only[Int.lt_irrefl,decide_false,Bool.false_eq_true,if_false]
  ·cases (List.range x.2.2.1.length).find? (fun j=>decide ((Ty.rd (t:=qAE) x.2.2.1 (j:Nat)).2.1=w)) <;> rfl
 unfold qD4
 rw[h]
 rfl
def badL(x:qCF)(i:Nat):Bool:=!(!(decide (0<(i:Int))&&decide ((Ty.rd (t:=qAE) x.2.2.1 i).1≤(Ty.rd (t:=qAE) x.2.2.1 (wi64 ((i:Int)-1))).1))&&(qFF x.1 x.2.1 (Ty.rd (t:=qAE) x.2.2.1 i).1&&(decide (1≤(Ty.rd (t:=qAE) x.2.2.1 i).2.1∧(Ty.rd (t:=qAE) x.2.2.1 i).2.1≤99)&&(decide (0≤(Ty.rd (t:=qAE) x.2.2.1 i).2.2∧(Ty.rd (t:=qAE) x.2.2.1 i).2.2≤1000000000)&&((List.range i).all (fun j=>!decide ((Ty.rd (t:=qAE) x.2.2.1 (j:Nat)).2.1=(Ty.rd (t:=qAE) x.2.2.1 i).2.1))&&(decide (qBW x.2.2.2.1 (Ty.rd (t:=qAE) x.2.2.1 i).1=0) || decide (qBW x.2.2.2.1 (Ty.rd (t:=qAE) x.2.2.1 i).1=(Ty.rd (t:=qAE) x.2.2.1 i).2.1)))))))
def prefB(p n:Int):Bool:=decide ((0≤p∧p≤4294967295)∧(0≤n∧n≤32)∧p % 2^(32-n.toNat)=0)
def qH9(x:qCF):Bool:=prefB x.1 x.2.1&&(decide (24≤x.2.1∧x.2.1≤30)&&(decide (x.2.2.1.length≤6)&&(decide (x.2.2.2.1.length≤4)&&((List.range x.2.2.2.1.length).all (fun j=>!badF x j)&&(List.range x.2.2.1.length).all (fun j=>!badL x j)))))
theorem fixesOk_is(k:Nat)(x:qCF)(hk:1048576<k)(hl:x.2.2.2.1.length≤1048576):qGK k (x,())=some (((List.range x.2.2.2.1.length).all (fun j=>!badF x j)&&decide (x.2.2.2.1.length≤4)),((),())):=by
 unfold qGK
 refine(qB3 (fun i=>(x,(x.2.2.2.1,((x.2.2.2.1.length:Int),(((i:Nat):Int),()))))) x.2.2.2.1.length (badF x) (some (false,((),()))) (some (decide (x.2.2.2.1.length≤4),((),()))) ?_ ?_ k (by omega)).trans ?_
 ·intro again i hi
  have w2:wi64 ((i:Int)+1)=((i+1:Nat):Int):=(qAF _ (by omega)).trans (by omega)
  have w1:wi64 ((i:Int)-1)=(i:Int)-1:=qAF _ (by omega)
  have g1:(0:Int)≤(i:Int)∧(i:Int)<(x.2.2.2.1.length:Int):=by omega
  rw[show badF x i=(!(decide (1≤(Ty.rd (t:=qAK) x.2.2.2.1 i).1∧(Ty.rd (t:=qAK) x.2.2.2.1 i).1≤99)&&(qFF x.1 x.2.1 (Ty.rd (t:=qAK) x.2.2.2.1 i).2&&(!(decide (0<(i:Int))&&decide ((Ty.rd (t:=qAK) x.2.2.2.1 i).1≤(Ty.rd (t:=qAK) x.2.2.2.1 (wi64 ((i:Int)-1))).1))&&decide (qBW x.2.2.2.1 (Ty.rd (t:=qAK) x.2.2.2.1 i).2=(Ty.rd (t:=qAK) x.2.2.2.1 i).1))))) from rfl]
  simp only[g1,isId_is,qJN,qH8 k x _ hk hl,w2,and_self,decide_true,if_true,Option.bind_some]
  by_cases c1:1≤(Ty.rd (t:=qAK) x.2.2.2.1 i).1∧(Ty.rd (t:=qAK) x.2.2.2.1 i).1≤99
  rotate_left
  ·simp only[c1,decide_false,Bool.not_false,Bool.true_eq_false,if_false,Bool.false_and,if_true]
  cases c2:qFF x.1 x.2.1 (Ty.rd (t:=qAK) x.2.2.2.1 i).2 with
  | false=>simp only[c1,and_self,decide_true,Bool.not_true,Bool.not_false,Bool.true_eq_false,if_true,if_false,Bool.false_and,Bool.true_and]
  | true =>
   by_cases h2:0<(i:Int)
   ·have g3:(0:Int)≤wi64 ((i:Int)-1)∧wi64 ((i:Int)-1)<(x.2.2.2.1.length:Int):=by rw[w1];omega
    by_cases c3:(Ty.rd (t:=qAK) x.2.2.2.1 i).1≤(Ty.rd (t:=qAK) x.2.2.2.1 (wi64 ((i:Int)-1))).1
    ·simp only[c1,c3,h2,g3,and_self,decide_true,Bool.not_true,Bool.not_false,Bool.true_eq_false,if_true,if_false,Bool.false_and,Bool.true_and]
    ·by_cases c4:qBW x.2.2.2.1 (Ty.rd (t:=qAK) x.2.2.2.1 i).2=(Ty.rd (t:=qAK) x.2.2.2.1 i).1 <;>
      simp only[c1,c3,c4,h2,g3,and_self,decide_true,decide_false,Bool.not_true,Bool.not_false,Bool.false_eq_true,if_true,if_false,Bool.and_false,Bool.true_and]
   ·by_cases c4:qBW x.2.2.2.1 (Ty.rd (t:=qAK) x.2.2.2.1 i).2=(Ty.rd (t:=qAK) x.2.2.2.1 i).1 <;>
     simp only[c1,c4,h2,and_self,decide_true,decide_false,Bool.not_true,Bool.not_false,Bool.false_eq_true,if_true,if_false,Bool.false_and,Bool.true_and]
 ·intro ag
  have e:decide ((x.2.2.2.1.length:Int)≤4)=decide (x.2.2.2.1.length≤4):=by rw[decide_eq_decide];omega
  simp only[Int.lt_irrefl,decide_false,Bool.false_eq_true,if_false,e]
 ·cases (List.range x.2.2.2.1.length).all (fun j=>!badF x j) <;> simp
theorem leaseB_at(q:List qAE.den)(i:Nat)(hi:i<q.length):(qB7 q (Ty.rd (t:=qAE) q i).2.1=(i:Int))↔(List.range i).all (fun j=>!decide ((Ty.rd (t:=qAE) q (j:Nat)).2.1=(Ty.rd (t:=qAE) q i).2.1))=true:=by
 have hself:(fun j:Nat=>decide ((Ty.rd (t:=qAE) q (j:Nat)).2.1=(Ty.rd (t:=qAE) q i).2.1)) i=true:=by simp
 have hfa:=find_at (p:=fun j:Nat=>decide ((Ty.rd (t:=qAE) q (j:Nat)).2.1=(Ty.rd (t:=qAE) q i).2.1)) hi hself
 have hall:(List.range i).all (fun j=>!decide ((Ty.rd (t:=qAE) q (j:Nat)).2.1=(Ty.rd (t:=qAE) q i).2.1))=true↔∀j,j<i→decide ((Ty.rd (t:=qAE) q (j:Nat)).2.1=(Ty.rd (t:=qAE) q i).2.1)=false:=by simp
 rw[hall,←hfa]
 unfold qB7
 cases hf:(List.range q.length).find? (fun j=>decide ((Ty.rd (t:=qAE) q (j:Nat)).2.1=(Ty.rd (t:=qAE) q i).2.1)) with
 | none =>
  exfalso
  have:=List.find?_eq_none.1 hf i (by simpa using hi)
  exact this hself
 | some j =>
  simp only[Option.some.injEq]
  omega
theorem i_PoolOk_is(k:Nat)(x:qCF)(hk:1048576<k)(hl:x.2.2.1.length≤1048576)(hl':x.2.2.2.1.length≤1048576):qIh k (x,())=some (qH9 x,((),())):=by
 unfold qIh qH9
 simp only[qFh,qCf,fixesOk_is k x hk hl',Option.bind_some]
 rw[show decide ((0≤x.1∧x.1≤4294967295)∧(0≤x.2.1∧x.2.1≤32)∧x.1 % 2^(32-x.2.1.toNat)=0)=prefB x.1 x.2.1 from rfl]
 cases prefB x.1 x.2.1 with
 | false=>simp
 | true =>
  by_cases h1:24≤x.2.1∧x.2.1≤30
  rotate_left
  ·simp[h1]
  cases hF:(List.range x.2.2.2.1.length).all (fun j=>!badF x j) with
  | false=>simp[h1]
  | true =>
   by_cases h4:x.2.2.2.1.length≤4
   rotate_left
   ·simp[h1,h4]
   by_cases h6:x.2.2.1.length≤6
   rotate_left
   ·have h6':(6:Int)<(x.2.2.1.length:Int):=by omega
    simp[h1,h4,h6,h6']
   have h6':¬(6:Int)<(x.2.2.1.length:Int):=by omega
   simp only[h1,h4,h6,h6',and_self,decide_true,decide_false,Bool.not_true,Bool.and_self,Bool.true_and,Bool.false_eq_true,if_true,if_false]
   refine(qB3 (fun i=>(x,(x.2.2.1,((x.2.2.1.length:Int),(((i:Nat):Int),()))))) x.2.2.1.length (badL x) (some (false,((),()))) (some (true,((),()))) ?_ ?_ k (by omega)).trans ?_
   ·intro again i hi
    have w2:wi64 ((i:Int)+1)=((i+1:Nat):Int):=(qAF _ (by omega)).trans (by omega)
    have w1:wi64 ((i:Int)-1)=(i:Int)-1:=qAF _ (by omega)
    have g1:(0:Int)≤(i:Int)∧(i:Int)<(x.2.2.1.length:Int):=by omega
    have hat:=leaseB_at x.2.2.1 i hi
    have hu:decide (qB7 x.2.2.1 (Ty.rd (t:=qAE) x.2.2.1 i).2.1=(i:Int))=(List.range i).all (fun j=>!decide ((Ty.rd (t:=qAE) x.2.2.1 (j:Nat)).2.1=(Ty.rd (t:=qAE) x.2.2.1 i).2.1)):=by
     rw[Bool.eq_iff_iff,decide_eq_true_eq,hat]
    rw[show badL x i=(!(!(decide (0<(i:Int))&&decide ((Ty.rd (t:=qAE) x.2.2.1 i).1≤(Ty.rd (t:=qAE) x.2.2.1 (wi64 ((i:Int)-1))).1))&&(qFF x.1 x.2.1 (Ty.rd (t:=qAE) x.2.2.1 i).1&&(decide (1≤(Ty.rd (t:=qAE) x.2.2.1 i).2.1∧(Ty.rd (t:=qAE) x.2.2.1 i).2.1≤99)&&(decide (0≤(Ty.rd (t:=qAE) x.2.2.1 i).2.2∧(Ty.rd (t:=qAE) x.2.2.1 i).2.2≤1000000000)&&((List.range i).all (fun j=>!decide ((Ty.rd (t:=qAE) x.2.2.1 (j:Nat)).2.1=(Ty.rd (t:=qAE) x.2.2.1 i).2.1))&&(decide (qBW x.2.2.2.1 (Ty.rd (t:=qAE) x.2.2.1 i).1=0) || decide (qBW x.2.2.2.1 (Ty.rd (t:=qAE) x.2.2.1 i).1=(Ty.rd (t:=qAE) x.2.2.1 i).2.1)))))))) from rfl]
    simp only[g1,isId_is,qJN,qH8 k x _ hk hl',leaseOf_is k x _ hk hl,hu,w2,and_self,decide_true,if_true,Option.bind_some]
    have rest:∀b1 b2 b3 b4 b5 b6:Bool,∀go:Option (Bool×Unit×Unit),(if(!b1)=false then
      if(!b2)=false then
       if(!b3)=true then some (false,((),()))
       else if(!b4)=false then
        if(!b5)=true then
         if(!b6)=true then some (false,((),())) else go
        else go
       else some (false,((),()))
      else some (false,((),()))
     else some (false,((),())))=if(!(b1&&(b2&&(b3&&(b4&&(b5 || b6))))))=true then some (false,((),())) else go:=by
     intro b1 b2 b3 b4 b5 b6 go
     cases b1 <;> cases b2 <;> cases b3 <;> cases b4 <;> cases b5 <;> cases b6 <;> rfl
    by_cases h2:0<(i:Int)
    ·have g3:(0:Int)≤wi64 ((i:Int)-1)∧wi64 ((i:Int)-1)<(x.2.2.1.length:Int):=by rw[w1];omega
     by_cases c3:(Ty.rd (t:=qAE) x.2.2.1 i).1≤(Ty.rd (t:=qAE) x.2.2.1 (wi64 ((i:Int)-1))).1
     ·simp only[c3,h2,g3,and_self,decide_true,Bool.not_true,Bool.not_false,Bool.true_eq_false,if_true,if_false,Bool.false_and,Bool.and_self]
     ·simp only[c3,h2,g3,and_self,decide_true,decide_false,if_true,Bool.and_false,Bool.not_false,Bool.true_and]
      exact rest _ _ _ _ _ _ _
    ·simp only[h2,decide_false,Bool.false_eq_true,if_false,Bool.false_and,Bool.not_false,Bool.true_and]
     exact rest _ _ _ _ _ _ _
   ·intro ag
    simp only[Int.lt_irrefl,decide_false,Bool.false_eq_true,if_false]
   ·cases (List.range x.2.2.1.length).all (fun j=>!badL x j) <;> simp
theorem s_PoolOk_is(k:Nat)(x:qCF)(hk:1048576<k)(hl:x.2.2.1.length≤1048576)(hl':x.2.2.2.1.length≤1048576):qIW k (x,())=some (qH9 x,((),())):=by
 unfold qIW qH9
 simp only[qFg k _ _ (by omega:40<k),qCe,Option.bind_some]
 rw[show decide ((0≤x.1∧x.1≤4294967295)∧(0≤x.2.1∧x.2.1≤32)∧x.1 % 2^(32-x.2.1.toNat)=0)=prefB x.1 x.2.1 from rfl]
 cases prefB x.1 x.2.1 with
 | false=>simp
 | true =>
  by_cases h1:24≤x.2.1∧x.2.1≤30
  rotate_left
  ·simp[h1]
  by_cases h6:x.2.2.1.length≤6
  rotate_left
  ·have h6':(6:Int)<(x.2.2.1.length:Int):=by omega
   simp[h1,h6,h6']
  by_cases h4:x.2.2.2.1.length≤4
  rotate_left
  ·have h6':¬(6:Int)<(x.2.2.1.length:Int):=by omega
   have h4':(4:Int)<(x.2.2.2.1.length:Int):=by omega
   simp[h1,h4,h6,h6',h4']
  have h6':¬(6:Int)<(x.2.2.1.length:Int):=by omega
  have h4':¬(4:Int)<(x.2.2.2.1.length:Int):=by omega
  simp only[h1,h4,h6,h6',h4',and_self,decide_true,decide_false,Bool.not_true,Bool.true_and,Bool.false_eq_true,if_true,if_false]
  refine(qB3 (fun i=>(x,(((i:Nat):Int),()))) x.2.2.2.1.length (badF x) (some (false,((),()))) (some ((List.range x.2.2.1.length).all (fun j=>!badL x j),((),()))) ?_ ?_ k (by omega)).trans ?_
  ·intro again i hi
   have w2:wi64 ((i:Int)+1)=((i+1:Nat):Int):=(qAF _ (by omega)).trans (by omega)
   have w1:wi64 ((i:Int)-1)=(i:Int)-1:=qAF _ (by omega)
   have g1:(0:Int)≤(i:Int)∧(i:Int)<(x.2.2.2.1.length:Int):=by omega
   rw[show badF x i=(!(decide (1≤(Ty.rd (t:=qAK) x.2.2.2.1 i).1∧(Ty.rd (t:=qAK) x.2.2.2.1 i).1≤99)&&(qFF x.1 x.2.1 (Ty.rd (t:=qAK) x.2.2.2.1 i).2&&(!(decide (0<(i:Int))&&decide ((Ty.rd (t:=qAK) x.2.2.2.1 i).1≤(Ty.rd (t:=qAK) x.2.2.2.1 (wi64 ((i:Int)-1))).1))&&decide (qBW x.2.2.2.1 (Ty.rd (t:=qAK) x.2.2.2.1 i).2=(Ty.rd (t:=qAK) x.2.2.2.1 i).1))))) from rfl]
   simp only[g1,Inside_is k x _ (by omega:40<k),qEe k x _ hk hl',w2,and_self,decide_true,if_true,Option.bind_some]
   have rest:∀b1 b2 b4:Bool,∀go:Option (Bool×Unit×Unit),(if(!b1)=false then
     if(!b2)=false then
      if(!b4)=true then some (false,((),())) else go
     else some (false,((),()))
    else some (false,((),())))=if(!(b1&&(b2&&b4)))=true then some (false,((),())) else go:=by
    intro b1 b2 b4 go
    cases b1 <;> cases b2 <;> cases b4 <;> rfl
   by_cases h2:0<(i:Int)
   ·have g3:(0:Int)≤wi64 ((i:Int)-1)∧wi64 ((i:Int)-1)<(x.2.2.2.1.length:Int):=by rw[w1];omega
    by_cases c3:(Ty.rd (t:=qAK) x.2.2.2.1 i).1≤(Ty.rd (t:=qAK) x.2.2.2.1 (wi64 ((i:Int)-1))).1
    ·simp only[c3,h2,g3,and_self,decide_true,Bool.true_eq_false,if_true,if_false]
     have q:∀b1 b2 b4:Bool,∀go:Option (Bool×Unit×Unit),(if(!b1)=false then(if(!b2)=false then some (false,((),())) else some (false,((),()))) else some (false,((),())))=if(!(b1&&(b2&&(!(true&&true)&&b4))))=true then some (false,((),())) else go:=by
      intro b1 b2 b4 go
      cases b1 <;> cases b2 <;> cases b4 <;> rfl
     exact q _ _ _ _
    ·simp only[c3,h2,g3,and_self,decide_true,decide_false,if_true,Bool.and_false,Bool.not_false,Bool.true_and]
     exact rest _ _ _ _
   ·simp only[h2,decide_false,Bool.false_eq_true,if_false,Bool.false_and,Bool.not_false,Bool.true_and]
    exact rest _ _ _ _
  ·intro ag
   simp only[Int.lt_irrefl,decide_false,Bool.false_eq_true,if_false]
   refine(qB3 (fun i=>(x,(((i:Nat):Int),()))) x.2.2.1.length (badL x) (some (false,((),()))) (some (true,((),()))) ?_ ?_ k (by omega)).trans ?_
   ·intro again i hi
    have w2:wi64 ((i:Int)+1)=((i+1:Nat):Int):=(qAF _ (by omega)).trans (by omega)
    have w1:wi64 ((i:Int)-1)=(i:Int)-1:=qAF _ (by omega)
    have g1:(0:Int)≤(i:Int)∧(i:Int)<(x.2.2.1.length:Int):=by omega
    rw[show badL x i=(!(!(decide (0<(i:Int))&&decide ((Ty.rd (t:=qAE) x.2.2.1 i).1≤(Ty.rd (t:=qAE) x.2.2.1 (wi64 ((i:Int)-1))).1))&&(qFF x.1 x.2.1 (Ty.rd (t:=qAE) x.2.2.1 i).1&&(decide (1≤(Ty.rd (t:=qAE) x.2.2.1 i).2.1∧(Ty.rd (t:=qAE) x.2.2.1 i).2.1≤99)&&(decide (0≤(Ty.rd (t:=qAE) x.2.2.1 i).2.2∧(Ty.rd (t:=qAE) x.2.2.1 i).2.2≤1000000000)&&((List.range i).all (fun j=>!decide ((Ty.rd (t:=qAE) x.2.2.1 (j:Nat)).2.1=(Ty.rd (t:=qAE) x.2.2.1 i).2.1))&&(decide (qBW x.2.2.2.1 (Ty.rd (t:=qAE) x.2.2.1 i).1=0) || decide (qBW x.2.2.2.1 (Ty.rd (t:=qAE) x.2.2.1 i).1=(Ty.rd (t:=qAE) x.2.2.1 i).2.1)))))))) from rfl]
    simp only[g1,jn,Inside_is k x _ (by omega:40<k),qEe k x _ hk hl',and_self,decide_true,if_true,Option.bind_some]
    have rest:∀b1 b2 b3 b4 b5 b6:Bool,∀go W:Option (Bool×Unit×Unit),W=(if b4=true then go else some (false,((),())))→(if(!b1)=false then
      if(!b2)=false then
       if(!b3)=false then
        if(!b5)=true then
         if(!b6)=true then some (false,((),())) else W
        else W
       else some (false,((),()))
      else some (false,((),()))
     else some (false,((),())))=if(!(b1&&(b2&&(b3&&(b4&&(b5 || b6))))))=true then some (false,((),())) else go:=by
     intro b1 b2 b3 b4 b5 b6 go W hW
     subst hW
     cases b1 <;> cases b2 <;> cases b3 <;> cases b4 <;> cases b5 <;> cases b6 <;> rfl
    by_cases h2:0<(i:Int)
    ·have g3:(0:Int)≤wi64 ((i:Int)-1)∧wi64 ((i:Int)-1)<(x.2.2.1.length:Int):=by rw[w1];omega
     by_cases c3:(Ty.rd (t:=qAE) x.2.2.1 i).1≤(Ty.rd (t:=qAE) x.2.2.1 (wi64 ((i:Int)-1))).1
     ·simp only[c3,h2,g3,and_self,decide_true,if_true]
      have q:∀b1 b2 b3:Bool,(if(!b1)=false then(if(!b2)=false then(if(!b3)=false then some (false,((),())) else some (false,((),()))) else some (false,((),()))) else some (false,((),())))=(some (false,((),())):Option (Bool×Unit×Unit)):=by
       intro b1 b2 b3
       cases b1 <;> cases b2 <;> cases b3 <;> rfl
      exact q _ _ _
     ·simp only[c3,h2,g3,and_self,decide_true,decide_false,if_true,Bool.and_false,Bool.not_false,Bool.true_and,Bool.false_eq_true,if_false]
      refine rest _ _ _ _ _ _ _ _ (qB3 (R:=Bool×Unit×Unit) (fun j=>(x,((i:Int),(((Ty.rd (t:=qAE) x.2.2.1 i).1,((Ty.rd (t:=qAE) x.2.2.1 i).2.1,((Ty.rd (t:=qAE) x.2.2.1 i).2.2,()))),(((j:Nat):Int),()))))) i (fun j=>decide ((Ty.rd (t:=qAE) x.2.2.1 (j:Nat)).2.1=(Ty.rd (t:=qAE) x.2.2.1 i).2.1)) (some (false,((),()))) (again (x,(((i+1:Nat):Int),()))) ?_ ?_ k (by omega))
      ·intro ag2 j hj
       have q1:(0:Int)≤(j:Int)∧(j:Int)<(x.2.2.1.length:Int):=by omega
       have q2:(j:Int)<(i:Int):=by omega
       have w3:wi64 ((j:Int)+1)=((j+1:Nat):Int):=(qAF _ (by omega)).trans (by omega)
       simp only[q1,q2,w3,and_self,decide_true,if_true]
      ·intro ag2
       simp only[Int.lt_irrefl,decide_false,Bool.false_eq_true,if_false,w2]
    ·simp only[h2,decide_false,Bool.false_eq_true,if_false,Bool.false_and,Bool.not_false,Bool.true_and]
     refine rest _ _ _ _ _ _ _ _ (qB3 (R:=Bool×Unit×Unit) (fun j=>(x,((i:Int),(((Ty.rd (t:=qAE) x.2.2.1 i).1,((Ty.rd (t:=qAE) x.2.2.1 i).2.1,((Ty.rd (t:=qAE) x.2.2.1 i).2.2,()))),(((j:Nat):Int),()))))) i (fun j=>decide ((Ty.rd (t:=qAE) x.2.2.1 (j:Nat)).2.1=(Ty.rd (t:=qAE) x.2.2.1 i).2.1)) (some (false,((),()))) (again (x,(((i+1:Nat):Int),()))) ?_ ?_ k (by omega))
     ·intro ag2 j hj
      have q1:(0:Int)≤(j:Int)∧(j:Int)<(x.2.2.1.length:Int):=by omega
      have q2:(j:Int)<(i:Int):=by omega
      have w3:wi64 ((j:Int)+1)=((j+1:Nat):Int):=(qAF _ (by omega)).trans (by omega)
      simp only[q1,q2,w3,and_self,decide_true,if_true]
     ·intro ag2
      simp only[Int.lt_irrefl,decide_false,Bool.false_eq_true,if_false,w2]
   ·intro ag2
    simp only[Int.lt_irrefl,decide_false,Bool.false_eq_true,if_false]
   ·cases (List.range x.2.2.1.length).all (fun j=>!badL x j) <;> simp
  ·cases (List.range x.2.2.2.1.length).all (fun j=>!badF x j) <;> simp
def atB(q:List qAh.den)(id:Int):Int:=match (List.range q.length).find? (fun j=>decide ((Ty.rd (t:=qAh) q (j:Nat)).1=id)) with | some j=>((j:Nat):Int) | none=>-1
theorem l22At_is(k:Nat)(q:List qAh.den)(id:Int)(hk:1048576<k)(hl:q.length≤1048576):s_l22At k (q,(id,()))=some (atB q id,((),((),()))):=by
 unfold s_l22At atB
 refine(qBm (R:=Int×Unit×Unit×Unit) (fun j=>(q,(id,(((j:Nat):Int),())))) q.length (fun j=>decide ((Ty.rd (t:=qAh) q (j:Nat)).1=id)) (fun j=>(((j:Nat):Int),((),((),())))) (-1,((),((),()))) ?_ ?_ k (by omega)).trans ?_
 ·intro ag j hj
  have q1:(0:Int)≤(j:Int)∧(j:Int)<(q.length:Int):=by omega
  have w3:wi64 ((j:Int)+1)=((j+1:Nat):Int):=(qAF _ (by omega)).trans (by omega)
  simp only[q1,w3,and_self,decide_true,if_true]
 ·intro ag
  simp only[Int.lt_irrefl,decide_false,Bool.false_eq_true,if_false]
 ·cases (List.range q.length).find? (fun j=>decide ((Ty.rd (t:=qAh) q (j:Nat)).1=id)) <;> rfl
theorem userAt_is(k:Nat)(q:List qAh.den)(id:Int)(hk:1048576<k)(hl:q.length≤1048576):qIc k (q,(id,()))=some (atB q id,((),((),()))):=by
 unfold qIc atB
 have h:qAP k (q,(((id,()),()),()))=some ((match (List.range q.length).find? (fun j=>decide ((Ty.rd (t:=qAh) q (j:Nat)).1=id)) with | some j=>((j:Nat):Int) | none=>-1),((),((((id,()),()),())))):=by
  unfold qAP
  refine(qBm (R:=Int×Unit×((Int×Unit)×Unit)×Unit) (fun j=>(q,((((id,()),())),((q.length:Int),(((j:Nat):Int),()))))) q.length (fun j=>decide ((Ty.rd (t:=qAh) q (j:Nat)).1=id)) (fun j=>(((j:Nat):Int),((),((((id,()),()),()))))) (-1,((),((((id,()),()),())))) ?_ ?_ k (by omega)).trans ?_
  ·intro ag j hj
   have q1:(0:Int)≤(j:Int)∧(j:Int)<(q.length:Int):=by omega
   have w3:wi64 ((j:Int)+1)=((j+1:Nat):Int):=(qAF _ (by omega)).trans (by omega)
   simp only[q1,w3,qHC,and_self,decide_true,if_true,Option.bind_some]
  ·intro ag
   simp only[Int.lt_irrefl,decide_false,Bool.false_eq_true,if_false]
  ·cases (List.range q.length).find? (fun j=>decide ((Ty.rd (t:=qAh) q (j:Nat)).1=id)) <;> rfl
 rw[h]
 rfl
theorem qAk{A:Type}{l:List A}{n:Nat}{r d:A}(h:l[n]?=some r):l.getD n d=r:=by simp[List.getD,h]
theorem qCG{A:Type}{l:List A}{n:Nat}{x d:A}(h:n<l.length):(l.set n x).getD n d=x:=by simp[List.getD,h]
theorem qJO{A:Type}(l:List A)(n:Nat)(x y:A):(l.set n x).set n y=l.set n y:=by simp
/-- Marks are laid row by row, and found again. -/
theorem qGv{A R R':Type}{step:(List A×Int×Int×Unit→Option R)→List A×Int×Int×Unit→Option R}{hstep:(List A×Int×Int×Unit→Option R')→List A×Int×Int×Unit→Option R'}(fin:List A→Int→R)(hfin:Int→R')(c N:Int)(hc:0≤c)(P:A→Prop)(hs:∀(r:A),P r→∀n:Int,0≤n→n+c≤N→∃(r':A) (n':Int),n≤n'∧n'≤n+c∧(∀again (out:List A) (i:Int),0≤i→i<out.length→i≤1048576→out[i.toNat]?=some r→step again (out,(n,(i,())))=again (out.set i.toNat r',(n',(i+1,())))) ∧
   (∀again (out:List A) (i:Int),0≤i→i<out.length→i≤1048576→out[i.toNat]?=some r'→hstep again (out,(n,(i,())))=again (out,(n',(i+1,())))))(he:∀again (out:List A) (n i:Int),(out.length:Int)≤i→step again (out,(n,(i,())))=some (fin out n))(hhe:∀again (out:List A) (n i:Int),(out.length:Int)≤i→hstep again (out,(n,(i,())))=some (hfin n))(a:List A)(ha:∀r∈a,P r)(hal:a.length≤1048576)(n:Int)(hn:0≤n)(C:Int)(hC:C=c*(a.length:Nat))(hN:n+C≤N)(k:Nat)(hk:1048576<k) :
  ∃(a':List A) (n':Int),a'.length=a.length∧n≤n'∧n'≤n+C∧qAH step k (a,(n,(0,())))=some (fin a' n')∧qAH hstep k (a',(n,(0,())))=some (hfin n'):=by
 subst hC
 have key:∀(s p:List A) (n:Int) (k:Nat),(∀r∈s,P r)→p.length+s.length≤1048576→0≤n→n+c*(s.length:Nat)≤N→s.length<k →
   ∃(s':List A) (n':Int),s'.length=s.length∧n≤n'∧n'≤n+c*(s.length:Nat)∧qAH step k (p++s,(n,((p.length:Int),())))=some (fin (p++s') n')∧qAH hstep k (p++s',(n,((p.length:Int),())))=some (hfin n'):=by
  intro s
  induction s with
  | nil =>
   intro p n k _ _ _ _ hk
   obtain⟨k,rfl⟩:∃k',k=k'+1:=⟨k-1,by omega⟩
   exact⟨[],n,rfl,by omega,by simp,he _ _ _ _ (by simp),hhe _ _ _ _ (by simp)⟩
  | cons r s ih =>
   intro p n k hP hl hn hN hk
   obtain⟨k,rfl⟩:∃k',k=k'+1:=⟨k-1,by omega⟩
   simp only[List.length_cons] at hl hN hk
   have e:c*((s.length+1:Nat):Int)=c*(s.length:Nat)+c:=by rw[Int.natCast_add,Int.mul_add];simp
   have hpos:0≤c*((s.length:Nat):Int):=Int.mul_nonneg hc (by omega)
   rw[e] at hN
   obtain⟨r',n1,h1,h2,h3,h4⟩:=hs r (hP r (by simp)) n hn (by omega)
   obtain⟨s',n',g1,g2,g3,g4,g5⟩:=ih (p++[r']) n1 k (fun x hx=>hP x (List.mem_cons_of_mem _ hx)) (by simp;omega) (by omega) (by omega) (by omega)
   have ep:((p++[r']).length:Int)=(p.length:Int)+1:=by simp
   rw[ep,List.append_assoc,List.append_assoc] at g4
   rw[ep,List.append_assoc] at g5
   refine⟨r'::s',n',by simp[g1],by omega,by simp only[List.length_cons];rw[e];omega,?_,?_⟩
   ·show step (qAH step k) _=_
    rw[h3 _ _ _ (by omega) (by simp;omega) (by omega) (by simp)]
    have:(p++r::s).set ((p.length:Int)).toNat r'=p++([r']++s):=by simp
    rw[this]
    exact g4
   ·show hstep (qAH hstep k) _=_
    rw[h4 _ _ _ (by omega) (by simp;omega) (by omega) (by simp)]
    exact g5
 have:=key a [] n k ha (by simpa using hal) hn hN (by omega)
 simpa using this
theorem MH_BoolS(k:Nat)(a:List Bool)(n:Int)(hn:0≤n)(hN:n+a.length≤4611686018427387904)(hk:1048576<k)(hl:a.length≤1048576) :
  ∃(a':List Bool) (n':Int),a'.length=a.length∧n≤n'∧n'≤n+a.length∧qEC k (a,(n,()))=some (n',(a',((),())))∧qEE k (a',(n,()))=some (n',((),((),()))):=by
 unfold qEC qEE
 refine qGv (A:=Bool) (fun out n=>(n,(out,((),())))) (fun n=>(n,((),((),())))) 1 4611686018427387904 (by decide) (fun _=>True) ?_ ?_ ?_ a (fun _ _=>trivial) hl n hn (a.length:Int) (by omega) (by omega) k hk
 ·intro r _ n hn hN
  refine⟨decide (Int.tmod n 3=0),n+1,by omega,by omega,fun again out i h0 h1 h2 hr=>?_,fun again out i h0 h1 h2 hr=>?_⟩
  ·have w:wi64 (n+1)=n+1:=qAF _ (by omega)
   have w':wi64 (i+1)=i+1:=qAF _ (by omega)
   simp only[h0,h1,w,w',decide_true,and_self,if_true]
  ·have w:wi64 (n+1)=n+1:=qAF _ (by omega)
   have w':wi64 (i+1)=i+1:=qAF _ (by omega)
   simp only[Ty.rd,qAk hr,h0,h1,w,w',decide_true,and_self,if_true,Bool.not_true,Bool.false_eq_true,if_false]
 ·intro again out n i hi
  have:¬i<(out.length:Int):=by omega
  simp[this]
 ·intro again out n i hi
  have:¬i<(out.length:Int):=by omega
  simp[this]
theorem MH_IntS(k:Nat)(a:List Int)(n:Int)(hn:0≤n)(hN:n+a.length≤4611686018427387904)(hk:1048576<k)(hl:a.length≤1048576) :
  ∃(a':List Int) (n':Int),a'.length=a.length∧n≤n'∧n'≤n+a.length∧qCx k (a,(n,()))=some (n',(a',((),())))∧qCz k (a',(n,()))=some (n',((),((),()))):=by
 unfold qCx qCz
 refine qGv (A:=Int) (fun out n=>(n,(out,((),())))) (fun n=>(n,((),((),())))) 1 4611686018427387904 (by decide) (fun _=>True) ?_ ?_ ?_ a (fun _ _=>trivial) hl n hn (a.length:Int) (by omega) (by omega) k hk
 ·intro r _ n hn hN
  refine⟨n,n+1,by omega,by omega,fun again out i h0 h1 h2 hr=>?_,fun again out i h0 h1 h2 hr=>?_⟩
  ·have w:wi64 (n+1)=n+1:=qAF _ (by omega)
   have w':wi64 (i+1)=i+1:=qAF _ (by omega)
   simp only[h0,h1,w,w',decide_true,and_self,if_true]
  ·have w:wi64 (n+1)=n+1:=qAF _ (by omega)
   have w':wi64 (i+1)=i+1:=qAF _ (by omega)
   simp only[Ty.rd,qAk hr,h0,h1,w,w',decide_true,and_self,if_true,Bool.not_true,Bool.false_eq_true,if_false]
 ·intro again out n i hi
  have:¬i<(out.length:Int):=by omega
  simp[this]
 ·intro again out n i hi
  have:¬i<(out.length:Int):=by omega
  simp[this]
theorem qCj(k:Nat)(n:Int)(hn:n<4611686018427387904)(hk:n<k):∃r,qA4 k (n,())=some (r,((),())):=by
 unfold qA4
 by_cases h0:n≤0
 ·simp only[h0,decide_true,if_true]
  exact⟨_,rfl⟩
 ·simp only[h0,decide_false]
  have hm:maxStr=9223372036854775807:=rfl
  have h1:(⟨#[109]⟩:ByteArray).size=1:=rfl
  refine(whileK_some (g:=fun t:ByteArray=>(t,((),()))) (fun y:Int×ByteArray×Unit=>y.1.toNat) (fun y:Int×ByteArray×Unit=>0≤y.1∧y.1+(y.2.1.size:Int)<4611686018427387905) (fun _ _=>True) ?_ k (n,((⟨#[]⟩:ByteArray),())) ⟨by simp only;omega,by simp only;have:(⟨#[]⟩:ByteArray).size=0:=rfl;omega⟩ (by simp only;omega)).imp fun t h=>h.1
  ·rintro⟨a,s,u⟩ ⟨g1,g2⟩ again hg
   simp only at g1 g2
   have hsz:∀c:Int,(qAg [c]).size=1:=fun c=>by simp[qAg,ByteArray.size]
   by_cases ha:0<a
   ·have hq:Int.tdiv a 10=a / 10:=Int.tdiv_eq_ediv_of_nonneg g1
    have hw:wi64 (a / 10)=a / 10:=qAF _ (by omega)
    simp only[ha,decide_true,if_true,hsz,hq,hw]
    rw[if_pos (by omega)]
    exact hg _ ⟨by simp only;omega,by simp only[ByteArray.size_append,hsz];omega⟩ (by simp only;omega)
   ·simp only[ha,decide_false]
    have:((⟨#[109]⟩:ByteArray).size+s.size≤maxStr):=by omega
    simp only[this,if_true]
    exact⟨_,rfl,trivial⟩
theorem MH_StringS(k:Nat)(a:List ByteArray)(n:Int)(hn:0≤n)(hN:n+a.length<4611686018427387904)(hk:4611686018427387904<k)(hl:a.length≤1048576) :
  ∃(a':List ByteArray) (n':Int),a'.length=a.length∧n≤n'∧n'≤n+a.length∧qCc k (a,(n,()))=some (n',(a',((),())))∧qCd k (a',(n,()))=some (n',((),((),()))):=by
 unfold qCc qCd
 refine qGv (A:=ByteArray) (fun out n=>(n,(out,((),())))) (fun n=>(n,((),((),())))) 1 4611686018427387904 (by decide) (fun _=>True) ?_ ?_ ?_ a (fun _ _=>trivial) hl n hn (a.length:Int) (by omega) (by omega) k (by omega)
 ·intro r _ n hn hN
  obtain⟨tx,ht⟩:=qCj k n (by omega) (by omega)
  refine⟨tx,n+1,by omega,by omega,fun again out i h0 h1 h2 hr=>?_,fun again out i h0 h1 h2 hr=>?_⟩
  ·have w:wi64 (n+1)=n+1:=qAF _ (by omega)
   have w':wi64 (i+1)=i+1:=qAF _ (by omega)
   simp only[ht,Option.bind_some,h0,h1,w,w',decide_true,and_self,if_true]
  ·have w:wi64 (n+1)=n+1:=qAF _ (by omega)
   have w':wi64 (i+1)=i+1:=qAF _ (by omega)
   simp only[ht,Option.bind_some,Ty.rd,qAk hr,h0,h1,w,w',decide_true,and_self,if_true,Bool.not_true,Bool.false_eq_true,if_false]
 ·intro again out n i hi
  have:¬i<(out.length:Int):=by omega
  simp[this]
 ·intro again out n i hi
  have:¬i<(out.length:Int):=by omega
  simp[this]
theorem MH_HeldS(k:Nat)(a:List (Int×Int×Int×List (ByteArray)×List (Bool)×Int))(n:Int)(hn:0≤n)(C:Int)(hC:C=2097160*(a.length:Nat))(hN:n+C<4611686018427387904)(hk:4611686018427387904<k)(hb:qCh a) :
  ∃(a':List (Int×Int×Int×List (ByteArray)×List (Bool)×Int)) (n':Int),a'.length=a.length∧n≤n'∧n'≤n+C∧qCy k (a,(n,()))=some (n',(a',((),())))∧qC0 k (a',(n,()))=some (n',((),((),()))):=by
 unfold qCy qC0
 refine qGv (A:=Int×Int×Int×List (ByteArray)×List (Bool)×Int) (fun out n=>(n,(out,((),())))) (fun n=>(n,((),((),())))) 2097160 4611686018427387903 (by decide) (fun r=>r.2.2.2.1.length≤1048576∧r.2.2.2.2.1.length≤1048576) ?_ ?_ ?_ a (fun r hr=>⟨(hb.2 r hr).1,(hb.2 r hr).2.1⟩) hb.1 n hn C hC (by omega) k (by omega)
 ·rintro⟨r1,r2,r3,ps,hv,r6⟩ ⟨p1,p2⟩ n hn hN
  simp only at p1 p2
  have w1:wi64 (n+1)=n+1:=qAF _ (by omega)
  have w2:wi64 (n+1+1)=n+1+1:=qAF _ (by omega)
  have w3:wi64 (n+1+1+1)=n+1+1+1:=qAF _ (by omega)
  obtain⟨ps',n1,a1,a2,a3,a4,a5⟩:=MH_StringS k ps (n+1+1+1) (by omega) (by omega) hk p1
  obtain⟨hv',n2,b1,b2,b3,b4,b5⟩:=MH_BoolS k hv n1 (by omega) (by omega) (by omega) p2
  have w4:wi64 (n2+1)=n2+1:=qAF _ (by omega)
  have c1:¬n1<0:=by omega
  have c2:¬n2<0:=by omega
  refine⟨(n,n+1,n+1+1,ps',hv',n2),n2+1,by omega,by omega,fun again out i h0 h1 h2 hr=>?_,fun again out i h0 h1 h2 hr=>?_⟩
  ·have w':wi64 (i+1)=i+1:=qAF _ (by omega)
   have hlt:i.toNat<out.length:=by omega
   simp only[jn,Ty.rd,qAk hr,qCG (show i.toNat<_ by simpa using hlt),List.length_set,qJO,h0,h1,hlt,w1,w2,w3,w4,w',a4,b4,Option.bind_some,decide_true,and_self,if_true,qCG]
  ·have w':wi64 (i+1)=i+1:=qAF _ (by omega)
   simp only[Ty.rd,qAk hr,h0,h1,w1,w2,w3,w4,w',a5,b5,c1,c2,Option.bind_some,decide_true,decide_false,and_self,if_true,Bool.not_true,Bool.false_eq_true,if_false]
 ·intro again out n i hi
  have:¬i<(out.length:Int):=by omega
  simp[this]
 ·intro again out n i hi
  have:¬i<(out.length:Int):=by omega
  simp[this]
theorem loop_app{X R A:Type}{step:(X→Option R)→X→Option R}(a:List A)(st:Nat→List A→X)(r:R)(hs:∀again i out x,out.length=i→i<a.length→a[i]?=some x→step again (st i out)=again (st (i+1) (out++[x])))(he:∀again,step again (st a.length a)=some r):∀k,a.length<k→qAH step k (st 0 [])=some r:=by
 have key:∀(s p:List A) k,p++s=a→s.length<k→qAH step k (st p.length p)=some r:=by
  intro s
  induction s with
  | nil =>
   intro p k h hk
   obtain⟨k,rfl⟩:∃k',k=k'+1:=⟨k-1,by omega⟩
   have:p=a:=by simpa using h
   subst this
   exact he _
  | cons x s ih =>
   intro p k h hk
   obtain⟨k,rfl⟩:∃k',k=k'+1:=⟨k-1,by omega⟩
   show step _ _=_
   subst h
   rw[hs _ _ _ x rfl (by simp) (by simp)]
   have:=ih (p++[x]) k (by simp) (by simpa using hk)
   simpa using this
 intro k hk
 exact key a [] k (by simp) hk
theorem held_lens{a:List (Int×Int×Int×List (ByteArray)×List (Bool)×Int)}(hb:qCh a){i:Nat}{x:Int×Int×Int×List (ByteArray)×List (Bool)×Int}(h:a[i]?=some x):x.2.2.2.1.length≤1048576∧x.2.2.2.2.1.length≤1048576:=by
 have:=hb.2 x (List.mem_of_getElem? h)
 exact⟨this.1,this.2.1⟩
theorem s_l20Copy_is(k:Nat)(a:List (Int×Int×Int×List (ByteArray)×List (Bool)×Int))(hk:1048576<k)(hb:qCh a):qF8 k ((a,()),())=some ((a,()),((),())):=by
 unfold qF8
 have hl:a.length≤1048576:=hb.1
 have hcap:capMax=274877906944:=rfl
 refine loop_app (A:=Int×Int×Int×List (ByteArray)×List (Bool)×Int) a (fun i out=>((a,()),(([],()),((out,()),((i:Int),()))))) ((a,()),((),())) ?_ ?_ k (by omega)
 ·intro again i out x ho hi hx
  obtain⟨h1,h2⟩:=held_lens hb hx
  have w:wi64 ((i:Int)+1)=((i+1:Nat):Int):=by rw[show wi64 ((i:Int)+1)=(i:Int)+1 from qAF _ (by omega)];omega
  have p1:(i:Int)<(a.length:Int):=by omega
  have p2:0≤(i:Int):=by omega
  have c1:0+x.2.2.2.1.length≤capMax:=by omega
  have c2:0+x.2.2.2.2.1.length≤capMax:=by omega
  have c3:out.length+1≤capMax:=by omega
  obtain⟨x1,x2,x3,x4,x5,x6⟩:=x
  simp only at c1 c2
  simp only[Ty.rd,Int.toNat_natCast,qAk hx,p1,p2,w,c1,c2,c3,List.length_nil,List.length_cons,decide_true,and_self,if_true,List.nil_append,Nat.zero_add]
  rw[if_pos (by omega),if_pos (by omega)]
 ·intro again
  have:¬(a.length:Int)<(a.length:Int):=by omega
  simp[this]
theorem i_copyShelf_is(k:Nat)(a:List (Int×Int×Int×List (ByteArray)×List (Bool)×Int))(hk:1048576<k)(hb:qCh a):qD2 k ((a,()),())=some ((a,()),((),())):=by
 unfold qD2
 have hl:a.length≤1048576:=hb.1
 have hcap:capMax=274877906944:=rfl
 refine loop_app (A:=Int×Int×Int×List (ByteArray)×List (Bool)×Int) a (fun i out=>(([],()),((out,()),(a,((a.length:Int),((i:Int),())))))) ((a,()),((),())) ?_ ?_ k (by omega)
 ·intro again i out x ho hi hx
  obtain⟨h1,h2⟩:=held_lens hb hx
  have w:wi64 ((i:Int)+1)=((i+1:Nat):Int):=by rw[show wi64 ((i:Int)+1)=(i:Int)+1 from qAF _ (by omega)];omega
  have p1:(i:Int)<(a.length:Int):=by omega
  have p2:0≤(i:Int):=by omega
  have c3:out.length+1≤capMax:=by omega
  obtain⟨x1,x2,x3,x4,x5,x6⟩:=x
  simp only at h1 h2
  have e:qD1 k (x4,())=some (x4,((),())):=by
   unfold qD1
   rw[if_pos (by simp;omega)]
   simp
  simp only[Ty.rd,Int.toNat_natCast,qAk hx,p1,p2,w,c3,e,Option.bind_some,List.length_nil,List.length_cons,decide_true,and_self,if_true,List.nil_append,Nat.zero_add]
  rw[if_pos (by omega)]
 ·intro again
  have:¬(a.length:Int)<(a.length:Int):=by omega
  simp[this]
abbrev UserA:=Int×Int×Int×ByteArray×ByteArray×Int×List (Int)×Int×Int×ByteArray×ByteArray×Int×List (Int)×Int×(List (Int×Int×Int×List (ByteArray)×List (Bool)×Int))×Int×Unit
theorem bd_userSlots{a0 a1 a2:Int}{a3 a4:ByteArray}{a5:Int}{a6:List Int}{a7 a8:Int}{a9 a10:ByteArray}{a11:Int}{a12:List Int}{a13:Int}{a14:List (Int×Int×Int×List (ByteArray)×List (Bool)×Int)}{a15:Int}(hb:qBP (a0,(a1,(a2,(a3,(a4,(a5,(a6,(a7,(a8,(a9,(a10,(a11,(a12,(a13,(a14,(a15,()))))))))))))))))) :
  qDZ (a2,(a3,(a4,(a5,(a6,(a7,(a8,(a9,(a10,(a11,(a12,(a13,()))))))))))))∧qCh a14:=by
 unfold qBP at hb
 obtain⟨b3,b4,b6,b9,b10,b12,b14,b⟩:=hb
 exact⟨⟨b3,b4,b6,b9,b10,b12,trivial⟩,b14⟩
theorem s_l22CopyUser_is(k:Nat)(x:UserA)(hk:1048576<k)(hb:qBP x):qCb k (x,())=some (x,((),())):=by
 obtain⟨a0,a1,a2,a3,a4,a5,a6,a7,a8,a9,a10,a11,a12,a13,a14,a15,⟨⟩⟩:=x
 obtain⟨h1,h2⟩:=bd_userSlots hb
 have e1:=s_l17Copy_is k (a2,(a3,(a4,(a5,(a6,(a7,(a8,(a9,(a10,(a11,(a12,(a13,())))))))))))) (short_bd h1).1 (short_bd h1).2
 have e2:=s_l20Copy_is k a14 hk h2
 unfold qCb
 simp only[e1,e2,Option.bind_some]
theorem i_copyUser_is(k:Nat)(x:UserA)(hk:1048576<k)(hb:qBP x):qEr k (x,())=some (x,((),())):=by
 obtain⟨a0,a1,a2,a3,a4,a5,a6,a7,a8,a9,a10,a11,a12,a13,a14,a15,⟨⟩⟩:=x
 obtain⟨h1,h2⟩:=bd_userSlots hb
 have e1:=qHl k (a2,(a3,(a4,(a5,(a6,(a7,(a8,(a9,(a10,(a11,(a12,(a13,())))))))))))) (short_bd h1).1 (short_bd h1).2
 have e2:=i_copyShelf_is k a14 hk h2
 unfold qEr
 simp only[e1,e2,Option.bind_some]
theorem del_run{A R C:Type}{step:(List A×C×Int×Int×Unit→Option R)→List A×C×Int×Int×Unit→Option R}(D:A→Bool)(c:C)(fin:List A→R)(hs:∀again (p gs r:List A) (g v:A),p.length+gs.length+r.length≤1048576→step again (p++g::(gs++v::r),(c,((p.length:Int),(((p.length+gs.length+1:Nat):Int),())))) =
   if D v=true then again (p++g::(gs++v::r),(c,((p.length:Int),(((p.length+gs.length+2:Nat):Int),())))) else again (p++v::(gs++v::r),(c,(((p.length+1:Nat):Int),(((p.length+gs.length+2:Nat):Int),())))))(he:∀again (q t:List A),step again (q++t,(c,((q.length:Int),((((q++t).length:Nat):Int),()))))=some (fin q)) :
  ∀(r p gs:List A) (g:A) (k:Nat),p.length+gs.length+r.length≤1048576→r.length<k→qAH step k (p++g::(gs++r),(c,((p.length:Int),(((p.length+gs.length+1:Nat):Int),()))))=some (fin (p++r.filter (fun v=>!D v))):=by
 intro r
 induction r with
 | nil =>
  intro p gs g k hb hk
  obtain⟨k,rfl⟩:∃k',k=k'+1:=⟨k-1,by omega⟩
  have e1:((p.length+gs.length+1:Nat):Int)=(((p++(g::(gs++[]))).length:Nat):Int):=by simp;omega
  have:=he (qAH step k) p (g::(gs++[]))
  show step _ _=_
  rw[e1]
  simpa using this
 | cons v r ih =>
  intro p gs g k hb hk
  obtain⟨k,rfl⟩:∃k',k=k'+1:=⟨k-1,by omega⟩
  simp only[List.length_cons] at hb hk
  by_cases d:D v=true
  ·have ht:=ih p (gs++[v]) g k (by simp;omega) (by omega)
   show step _ _=_
   rw[hs _ p gs r g v (by omega),if_pos d,List.filter_cons_of_neg (by simp[d]),←ht]
   simp
   rfl
  ·have ht:qAH step k (p++v::(gs++v::r),(c,(((p.length+1:Nat):Int),(((p.length+gs.length+2:Nat):Int),()))))=some (fin (p++(v::r).filter (fun v=>!D v))):=by
    cases gs with
    | nil =>
     have ht:=ih (p++[v]) [] v k (by simp;omega) (by omega)
     rw[List.filter_cons_of_pos (by simp[d])]
     have e1:((p++[v]).length:Int)=((p.length+1:Nat):Int):=by simp
     have e2:(((p++[v]).length+([]:List A).length+1:Nat):Int)=((p.length+([]:List A).length+2:Nat):Int):=by simp;omega
     rw[e1,e2] at ht
     simpa using ht
    | cons g' gs' =>
     have ht:=ih (p++[v]) (gs'++[v]) g' k (by simp at hb ⊢;omega) (by omega)
     rw[List.filter_cons_of_pos (by simp[d])]
     have e1:((p++[v]).length:Int)=((p.length+1:Nat):Int):=by simp
     have e2:(((p++[v]).length+(gs'++[v]).length+1:Nat):Int)=((p.length+(g'::gs').length+2:Nat):Int):=by simp;omega
     rw[e1,e2] at ht
     simpa using ht
   show step _ _=_
   rw[hs _ p gs r g v (by omega),if_neg d]
   exact ht
/-- What is found first, and the rest that stays. -/
theorem first_split{A:Type}(d:A)(D:A→Bool)(L:List A):(match (List.range L.length).find? (fun i=>D (L.getD i d)) with
  | none=>L.filter (fun x=>!D x)=L
  | some i=>∃p g r,L=p++g::r∧p.length=i∧L.filter (fun x=>!D x)=p++r.filter (fun x=>!D x)):=by
 cases hq:(List.range L.length).find? (fun i=>D (L.getD i d)) with
 | none =>
  rw[List.find?_eq_none] at hq
  rw[List.filter_eq_self]
  intro x hx
  obtain⟨i,hi,rfl⟩:=List.mem_iff_getElem.1 hx
  have:=hq i (by simpa using hi)
  simp only[List.getD,List.getElem?_eq_getElem hi,Option.getD_some] at this
  simpa using this
 | some i =>
  have hi:i<L.length:=by
   have:=List.mem_of_find?_eq_some hq
   simpa using this
  have h1:=List.find?_some hq
  have h2:=(find_at hi h1).1 hq
  simp only[List.getD,List.getElem?_eq_getElem hi,Option.getD_some] at h1
  refine⟨L.take i,L[i],L.drop (i+1),?_,by simp;omega,?_⟩
  ·rw[←List.drop_eq_getElem_cons hi,List.take_append_drop]
  ·have hsplit:L=L.take i++L[i]::L.drop (i+1):=by rw[←List.drop_eq_getElem_cons hi,List.take_append_drop]
   conv=>lhs;rw[hsplit]
   rw[List.filter_append,List.filter_cons_of_neg (by simp[h1])]
   congr 1
   rw[List.filter_eq_self]
   intro x hx
   obtain⟨j,hj,rfl⟩:=List.mem_iff_getElem.1 hx
   have hj':j<i:=by simp at hj;omega
   have:=h2 j hj'
   simp only[List.getD,List.getElem?_eq_getElem (show j<L.length by omega),Option.getD_some] at this
   rw[List.getElem_take]
   simp[this]
theorem getO_lt:∀{t:Ty} {x:t.den} {off:Nat} {o:OL},t.getO x off=some o→off<t.w
 | .ols _ _,_,0,_,_=>Nat.zero_lt_one
 | .ols _ _,_,_+1,_,h=>by simp[Ty.getO] at h
 | .pair a b,x,off,o,h=>by
  simp only[Ty.getO] at h
  show off<a.w+b.w
  split at h
  ·omega
  ·have:=getO_lt h
   omega
 | .int _,_,_,_,h=>by simp[Ty.getO] at h
 | .bool,_,_,_,h=>by simp[Ty.getO] at h
 | .str,_,_,_,h=>by simp[Ty.getO] at h
 | .list _,_,_,_,h=>by simp[Ty.getO] at h
 | .unit,_,_,_,h=>by simp[Ty.getO] at h
 | .nm,_,_,_,h=>by simp[Ty.getO] at h
 | .olq _ _,_,_,_,h=>by simp[Ty.getO] at h
theorem dec_enc{lk:Nat→Option OL}:∀{t:Ty} {x:t.den} {n:Nat},0<n→(∀off o,t.getO x off=some o→lk (n+off)=some o)→t.dec lk (t.enc x n)=some x
 | .ols e u,x,n,hn,h=>by
  obtain⟨m,rfl⟩:∃m,n=m+1:=⟨n-1,by omega⟩
  have:=h 0 ⟨e,u,x⟩ rfl
  show decN lk e u (m+1)=some x
  rw[Nat.add_zero] at this
  simp[decN,this]
 | .pair a b,x,n,hn,h=>by
  have h1:=dec_enc (t:=a) (x:=x.1) (n:=n) hn fun off o ho=>h off o (by simp only[Ty.getO];rw[if_pos (getO_lt ho)];exact ho)
  have h2:=dec_enc (t:=b) (x:=x.2) (n:=n+a.w) (by omega) fun off o ho=>by
   rw[Nat.add_assoc]
   exact h (a.w+off) o (by simp only[Ty.getO];rw[if_neg (by omega),Nat.add_sub_cancel_left];exact ho)
  show(match a.dec lk (a.enc x.1 n),b.dec lk (b.enc x.2 (n+a.w)) with | some y,some z=>some (y,z) | _,_=>none)=_
  rw[h1,h2]
 | .int _,_,_,_,_=>rfl
 | .bool,_,_,_,_=>rfl
 | .str,_,_,_,_=>rfl
 | .list _,_,_,_,_=>rfl
 | .unit,_,_,_,_=>rfl
 | .nm,_,_,_,_=>rfl
 | .olq _ _,x,_,_,_=>by cases x <;> rfl
theorem nms_enc:∀{t:Ty} {x:t.den} {n:Nat},0<n→(t.nms (t.enc x n)).Pairwise (· < ·)∧∀m∈t.nms (t.enc x n),n≤m∧m<n+t.w
 | .ols e u,x,n,hn=>by
  obtain⟨m,rfl⟩:∃m,n=m+1:=⟨n-1,by omega⟩
  show(nmsN (m+1)).Pairwise _∧∀q∈nmsN (m+1),_
  have:(Ty.ols e u).w=1:=rfl
  simp[nmsN,this]
 | .pair a b,x,n,hn=>by
  obtain⟨h1,h2⟩:=nms_enc (t:=a) (x:=x.1) (n:=n) hn
  obtain⟨h3,h4⟩:=nms_enc (t:=b) (x:=x.2) (n:=n+a.w) (by omega)
  have hw:(Ty.pair a b).w=a.w+b.w:=rfl
  show(a.nms (a.enc x.1 n)++b.nms (b.enc x.2 (n+a.w))).Pairwise _∧∀m∈a.nms (a.enc x.1 n)++b.nms (b.enc x.2 (n+a.w)),_
  refine⟨List.pairwise_append.2 ⟨h1,h3,fun p hp q hq=>?_⟩,fun m hm=>?_⟩
  ·have:=h2 p hp
   have:=h4 q hq
   omega
  ·rcases List.mem_append.1 hm with hm | hm
   ·have:=h2 m hm;omega
   ·have:=h4 m hm;omega
 | .int _,_,_,_=>⟨List.Pairwise.nil,by simp[Ty.nms]⟩
 | .bool,_,_,_=>⟨List.Pairwise.nil,by simp[Ty.nms]⟩
 | .str,_,_,_=>⟨List.Pairwise.nil,by simp[Ty.nms]⟩
 | .list _,_,_,_=>⟨List.Pairwise.nil,by simp[Ty.nms]⟩
 | .unit,_,_,_=>⟨List.Pairwise.nil,by simp[Ty.nms]⟩
 | .nm,_,_,_=>⟨List.Pairwise.nil,by simp[Ty.nms]⟩
 | .olq _ _,_,_,_=>⟨List.Pairwise.nil,by simp[Ty.nms]⟩
theorem decs_map{lk:Nat→Option OL}{t:Ty}:∀{Y:List (t.nmd.den×t.den)},(∀y∈Y,t.dec lk y.1=some y.2)→t.decs lk (Y.map Prod.fst)=some (Y.map Prod.snd)
 | [],_=>rfl
 | y::Y,h=>by
  have h1:=h y (by simp)
  have h2:=decs_map (Y:=Y) fun z hz=>h z (List.mem_cons_of_mem _ hz)
  show(match t.dec lk y.1,t.decs lk (Y.map Prod.fst) with | some x,some xs=>some (x::xs) | _,_=>none)=_
  rw[h1,h2]
  rfl
theorem MH_LeaseS(k:Nat)(a:List (Int×Int×Int))(n:Int)(hn:0≤n)(hl:a.length≤1048576)(C:Int)(hC:C=3*(a.length:Nat))(hN:n+C≤100000000000)(hk:1048576<k) :
  ∃(a':List (Int×Int×Int)) (n':Int),a'.length=a.length∧n≤n'∧n'≤n+C∧qDI k (a,(n,()))=some (n',(a',((),())))∧qDN k (a',(n,()))=some (n',((),((),()))):=by
 unfold qDI qDN
 refine qGv (A:=Int×Int×Int) (fun out n=>(n,(out,((),())))) (fun n=>(n,((),((),())))) 3 100000000000 (by decide) (fun _=>True) ?_ ?_ ?_ a (fun _ _=>trivial) hl n hn C hC hN k hk
 ·rintro⟨r1,r2,r3⟩ _ n hn hN
  have w1:wi64 (n+1)=n+1:=qAF _ (by omega)
  have w2:wi64 (n+1+1)=n+1+1:=qAF _ (by omega)
  have w3:wi64 (n+1+1+1)=n+1+1+1:=qAF _ (by omega)
  refine⟨(n,n+1,n+1+1),n+1+1+1,by omega,by omega,fun again out i h0 h1 h2 hr=>?_,fun again out i h0 h1 h2 hr=>?_⟩
  ·have w':wi64 (i+1)=i+1:=qAF _ (by omega)
   have hlt:i.toNat<out.length:=by omega
   simp only[jn,Ty.rd,qAk hr,qCG (show i.toNat<_ by simpa using hlt),List.length_set,qJO,h0,h1,hlt,w1,w2,w3,w',Option.bind_some,decide_true,and_self,if_true,qCG]
  ·have w':wi64 (i+1)=i+1:=qAF _ (by omega)
   simp only[Ty.rd,qAk hr,h0,h1,w1,w2,w3,w',Option.bind_some,decide_true,decide_false,and_self,if_true,Bool.not_true,Bool.false_eq_true,if_false]
 ·intro again out n i hi
  have:¬i<(out.length:Int):=by omega
  simp[this]
 ·intro again out n i hi
  have:¬i<(out.length:Int):=by omega
  simp[this]
theorem MH_FixedS(k:Nat)(a:List (Int×Int))(n:Int)(hn:0≤n)(hl:a.length≤1048576)(C:Int)(hC:C=3*(a.length:Nat))(hN:n+C≤100000000000)(hk:1048576<k) :
  ∃(a':List (Int×Int)) (n':Int),a'.length=a.length∧n≤n'∧n'≤n+C∧qDJ k (a,(n,()))=some (n',(a',((),())))∧qDO k (a',(n,()))=some (n',((),((),()))):=by
 unfold qDJ qDO
 refine qGv (A:=Int×Int) (fun out n=>(n,(out,((),())))) (fun n=>(n,((),((),())))) 3 100000000000 (by decide) (fun _=>True) ?_ ?_ ?_ a (fun _ _=>trivial) hl n hn C hC hN k hk
 ·rintro⟨r1,r2⟩ _ n hn hN
  have w1:wi64 (n+1)=n+1:=qAF _ (by omega)
  have w2:wi64 (n+1+1)=n+1+1:=qAF _ (by omega)
  refine⟨(n,n+1),n+1+1,by omega,by omega,fun again out i h0 h1 h2 hr=>?_,fun again out i h0 h1 h2 hr=>?_⟩
  ·have w':wi64 (i+1)=i+1:=qAF _ (by omega)
   have hlt:i.toNat<out.length:=by omega
   simp only[jn,Ty.rd,qAk hr,qCG (show i.toNat<_ by simpa using hlt),List.length_set,qJO,h0,h1,hlt,w1,w2,w',Option.bind_some,decide_true,and_self,if_true,qCG]
  ·have w':wi64 (i+1)=i+1:=qAF _ (by omega)
   simp only[Ty.rd,qAk hr,h0,h1,w1,w2,w',Option.bind_some,decide_true,decide_false,and_self,if_true,Bool.not_true,Bool.false_eq_true,if_false]
 ·intro again out n i hi
  have:¬i<(out.length:Int):=by omega
  simp[this]
 ·intro again out n i hi
  have:¬i<(out.length:Int):=by omega
  simp[this]
theorem MH_RouteS(k:Nat)(a:List ((Int×Int)×Int))(n:Int)(hn:0≤n)(hl:a.length≤1048576)(C:Int)(hC:C=3*(a.length:Nat))(hN:n+C≤100000000000)(hk:1048576<k) :
  ∃(a':List ((Int×Int)×Int)) (n':Int),a'.length=a.length∧n≤n'∧n'≤n+C∧qDK k (a,(n,()))=some (n',(a',((),())))∧qDP k (a',(n,()))=some (n',((),((),()))):=by
 unfold qDK qDP
 refine qGv (A:=(Int×Int)×Int) (fun out n=>(n,(out,((),())))) (fun n=>(n,((),((),())))) 3 100000000000 (by decide) (fun _=>True) ?_ ?_ ?_ a (fun _ _=>trivial) hl n hn C hC hN k hk
 ·rintro⟨⟨r1,r2⟩,r3⟩ _ n hn hN
  have w1:wi64 (n+1)=n+1:=qAF _ (by omega)
  have w2:wi64 (n+1+1)=n+1+1:=qAF _ (by omega)
  have w3:wi64 (n+1+1+1)=n+1+1+1:=qAF _ (by omega)
  refine⟨((n,n+1),n+1+1),n+1+1+1,by omega,by omega,fun again out i h0 h1 h2 hr=>?_,fun again out i h0 h1 h2 hr=>?_⟩
  ·have w':wi64 (i+1)=i+1:=qAF _ (by omega)
   have hlt:i.toNat<out.length:=by omega
   simp only[jn,Ty.rd,qAk hr,qCG (show i.toNat<_ by simpa using hlt),List.length_set,qJO,h0,h1,hlt,w1,w2,w3,w',Option.bind_some,decide_true,and_self,if_true,qCG]
  ·have w':wi64 (i+1)=i+1:=qAF _ (by omega)
   simp only[Ty.rd,qAk hr,h0,h1,w1,w2,w3,w',Option.bind_some,decide_true,decide_false,and_self,if_true,Bool.not_true,Bool.false_eq_true,if_false]
 ·intro again out n i hi
  have:¬i<(out.length:Int):=by omega
  simp[this]
 ·intro again out n i hi
  have:¬i<(out.length:Int):=by omega
  simp[this]
theorem MH_UserS(k:Nat)(a:List qAh.den)(n:Int)(hn:0≤n)(C:Int)(hC:C=2200000000000*(a.length:Nat))(hN:n+C≤4611686018427387903)(hk:4611686018427387904<k)(hb:qCi a) :
  ∃(a':List qAh.den) (n':Int),a'.length=a.length∧n≤n'∧n'≤n+C∧qED k (a,(n,()))=some (n',(a',((),())))∧qEF k (a',(n,()))=some (n',((),((),()))):=by
 unfold qED qEF
 have hl:=hb.1
 refine qGv (A:=qAh.den) (fun out n=>(n,(out,((),())))) (fun n=>(n,((),((),())))) 2200000000000 4611686018427387903 (by decide) (fun r=>qBP (qBJ r)) ?_ ?_ ?_ a hb.2 hl n hn C hC hN k (by omega)
 ·rintro⟨r1,r2,⟨⟨r3,r4,r5,r6,r7,r8⟩,r9,r10,r11,r12,r13,r14⟩,r15,r16⟩ hp n hn hN
  obtain⟨_,_,p1,_,_,p2,p3,_⟩:=hp
  have p1:r7.length≤1048576:=p1
  have p2:r13.length≤1048576:=p2
  have p3:qCh r15:=p3
  have p4:=p3.1
  have w1:wi64 (n+1)=n+1:=qAF _ (by omega)
  have w2:wi64 (n+1+1)=n+1+1:=qAF _ (by omega)
  have w3:wi64 (n+1+1+1)=n+1+1+1:=qAF _ (by omega)
  have w4:wi64 (n+1+1+1+1)=n+1+1+1+1:=qAF _ (by omega)
  have w5:wi64 (n+1+1+1+1+1)=n+1+1+1+1+1:=qAF _ (by omega)
  have w6:wi64 (n+1+1+1+1+1+1)=n+1+1+1+1+1+1:=qAF _ (by omega)
  obtain⟨t1,ht1⟩:=qCj k (n+1+1+1) (by omega) (by omega)
  obtain⟨t2,ht2⟩:=qCj k (n+1+1+1+1) (by omega) (by omega)
  obtain⟨l1,m1,a1,a2,a3,a4,a5⟩:=MH_IntS k r7 (n+1+1+1+1+1+1) (by omega) (by omega) (by omega) p1
  have v1:wi64 (m1+1)=m1+1:=qAF _ (by omega)
  have v2:wi64 (m1+1+1)=m1+1+1:=qAF _ (by omega)
  have v3:wi64 (m1+1+1+1)=m1+1+1+1:=qAF _ (by omega)
  have v4:wi64 (m1+1+1+1+1)=m1+1+1+1+1:=qAF _ (by omega)
  have v5:wi64 (m1+1+1+1+1+1)=m1+1+1+1+1+1:=qAF _ (by omega)
  obtain⟨t3,ht3⟩:=qCj k (m1+1+1) (by omega) (by omega)
  obtain⟨t4,ht4⟩:=qCj k (m1+1+1+1) (by omega) (by omega)
  obtain⟨l2,m2,b1,b2,b3,b4,b5⟩:=MH_IntS k r13 (m1+1+1+1+1+1) (by omega) (by omega) (by omega) p2
  have u1:wi64 (m2+1)=m2+1:=qAF _ (by omega)
  obtain⟨hs,m3,c1,c2,c3,c4,c5⟩:=MH_HeldS k r15 (m2+1) (by omega) _ rfl (by omega) hk p3
  have u2:wi64 (m3+1)=m3+1:=qAF _ (by omega)
  have e1:¬m1<0:=by omega
  have e2:¬m2<0:=by omega
  have e3:¬m3<0:=by omega
  refine⟨(n,n+1,((n+1+1,t1,t2,n+1+1+1+1+1,l1,m1),(m1+1,t3,t4,m1+1+1+1+1,l2,m2)),hs,m3),m3+1,by omega,by omega,fun again out i h0 h1 h2 hr=>?_,fun again out i h0 h1 h2 hr=>?_⟩
  ·have w':wi64 (i+1)=i+1:=qAF _ (by omega)
   have hlt:i.toNat<out.length:=by omega
   simp only[jn,Ty.rd,qAk hr,qCG (show i.toNat<_ by simpa using hlt),List.length_set,qJO,h0,h1,hlt,w1,w2,w3,w4,w5,w6,v1,v2,v3,v4,v5,u1,u2,w',ht1,ht2,ht3,ht4,a4,b4,c4,Option.bind_some,decide_true,and_self,if_true,qCG]
  ·have w':wi64 (i+1)=i+1:=qAF _ (by omega)
   simp only[Ty.rd,qAk hr,h0,h1,w1,w2,w3,w4,w5,w6,v1,v2,v3,v4,v5,u1,u2,w',ht1,ht2,ht3,ht4,a5,b5,c5,e1,e2,e3,Option.bind_some,decide_true,decide_false,and_self,if_true,Bool.not_true,Bool.false_eq_true,if_false]
 ·intro again out n i hi
  have:¬i<(out.length:Int):=by omega
  simp[this]
 ·intro again out n i hi
  have:¬i<(out.length:Int):=by omega
  simp[this]
theorem i_copyUsers_is(k:Nat)(a:List qAh.den)(hk:1048576<k)(hb:qCi a):qD3 k (a,())=some (a,((),())):=by
 unfold qD3
 have hl:a.length≤1048576:=hb.1
 have hcap:capMax=274877906944:=rfl
 refine loop_app (A:=qAh.den) a (fun i out=>(out,(a,((a.length:Int),((i:Int),()))))) (a,((),())) ?_ ?_ k (by omega)
 ·intro again i out x ho hi hx
  have hu:qBP (qBJ x):=hb.2 x (List.mem_of_getElem? hx)
  have e:=i_copyUser_is k (qBJ x) hk hu
  have w:wi64 ((i:Int)+1)=((i+1:Nat):Int):=by rw[show wi64 ((i:Int)+1)=(i:Int)+1 from qAF _ (by omega)];omega
  have p1:(i:Int)<(a.length:Int):=by omega
  have p2:0≤(i:Int):=by omega
  have c3:out.length+1≤capMax:=by omega
  obtain⟨x0,x1,⟨⟨x2,x3,x4,x5,x6,x7⟩,x8,x9,x10,x11,x12,x13⟩,x14,x15⟩:=x
  simp only[qBJ] at e
  simp only[Ty.rd,Int.toNat_natCast,qAk hx,p1,p2,w,c3,e,Option.bind_some,List.length_nil,List.length_cons,decide_true,and_self,if_true,Nat.zero_add]
 ·intro again
  have:¬(a.length:Int)<(a.length:Int):=by omega
  simp only[this,decide_false,Bool.false_eq_true,if_false]
theorem qFG(k:Nat)(a:List qAh.den)(hk:1048576<k)(hb:qCi a):qBf k (a,())=some (a,((),())):=by
 unfold qBf
 have hl:a.length≤1048576:=hb.1
 have hcap:capMax=274877906944:=rfl
 refine loop_app (A:=qAh.den) a (fun i out=>(a,(out,((i:Int),())))) (a,((),())) ?_ ?_ k (by omega)
 ·intro again i out x ho hi hx
  have hu:qBP (qBJ x):=hb.2 x (List.mem_of_getElem? hx)
  have e:=s_l22CopyUser_is k (qBJ x) hk hu
  have w:wi64 ((i:Int)+1)=((i+1:Nat):Int):=by rw[show wi64 ((i:Int)+1)=(i:Int)+1 from qAF _ (by omega)];omega
  have p1:(i:Int)<(a.length:Int):=by omega
  have p2:0≤(i:Int):=by omega
  have c3:out.length+1≤capMax:=by omega
  obtain⟨x0,x1,⟨⟨x2,x3,x4,x5,x6,x7⟩,x8,x9,x10,x11,x12,x13⟩,x14,x15⟩:=x
  simp only[qBJ] at e
  simp only[Ty.rd,Int.toNat_natCast,qAk hx,p1,p2,w,c3,e,Option.bind_some,List.length_nil,List.length_cons,decide_true,and_self,if_true,Nat.zero_add]
 ·intro again
  have:¬(a.length:Int)<(a.length:Int):=by omega
  simp only[this,decide_false,Bool.false_eq_true,if_false]
theorem qJP(k:Nat)(x:qCF)(hb:qC4 x):qDj k (x,())=some (x,((),())):=by
 obtain⟨a0,a1,a2,a3,⟨⟩⟩:=x
 have h1:a2.length≤1048576:=hb.1.1
 have h2:a3.length≤1048576:=hb.2.1.1
 have hcap:capMax=274877906944:=rfl
 unfold qDj
 rw[if_pos (by simp only[List.length_nil];omega),if_pos (by simp only[List.length_nil];omega)]
 simp
theorem s_l11Copy_is(k:Nat)(x:qCF)(hb:qC4 x):qEn k (x,())=some (x,((),())):=by
 obtain⟨a0,a1,a2,a3,⟨⟩⟩:=x
 have h1:a2.length≤1048576:=hb.1.1
 have h2:a3.length≤1048576:=hb.2.1.1
 have hcap:capMax=274877906944:=rfl
 unfold qEn
 rw[if_pos (by simp only[List.length_nil];omega),if_pos (by simp only[List.length_nil];omega)]
 simp
theorem qEJ(k:Nat)(a:List qAV.den)(hl:a.length≤1048576):qBE k (a,())=some (a,((),())):=by
 have hcap:capMax=274877906944:=rfl
 unfold qBE
 rw[if_pos (by simp only[List.length_nil];omega)]
 simp
abbrev HubA:=Int×Int×(List qAE.den)×(List qAK.den)×(List qAV.den)×(List qAh.den)×Unit
theorem qC5{a0 a1:Int}{a2:List qAE.den}{a3:List qAK.den}{a4:List qAV.den}{a5:List qAh.den}(hb:qBd (a0,(a1,(a2,(a3,(a4,(a5,()))))))):qC4 (a0,(a1,(a2,(a3,()))))∧qDS a4∧qCi a5:=by
 unfold qBd at hb
 obtain⟨h1,h2,h3,h4,_⟩:=hb
 exact⟨⟨h1,h2,trivial⟩,h3,h4⟩
theorem bd_hubOf{a0 a1:Int}{a2:List qAE.den}{a3:List qAK.den}{a4:List qAV.den}{a5:List qAh.den}(h1:qFD a2)(h2:qFE a3)(h3:qDS a4)(h4:qCi a5):qBd (a0,(a1,(a2,(a3,(a4,(a5,())))))):=
 ⟨h1,h2,h3,h4,trivial⟩
theorem i_copyHub_is(k:Nat)(x:HubA)(hk:1048576<k)(hb:qBd x):qGG k (x,())=some (x,((),())):=by
 obtain⟨a0,a1,a2,a3,a4,a5,⟨⟩⟩:=x
 obtain⟨h1,h2,h3⟩:=qC5 hb
 unfold qGG
 simp only[qJP k (a0,(a1,(a2,(a3,())))) h1,qEJ k a4 h2.1,i_copyUsers_is k a5 hk h3,Option.bind_some]
theorem s_l22Copy_is(k:Nat)(x:HubA)(hk:1048576<k)(hb:qBd x):qGA k (x,())=some (x,((),())):=by
 obtain⟨a0,a1,a2,a3,a4,a5,⟨⟩⟩:=x
 obtain⟨h1,h2,h3⟩:=qC5 hb
 have h2':a4.length≤1048576:=h2.1
 have hcap:capMax=274877906944:=rfl
 unfold qGA
 simp only[s_l11Copy_is k (a0,(a1,(a2,(a3,())))) h1,qFG k a5 hk h3,Option.bind_some]
 rw[if_pos (by simp only[List.length_nil];omega)]
 simp
theorem MH_Hub(k:Nat)(x:HubA)(hk:4611686018427387904<k)(hb:qBd x) :
  ∃(l:List qAE.den) (f:List qAK.den) (r:List qAV.den) (u:List qAh.den) (n:Int),0≤n∧qDM k (x,(1,()))=some (n,(((),((),(l,(f,(r,(u,())))))),((),()))) ∧
   qDQ k ((x.1,(x.2.1,(l,(f,(r,(u,())))))),(1,()))=some (n,((),((),()))):=by
 obtain⟨a0,a1,a2,a3,a4,a5,⟨⟩⟩:=x
 obtain⟨h1,h2,h3⟩:=qC5 hb
 have l2:a2.length≤1048576:=h1.1.1
 have l3:a3.length≤1048576:=h1.2.1.1
 have l4:a4.length≤1048576:=h2.1
 have l5:a5.length≤1048576:=h3.1
 obtain⟨l,n1,p1,p2,p3,p4,p5⟩:=MH_LeaseS k a2 1 (by omega) l2 _ rfl (by omega) (by omega)
 obtain⟨f,n2,q1,q2,q3,q4,q5⟩:=MH_FixedS k a3 n1 (by omega) l3 _ rfl (by omega) (by omega)
 obtain⟨r,n3,r1,r2,r3,r4,r5⟩:=MH_RouteS k a4 n2 (by omega) l4 _ rfl (by omega) (by omega)
 obtain⟨u,n4,u1,u2,u3,u4,u5⟩:=MH_UserS k a5 n3 (by omega) _ rfl (by omega) hk h3
 have c1:¬n1<0:=by omega
 have c2:¬n2<0:=by omega
 have c3:¬n3<0:=by omega
 have c4:¬n4<0:=by omega
 refine⟨l,f,r,u,n4,by omega,?_,?_⟩
 ·unfold qDM qE8
  simp only[p4,q4,r4,u4,Option.bind_some]
 ·unfold qDQ qE9
  simp only[p5,q5,r5,u5,c1,c2,c3,c4,decide_false,Bool.false_eq_true,if_false,Option.bind_some]
abbrev WoutD:=(Int×Int)×Int
abbrev WoutT:Ty:=(.pair (.pair (.int .i64) (.int .i64)) (.int .i64))
theorem idxWout_is(k:Nat)(a:List WoutD)(fp fn:Int)(hk:1048576<k)(hl:a.length≤1048576):qAM k (a,(((fp,(fn,())),()),())) =
  some (match (List.range a.length).find? (fun i=>decide ((fun x:WoutD=>x.1.1=fp∧x.1.2=fn) (a.getD i (Ty.dflt WoutT)))) with | some i=>(((i:Nat):Int),((),(((fp,(fn,())),()),()))) | none=>(-1,((),(((fp,(fn,())),()),())))):=by
 unfold qAM
 refine qBm (fun i=>(a,(((fp,(fn,())),()),((a.length:Int),(((i:Nat):Int),()))))) a.length (fun i=>decide ((fun x:WoutD=>x.1.1=fp∧x.1.2=fn) (a.getD i (Ty.dflt WoutT)))) (fun i=>(((i:Nat):Int),((),(((fp,(fn,())),()),())))) (-1,((),(((fp,(fn,())),()),()))) ?_ ?_ k (by omega)
 ·intro again i hi
  have g1:(0:Int)≤(i:Int)∧(i:Int)<(a.length:Int):=by omega
  have w2:wi64 ((i:Int)+1)=((i+1:Nat):Int):=(qAF _ (by omega)).trans (by omega)
  simp only[g1,w2,qBG,Ty.rd,Int.toNat_natCast,and_self,decide_true,if_true,Option.bind_some,Bool.decide_and]
  rfl
 ·intro again
  simp
theorem delWout_is(k:Nat)(L:List WoutD)(fp fn:Int)(hk:1048576<k)(hl:L.length≤1048576):qAL k (L,(((fp,(fn,())),()),())) =
  some (L.filter (fun x=>!decide (x.1.1=fp∧x.1.2=fn)),((),(((fp,(fn,())),()),()))):=by
 have e:=idxWout_is k L fp fn hk hl
 have hsp:=first_split (Ty.dflt WoutT) (fun x:WoutD=>decide (x.1.1=fp∧x.1.2=fn)) L
 unfold qAL
 simp only[e,Option.bind_some]
 cases hq:(List.range L.length).find? (fun i=>decide ((fun x:WoutD=>x.1.1=fp∧x.1.2=fn) (L.getD i (Ty.dflt WoutT)))) with
 | none =>
  rw[hq] at hsp
  rw[hsp]
  simp
 | some i =>
  rw[hq] at hsp
  obtain⟨p,g,r,rfl,rfl,hfil⟩:=hsp
  have hne:¬((p.length:Nat):Int)=-1:=by omega
  have hl':p.length+r.length+1≤1048576:=by simpa [Nat.add_assoc] using hl
  have w2:wi64 ((p.length:Int)+1)=((p.length+([]:List WoutD).length+1:Nat):Int):=(qAF _ (by omega)).trans (by simp)
  rw[hfil]
  simp only[hne,w2,decide_false,Bool.false_eq_true,if_false]
  refine(del_run (fun x:WoutD=>decide (x.1.1=fp∧x.1.2=fn)) ((fp,(fn,())),()) (fun q=>(q,((),(((fp,(fn,())),()),())))) ?_ ?_ r p [] g k (by simp;omega) (by omega))
  ·intro again p gs r g v hb
   have hlen:(p++g::(gs++v::r)).length=p.length+gs.length+r.length+2:=by simp;omega
   have g1:((p.length+gs.length+1:Nat):Int)<((p++g::(gs++v::r)).length:Int):=by rw[hlen];omega
   have g2:(0:Int)≤((p.length+gs.length+1:Nat):Int)∧((p.length+gs.length+1:Nat):Int)<((p++g::(gs++v::r)).length:Int):=by rw[hlen];omega
   have g3:(0:Int)≤(p.length:Int)∧(p.length:Int)<((p++g::(gs++v::r)).length:Int):=by rw[hlen];omega
   have r1:(p++g::(gs++v::r)).getD (p.length+gs.length+1) (Ty.dflt WoutT)=v:=by
    rw[show p++g::(gs++v::r)=(p++g::gs)++v::r by simp,show p.length+gs.length+1=(p++g::gs).length by simp;omega]
    simp[List.getD]
   have s1:List.set (p++g::(gs++v::r)) p.length v=p++v::(gs++v::r):=by simp
   have w1:wi64 ((p.length:Int)+1)=((p.length+1:Nat):Int):=(qAF _ (by omega)).trans (by omega)
   have w2:wi64 (((p.length+gs.length+1:Nat):Int)+1)=((p.length+gs.length+2:Nat):Int):=(qAF _ (by omega)).trans (by omega)
   obtain⟨⟨v1,v2⟩,v3⟩:=v
   simp only[jn,Ty.rd,Int.toNat_natCast,r1,g1,g2,g3,s1,w1,w2,qBG,decide_true,and_self,if_true,Option.bind_some,Bool.decide_and]
   by_cases q:v1=fp∧v2=fn <;> simp[q]
  ·intro again q t
   have hd:¬(((q++t).length:Nat):Int)<((q++t).length:Int):=by omega
   have g1:(0:Int)≤(q.length:Int)∧(q.length:Int)≤((q++t).length:Int):=by simp only[List.length_append];omega
   simp only[hd,g1,decide_false,Bool.false_eq_true,if_false,and_self,if_true]
   simp
   omega
theorem loop_span{X R A:Type}{step:(X→Option R)→X→Option R}(W:List A)(D:A→Bool)(st:Nat→X)(K:Nat→Option R)(hs:∀again i x,i<W.length→W[i]?=some x→step again (st i)=if D x=true then again (st (i+1)) else K i)(he:∀again,step again (st W.length)=K W.length):∀k,W.length<k→qAH step k (st 0)=K (W.takeWhile D).length:=by
 have key:∀(s p:List A) k,p++s=W→s.length<k→qAH step k (st p.length)=K (p.length+(s.takeWhile D).length):=by
  intro s
  induction s with
  | nil =>
   intro p k h hk
   obtain⟨k,rfl⟩:∃k',k=k'+1:=⟨k-1,by omega⟩
   have:p=W:=by simpa using h
   subst this
   exact he _
  | cons x s ih =>
   intro p k h hk
   obtain⟨k,rfl⟩:∃k',k=k'+1:=⟨k-1,by omega⟩
   show step _ _=_
   subst h
   rw[hs _ _ x (by simp) (by simp)]
   by_cases d:D x=true
   ·have:=ih (p++[x]) k (by simp) (by simpa using hk)
    rw[if_pos d,show p.length+1=(p++[x]).length by simp,this]
    simp[d]
    congr 1
    omega
   ·rw[if_neg d]
    simp[d]
 intro k hk
 have:=key W [] k (by simp) hk
 simpa using this
theorem qIA{a b c d e f:Int}(h1:qAc a b c d=true)(h2:qAc c d e f=true):qAc a b e f=true:=by
 unfold qAc at *
 simp only[Bool.or_eq_true,Bool.and_eq_true,decide_eq_true_eq] at *
 omega
theorem ahead_tri(a b c d:Int):qAc a b c d=true∨(a=c∧b=d)∨qAc c d a b=true:=by
 unfold qAc
 simp only[Bool.or_eq_true,Bool.and_eq_true,decide_eq_true_eq]
 omega
theorem qGw(a b:Int):qAc a b a b=false:=by
 unfold qAc
 simp
theorem ahead_asym{a b c d:Int}(h:qAc a b c d=true):qAc c d a b=false:=by
 cases q:qAc c d a b with
 | false=>rfl
 | true=>have:=qIA h q;rw[qGw] at this;cases this
abbrev qCS:=(Int×Int)×Int
theorem put_split(p n:Int):∀L:List qCS,L.Pairwise (fun x y=>qAc x.1.1 x.1.2 y.1.1 y.1.2=true) →
  (L.filter (fun x=>!decide (x.1.1=p∧x.1.2=n))).takeWhile (fun x=>qAc x.1.1 x.1.2 p n)=L.filter (fun x=>qAc x.1.1 x.1.2 p n) ∧
  (L.filter (fun x=>!decide (x.1.1=p∧x.1.2=n))).dropWhile (fun x=>qAc x.1.1 x.1.2 p n)=L.filter (fun x=>qAc p n x.1.1 x.1.2):=by
 intro L hp
 induction L with
 | nil=>simp
 | cons x L ih =>
  obtain⟨hx,hp⟩:=List.pairwise_cons.1 hp
  by_cases a:qAc x.1.1 x.1.2 p n=true
  ·obtain⟨h1,h2⟩:=ih hp
   have ne:¬(x.1.1=p∧x.1.2=n):=by
    rintro⟨rfl,rfl⟩
    rw[qGw] at a
    cases a
   have b:=ahead_asym a
   simp only[List.filter_cons,ne,decide_false,Bool.not_false,if_true,a,b,List.takeWhile_cons,List.dropWhile_cons,Bool.false_eq_true,if_false,h1,h2,and_self]
  ·have a':qAc x.1.1 x.1.2 p n=false:=by simpa using a
   have hB:∀y∈L,qAc p n y.1.1 y.1.2=true:=fun y hy=>by
    rcases ahead_tri x.1.1 x.1.2 p n with h | ⟨h1,h2⟩ | h
    ·exact absurd h a
    ·have:=hx y hy
     rwa [h1,h2] at this
    ·exact qIA h (hx y hy)
   have e1:L.filter (fun x=>qAc x.1.1 x.1.2 p n)=[]:=List.filter_eq_nil_iff.2 fun y hy=>by simp[ahead_asym (hB y hy)]
   have e2:L.filter (fun x=>qAc p n x.1.1 x.1.2)=L:=List.filter_eq_self.2 hB
   have e3:L.filter (fun x=>!decide (x.1.1=p∧x.1.2=n))=L:=List.filter_eq_self.2 fun y hy=>by
    have:¬(y.1.1=p∧y.1.2=n):=by
     rintro⟨h1,h2⟩
     have:=hB y hy
     rw[h1,h2,qGw] at this
     cases this
    simp[this]
   have e4:L.takeWhile (fun x=>qAc x.1.1 x.1.2 p n)=[]∧L.dropWhile (fun x=>qAc x.1.1 x.1.2 p n)=L:=by
    cases L with
    | nil=>simp
    | cons y L=>simp[ahead_asym (hB y (by simp))]
   by_cases e:x.1.1=p∧x.1.2=n
   ·have b:qAc p n x.1.1 x.1.2=false:=by rw[e.1,e.2,qGw]
    simp only[List.filter_cons,e,and_self,decide_true,Bool.not_true,Bool.false_eq_true,if_false,a',b,e1,e2,e3,e4,qGw]
   ·have b:qAc p n x.1.1 x.1.2=true:=by
     rcases ahead_tri x.1.1 x.1.2 p n with h | h | h
     ·exact absurd h a
     ·exact absurd h e
     ·exact h
    simp only[List.filter_cons,e,decide_false,Bool.not_false,if_true,a',b,e1,e2,e3,List.takeWhile_cons,List.dropWhile_cons,Bool.false_eq_true,if_false,and_self]
theorem foldE_all{g:Nat→Unit→(Bool×Unit×Unit) ⊕ Unit}{fin:Unit→Bool×Unit×Unit}(hg:∀i,g i ()=.inr ()∨∃o,g i ()=.inl (false,o)) :
  ∀m i,(qFH g fin m i ()).1=true→∀j,i≤j→j<i+m→g j ()=.inr ():=by
 intro m
 induction m with
 | zero=>intro i _ j h1 h2;omega
 | succ m ih =>
  intro i h j h1 h2
  rcases hg i with e | ⟨o,e⟩
  ·by_cases hj:j=i
   ·rw[hj];exact e
   ·refine ih (i+1) ?_ j (by omega) (by omega)
    simpa [qFH,e] using h
  ·simp[qFH,e] at h
theorem foldE_fin{g:Nat→Unit→(Bool×Unit×Unit) ⊕ Unit}{fin:Unit→Bool×Unit×Unit}(hg:∀i,g i ()=.inr ()∨∃o,g i ()=.inl (false,o)) :
  ∀m i,(qFH g fin m i ()).1=true→(fin ()).1=true:=by
 intro m
 induction m with
 | zero=>intro i h;simpa [qFH] using h
 | succ m ih =>
  intro i h
  rcases hg i with e | ⟨o,e⟩
  ·exact ih (i+1) (by simpa [qFH,e] using h)
  ·simp[qFH,e] at h
theorem gRoute_or(a:List qCS):∀i,qJK a i ()=.inr ()∨∃o,qJK a i ()=.inl (false,o):=fun i=>by
 unfold qJK
 dsimp only
 split
 ·exact .inl rfl
 ·exact .inr ⟨_,rfl⟩
theorem routes_len{a:List qCS}(h:qEd a=true):a.length≤12:=by
 have:=foldE_fin (gRoute_or a) a.length 0 h
 simp only[decide_eq_true_eq] at this
 omega
theorem routes_sorted{a:List qCS}(hl:a.length≤1048576)(h:qEd a=true):a.Pairwise (fun x y=>qAc x.1.1 x.1.2 y.1.1 y.1.2=true):=by
 have hall:=foldE_all (gRoute_or a) a.length 0 h
 have step:∀i (hi:i+1<a.length),qAc a[i].1.1 a[i].1.2 a[i+1].1.1 a[i+1].1.2=true:=fun i hi=>by
  have:=hall (i+1) (by omega) (by omega)
  unfold qJK at this
  have w1:wi64 (((i+1:Nat):Int)-1)=(i:Int):=(qAF _ (by omega)).trans (by omega)
  dsimp only at this
  rw[w1] at this
  split at this
  ·rename_i hc
   simp only[Bool.and_eq_true,Bool.or_eq_true] at hc
   have hc:=hc.2.2
   have hp:(0:Int)<((i+1:Nat):Int):=by omega
   simp only[hp,decide_true,Bool.not_true,Bool.false_eq_true,false_or] at hc
   have e1:Ty.rd (t:=qAV) a ((i:Nat):Int)=a[i]:=by
    show a.getD i _=_
    rw[List.getD_eq_getElem?_getD,List.getElem?_eq_getElem (by omega)];rfl
   have e2:Ty.rd (t:=qAV) a ((i+1:Nat):Int)=a[i+1]:=by
    show a.getD (i+1) _=_
    rw[List.getD_eq_getElem?_getD,List.getElem?_eq_getElem (by omega)];rfl
   rw[e1,e2] at hc
   exact hc
  ·cases this
 rw[List.pairwise_iff_getElem]
 intro i j hi hj hij
 induction j with
 | zero=>omega
 | succ j ih =>
  by_cases e:i=j
  ·subst e;exact step i hj
  ·exact qIA (ih (by omega) (by omega)) (step j hj)
def putL(L:List qCS)(p n c:Int):List qCS:=L.filter (fun x=>qAc x.1.1 x.1.2 p n)++[((p,n),c)]++L.filter (fun x=>qAc p n x.1.1 x.1.2)
def putB(L:List qCS)(p n c:Int):List qCS×Bool:=if qEd L=true∧qEd (putL L p n c)=true then(putL L p n c,true) else(L,false)
theorem putL_len(L:List qCS)(p n c:Int):(putL L p n c).length≤2*L.length+1:=by
 unfold putL
 have h1:=List.length_filter_le (fun x:qCS=>qAc x.1.1 x.1.2 p n) L
 have h2:=List.length_filter_le (fun x:qCS=>qAc p n x.1.1 x.1.2) L
 simp only[List.length_append,List.length_cons,List.length_nil]
 omega
theorem qJQ(k:Nat)(a:List qCS)(p n:Int)(hk:1048576<k)(hl:a.length≤1048576):qBv k (a,((p,(n,())),()))=some (a.filter (fun x=>!decide (x.1.1=p∧x.1.2=n)),((),((),()))):=by
 unfold qBv
 simp only[qEJ k a hl,Option.bind_some,delWout_is k a p n hk hl]
theorem i_PutRoute_is(k:Nat)(a:List qCS)(p n c:Int)(hk:1048576<k)(hl:a.length≤1048576):qEv k (a,((p,(n,(c,()))),()))=some (((putB a p n c).1,((putB a p n c).2,())),((),((),()))):=by
 unfold qEv
 simp only[qJQ k a p n hk (by omega),Option.bind_some,jn]
 generalize hW:a.filter (fun x=>!decide (x.1.1=p∧x.1.2=n))=W
 have hWl:W.length≤a.length:=by rw[←hW];exact List.length_filter_le _ _
 refine Eq.trans (loop_span (A:=qCS) W (fun x=>qAc x.1.1 x.1.2 p n) (fun i=>(a,((p,(n,(c,()))),(W,((i:Int),()))))) (fun i=>(qAW k (W,(((i:Nat):Int),([((p,n),c)],())))).bind fun p3=>(qCR k (a,())).bind fun p4=>if(!p4.1)=false then(qCR k (p3.1,())).bind fun p5=>(if(!p5.1)=true then(qBE k (a,())).bind fun p6=>some ((p6.1,(false,())),((),((),()))) else some ((p3.1,(true,())),((),((),())))) else(qBE k (a,())).bind fun p7=>some ((p7.1,(false,())),((),((),())))) ?_ ?_ k (by omega)) ?_
 ·intro again i x hi hx
  have w:wi64 ((i:Int)+1)=((i+1:Nat):Int):=(qAF _ (by omega)).trans (by omega)
  have p1:(i:Int)<(W.length:Int):=by omega
  have p2:0≤(i:Int):=by omega
  obtain⟨⟨x1,x2⟩,x3⟩:=x
  obtain⟨cc,hc1,hc2⟩:=qEX k x1 x2 p n (by omega)
  simp only[Ty.rd,Int.toNat_natCast,qAk hx,p1,p2,w,hc1,decide_true,and_self,if_true,Option.bind_some]
  by_cases q:qAc x1 x2 p n=true
  ·have:cc<0:=by
    refine Int.not_le.1 fun h=>?_
    rw[hc2.1 h] at q
    cases q
   simp only[this,q,decide_true,if_true]
  ·have:¬cc<0:=by
    have:=hc2.2 (by simpa using q)
    omega
   simp only[this,q,decide_false,Bool.false_eq_true,if_false]
 ·intro again
  have:¬(W.length:Int)<(W.length:Int):=by omega
  simp only[this,decide_false,Bool.false_eq_true,if_false]
 ·have hT:(W.takeWhile (fun x=>qAc x.1.1 x.1.2 p n)).length≤W.length:=by
   have:=congrArg List.length (List.takeWhile_append_dropWhile (p:=fun x:qCS=>qAc x.1.1 x.1.2 p n) (l:=W))
   rw[List.length_append] at this
   omega
  have hins:qAW k (W,((((W.takeWhile (fun x=>qAc x.1.1 x.1.2 p n)).length:Nat):Int),([((p,n),c)],())))=some (W.takeWhile (fun x=>qAc x.1.1 x.1.2 p n)++[((p,n),c)]++W.dropWhile (fun x=>qAc x.1.1 x.1.2 p n),((),((),((),())))):=by
   unfold qAW insF
   have e:=List.takeWhile_append_dropWhile (p:=fun x:qCS=>qAc x.1.1 x.1.2 p n) (l:=W)
   have e1:W.take (W.takeWhile (fun x=>qAc x.1.1 x.1.2 p n)).length=W.takeWhile (fun x=>qAc x.1.1 x.1.2 p n):=by
    conv=>lhs;arg 2;rw[←e]
    rw[List.take_left]
   have e2:W.drop (W.takeWhile (fun x=>qAc x.1.1 x.1.2 p n)).length=W.dropWhile (fun x=>qAc x.1.1 x.1.2 p n):=by
    conv=>lhs;arg 2;rw[←e]
    rw[List.drop_left]
   rw[if_pos (by simp only[List.length_cons,List.length_nil];omega)]
   simp only[Int.toNat_natCast,e1,e2]
  simp only[hins,Option.bind_some,qJM k a hk (by omega),qEJ k a (show a.length≤1048576 by omega)]
  unfold putB
  cases hr:qEd a with
  | false=>simp
  | true =>
   obtain⟨s1,s2⟩:=put_split p n a (routes_sorted (by omega) hr)
   rw[hW] at s1 s2
   have hp:W.takeWhile (fun x=>qAc x.1.1 x.1.2 p n)++[((p,n),c)]++W.dropWhile (fun x=>qAc x.1.1 x.1.2 p n)=putL a p n c:=by rw[s1,s2];rfl
   have hpl:=putL_len a p n c
   have h12:=routes_len hr
   simp only[hp,qJM k (putL a p n c) hk (by omega),Option.bind_some]
   cases qEd (putL a p n c) <;> simp
theorem loop_pick1{X R A:Type}{step:(X→Option R)→X→Option R}(a:List A)(D:A→Bool)(st:Nat→List A→X)(r:Option R)(hs:∀again i out x,out.length≤i→i<a.length→a[i]?=some x→step again (st i out)=again (st (i+1) (if D x=true then out++[x] else out)))(he:∀again,step again (st a.length (a.filter D))=r):∀k,a.length<k→qAH step k (st 0 [])=r:=by
 have key:∀(s p:List A) k,p++s=a→s.length<k→qAH step k (st p.length (p.filter D))=r:=by
  intro s
  induction s with
  | nil =>
   intro p k h hk
   obtain⟨k,rfl⟩:∃k',k=k'+1:=⟨k-1,by omega⟩
   have:p=a:=by simpa using h
   subst this
   exact he _
  | cons x s ih =>
   intro p k h hk
   obtain⟨k,rfl⟩:∃k',k=k'+1:=⟨k-1,by omega⟩
   show step _ _=_
   subst h
   rw[hs _ _ _ x (List.length_filter_le _ _) (by simp) (by simp)]
   have:=ih (p++[x]) k (by simp) (by simpa using hk)
   rw[List.filter_append] at this
   have e:p.filter D++[x].filter D=if D x=true then p.filter D++[x] else p.filter D:=by
    by_cases d:D x=true
    ·simp[d]
    ·simp[d]
   rw[e] at this
   simpa using this
 intro k hk
 exact key a [] k (by simp) hk
theorem s_PutRoute_is(k:Nat)(a:List qCS)(p n c:Int)(hk:1048576<k)(hl:a.length≤1048576):qEp k (a,((p,(n,(c,()))),()))=some (((putB a p n c).1,((putB a p n c).2,())),((),((),()))):=by
 unfold qEp
 have hcap:capMax=274877906944:=rfl
 have f1:(a.filter (fun x=>qAc x.1.1 x.1.2 p n)).length≤a.length:=List.length_filter_le _ _
 have f2:(a.filter (fun x=>qAc p n x.1.1 x.1.2)).length≤a.length:=List.length_filter_le _ _
 refine loop_pick1 (A:=qCS) a (fun x=>qAc x.1.1 x.1.2 p n) (fun i out=>(a,((p,(n,(c,()))),(out,((i:Int),()))))) _ ?_ ?_ k (by omega)
 ·intro again i out x ho hi hx
  have w:wi64 ((i:Int)+1)=((i+1:Nat):Int):=(qAF _ (by omega)).trans (by omega)
  have p1:(i:Int)<(a.length:Int):=by omega
  have p2:0≤(i:Int):=by omega
  have c3:out.length+1≤capMax:=by omega
  obtain⟨⟨x1,x2⟩,x3⟩:=x
  simp only[Ty.rd,Int.toNat_natCast,qAk hx,p1,p2,w,c3,Ahead_is,List.length_nil,List.length_cons,decide_true,and_self,if_true,Option.bind_some,Nat.zero_add]
  cases qAc x1 x2 p n <;> simp
 ·intro again
  have:¬(a.length:Int)<(a.length:Int):=by omega
  have c1:(a.filter (fun x=>qAc x.1.1 x.1.2 p n)).length+1≤capMax:=by omega
  simp only[this,decide_false,Bool.false_eq_true,if_false,List.length_nil,List.length_cons,Nat.zero_add,c1,if_true]
  generalize hA:a.filter (fun x=>qAc x.1.1 x.1.2 p n)++[((p,n),c)]=acc
  have hal:acc.length≤1048577:=by rw[←hA];simp only[List.length_append,List.length_cons,List.length_nil];omega
  refine Eq.trans (congrArg (fun q=>qAH _ k (a,((p,(n,(c,()))),(q,((0:Int),()))))) (List.append_nil acc).symm) (loop_pick1 (A:=qCS) a (fun x=>qAc p n x.1.1 x.1.2) (fun i out=>(a,((p,(n,(c,()))),(acc++out,((i:Int),()))))) (some (((putB a p n c).1,((putB a p n c).2,())),((),((),())))) ?_ ?_ k (by omega))
  ·intro again i out x ho hi hx
   have w:wi64 ((i:Int)+1)=((i+1:Nat):Int):=(qAF _ (by omega)).trans (by omega)
   have p1:(i:Int)<(a.length:Int):=by omega
   have p2:0≤(i:Int):=by omega
   have c3:(acc++out).length+1≤capMax:=by rw[List.length_append];omega
   obtain⟨⟨x1,x2⟩,x3⟩:=x
   simp only[Ty.rd,Int.toNat_natCast,qAk hx,p1,p2,w,c3,Ahead_is,List.length_nil,List.length_cons,decide_true,and_self,if_true,Option.bind_some,Nat.zero_add]
   cases qAc p n x1 x2 <;> simp
  ·intro again
   have hP:acc++a.filter (fun x=>qAc p n x.1.1 x.1.2)=putL a p n c:=by rw[←hA];rfl
   have c2:0+a.length≤capMax:=by omega
   simp only[‹¬(a.length:Int)<(a.length:Int)›,decide_false,Bool.false_eq_true,if_false,hP,qJL k a hk hl,Option.bind_some,c2,List.length_nil,if_true,List.nil_append]
   unfold putB
   cases hr:qEd a with
   | false =>
    simp
    omega
   | true =>
    have hpl:=putL_len a p n c
    have h12:=routes_len hr
    simp only[qJL k (putL a p n c) hk (by omega),Option.bind_some]
    cases qEd (putL a p n c)
    ·simp
     omega
    ·simp
theorem bd_putB{a:List qCS}(p n c:Int)(hb:qDS a):qDS (putB a p n c).1:=by
 unfold putB
 split
 ·rename_i h
  exact⟨show(putL a p n c).length≤1048576 by have:=routes_len h.2;omega,fun r _=>trivial⟩
 ·exact hb
def encnP(t:Ty)(xs:List t.den)(n:Nat):List (t.nmd.den×t.den):=xs.mapIdx fun i x=>(t.enc x (n+i*t.w+1),x)
theorem encnP_fst(t:Ty)(xs:List t.den)(n:Nat):(encnP t xs n).map Prod.fst=t.encn xs n:=by
 apply List.ext_getElem?
 intro i
 simp only[encnP,Ty.encn,List.getElem?_map,List.getElem?_mapIdx]
 cases xs[i]? <;> rfl
theorem encnP_snd(t:Ty)(xs:List t.den)(n:Nat):(encnP t xs n).map Prod.snd=xs:=by
 apply List.ext_getElem?
 intro i
 simp only[encnP,List.getElem?_map,List.getElem?_mapIdx]
 cases xs[i]? <;> rfl
theorem lookn_lt{t:Ty}{xs:List t.den}{m:Nat}{o:OL}(h:t.lookn xs m=some o):m<xs.length*t.w:=by
 unfold Ty.lookn at h
 split at h
 case h_2=>cases h
 rename_i x hx
 have h1:=getO_lt h
 have h2:=(List.getElem?_eq_some_iff.1 hx).1
 exact(Nat.div_lt_iff_lt_mul (by omega)).1 h2
theorem lookn_at{t:Ty}{xs:List t.den}{i off:Nat}{x:t.den}{o:OL}(hx:xs[i]?=some x)(h:t.getO x off=some o):t.lookn xs (i*t.w+off)=some o:=by
 have hlt:=getO_lt h
 have e1:(i*t.w+off) / t.w=i:=by rw[Nat.mul_comm,Nat.mul_add_div (by omega),Nat.div_eq_of_lt hlt,Nat.add_zero]
 have e2:(i*t.w+off) % t.w=off:=by rw[Nat.mul_comm,Nat.mul_add_mod,Nat.mod_eq_of_lt hlt]
 simp only[Ty.lookn,e1,e2,hx,h]
theorem encnP_dec{t:Ty}{xs:List t.den}{n:Nat}{lk:Nat→Option OL}(hlk:∀m o,t.lookn xs m=some o→lk (n+m+1)=some o){y:t.nmd.den×t.den}(h:y∈encnP t xs n):t.dec lk y.1=some y.2:=by
 obtain⟨i,hi⟩:=List.getElem?_of_mem h
 unfold encnP at hi
 rw[List.getElem?_mapIdx] at hi
 cases hx:xs[i]? with
 | none=>rw[hx] at hi;cases hi
 | some x =>
  rw[hx] at hi
  injection hi with hi
  subst hi
  refine dec_enc (by omega) fun off o ho=>?_
  have:=hlk _ o (lookn_at hx ho)
  rw[←this]
  congr 1
  omega
theorem encn_nms(t:Ty)(xs:List t.den)(n:Nat):((t.encn xs n).flatMap t.nms).Pairwise (· < ·)∧∀m∈(t.encn xs n).flatMap t.nms,n+1≤m∧m<n+1+xs.length*t.w:=by
 unfold Ty.encn
 induction xs generalizing n with
 | nil=>simp
 | cons x xs ih =>
  rw[List.mapIdx_cons,List.flatMap_cons]
  have e:(xs.mapIdx fun i x=>t.enc x (n+(i+1)*t.w+1))=xs.mapIdx fun i x=>t.enc x ((n+t.w)+i*t.w+1):=by
   congr 1
   funext i x
   rw[show n+(i+1)*t.w+1=(n+t.w)+i*t.w+1 by rw[Nat.add_mul,Nat.one_mul];omega]
  rw[e]
  obtain⟨h1,h2⟩:=ih (n+t.w)
  obtain⟨h3,h4⟩:=nms_enc (t:=t) (x:=x) (n:=n+0*t.w+1) (by omega)
  simp only[Nat.zero_mul,Nat.add_zero] at h3 h4 ⊢
  have hw:(xs.length+1)*t.w=xs.length*t.w+t.w:=by rw[Nat.add_mul,Nat.one_mul]
  refine⟨List.pairwise_append.2 ⟨h3,h1,fun p hp q hq=>?_⟩,fun m hm=>?_⟩
  ·have:=h4 p hp
   have:=h2 q hq
   omega
  ·simp only[List.length_cons]
   rw[hw]
   rcases List.mem_append.1 hm with hm | hm
   ·have:=h4 m hm;omega
   ·have:=h2 m hm;omega
theorem namesF_some{p q:Pat}{G:p.nmd.den→Option (q.nmd.den×p.nmd.out)}{x:p.den}{y:q.nmd.den}{o:p.nmd.out}{y':q.den}{o':p.out}(hG:G (p.enc x 0)=some (y,o))(h1:q.dec (lookS (p.lookP x)) y=some y')(h2:p.decO (lookS (p.lookP x)) o=some o')(hn:(q.nms y++p.nmsO o).Nodup) :
  namesF p q G x=some (y',o'):=by
 unfold namesF
 simp only[hG,h1,h2,hn,if_true]
theorem qCm{t:Ty}(xs:List t.den)(i:Nat)(h:i<xs.length):Ty.rd (t:=t) xs (i:Int)=xs[i]:=by
 rw[qCU (t:=t) xs _ (by simpa using h)]
 simp
def foldL{A B R:Type}(g:A→B→R ⊕ B)(fin:B→Option R):List A→B→Option R
 | [],b=>fin b
 | x::xs,b=>match g x b with
  | .inl r=>some r
  | .inr b'=>foldL g fin xs b'
theorem qGx{X R A B:Type}{step:(X→Option R)→X→Option R}(L:List A)(st:Nat→B→X)(g:A→B→R ⊕ B)(fin:B→Option R)(I:Nat→B→Prop)(hs:∀again i (h:i<L.length) b,I i b→step again (st i b)=match g L[i] b with | .inl r=>some r | .inr b'=>again (st (i+1) b'))(hI:∀i (h:i<L.length) b b',I i b→g L[i] b=.inr b'→I (i+1) b')(he:∀again b,I L.length b→step again (st L.length b)=fin b)(k:Nat)(hk:L.length<k)(b:B)(hb:I 0 b) :
  qAH step k (st 0 b)=foldL g fin L b:=by
 have key:∀m i kk b,i+m=L.length→m<kk→I i b→qAH step kk (st i b)=foldL g fin (L.drop i) b:=by
  intro m
  induction m with
  | zero =>
   intro i kk b h hkk hb
   obtain⟨kk,rfl⟩:∃k',kk=k'+1:=⟨kk-1,by omega⟩
   have:i=L.length:=by omega
   subst this
   rw[List.drop_length]
   exact he _ b hb
  | succ m ih =>
   intro i kk b h hkk hb
   obtain⟨kk,rfl⟩:∃k',kk=k'+1:=⟨kk-1,by omega⟩
   have hi:i<L.length:=by omega
   show step _ _=_
   rw[hs _ i hi b hb,List.drop_eq_getElem_cons hi]
   unfold foldL
   cases hq:g L[i] b with
   | inl r=>rfl
   | inr b'=>exact ih (i+1) kk b' (by omega) (by omega) (hI i hi b b' hb hq)
 have:=key L.length 0 k b (by omega) hk hb
 rwa [List.drop_zero] at this
theorem qHP{A R:Type}(keep:A→Bool)(fin:List A→Option R)(L acc:List A):foldL (fun x lst=>.inr (if keep x=true then lst++[x] else lst)) fin L acc=fin (acc++L.filter keep):=by
 induction L generalizing acc with
 | nil=>simp[foldL]
 | cons x L ih =>
  unfold foldL
  dsimp only
  rw[ih]
  cases hk:keep x <;> simp[hk]
theorem find_loopM{X R:Type}{step:(X→Option R)→X→Option R}(st:Nat→X)(n:Nat)(p:Nat→Bool)(hit:Nat→R)(miss:Option R)(hs:∀again i,i<n→step again (st i)=if p i=true then some (hit i) else again (st (i+1)))(he:∀again,step again (st n)=miss)(k:Nat)(hk:n<k) :
  qAH step k (st 0)=match (List.range n).find? p with | some i=>some (hit i) | none=>miss:=by
 have key:∀m i k,i+m=n→m<k→qAH step k (st i)=match (List.range' i m).find? p with | some i=>some (hit i) | none=>miss:=by
  intro m
  induction m with
  | zero =>
   intro i k h hk
   obtain⟨k,rfl⟩:∃k',k=k'+1:=⟨k-1,by omega⟩
   have:i=n:=by omega
   subst this
   exact he _
  | succ m ih =>
   intro i k h hk
   obtain⟨k,rfl⟩:∃k',k=k'+1:=⟨k-1,by omega⟩
   show step _ _=_
   rw[hs _ i (by omega),List.range'_succ,List.find?_cons]
   cases hp:p i with
   | true=>simp
   | false=>simp only[Bool.false_eq_true,if_false];exact ih (i+1) k (by omega) (by omega)
 rw[List.range_eq_range']
 exact key n 0 k (by omega) hk
theorem qCT{X R:Type}{step:(X→Option R)→X→Option R}{k:Nat}(hk:0<k)(x:X):qAH step k x=step (qAH step (k-1)) x:=by
 obtain⟨j,rfl⟩:∃j,k=j+1:=⟨k-1,by omega⟩
 rfl
def holdB(q:List qAE.den)(a:Int):Int:=match (List.range q.length).find? (fun j=>decide ((Ty.rd (t:=qAE) q (j:Nat)).1=a)) with | some j=>(Ty.rd (t:=qAE) q (j:Nat)).2.1 | none=>0
theorem i_HolderOf_is(k:Nat)(x:qCF)(a:Int)(hk:1048576<k)(hl:x.2.2.1.length≤1048576):qDk k (x,(a,()))=some (holdB x.2.2.1 a,((),((),()))):=by
 unfold qDk holdB
 refine(qBm (R:=Int×Unit×Unit×Unit) (fun j=>(a,(x.2.2.1,((x.2.2.1.length:Int),(((j:Nat):Int),()))))) x.2.2.1.length (fun j=>decide ((Ty.rd (t:=qAE) x.2.2.1 (j:Nat)).1=a)) (fun j=>((Ty.rd (t:=qAE) x.2.2.1 (j:Nat)).2.1,((),((),())))) (0,((),((),()))) ?_ ?_ k (by omega)).trans ?_
 ·intro ag j hj
  have q1:(0:Int)≤(j:Int)∧(j:Int)<(x.2.2.1.length:Int):=by omega
  have w3:wi64 ((j:Int)+1)=((j+1:Nat):Int):=(qAF _ (by omega)).trans (by omega)
  simp only[q1,w3,and_self,decide_true,if_true]
 ·intro ag
  simp only[Int.lt_irrefl,decide_false,Bool.false_eq_true,if_false]
 ·cases (List.range x.2.2.1.length).find? (fun j=>decide ((Ty.rd (t:=qAE) x.2.2.1 (j:Nat)).1=a)) <;> rfl
theorem s_HolderOf_is(k:Nat)(x:qCF)(a:Int)(hk:1048576<k)(hl:x.2.2.1.length≤1048576):qDh k (x,(a,()))=some (holdB x.2.2.1 a,((),((),()))):=by
 unfold qDh holdB
 refine(qBm (R:=Int×Unit×Unit×Unit) (fun j=>(a,(x,(((j:Nat):Int),())))) x.2.2.1.length (fun j=>decide ((Ty.rd (t:=qAE) x.2.2.1 (j:Nat)).1=a)) (fun j=>((Ty.rd (t:=qAE) x.2.2.1 (j:Nat)).2.1,((),((),())))) (0,((),((),()))) ?_ ?_ k (by omega)).trans ?_
 ·intro ag j hj
  have q1:(0:Int)≤(j:Int)∧(j:Int)<(x.2.2.1.length:Int):=by omega
  have w3:wi64 ((j:Int)+1)=((j+1:Nat):Int):=(qAF _ (by omega)).trans (by omega)
  simp only[q1,w3,and_self,decide_true,if_true]
 ·intro ag
  simp only[Int.lt_irrefl,decide_false,Bool.false_eq_true,if_false]
 ·cases (List.range x.2.2.1.length).find? (fun j=>decide ((Ty.rd (t:=qAE) x.2.2.1 (j:Nat)).1=a)) <;> rfl
abbrev qBQ:=Int×Int×Int
/-- How many hosts a net has. -/
def hostN(n:Int):Nat:=2^(32-n.toNat)-2
theorem qJR{n:Int}(h:24≤n∧n≤30):∃M:Nat,(2:Int)^(32-n.toNat)=(M:Int)∧hostN n=M-2∧(M=4∨M=8∨M=16∨M=32∨M=64∨M=128∨M=256):=by
 have:n=24∨n=25∨n=26∨n=27∨n=28∨n=29∨n=30:=by omega
 rcases this with rfl | rfl | rfl | rfl | rfl | rfl | rfl
 ·exact⟨256,rfl,rfl,by omega⟩
 ·exact⟨128,rfl,rfl,by omega⟩
 ·exact⟨64,rfl,rfl,by omega⟩
 ·exact⟨32,rfl,rfl,by omega⟩
 ·exact⟨16,rfl,rfl,by omega⟩
 ·exact⟨8,rfl,rfl,by omega⟩
 ·exact⟨4,rfl,rfl,by omega⟩
theorem host_in{p n:Int}(h:24≤n∧n≤30)(hp:prefB p n=true)(j:Nat)(hj:j<hostN n):qFF p n (p+1+(j:Int))=true:=by
 obtain⟨M,h1,h2,h3⟩:=qJR h
 unfold prefB at hp
 unfold qFF inB
 rw[h1] at hp ⊢
 simp only[decide_eq_true_eq] at hp
 simp only[Bool.and_eq_true,Bool.not_eq_true',decide_eq_true_eq,decide_eq_false_iff_not]
 rw[h2] at hj
 rcases h3 with rfl | rfl | rfl | rfl | rfl | rfl | rfl <;> omega
theorem host_end{p n:Int}(h:24≤n∧n≤30):qFF p n (p+1+(hostN n:Int))=false:=by
 obtain⟨M,h1,h2,h3⟩:=qJR h
 unfold qFF
 rw[h1,h2]
 have:p+1+((M-2:Nat):Int)=p+((M:Int)-1):=by omega
 rw[this]
 simp
theorem host_gt{p n a:Int}(h:24≤n∧n≤30)(hh:qFF p n a=true):p<a∧0≤p:=by
 obtain⟨M,h1,h2,h3⟩:=qJR h
 unfold qFF inB at hh
 rw[h1] at hh
 simp only[Bool.and_eq_true,Bool.not_eq_true',decide_eq_true_eq,decide_eq_false_iff_not] at hh
 rcases h3 with rfl | rfl | rfl | rfl | rfl | rfl | rfl <;> omega
def fixW(q:List qAK.den)(w:Int):Option Nat:=(List.range q.length).find? (fun j=>decide ((Ty.rd (t:=qAK) q (j:Nat)).1=w))
def freeJ(x:qCF):Option Nat:=(List.range (hostN x.2.1)).find? (fun j=>decide (holdB x.2.2.1 (x.1+1+(j:Int))=0)&&decide (qBW x.2.2.2.1 (x.1+1+(j:Int))=0))
/-- The address that one may have, who has none yet. -/
def addrO(x:qCF)(w:Int):Option Int:=match fixW x.2.2.2.1 w with
 | some j=>some (Ty.rd (t:=qAK) x.2.2.2.1 (j:Nat)).2
 | none=>match freeJ x with
  | some j=>some (x.1+1+(j:Int))
  | none=>none
def addrD(x:qCF)(w d:Int):Int:=match addrO x w with | some a=>a | none=>d
theorem hostN_le{n:Int}(h:24≤n∧n≤30):hostN n≤254:=by
 obtain⟨M,h1,h2,h3⟩:=qJR h
 omega
theorem prefB_le{p n:Int}(hp:prefB p n=true):0≤p∧p≤4294967295:=by
 unfold prefB at hp
 simp only[decide_eq_true_eq] at hp
 exact hp.1
theorem i_addrFor_is(k:Nat)(x:qCF)(w:Int)(hk:1048576<k)(hl:x.2.2.1.length≤1048576)(hl':x.2.2.2.1.length≤1048576)(hn:24≤x.2.1∧x.2.1≤30)(hp:prefB x.1 x.2.1=true) :
  qGL k (x,(w,()))=some (addrD x w (-1),((),((),()))):=by
 have hN:=hostN_le hn
 have hp4:=prefB_le hp
 unfold qGL
 refine(find_loopM (R:=Int×Unit×Unit×Unit) (fun j=>(w,(x,(x.2.2.2.1,((x.2.2.2.1.length:Int),(((j:Nat):Int),())))))) x.2.2.2.1.length (fun j=>decide ((Ty.rd (t:=qAK) x.2.2.2.1 (j:Nat)).1=w)) (fun j=>((Ty.rd (t:=qAK) x.2.2.2.1 (j:Nat)).2,((),((),()))))
  (some (match freeJ x with | some j=>(x.1+1+(j:Int),((),((),()))) | none=>(-1,((),((),()))))) (fun ag j hj=>?_) (fun ag=>?_) k (by omega)).trans ?_
 ·have q1:(0:Int)≤(j:Int)∧(j:Int)<(x.2.2.2.1.length:Int):=by omega
  have w3:wi64 ((j:Int)+1)=((j+1:Nat):Int):=(qAF _ (by omega)).trans (by omega)
  simp only[q1,w3,and_self,decide_true,if_true]
 ·have w0:wi64 (x.1+1)=x.1+1+((0:Nat):Int):=(qAF _ (by omega)).trans (by omega)
  simp only[Int.lt_irrefl,decide_false,Bool.false_eq_true,if_false,w0]
  refine(qBm (R:=Int×Unit×Unit×Unit) (fun j=>(x,(x.1+1+((j:Nat):Int),()))) (hostN x.2.1) (fun j=>decide (holdB x.2.2.1 (x.1+1+(j:Int))=0)&&decide (qBW x.2.2.2.1 (x.1+1+(j:Int))=0)) (fun j=>(x.1+1+(j:Int),((),((),())))) (-1,((),((),()))) (fun ag j hj=>?_) (fun ag=>?_) k (by omega))
  ·have w3:wi64 (x.1+1+(j:Int)+1)=x.1+1+((j+1:Nat):Int):=(qAF _ (by omega)).trans (by omega)
   have e1:=qJN k x.1 x.2.1 (x.1+1+(j:Int))
   have e2:=i_HolderOf_is k x (x.1+1+(j:Int)) hk hl
   have e3:=qH8 k x (x.1+1+(j:Int)) hk hl'
   rw[host_in hn hp j hj] at e1
   simp only[e1,Option.bind_some,if_true]
   have e2:qDk k ((x.1,(x.2.1,(x.2.2.1,(x.2.2.2.1,())))),(x.1+1+(j:Int),()))=some (holdB x.2.2.1 (x.1+1+(j:Int)),((),((),()))):=e2
   have e3:qBh k ((x.1,(x.2.1,(x.2.2.1,(x.2.2.2.1,())))),(x.1+1+(j:Int),()))=some (qBW x.2.2.2.1 (x.1+1+(j:Int)),((),((),()))):=e3
   simp only[e2,e3,Option.bind_some,w3]
   by_cases c1:holdB x.2.2.1 (x.1+1+(j:Int))=0
   ·by_cases c2:qBW x.2.2.2.1 (x.1+1+(j:Int))=0
    ·simp[c1,c2]
    ·simp[c1,c2]
   ·simp[c1]
  ·have e1:=qJN k x.1 x.2.1 (x.1+1+(hostN x.2.1:Int))
   rw[host_end hn] at e1
   simp only[e1,Option.bind_some,Bool.false_eq_true,if_false]
 ·unfold addrD addrO fixW
  cases (List.range x.2.2.2.1.length).find? (fun j=>decide ((Ty.rd (t:=qAK) x.2.2.2.1 (j:Nat)).1=w)) with
  | some j=>rfl
  | none=>cases freeJ x <;> rfl
theorem s_l11Free_is(k:Nat)(x:qCF)(w:Int)(hk:1048576<k)(hl:x.2.2.1.length≤1048576)(hl':x.2.2.2.1.length≤1048576)(hn:24≤x.2.1∧x.2.1≤30)(hp:prefB x.1 x.2.1=true) :
  qGD k (x,(w,()))=some (addrD x w 0,((),((),()))):=by
 have hN:=hostN_le hn
 have hp4:=prefB_le hp
 unfold qGD
 refine(find_loopM (R:=Int×Unit×Unit×Unit) (fun j=>(w,(x,(((j:Nat):Int),())))) x.2.2.2.1.length (fun j=>decide ((Ty.rd (t:=qAK) x.2.2.2.1 (j:Nat)).1=w)) (fun j=>((Ty.rd (t:=qAK) x.2.2.2.1 (j:Nat)).2,((),((),()))))
  (some (match freeJ x with | some j=>(x.1+1+(j:Int),((),((),()))) | none=>(0,((),((),()))))) (fun ag j hj=>?_) (fun ag=>?_) k (by omega)).trans ?_
 ·have q1:(0:Int)≤(j:Int)∧(j:Int)<(x.2.2.2.1.length:Int):=by omega
  have w3:wi64 ((j:Int)+1)=((j+1:Nat):Int):=(qAF _ (by omega)).trans (by omega)
  simp only[q1,w3,and_self,decide_true,if_true]
 ·have w0:wi64 (x.1+1)=x.1+1+((0:Nat):Int):=(qAF _ (by omega)).trans (by omega)
  simp only[Int.lt_irrefl,decide_false,Bool.false_eq_true,if_false,w0]
  obtain⟨M,m1,m2,m3⟩:=qJR hn
  have es:=qHM k x.2.1 (by omega) (by omega)
  rw[m1] at es
  have w4:wi64 (x.1+(M:Int))=x.1+M:=qAF _ (by omega)
  have w5:wi64 (x.1+(M:Int)-1)=x.1+M-1:=qAF _ (by omega)
  refine(qBm (R:=Int×Unit×Unit×Unit) (fun j=>(x,(x.1+1+((j:Nat):Int),()))) (hostN x.2.1) (fun j=>decide (holdB x.2.2.1 (x.1+1+(j:Int))=0)&&decide (qBW x.2.2.2.1 (x.1+1+(j:Int))=0)) (fun j=>(x.1+1+(j:Int),((),((),())))) (0,((),((),()))) (fun ag j hj=>?_) (fun ag=>?_) k (by omega))
  ·have w3:wi64 (x.1+1+(j:Int)+1)=x.1+1+((j+1:Nat):Int):=(qAF _ (by omega)).trans (by omega)
   have g1:x.1+1+(j:Int)<x.1+M-1:=by omega
   have e2:=s_HolderOf_is k x (x.1+1+(j:Int)) hk hl
   have e3:=qEe k x (x.1+1+(j:Int)) hk hl'
   have e2:qDh k ((x.1,(x.2.1,(x.2.2.1,(x.2.2.2.1,())))),(x.1+1+(j:Int),()))=some (holdB x.2.2.1 (x.1+1+(j:Int)),((),((),()))):=e2
   have e3:qBD k ((x.1,(x.2.1,(x.2.2.1,(x.2.2.2.1,())))),(x.1+1+(j:Int),()))=some (qBW x.2.2.2.1 (x.1+1+(j:Int)),((),((),()))):=e3
   simp only[es,w4,w5,g1,e2,e3,Option.bind_some,w3,decide_true,if_true]
   by_cases c1:holdB x.2.2.1 (x.1+1+(j:Int))=0
   ·by_cases c2:qBW x.2.2.2.1 (x.1+1+(j:Int))=0
    ·simp[c1,c2]
    ·simp[c1,c2]
   ·simp[c1]
  ·have g1:¬x.1+1+(hostN x.2.1:Int)<x.1+M-1:=by omega
   simp only[es,w4,w5,g1,Option.bind_some,decide_false,Bool.false_eq_true,if_false]
 ·unfold addrD addrO fixW
  cases (List.range x.2.2.2.1.length).find? (fun j=>decide ((Ty.rd (t:=qAK) x.2.2.2.1 (j:Nat)).1=w)) with
  | some j=>rfl
  | none=>cases freeJ x <;> rfl
theorem pool_net{x:qCF}(h:qH9 x=true):prefB x.1 x.2.1=true∧(24≤x.2.1∧x.2.1≤30)∧x.2.2.1.length≤6∧x.2.2.2.1.length≤4:=by
 unfold qH9 at h
 simp only[Bool.and_eq_true,decide_eq_true_eq] at h
 exact⟨h.1,h.2.1,h.2.2.1,h.2.2.2.1⟩
theorem pool_lease{x:qCF}(h:qH9 x=true)(i:Nat)(hi:i<x.2.2.1.length):(∀h0:0<i,(x.2.2.1[i-1]'(by omega)).1<x.2.2.1[i].1)∧qFF x.1 x.2.1 x.2.2.1[i].1=true∧(1≤x.2.2.1[i].2.1∧x.2.2.1[i].2.1≤99)∧(qBW x.2.2.2.1 x.2.2.1[i].1=0∨qBW x.2.2.2.1 x.2.2.1[i].1=x.2.2.1[i].2.1):=by
 have hl:=(pool_net h).2.2.1
 unfold qH9 at h
 simp only[Bool.and_eq_true,List.all_eq_true] at h
 have hb:=h.2.2.2.2.2 i (by simpa using hi)
 unfold badL at hb
 rw[qCm (t:=qAE) x.2.2.1 i hi] at hb
 simp only[Bool.not_not,Bool.and_eq_true,Bool.not_eq_true',Bool.and_eq_false_iff,decide_eq_true_eq,decide_eq_false_iff_not,Bool.or_eq_true] at hb
 obtain⟨b1,b2,b3,_,_,b6⟩:=hb
 refine⟨fun h0=>?_,b2,b3,b6⟩
 have w:wi64 ((i:Int)-1)=((i-1:Nat):Int):=(qAF _ (by omega)).trans (by omega)
 rw[w,qCm (t:=qAE) x.2.2.1 (i-1) (by omega)] at b1
 rcases b1 with b1 | b1
 ·omega
 ·exact Int.not_le.1 b1
theorem pool_fix{x:qCF}(h:qH9 x=true)(i:Nat)(hi:i<x.2.2.2.1.length):(1≤x.2.2.2.1[i].1∧x.2.2.2.1[i].1≤99)∧qFF x.1 x.2.1 x.2.2.2.1[i].2=true∧qBW x.2.2.2.1 x.2.2.2.1[i].2=x.2.2.2.1[i].1:=by
 unfold qH9 at h
 simp only[Bool.and_eq_true,List.all_eq_true] at h
 have hb:=h.2.2.2.2.1 i (by simpa using hi)
 unfold badF at hb
 rw[qCm (t:=qAK) x.2.2.2.1 i hi] at hb
 simp only[Bool.not_not,Bool.and_eq_true,decide_eq_true_eq] at hb
 exact⟨hb.1,hb.2.1,hb.2.2.2⟩
theorem asc_of{A:Type}{f:A→Int}:∀{L:List A},(∀i (hi:i<L.length) (h0:0<i),f (L[i-1]'(by omega))<f L[i])→L.Pairwise (fun a b=>f a<f b):=by
 intro L h
 rw[List.pairwise_iff_getElem]
 intro i j hi hj hij
 induction j with
 | zero=>omega
 | succ j ih =>
  have hs:=h (j+1) hj (by omega)
  by_cases e:i=j
  ·subst e
   exact hs
  ·exact Int.lt_trans (ih (by omega) (by omega)) hs
theorem lease_asc{x:qCF}(h:qH9 x=true):x.2.2.1.Pairwise (fun a b=>a.1<b.1):=asc_of (f:=fun a:qBQ=>a.1) fun i hi h0=>(pool_lease h i hi).1 h0
theorem find_none{n:Nat}{p:Nat→Bool}(h:(List.range n).find? p=none)(j:Nat)(hj:j<n):p j=false:=by
 have:=List.find?_eq_none.1 h j (List.mem_range.2 hj)
 simpa using this
theorem qGy{n:Nat}{p:Nat→Bool}{j:Nat}(h:(List.range n).find? p=some j):j<n∧p j=true:=⟨List.mem_range.1 (List.mem_of_find?_eq_some h),List.find?_some h⟩
theorem leaseB_no{q:List qAE.den}{w:Int}(h:qB7 q w<0):∀l∈q,l.2.1≠w:=by
 unfold qB7 at h
 split at h
 ·omega
 ·rename_i hn
  intro l hl
  obtain⟨i,hi,rfl⟩:=List.getElem_of_mem hl
  have:=find_none hn i hi
  rw[qCm (t:=qAE) q i hi] at this
  simpa using this
theorem leaseB_yes{q:List qAE.den}{w:Int}(h:¬qB7 q w<0):∃i:Nat,∃hi:i<q.length,qB7 q w=(i:Int)∧q[i].2.1=w∧(List.range q.length).find? (fun j=>decide ((Ty.rd (t:=qAE) q (j:Nat)).2.1=w))=some i:=by
 unfold qB7 at h ⊢
 split at h
 ·rename_i j hj
  obtain⟨h1,h2⟩:=qGy hj
  rw[qCm (t:=qAE) q j h1] at h2
  exact⟨j,h1,rfl,by simpa using h2,hj⟩
 ·omega
theorem holdB_no{q:List qAE.den}{a:Int}(h1:∀l∈q,1≤l.2.1)(h:holdB q a=0):∀l∈q,l.1≠a:=by
 unfold holdB at h
 split at h
 ·rename_i j hj
  obtain⟨g1,g2⟩:=qGy hj
  rw[qCm (t:=qAE) q j g1] at h
  have h:q[j].2.1=0:=h
  have h1:(1:Int)≤q[j].2.1:=h1 _ (List.getElem_mem g1)
  rw[h] at h1
  exact absurd h1 (by decide)
 ·rename_i hn
  intro l hl
  obtain⟨i,hi,rfl⟩:=List.getElem_of_mem hl
  have:=find_none hn i hi
  rw[qCm (t:=qAE) q i hi] at this
  simpa using this
/-- Where the address of a new lease lies: in the net, and nobody's. -/
theorem addr_free{x:qCF}{w a:Int}(h:qH9 x=true)(hw:qB7 x.2.2.1 w<0)(ha:addrO x w=some a):(∀l∈x.2.2.1,l.1≠a)∧qFF x.1 x.2.1 a=true∧0<a∧(qBW x.2.2.2.1 a=0∨qBW x.2.2.2.1 a=w):=by
 obtain⟨n1,n2,n3,n4⟩:=pool_net h
 unfold addrO at ha
 split at ha
 ·rename_i j hj
  obtain⟨g1,g2⟩:=qGy hj
  rw[qCm (t:=qAK) x.2.2.2.1 j g1] at ha g2
  simp only[decide_eq_true_eq] at g2
  simp only[Option.some.injEq] at ha
  subst ha
  obtain⟨f1,f2,f3⟩:=pool_fix h j g1
  refine⟨fun l hl e=>?_,f2,by have:=host_gt n2 f2;omega,.inr (by rw[f3];exact g2)⟩
  obtain⟨i,hi,rfl⟩:=List.getElem_of_mem hl
  obtain⟨_,_,_,l4⟩:=pool_lease h i hi
  rw[e,f3] at l4
  have:=leaseB_no hw _ (List.getElem_mem hi)
  rcases l4 with l4 | l4
  ·omega
  ·exact this (by rw[←l4];exact g2)
 ·split at ha
  ·rename_i j hj
   obtain⟨g1,g2⟩:=qGy hj
   simp only[Option.some.injEq] at ha
   subst ha
   simp only[Bool.and_eq_true,decide_eq_true_eq] at g2
   have hh:=host_in n2 n1 j g1
   refine⟨holdB_no (fun l hl=>?_) g2.1,hh,by have:=host_gt n2 hh;omega,.inl g2.2⟩
   obtain⟨i,hi,rfl⟩:=List.getElem_of_mem hl
   exact(pool_lease h i hi).2.2.1.1
  ·cases ha
theorem asc_split{A:Type}{f:A→Int}(a:Int):∀{L:List A},L.Pairwise (fun x y=>f x<f y)→(∀l∈L,f l≠a)→L.takeWhile (fun x=>decide (f x<a))=L.filter (fun x=>decide (f x<a))∧L.dropWhile (fun x=>decide (f x<a))=L.filter (fun x=>decide (a<f x))
 | [],_,_=>⟨rfl,rfl⟩
 | x::L,hp,hn=>by
  obtain⟨p1,p2⟩:=List.pairwise_cons.1 hp
  by_cases c:f x<a
  ·obtain⟨h1,h2⟩:=asc_split a p2 fun l hl=>hn l (List.mem_cons_of_mem _ hl)
   have c':¬a<f x:=by omega
   simp only[List.takeWhile_cons,List.dropWhile_cons,List.filter_cons,c,c',decide_true,decide_false,Bool.false_eq_true,if_true,if_false,h1,h2,and_self]
  ·have hx:=hn x (List.mem_cons_self ..)
   have c':a<f x:=by omega
   have e1:L.filter (fun x=>decide (f x<a))=[]:=List.filter_eq_nil_iff.2 fun y hy=>by have:=p1 y hy;simp;omega
   have e2:L.filter (fun x=>decide (a<f x))=L:=List.filter_eq_self.2 fun y hy=>by have:=p1 y hy;simp;omega
   simp only[List.takeWhile_cons,List.dropWhile_cons,List.filter_cons,c,c',decide_true,decide_false,Bool.false_eq_true,if_true,if_false,e1,e2,and_self]
def insL(L:List qBQ)(a w u:Int):List qBQ:=L.filter (fun x=>decide (x.1<a))++[(a,(w,u))]++L.filter (fun x=>decide (a<x.1))
/-- What Grant does to a pool. -/
def qBR(x:qCF)(w now:Int):qCF×Int×Bool:=
 if qH9 x=true∧(1≤w∧w≤99)∧(0≤now∧now≤999999980) then
  (if qB7 x.2.2.1 w<0 then
   (match addrO x w with
   | none=>(x,(0,false))
   | some a=>if 6≤x.2.2.1.length then(x,(0,false)) else((x.1,(x.2.1,(insL x.2.2.1 a w (now+20),(x.2.2.2.1,())))),(a,true)))
  else((x.1,(x.2.1,(x.2.2.1.set (qB7 x.2.2.1 w).toNat ((Ty.rd (t:=qAE) x.2.2.1 (qB7 x.2.2.1 w)).1,((Ty.rd (t:=qAE) x.2.2.1 (qB7 x.2.2.1 w)).2.1,now+20)),(x.2.2.2.1,())))),((Ty.rd (t:=qAE) x.2.2.1 (qB7 x.2.2.1 w)).1,true)))
 else(x,(0,false))
theorem i_Grant_is(k:Nat)(x:qCF)(w now:Int)(hk:1048576<k)(hb:qC4 x):i_Grant k (x,(w,(now,())))=some (((qBR x w now).1,((qBR x w now).2.1,((qBR x w now).2.2,()))),((),((),((),())))):=by
 have hl:x.2.2.1.length≤1048576:=hb.1.1
 have hl':x.2.2.2.1.length≤1048576:=hb.2.1.1
 have e1:=qJP k x hb
 have e2:=i_PoolOk_is k x hk hl hl'
 have e3:=isId_is k w
 have e4:=qCf k now 0 999999980
 have e5:=leaseOf_is k x w hk hl
 unfold i_Grant
 obtain⟨p,n,L,Q,⟨⟩⟩:=x
 dsimp only at e1 e2 e3 e4 e5 hl hl' ⊢
 simp only[e1,e2,e3,e4,Option.bind_some]
 unfold qBR
 cases hp:qH9 (p,(n,(L,(Q,()))))
 ·simp
 obtain⟨n1,n2,n3,n4⟩:=pool_net hp
 dsimp only at n1 n2 n3 n4
 by_cases c1:1≤w∧w≤99
 rotate_left
 ·simp[c1]
 by_cases c2:0≤now∧now≤999999980
 rotate_left
 ·simp[c1,c2]
 have wn:wi64 (now+20)=now+20:=qAF _ (by omega)
 simp only[c1,c2,e5,wn,and_self,decide_true,Bool.not_true,Bool.false_eq_true,if_true,if_false,Option.bind_some]
 by_cases c3:qB7 L w<0
 rotate_left
 ·obtain⟨i,hi,g1,_,_⟩:=leaseB_yes c3
  rw[g1]
  have q1:(0:Int)≤(i:Int):=by omega
  have q2:(i:Int)<(L.length:Int):=by omega
  have q3:¬(i:Int)<0:=by omega
  simp only[q1,q2,q3,and_self,decide_true,if_true,if_false]
 have c3':¬0≤qB7 L w:=by omega
 have e6:=i_addrFor_is k (p,(n,(L,(Q,())))) w hk hl hl' n2 n1
 simp only[c3,c3',e6,decide_false,if_true,Bool.false_eq_true,if_false,Option.bind_some]
 unfold addrD
 cases ha:addrO (p,(n,(L,(Q,())))) w with
 | none =>
  dsimp only
  by_cases c4:(6:Int)≤(L.length:Int)
  ·simp[c4]
  ·simp[c4]
 | some a =>
  obtain⟨f1,f2,f3,_⟩:=addr_free hp c3 ha
  dsimp only at f1
  have c5:¬a<0:=by omega
  by_cases c4:6≤L.length
  ·have c4':(6:Int)≤(L.length:Int):=by omega
   simp[c4,c4']
  ·have c4':¬(6:Int)≤(L.length:Int):=by omega
   simp only[c4,c4',c5,decide_false,Bool.false_eq_true,if_false]
   refine(loop_span (A:=qBQ) L (fun x=>decide (x.1<a)) (fun i=>(w,(now,((0,(0,([],([],())))),((p,(n,(L,(Q,())))),(a,((i:Int),()))))))) (fun i=>(qAQ k (L,((i:Int),([(a,(w,now+20))],())))).bind fun p7=>some (((p,(n,(p7.1,(Q,())))),(a,(true,()))),((),((),((),()))))) (fun again i y hi hy=>?_) (fun again=>?_) k (by omega)).trans ?_
   ·have w3:wi64 ((i:Int)+1)=((i+1:Nat):Int):=(qAF _ (by omega)).trans (by omega)
    have p1:(i:Int)<(L.length:Int):=by omega
    have p2:(0:Int)≤(i:Int):=by omega
    simp only[Ty.rd,Int.toNat_natCast,qAk hy,p1,p2,w3,wn,decide_true,and_self,if_true]
   ·simp only[Int.lt_irrefl,decide_false,Bool.false_eq_true,if_false,wn]
   ·obtain⟨s1,s2⟩:=asc_split (f:=fun x:qBQ=>x.1) a (lease_asc hp) f1
    have e:=List.takeWhile_append_dropWhile (p:=fun x:qBQ=>decide (x.1<a)) (l:=L)
    have hT:(L.takeWhile (fun x:qBQ=>decide (x.1<a))).length≤L.length:=by
     have:=congrArg List.length e
     rw[List.length_append] at this
     omega
    have t1:L.take (L.takeWhile (fun x:qBQ=>decide (x.1<a))).length=L.takeWhile (fun x:qBQ=>decide (x.1<a)):=by
     conv=>lhs;arg 2;rw[←e]
     rw[List.take_left]
    have t2:L.drop (L.takeWhile (fun x:qBQ=>decide (x.1<a))).length=L.dropWhile (fun x:qBQ=>decide (x.1<a)):=by
     conv=>lhs;arg 2;rw[←e]
     rw[List.drop_left]
    have hins:qAQ k (L,((((L.takeWhile (fun x:qBQ=>decide (x.1<a))).length:Nat):Int),([(a,(w,now+20))],())))=some (insL L a w (now+20),((),((),((),())))):=by
     unfold qAQ insF insL
     rw[if_pos (by simp only[List.length_cons,List.length_nil];omega)]
     dsimp only at s1 s2
     dsimp only
     rw[Int.toNat_natCast,t1,t2,s1,s2]
    simp only[hins,Option.bind_some]
theorem s_Grant_is(k:Nat)(x:qCF)(w now:Int)(hk:1048576<k)(hb:qC4 x):s_Grant k (x,(w,(now,())))=some (((qBR x w now).1,((qBR x w now).2.1,((qBR x w now).2.2,()))),((),((),((),())))):=by
 have hcap:capMax=274877906944:=rfl
 have hl:x.2.2.1.length≤1048576:=hb.1.1
 have hl':x.2.2.2.1.length≤1048576:=hb.2.1.1
 have e1:=s_l11Copy_is k x hb
 have e2:=s_PoolOk_is k x hk hl hl'
 unfold s_Grant
 obtain⟨p,n,L,Q,⟨⟩⟩:=x
 dsimp only at e1 e2 hl hl' ⊢
 simp only[e1,e2,qCe,Option.bind_some]
 unfold qBR
 cases hp:qH9 (p,(n,(L,(Q,()))))
 ·simp
 obtain⟨n1,n2,n3,n4⟩:=pool_net hp
 dsimp only at n1 n2 n3 n4
 by_cases c1:1≤w∧w≤99
 rotate_left
 ·simp[c1]
 by_cases c2:0≤now∧now≤999999980
 rotate_left
 ·simp[c1,c2]
 have wn:wi64 (now+20)=now+20:=qAF _ (by omega)
 simp only[c1,c2,wn,and_self,decide_true,Bool.not_true,Bool.false_eq_true,if_true,if_false,Option.bind_some]
 refine(find_loopM (R:=(qCF×Int×Bool×Unit)×Unit×Unit×Unit×Unit) (fun j=>(w,(now,((p,(n,(L,(Q,())))),(((0:Int),((0:Int),(([]:List qBQ),(([]:List (Int×Int)),())))),((p,(n,(L,(Q,())))),(((j:Nat):Int),()))))))) L.length (fun j=>decide ((Ty.rd (t:=qAE) L (j:Nat)).2.1=w))
  (fun j=>(((p,(n,(L.set j ((Ty.rd (t:=qAE) L (j:Int)).1,((Ty.rd (t:=qAE) L (j:Int)).2.1,now+20)),(Q,())))),((Ty.rd (t:=qAE) L (j:Int)).1,(true,()))),((),((),((),())))))
  (some (match addrO (p,(n,(L,(Q,())))) w with
   | none=>(((p,(n,(L,(Q,())))),((0:Int),(false,()))),((),((),((),()))))
   | some a=>if 6≤L.length then(((p,(n,(L,(Q,())))),((0:Int),(false,()))),((),((),((),())))) else if qB7 L w<0 then(((p,(n,(insL L a w (now+20),(Q,())))),(a,(true,()))),((),((),((),())))) else(((p,(n,(L.filter (fun x=>decide (x.1<a))++[(a,(w,now+20))]++L.filter (fun x=>decide (a<x.1)),(Q,())))),(a,(true,()))),((),((),((),())))))) (fun ag j hj=>?_) (fun ag=>?_) k (by omega)).trans ?_
 ·have q1:(0:Int)≤(j:Int)∧(j:Int)<(L.length:Int):=by omega
  have w3:wi64 ((j:Int)+1)=((j+1:Nat):Int):=(qAF _ (by omega)).trans (by omega)
  have hset:∀v:qBQ,Ty.rd (t:=qAE) (L.set j v) (j:Int)=v:=fun v=>by
   rw[qCm (t:=qAE) (L.set j v) j (by rw[List.length_set];exact hj)]
   exact List.getElem_set_self ..
  simp only[q1,w3,wn,List.length_set,Int.toNat_natCast,hset,and_self,decide_true,if_true]
 ·have e6:=s_l11Free_is k (p,(n,(L,(Q,())))) w hk hl hl' n2 n1
  simp only[Int.lt_irrefl,decide_false,Bool.false_eq_true,if_false,e6,Option.bind_some]
  unfold addrD
  cases ha:addrO (p,(n,(L,(Q,())))) w with
  | none =>
   dsimp only
   by_cases c4:(L.length:Int)=6
   ·simp[c4]
   ·simp[c4]
  | some a =>
   have hpos:a≠0:=by
    unfold addrO at ha
    split at ha
    ·rename_i j hj
     obtain⟨g1,g2⟩:=qGy hj
     rw[qCm (t:=qAK) Q j g1] at ha
     simp only[Option.some.injEq] at ha
     have hh:=host_gt n2 (pool_fix hp j g1).2.1
     intro e
     rw[←ha] at e
     have h1:p<(Q[j]'g1).2:=hh.1
     have h2:(Q[j]'g1).2=0:=e
     rw[h2] at h1
     exact absurd hh.2 (Int.not_le.2 h1)
    ·split at ha
     ·rename_i j hj
      simp only[Option.some.injEq] at ha
      have:=prefB_le n1
      omega
     ·cases ha
   dsimp only
   by_cases c4:6≤L.length
   ·have c4':(L.length:Int)=6:=by omega
    simp[c4,c4']
   ·have c4':¬(L.length:Int)=6:=by omega
    have hins:∀C:Prop,∀_:Decidable C,(if C then(((p,(n,(insL L a w (now+20),(Q,())))),(a,(true,()))),((),((),((),())))) else(((p,(n,(L.filter (fun x=>decide (x.1<a))++[(a,(w,now+20))]++L.filter (fun x=>decide (a<x.1)),(Q,())))),(a,(true,()))),((),((),((),())))):(qCF×Int×Bool×Unit)×Unit×Unit×Unit×Unit)=(((p,(n,(insL L a w (now+20),(Q,())))),(a,(true,()))),((),((),((),())))):=fun C _=>by
     split <;> rfl
    simp only[c4,c4',hpos,decide_false,Bool.false_eq_true,if_false,hins]
    refine(qGx (A:=qBQ) L (fun i (out:List qBQ)=>(w,(now,((p,(n,(L,(Q,())))),(((0:Int),((0:Int),(([]:List qBQ),(([]:List (Int×Int)),())))),((p,(n,(L,(Q,())))),(a,(out,(((i:Nat):Int),()))))))))) (fun y out=>.inr (if decide (y.1<a)=true then out++[y] else out))
     (fun out=>foldL (fun(y:qBQ) out=>.inr (if decide (a<y.1)=true then out++[y] else out)) (fun out=>some (((p,(n,(out,(Q,())))),(a,(true,()))),((),((),((),()))))) L (out++[(a,(w,now+20))])) (fun i out=>out.length≤i)
     (fun ag i hi out hout=>?_) (fun i hi out out' hout e=>?_) (fun ag out hout=>?_) k (by omega) [] (by simp)).trans ?_
    ·have q1:(0:Int)≤(i:Int)∧(i:Int)<(L.length:Int):=by omega
     have w3:wi64 ((i:Int)+1)=((i+1:Nat):Int):=(qAF _ (by omega)).trans (by omega)
     have hcp:out.length+([L[i]]:List qBQ).length≤capMax:=by rw[List.length_singleton];omega
     have hrd:=qCm (t:=qAE) L i hi
     by_cases d:L[i].1<a
     ·simp only[q1,w3,hrd,d,and_self,decide_true,if_true]
      rw[if_pos hcp]
     ·simp only[q1,w3,hrd,d,and_self,decide_true,decide_false,Bool.false_eq_true,if_true,if_false]
    ·simp only[Sum.inr.injEq] at e
     subst e
     split
     ·simp;omega
     ·omega
    ·have hcp:out.length+([(a,(w,now+20))]:List qBQ).length≤capMax:=by rw[List.length_singleton];omega
     simp only[Int.lt_irrefl,decide_false,Bool.false_eq_true,if_false,wn]
     rw[if_pos hcp]
     refine qGx (A:=qBQ) L (fun i (out:List qBQ)=>((p,(n,(L,(Q,())))),(((0:Int),((0:Int),(([]:List qBQ),(([]:List (Int×Int)),())))),((p,(n,(L,(Q,())))),(a,(out,(((i:Nat):Int),()))))))) (fun y out=>.inr (if decide (a<y.1)=true then out++[y] else out))
      (fun out=>some (((p,(n,(out,(Q,())))),(a,(true,()))),((),((),((),()))))) (fun i out=>out.length≤L.length+1+i)
      (fun ag i hi out hout=>?_) (fun i hi out out' hout e=>?_) (fun ag out hout=>?_) k (by omega) (out++[(a,(w,now+20))]) (by rw[List.length_append,List.length_singleton];omega)
     ·have q1:(0:Int)≤(i:Int)∧(i:Int)<(L.length:Int):=by omega
      have w3:wi64 ((i:Int)+1)=((i+1:Nat):Int):=(qAF _ (by omega)).trans (by omega)
      have hcp:out.length+([L[i]]:List qBQ).length≤capMax:=by rw[List.length_singleton];omega
      have hrd:=qCm (t:=qAE) L i hi
      by_cases d:a<L[i].1
      ·simp only[q1,w3,hrd,d,and_self,decide_true,if_true]
       rw[if_pos hcp]
      ·simp only[q1,w3,hrd,d,and_self,decide_true,decide_false,Bool.false_eq_true,if_true,if_false]
     ·simp only[Sum.inr.injEq] at e
      subst e
      split
      ·simp;omega
      ·omega
     ·simp only[Int.lt_irrefl,decide_false,Bool.false_eq_true,if_false]
    ·rw[qHP (fun y:qBQ=>decide (y.1<a)),qHP (fun y:qBQ=>decide (a<y.1)),List.nil_append]
     rfl
 ·by_cases c3:qB7 L w<0
  ·have hnone:(List.range L.length).find? (fun j=>decide ((Ty.rd (t:=qAE) L (j:Nat)).2.1=w))=none:=by
    unfold qB7 at c3
    split at c3
    ·omega
    ·rename_i hn
     exact hn
   simp only[hnone,c3,if_true]
   cases addrO (p,(n,(L,(Q,())))) w with
   | none=>rfl
   | some a =>
    dsimp only
    split <;> rfl
  ·obtain⟨i,hi,g1,_,g3⟩:=leaseB_yes c3
   have q3:¬(i:Int)<0:=by omega
   simp only[g3,g1,q3,if_false,Int.toNat_natCast]
abbrev THeldO:Ty:=.pair (.int .i64) (.pair (.int .i64) (.pair (.int .i64) (.pair (.ols 9 .str) (.pair (.ols 4 .bool) (.int .i64)))))
abbrev qAs:Ty:=.pair (.int .i64) (.pair (.int .i64) (.pair (.pair (.pair (.int .i64) (.pair .str (.pair .str (.pair (.int .i64) (.pair (.ols 3 (.int .i64)) (.int .i64)))))) (.pair (.int .i64) (.pair .str (.pair .str (.pair (.int .i64) (.pair (.ols 3 (.int .i64)) (.int .i64))))))) (.pair (.ols 229 THeldO) (.int .i64))))
abbrev TUserN:Ty:=.pair (.int .i64) (.pair (.int .i64) (.pair (.pair (.pair (.int .i64) (.pair .str (.pair .str (.pair (.int .i64) (.pair .nm (.int .i64)))))) (.pair (.int .i64) (.pair .str (.pair .str (.pair (.int .i64) (.pair .nm (.int .i64))))))) (.pair .nm (.int .i64))))
abbrev PUserO:Pat:=.agg (.cons (.int .i64) (.cons (.int .i64) (.cons (.int .i64) (.cons .str (.cons .str (.cons (.int .i64) (.cons (.own false 3 (.int .i64)) (.cons (.int .i64) (.cons (.int .i64) (.cons .str (.cons .str (.cons (.int .i64) (.cons (.own false 3 (.int .i64)) (.cons (.int .i64) (.cons (.own false 229 THeldO) (.cons (.int .i64) .nil))))))))))))))))
abbrev qEf:=Int×Int×((Int×ByteArray×ByteArray×Int×Nat×Int)×Int×ByteArray×ByteArray×Int×Nat×Int)×Nat×Int
abbrev FlatN:=Int×Int×Int×ByteArray×ByteArray×Int×Nat×Int×Int×ByteArray×ByteArray×Int×Nat×Int×Nat×Int×Unit
abbrev qCH:=Int×Int×((Int×ByteArray×ByteArray×Int×List Int×Int)×Int×ByteArray×ByteArray×Int×List Int×Int)×List (Int×Int×Int×List ByteArray×List Bool×Int)×Int
abbrev qJS:=Int×Int×Int×ByteArray×ByteArray×Int×List Int×Int×Int×ByteArray×ByteArray×Int×List Int×Int×List (Int×Int×Int×List ByteArray×List Bool×Int)×Int×Unit
def rowN(f:FlatN):qEf:=(f.1,(f.2.1,(((f.2.2.1,(f.2.2.2.1,(f.2.2.2.2.1,(f.2.2.2.2.2.1,(f.2.2.2.2.2.2.1,f.2.2.2.2.2.2.2.1))))),(f.2.2.2.2.2.2.2.2.1,(f.2.2.2.2.2.2.2.2.2.1,(f.2.2.2.2.2.2.2.2.2.2.1,(f.2.2.2.2.2.2.2.2.2.2.2.1,(f.2.2.2.2.2.2.2.2.2.2.2.2.1,f.2.2.2.2.2.2.2.2.2.2.2.2.2.1)))))),(f.2.2.2.2.2.2.2.2.2.2.2.2.2.2.1,f.2.2.2.2.2.2.2.2.2.2.2.2.2.2.2.1))))
def rowR(f:qJS):qCH:=(f.1,(f.2.1,(((f.2.2.1,(f.2.2.2.1,(f.2.2.2.2.1,(f.2.2.2.2.2.1,(f.2.2.2.2.2.2.1,f.2.2.2.2.2.2.2.1))))),(f.2.2.2.2.2.2.2.2.1,(f.2.2.2.2.2.2.2.2.2.1,(f.2.2.2.2.2.2.2.2.2.2.1,(f.2.2.2.2.2.2.2.2.2.2.2.1,(f.2.2.2.2.2.2.2.2.2.2.2.2.1,f.2.2.2.2.2.2.2.2.2.2.2.2.2.1)))))),(f.2.2.2.2.2.2.2.2.2.2.2.2.2.2.1,f.2.2.2.2.2.2.2.2.2.2.2.2.2.2.2.1))))
theorem foldL_part{A R:Type}(p:A→Bool)(fin:List A×List A→Option R):∀(L a b:List A),foldL (fun x s=>.inr (if p x=true then(s.1++[x],s.2) else(s.1,s.2++[x]))) fin L (a,b)=fin (a++L.filter p,b++L.filter (fun x=>!p x))
 | [],a,b=>by simp[foldL]
 | x::L,a,b=>by
  unfold foldL
  cases hp:p x with
  | true =>
   simp only[if_true]
   rw[foldL_part p fin L]
   simp[hp]
  | false =>
   simp only[Bool.false_eq_true,if_false]
   rw[foldL_part p fin L]
   simp[hp]
theorem Concat_is(k:Nat)(A B C:List qEf)(hk:1048576<k)(hl:A.length+B.length+C.length≤3000000):qAa k ([A,B,C],())=some (A++B++C,((),())):=by
 have hcap:capMax=274877906944:=rfl
 have l0:(([A,B,C]:List (List qEf)).length:Int)=3:=rfl
 have r0:Ty.rd (t:=.list TUserN) [A,B,C] 0=A:=rfl
 have r1:Ty.rd (t:=.list TUserN) [A,B,C] 1=B:=rfl
 have r2:Ty.rd (t:=.list TUserN) [A,B,C] 2=C:=rfl
 have u0:wi64 ((0:Int)+1)=1:=by decide
 have u1:wi64 ((1:Int)+1)=2:=by decide
 have u2:wi64 ((2:Int)+1)=3:=by decide
 have s0:wi64 ((0:Int)+(A.length:Int))=(A.length:Int):=(qAF _ (by omega)).trans (by omega)
 have s1:wi64 ((A.length:Int)+(B.length:Int))=((A.length+B.length:Nat):Int):=(qAF _ (by omega)).trans (by omega)
 have s2:wi64 (((A.length+B.length:Nat):Int)+(C.length:Int))=((A.length+B.length+C.length:Nat):Int):=(qAF _ (by omega)).trans (by omega)
 have n0:¬((A.length:Nat):Int)<0:=by omega
 have n1:¬((A.length+B.length:Nat):Int)<0:=by omega
 have n2:¬((A.length+B.length+C.length:Nat):Int)<0:=by omega
 have d0:(0:Int)<3:=by decide
 have d1:(1:Int)<3:=by decide
 have d2:(2:Int)<3:=by decide
 have d3:¬(3:Int)<3:=by decide
 have e0:(0:Int)≤0:=by decide
 have e1:(0:Int)≤1:=by decide
 have e2:(0:Int)≤2:=by decide
 have g:qAf k ((),(((A.length+B.length+C.length:Nat):Int),()))=some (([]:List qEf),((),((),()))):=by
  unfold qAf growF
  rw[if_pos (by dsimp only;rw[Int.toNat_natCast];omega)]
 have c0:([]:List qEf).length+A.length≤capMax:=by rw[List.length_nil];omega
 have c1:(([]:List qEf)++A).length+B.length≤capMax:=by rw[List.nil_append];omega
 have c2:(([]:List qEf)++A++B).length+C.length≤capMax:=by rw[List.nil_append,List.length_append];omega
 unfold qAa
 simp only[l0]
 rw[qCT (by omega)]
 simp only[l0,d0,e0,and_self,decide_true,if_true,r0,s0,n0,decide_false,Bool.false_eq_true,if_false,u0]
 rw[qCT (by omega)]
 simp only[l0,d1,e1,and_self,decide_true,if_true,r1,s1,n1,decide_false,Bool.false_eq_true,if_false,u1]
 rw[qCT (by omega)]
 simp only[l0,d2,e2,and_self,decide_true,if_true,r2,s2,n2,decide_false,Bool.false_eq_true,if_false,u2]
 rw[qCT (by omega)]
 simp only[l0,d3,decide_false,Bool.false_eq_true,if_false,g,Option.bind_some]
 rw[qCT (by omega)]
 simp only[l0,d0,e0,and_self,decide_true,if_true,r0,c0,u0]
 rw[qCT (by omega)]
 simp only[l0,d1,e1,and_self,decide_true,if_true,r1,c1,u1]
 rw[qCT (by omega)]
 simp only[l0,d2,e2,and_self,decide_true,if_true,r2,c2,u2]
 rw[qCT (by omega)]
 simp only[d3,decide_false,Bool.false_eq_true,if_false,List.nil_append]
theorem withUser_n_is(k:Nat)(E:List qEf)(f:FlatN)(hk:1048576<k)(hl:E.length≤1048576) :
  qB0 k (E,(f,()))=some (E.filter (fun x=>decide (x.1<f.1))++[rowN f]++E.filter (fun x=>!decide (x.1<f.1)),((),((),()))):=by
 have hcap:capMax=274877906944:=rfl
 unfold qB0
 refine(qGx (A:=qEf) E (fun i (s:List qEf×List qEf)=>(f,(s.1,(s.2,(E,((E.length:Int),(((i:Nat):Int),()))))))) (fun x s=>.inr (if decide (x.1<f.1)=true then(s.1++[x],s.2) else(s.1,s.2++[x])))
  (fun s=>some (s.1++[rowN f]++s.2,((),((),())))) (fun i s=>s.1.length+s.2.length≤i) (fun ag i hi s hs=>?_) (fun i hi s s' hs e=>?_) (fun ag s hs=>?_) k (by omega) ([],[]) (by simp)).trans ?_
 ·have q1:(0:Int)≤(i:Int)∧(i:Int)<(E.length:Int):=by omega
  have w3:wi64 ((i:Int)+1)=((i+1:Nat):Int):=(qAF _ (by omega)).trans (by omega)
  have hrd:=qCm (t:=TUserN) E i hi
  have hc1:∀r:qEf,s.1.length+([r]:List qEf).length≤capMax:=fun r=>by rw[List.length_singleton];omega
  have hc2:∀r:qEf,s.2.length+([r]:List qEf).length≤capMax:=fun r=>by rw[List.length_singleton];omega
  by_cases d:E[i].1<f.1
  ·simp only[q1,w3,hrd,d,and_self,decide_true,if_true]
   rw[if_pos (hc1 _)]
  ·simp only[q1,w3,hrd,d,and_self,decide_true,decide_false,Bool.false_eq_true,if_true,if_false]
   rw[if_pos (hc2 _)]
 ·simp only[Sum.inr.injEq] at e
  subst e
  split
  ·simp;omega
  ·simp;omega
 ·have hcc:=Concat_is k s.1 [rowN f] s.2 hk (by simp;omega)
  unfold rowN at hcc
  simp only[Int.lt_irrefl,decide_false,Bool.false_eq_true,if_false,hcc,Option.bind_some]
  rfl
 ·rw[foldL_part (fun x:qEf=>decide (x.1<f.1))]
  rfl
theorem flatMap_perm{A B:Type}{f:A→List B}{l l':List A}(h:l.Perm l'):(l.flatMap f).Perm (l'.flatMap f):=h.flatMap_right f
def encU(L:List qCH):List qEf:=qAs.encn L 0
def encUP(L:List qCH):List (qEf×qCH):=encnP qAs L 0
theorem encU_fst(L:List qCH):(encUP L).map Prod.fst=encU L:=encnP_fst qAs L 0
theorem encU_snd(L:List qCH):(encUP L).map Prod.snd=L:=encnP_snd qAs L 0
theorem encU_len(L:List qCH):(encU L).length=L.length:=encn_len qAs L 0
theorem encnP_pair{t:Ty}{xs:List t.den}{n:Nat}{y:t.nmd.den×t.den}(h:y∈encnP t xs n):∃m,y.1=t.enc y.2 m:=by
 obtain⟨i,hi⟩:=List.getElem?_of_mem h
 unfold encnP at hi
 rw[List.getElem?_mapIdx] at hi
 cases hx:xs[i]? with
 | none=>rw[hx] at hi;cases hi
 | some x =>
  rw[hx] at hi
  injection hi with hi
  subst hi
  exact⟨_,rfl⟩
theorem encUP_id(L:List qCH)(y:qEf×qCH)(h:y∈encUP L):y.1.1=y.2.1:=by
 obtain⟨m,e⟩:=encnP_pair (t:=qAs) (xs:=L) (n:=0) (y:=y) h
 exact congrArg (fun z:qEf=>z.1) e
theorem encU_filter(L:List qCH)(p:Int→Bool):(encU L).filter (fun y=>p y.1)=((encUP L).filter (fun y=>p y.2.1)).map Prod.fst∧((encUP L).filter (fun y=>p y.2.1)).map Prod.snd=L.filter (fun y=>p y.1):=by
 constructor
 ·rw[←encU_fst,List.filter_map]
  congr 1
  exact List.filter_congr fun y hy=>congrArg p (encUP_id L y hy)
 ·conv=>rhs;rw[←encU_snd L]
  rw[List.filter_map]
  rfl
theorem qBb{lk:Nat→Option OL}{a b:Ty}{x:(Ty.pair a b).nmd.den}{y:a.den}{z:b.den}(h1:a.dec lk x.1=some y)(h2:b.dec lk x.2=some z):(Ty.pair a b).dec lk x=some (y,z):=by
 show(match a.dec lk x.1,b.dec lk x.2 with
  | some y,some z=>some (y,z)
  | _,_=>none)=_
 rw[h1,h2]
theorem decN_at{lk:Nat→Option OL}{e m:Nat}{u:Ty}{ys:List u.den}(h:lk (m+1)=some ⟨e,u,ys⟩):decN lk e u (m+1)=some ys:=by
 show(match lk (m+1) with
  | some o=>if h:o.e=e∧o.u=u then some (h.2 ▸ o.ys) else none
  | none=>none)=some ys
 rw[h]
 simp
def flatN(N:Nat)(u:qJS):FlatN:=(u.1,(u.2.1,(u.2.2.1,(u.2.2.2.1,(u.2.2.2.2.1,(u.2.2.2.2.2.1,(N+1,(u.2.2.2.2.2.2.2.1,(u.2.2.2.2.2.2.2.2.1,(u.2.2.2.2.2.2.2.2.2.1,(u.2.2.2.2.2.2.2.2.2.2.1,(u.2.2.2.2.2.2.2.2.2.2.2.1,(N+1+1,(u.2.2.2.2.2.2.2.2.2.2.2.2.2.1,(N+1+1+1,(u.2.2.2.2.2.2.2.2.2.2.2.2.2.2.2.1,()))))))))))))))))
theorem penc_is(L:List qCH)(u:qJS):Pat.enc (.cons (.own false 45 qAs) (.cons PUserO .nil)) (L,(u,())) 0=(encU L,(flatN (0+L.length*qAs.w) u,())):=rfl
theorem dec_user{lk:Nat→Option OL}{N:Nat}{u:qJS}(h0:lk (N+0+1)=some ⟨3,.int .i64,u.2.2.2.2.2.2.1⟩)(h1:lk (N+1+1)=some ⟨3,.int .i64,u.2.2.2.2.2.2.2.2.2.2.2.2.1⟩)(h2:lk (N+2+1)=some ⟨229,THeldO,u.2.2.2.2.2.2.2.2.2.2.2.2.2.2.1⟩) :
  qAs.dec lk (rowN (flatN N u))=some (rowR u):=
 qBb rfl (qBb rfl (qBb (qBb (qBb rfl (qBb rfl (qBb rfl (qBb rfl (qBb (decN_at (m:=N) h0) rfl))))) (qBb rfl (qBb rfl (qBb rfl (qBb rfl (qBb (decN_at (m:=N+1) h1) rfl)))))) (qBb (decN_at (m:=N+1+1) h2) rfl)))
theorem lookS_list(L:List qAs.den)(u:qJS)(m:Nat)(o:OL)(h:qAs.lookn L m=some o):lookS (Pat.lookP (.cons (.own false 45 qAs) (.cons PUserO .nil)) (L,(u,()))) (0+m+1)=some o:=by
 have hlt:=lookn_lt h
 rw[Nat.zero_add]
 show(if m<L.length*qAs.w then qAs.lookn L m else _)=some o
 rw[if_pos hlt]
 exact h
theorem lookS_user(L:List qAs.den)(u:qJS)(j:Nat)(o:OL)(hj:j<3)(h:PUserO.lookP u j=some o):lookS (Pat.lookP (.cons (.own false 45 qAs) (.cons PUserO .nil)) (L,(u,()))) (L.length*qAs.w+j+1)=some o:=by
 show(if L.length*qAs.w+j<L.length*qAs.w then qAs.lookn L (L.length*qAs.w+j) else(if L.length*qAs.w+j-L.length*qAs.w<3 then PUserO.lookP u (L.length*qAs.w+j-L.length*qAs.w) else _))=some o
 rw[if_neg (by omega),show L.length*qAs.w+j-L.length*qAs.w=j by omega,if_pos hj]
 exact h
theorem i_withUser_is(k:Nat)(L:List qCH)(u:qJS)(hk:1048576<k)(hl:L.length≤1048576) :
  qHF k (L,(u,()))=some (L.filter (fun x=>decide (x.1<u.1))++[rowR u]++L.filter (fun x=>!decide (x.1<u.1)),((),((),()))):=by
 have hlk:∀m o,qAs.lookn L m=some o→lookS (Pat.lookP (.cons (.own false 45 qAs) (.cons PUserO .nil)) (L,(u,()))) (0+m+1)=some o:=fun m o h=>lookS_list L u m o h
 have h0:=lookS_user L u 0 ⟨3,.int .i64,u.2.2.2.2.2.2.1⟩ (by decide) rfl
 have h1:=lookS_user L u 1 ⟨3,.int .i64,u.2.2.2.2.2.2.2.2.2.2.2.2.1⟩ (by decide) rfl
 have h2:=lookS_user L u 2 ⟨229,THeldO,u.2.2.2.2.2.2.2.2.2.2.2.2.2.2.1⟩ (by decide) rfl
 have hrow:=dec_user h0 h1 h2
 have hpe:=penc_is L u
 rw[Nat.zero_add] at hpe
 obtain⟨N,hN⟩:∃N,N=L.length*qAs.w:=⟨_,rfl⟩
 rw[←hN] at hrow hpe
 have hG:=withUser_n_is k (encU L) (flatN N u) hk (by rw[encU_len];exact hl)
 have hf1:=encU_filter L (fun z=>decide (z<u.1))
 have hf2:=encU_filter L (fun z=>!decide (z<u.1))
 have hY1:((encUP L).filter (fun y=>decide (y.2.1<u.1))++[(rowN (flatN N u),rowR u)]++(encUP L).filter (fun y=>!decide (y.2.1<u.1))).map Prod.fst=(encU L).filter (fun x=>decide (x.1<u.1))++[rowN (flatN N u)]++(encU L).filter (fun x=>!decide (x.1<u.1)):=by
  rw[List.map_append,List.map_append,←hf1.1,←hf2.1]
  rfl
 have hY2:((encUP L).filter (fun y=>decide (y.2.1<u.1))++[(rowN (flatN N u),rowR u)]++(encUP L).filter (fun y=>!decide (y.2.1<u.1))).map Prod.snd=L.filter (fun x=>decide (x.1<u.1))++[rowR u]++L.filter (fun x=>!decide (x.1<u.1)):=by
  rw[List.map_append,List.map_append,hf1.2,hf2.2]
  rfl
 have hd:=decs_map (t:=qAs) (lk:=lookS (Pat.lookP (.cons (.own false 45 qAs) (.cons PUserO .nil)) (L,(u,())))) (Y:=(encUP L).filter (fun y=>decide (y.2.1<u.1))++[(rowN (flatN N u),rowR u)]++(encUP L).filter (fun y=>!decide (y.2.1<u.1))) (fun y hy=>by
  rcases List.mem_append.1 hy with hy | hy
  ·rcases List.mem_append.1 hy with hy | hy
   ·exact encnP_dec hlk (List.mem_filter.1 hy).1
   ·have hy:y=(rowN (flatN N u),rowR u):=List.mem_singleton.1 hy
    subst hy
    exact hrow
  ·exact encnP_dec hlk (List.mem_filter.1 hy).1)
 have hperm:((encU L).filter (fun x=>decide (x.1<u.1))++[rowN (flatN N u)]++(encU L).filter (fun x=>!decide (x.1<u.1))).Perm (rowN (flatN N u)::encU L):=by
  refine(List.perm_append_comm.append_right _).trans ?_
  rw[List.append_assoc]
  exact(List.filter_append_perm (fun x:qEf=>decide (x.1<u.1)) (encU L)).cons _
 have hnd:(List.flatMap qAs.nms ((encU L).filter (fun x=>decide (x.1<u.1))++[rowN (flatN N u)]++(encU L).filter (fun x=>!decide (x.1<u.1)))).Nodup:=by
  have hp2:=flatMap_perm (f:=qAs.nms) hperm
  refine hp2.nodup_iff.2 ?_
  obtain⟨n1,n2⟩:=encn_nms qAs L 0
  show(qAs.nms (rowN (flatN N u))++(qAs.encn L 0).flatMap qAs.nms).Nodup
  have hu:qAs.nms (rowN (flatN N u))=[N+1,N+1+1,N+1+1+1]:=rfl
  rw[hu]
  refine List.nodup_append.2 ⟨?_,n1.imp fun h=>Nat.ne_of_lt h,fun a ha b hb=>?_⟩
  ·simp
  ·have:=n2 b hb
   rw[←hN] at this
   simp only[List.mem_cons,List.not_mem_nil,or_false] at ha
   omega
 unfold qHF
 exact namesF_some (p:=.cons (.own false 45 qAs) (.cons PUserO .nil)) (q:=.own false 45 qAs) (G:=qB0 k) (x:=(L,(u,()))) ((congrArg (qB0 k) hpe).trans hG) ((congrArg (qAs.decs _) hY1).symm.trans (hd.trans (congrArg some hY2))) rfl (by
  show(List.flatMap qAs.nms _++[]).Nodup
  rw[List.append_nil]
  exact hnd)
theorem s_l22Put_is(k:Nat)(L:List qCH)(u:qJS)(hk:1048576<k)(hl:L.length≤1048576) :
  qIX k (L,(u,()))=some (L.filter (fun x=>decide (x.1<u.1))++[rowR u]++L.filter (fun x=>decide (u.1<x.1)),((),((),()))):=by
 have hcap:capMax=274877906944:=rfl
 unfold qIX
 refine(qGx (A:=qCH) L (fun i (out:List qCH)=>(L,(u,(out,(((i:Nat):Int),()))))) (fun y out=>.inr (if decide (y.1<u.1)=true then out++[y] else out))
  (fun out=>foldL (fun(y:qCH) out=>.inr (if decide (u.1<y.1)=true then out++[y] else out)) (fun out=>some (out,((),((),())))) L (out++[rowR u])) (fun i out=>out.length≤i)
  (fun ag i hi out hout=>?_) (fun i hi out out' hout e=>?_) (fun ag out hout=>?_) k (by omega) [] (by simp)).trans ?_
 ·have q1:(0:Int)≤(i:Int)∧(i:Int)<(L.length:Int):=by omega
  have w3:wi64 ((i:Int)+1)=((i+1:Nat):Int):=(qAF _ (by omega)).trans (by omega)
  have hcp:∀r:qCH,out.length+([r]:List qCH).length≤capMax:=fun r=>by rw[List.length_singleton];omega
  have hrd:=qCm (t:=qAh) L i hi
  by_cases d:L[i].1<u.1
  ·simp only[q1,w3,hrd,d,and_self,decide_true,if_true]
   rw[if_pos (hcp _)]
  ·simp only[q1,w3,hrd,d,and_self,decide_true,decide_false,Bool.false_eq_true,if_true,if_false]
 ·simp only[Sum.inr.injEq] at e
  subst e
  split
  ·simp;omega
  ·omega
 ·have hcp:∀r:qCH,out.length+([r]:List qCH).length≤capMax:=fun r=>by rw[List.length_singleton];omega
  simp only[Int.lt_irrefl,decide_false,Bool.false_eq_true,if_false]
  rw[if_pos (hcp _)]
  refine qGx (A:=qCH) L (fun i (out:List qCH)=>(L,(u,(out,(((i:Nat):Int),()))))) (fun y out=>.inr (if decide (u.1<y.1)=true then out++[y] else out))
   (fun out=>some (out,((),((),())))) (fun i out=>out.length≤L.length+1+i)
   (fun ag i hi out hout=>?_) (fun i hi out out' hout e=>?_) (fun ag out hout=>?_) k (by omega) (out++[rowR u]) (by rw[List.length_append,List.length_singleton];omega)
  ·have q1:(0:Int)≤(i:Int)∧(i:Int)<(L.length:Int):=by omega
   have w3:wi64 ((i:Int)+1)=((i+1:Nat):Int):=(qAF _ (by omega)).trans (by omega)
   have hcp:∀r:qCH,out.length+([r]:List qCH).length≤capMax:=fun r=>by rw[List.length_singleton];omega
   have hrd:=qCm (t:=qAh) L i hi
   by_cases d:u.1<L[i].1
   ·simp only[q1,w3,hrd,d,and_self,decide_true,if_true]
    rw[if_pos (hcp _)]
   ·simp only[q1,w3,hrd,d,and_self,decide_true,decide_false,Bool.false_eq_true,if_true,if_false]
  ·simp only[Sum.inr.injEq] at e
   subst e
   split
   ·simp;omega
   ·omega
  ·simp only[Int.lt_irrefl,decide_false,Bool.false_eq_true,if_false]
 ·rw[qHP (fun y:qCH=>decide (y.1<u.1)),qHP (fun y:qCH=>decide (u.1<y.1)),List.nil_append]
theorem atB_no{q:List qAh.den}{id:Int}(h:atB q id<0):∀u∈q,u.1≠id:=by
 unfold atB at h
 split at h
 ·omega
 ·rename_i hn
  intro l hl
  obtain⟨i,hi,rfl⟩:=List.getElem_of_mem hl
  have:=find_none hn i hi
  rw[qCm (t:=qAh) q i hi] at this
  simpa using this
/-- A user of no ways yet. -/
def flatU(id a:Int)(s:qDR):qJS:=(id,(a,(s.1,(s.2.1,(s.2.2.1,(s.2.2.2.1,(s.2.2.2.2.1,(s.2.2.2.2.2.1,(s.2.2.2.2.2.2.1,(s.2.2.2.2.2.2.2.1,(s.2.2.2.2.2.2.2.2.1,(s.2.2.2.2.2.2.2.2.2.1,(s.2.2.2.2.2.2.2.2.2.2.1,(s.2.2.2.2.2.2.2.2.2.2.2.1,([],(0,()))))))))))))))))
def user0:qJS:=(0,(0,(0,((⟨#[]⟩:ByteArray),((⟨#[]⟩:ByteArray),(0,([],(0,(0,((⟨#[]⟩:ByteArray),((⟨#[]⟩:ByteArray),(0,([],(0,([],(0,()))))))))))))))))
def putU(L:List qCH)(u:qJS):List qCH:=L.filter (fun x=>decide (x.1<u.1))++[rowR u]++L.filter (fun x=>decide (u.1<x.1))
abbrev seedA:ByteArray:=⟨#[97]⟩
abbrev seedB:ByteArray:=⟨#[98]⟩
abbrev poolH(h:HubA):qCF:=(h.1,(h.2.1,(h.2.2.1,(h.2.2.2.1,()))))
/-- May one join? -/
def joinOk(h:HubA)(id now:Int):Bool:=decide (1≤id∧id≤98)&&(decide (atB h.2.2.2.2.2.1 id<0)&&(decide (h.2.2.2.2.2.1.length<3)&&((qBR (poolH h) id now).2.2&&(putB h.2.2.2.2.1 (qBR (poolH h) id now).2.1 32 id).2)))
def qFk(h:HubA)(id:Int)(s:ByteArray)(now:Int):HubA×qJS×Bool:=
 if joinOk h id now=true then(((qBR (poolH h) id now).1.1,((qBR (poolH h) id now).1.2.1,((qBR (poolH h) id now).1.2.2.1,((qBR (poolH h) id now).1.2.2.2.1,((putB h.2.2.2.2.1 (qBR (poolH h) id now).2.1 32 id).1,(putU h.2.2.2.2.2.1 (flatU id (qBR (poolH h) id now).2.1 (pairS s seedB seedA)),())))))),
  (flatU id (qBR (poolH h) id now).2.1 (pairS s seedA seedB),true))
 else(h,(user0,false))
theorem filter_ge{L:List qCH}{id:Int}(h:∀u∈L,u.1≠id):L.filter (fun x=>!decide (x.1<id))=L.filter (fun x=>decide (id<x.1)):=List.filter_congr fun x hx=>by
 have:=h x hx
 by_cases c:x.1<id
 ·have c':¬id<x.1:=by omega
  simp[c,c']
 ·have c':id<x.1:=by omega
  simp[c,c']
theorem i_Join_is(k:Nat)(h:HubA)(id:Int)(s:ByteArray)(now:Int)(hk:2097152<k)(hb:qBd h)(hs:s.size≤1048576) :
  i_Join k (h,(id,(s,(now,()))))=some (((qFk h id s now).1,((qFk h id s now).2.1,((qFk h id s now).2.2,()))),((),((),((),((),()))))):=by
 obtain⟨a0,a1,a2,a3,a4,a5,⟨⟩⟩:=h
 obtain⟨h1,h2,h3⟩:=qC5 hb
 have e1:=i_copyHub_is k _ (by omega) hb
 have e2:=qCf k id 1 98
 have e3:=userAt_is k a5 id (by omega) h3.1
 have e4:=i_Grant_is k (a0,(a1,(a2,(a3,())))) id now (by omega) h1
 have e5:=i_PutRoute_is k a4 (qBR (a0,(a1,(a2,(a3,())))) id now).2.1 32 id (by omega) h2.1
 have e6:=i_PairSlots_is k s hs hk
 have e7:=i_withUser_is k a5 (flatU id (qBR (a0,(a1,(a2,(a3,())))) id now).2.1 (pairS s seedB seedA)) (by omega) h3.1
 unfold flatU at e7
 unfold i_Join
 dsimp only
 simp only[e1,e2,e3,e4,e5,e6,e7,Option.bind_some]
 unfold qFk joinOk
 dsimp only
 by_cases c1:1≤id∧id≤98
 rotate_left
 ·simp only[c1,decide_false,Bool.not_false,Bool.false_and,Bool.false_eq_true,if_false]
  rfl
 by_cases c2:atB a5 id<0
 rotate_left
 ·have c2':0≤atB a5 id:=by omega
  simp only[c1,c2,c2',and_self,decide_true,decide_false,Bool.not_true,Bool.true_and,Bool.false_and,Bool.false_eq_true,if_true,if_false]
  rfl
 have c2':¬0≤atB a5 id:=by omega
 by_cases c3:a5.length<3
 rotate_left
 ·have c3':(3:Int)≤(a5.length:Int):=by omega
  simp only[c1,c2,c2',c3,c3',and_self,decide_true,decide_false,Bool.not_true,Bool.true_and,Bool.false_and,Bool.false_eq_true,if_true,if_false]
  rfl
 have c3':¬(3:Int)≤(a5.length:Int):=by omega
 have hfil:=filter_ge (atB_no c2)
 simp only[c1,c2,c2',c3,c3',and_self,decide_true,decide_false,Bool.not_true,Bool.true_and,Bool.false_eq_true,if_true,if_false]
 cases c4:(qBR (a0,(a1,(a2,(a3,())))) id now).2.2 with
 | false=>simp only[Bool.not_false,Bool.false_and,Bool.false_eq_true,if_false];rfl
 | true =>
  cases c5:(putB a4 (qBR (a0,(a1,(a2,(a3,())))) id now).2.1 32 id).2 with
  | false=>simp only[Bool.not_true,Bool.not_false,Bool.and_false,Bool.false_eq_true,if_true,if_false];rfl
  | true =>
   simp only[Bool.not_true,Bool.and_self,Bool.false_eq_true,if_true,if_false]
   unfold putU flatU
   rw[←hfil]
theorem bd_flatU(id a:Int)(s x y:ByteArray):qBP (flatU id a (pairS s x y)):=by
 obtain⟨b1,b2,b3,b4,b5,b6,_⟩:=pair_bd s x y
 exact⟨b1,b2,b3,b4,b5,b6,⟨by show([]:List (Int×Int×Int×List ByteArray×List Bool×Int)).length≤_;decide,fun r hr=>by cases hr⟩,trivial⟩
theorem bd_user0:qBP user0:=by
 refine⟨?_,?_,?_,?_,?_,?_,⟨?_,fun r hr=>by cases hr⟩,trivial⟩
 ·show(⟨#[]⟩:ByteArray).size≤_;decide
 ·show(⟨#[]⟩:ByteArray).size≤_;decide
 ·show([]:List Int).length≤_;decide
 ·show(⟨#[]⟩:ByteArray).size≤_;decide
 ·show(⟨#[]⟩:ByteArray).size≤_;decide
 ·show([]:List Int).length≤_;decide
 ·show([]:List (Int×Int×Int×List ByteArray×List Bool×Int)).length≤_;decide
theorem bd_putU{L:List qCH}{u:qJS}(hb:qCi L)(hl:L.length<3)(hu:qBP u):qCi (putU L u):=by
 unfold putU
 refine⟨?_,fun r hr=>?_⟩
 ·have a:=List.length_filter_le (fun x:qCH=>decide (x.1<u.1)) L
  have b:=List.length_filter_le (fun x:qCH=>decide (u.1<x.1)) L
  simp only[List.length_append,List.length_singleton]
  omega
 ·rcases List.mem_append.1 hr with hr | hr
  ·rcases List.mem_append.1 hr with hr | hr
   ·exact hb.2 r (List.mem_filter.1 hr).1
   ·have hr:r=rowR u:=List.mem_singleton.1 hr
    subst hr
    exact hu
  ·exact hb.2 r (List.mem_filter.1 hr).1
theorem s_Join_is(k:Nat)(h:HubA)(id:Int)(s:ByteArray)(now:Int)(hk:2097152<k)(hb:qBd h)(hs:s.size≤1048576) :
  s_Join k (h,(id,(s,(now,()))))=some (((qFk h id s now).1,((qFk h id s now).2.1,((qFk h id s now).2.2,()))),((),((),((),((),()))))):=by
 obtain⟨a0,a1,a2,a3,a4,a5,⟨⟩⟩:=h
 obtain⟨h1,h2,h3⟩:=qC5 hb
 have e1:=s_l22Copy_is k _ (by omega) hb
 have e3:=l22At_is k a5 id (by omega) h3.1
 have e4:=s_Grant_is k (a0,(a1,(a2,(a3,())))) id now (by omega) h1
 have e5:=s_PutRoute_is k a4 (qBR (a0,(a1,(a2,(a3,())))) id now).2.1 32 id (by omega) h2.1
 have e6:=s_PairSlots_is k s hs hk
 have e7:=s_l22Put_is k a5 (flatU id (qBR (a0,(a1,(a2,(a3,())))) id now).2.1 (pairS s seedB seedA)) (by omega) h3.1
 have e8:=fun hl=>qFG k (putU a5 (flatU id (qBR (a0,(a1,(a2,(a3,())))) id now).2.1 (pairS s seedB seedA))) (by omega) (bd_putU h3 hl (bd_flatU ..))
 unfold putU at e8
 unfold flatU at e7 e8
 unfold s_Join
 dsimp only
 simp only[e1,qCe,e3,e4,e5,e6,e7,Option.bind_some]
 unfold qFk joinOk
 dsimp only
 by_cases c1:1≤id∧id≤98
 rotate_left
 ·simp only[c1,decide_false,Bool.not_false,Bool.false_and,Bool.false_eq_true,if_false]
  rfl
 by_cases c2:atB a5 id<0
 rotate_left
 ·have c2':0≤atB a5 id:=by omega
  simp only[c1,c2,c2',and_self,decide_true,decide_false,Bool.not_true,Bool.true_and,Bool.false_and,Bool.false_eq_true,if_true,if_false]
  rfl
 have c2':¬0≤atB a5 id:=by omega
 by_cases c3:a5.length<3
 rotate_left
 ·have c3':(3:Int)≤(a5.length:Int):=by omega
  simp only[c1,c2,c2',c3,c3',and_self,decide_true,decide_false,Bool.not_true,Bool.true_and,Bool.false_and,Bool.false_eq_true,if_true,if_false]
  rfl
 have c3':¬(3:Int)≤(a5.length:Int):=by omega
 have e8:=e8 c3
 simp only[c1,c2,c2',c3,c3',and_self,decide_true,decide_false,Bool.not_true,Bool.true_and,Bool.false_eq_true,if_true,if_false]
 cases c4:(qBR (a0,(a1,(a2,(a3,())))) id now).2.2 with
 | false=>simp only[Bool.not_false,Bool.false_and,Bool.false_eq_true,if_false];rfl
 | true =>
  cases c5:(putB a4 (qBR (a0,(a1,(a2,(a3,())))) id now).2.1 32 id).2 with
  | false=>simp only[Bool.not_true,Bool.not_false,Bool.and_false,Bool.false_eq_true,if_true,if_false];rfl
  | true =>
   simp only[Bool.not_true,Bool.and_self,Bool.false_eq_true,if_true,if_false]
   unfold putU flatU
   simp only[e8,Option.bind_some]
theorem bd_grantB{x:qCF}(w now:Int)(hb:qC4 x):qC4 (qBR x w now).1:=by
 unfold qBR
 split
 ·split
  ·split
   ·exact hb
   ·split
    ·exact hb
    ·rename_i a _ hl
     refine⟨⟨?_,fun _ _=>trivial⟩,hb.2.1,trivial⟩
     have p:=List.length_filter_le (fun x:qBQ=>decide (x.1<a)) x.2.2.1
     have q:=List.length_filter_le (fun x:qBQ=>decide (a<x.1)) x.2.2.1
     show(insL x.2.2.1 a w (now+20)).length≤1048576
     unfold insL
     simp only[List.length_append,List.length_singleton]
     omega
  ·refine⟨⟨?_,fun _ _=>trivial⟩,hb.2.1,trivial⟩
   show(List.set _ _ _).length≤1048576
   rw[List.length_set]
   exact hb.1.1
 ·exact hb
theorem bd_joinB{h:HubA}(id:Int)(s:ByteArray)(now:Int)(hb:qBd h):qBd (qFk h id s now).1∧qBP (qFk h id s now).2.1:=by
 obtain⟨a0,a1,a2,a3,a4,a5,⟨⟩⟩:=h
 obtain⟨h1,h2,h3⟩:=qC5 hb
 unfold qFk
 split
 ·rename_i hj
  unfold joinOk at hj
  simp only[Bool.and_eq_true,decide_eq_true_eq] at hj
  have:=bd_grantB id now h1
  exact⟨bd_hubOf this.1 this.2.1 (bd_putB _ _ _ h2) (bd_putU h3 hj.2.2.1 (bd_flatU ..)),bd_flatU ..⟩
 ·exact⟨hb,bd_user0⟩
theorem MH_HubU(k:Nat)(x:HubA)(u:qJS)(hk:4611686018427387904<k)(hb:qBd x)(hu:qBP u) :
  ∃(l:List qAE.den) (f:List qAK.den) (r:List qAV.den) (us:List qAh.den) (n:Int) (m1 m2:List Int) (m3:List (Int×Int×Int×List (ByteArray)×List (Bool)×Int)) (n':Int),0≤n∧0≤n'∧qDM k (x,(1,()))=some (n,(((),((),(l,(f,(r,(us,())))))),((),()))) ∧
   qDQ k ((x.1,(x.2.1,(l,(f,(r,(us,())))))),(1,()))=some (n,((),((),()))) ∧
   qFB k (u,(n,()))=some (n',(((),((),((),((),((),((),(m1,((),((),((),((),((),(m2,((),(m3,((),())))))))))))))))),((),()))) ∧
   qDo k ((u.1,(u.2.1,(u.2.2.1,(u.2.2.2.1,(u.2.2.2.2.1,(u.2.2.2.2.2.1,(m1,(u.2.2.2.2.2.2.2.1,(u.2.2.2.2.2.2.2.2.1,(u.2.2.2.2.2.2.2.2.2.1,(u.2.2.2.2.2.2.2.2.2.2.1,(u.2.2.2.2.2.2.2.2.2.2.2.1,(m2,(u.2.2.2.2.2.2.2.2.2.2.2.2.2.1,(m3,(u.2.2.2.2.2.2.2.2.2.2.2.2.2.2.2.1,())))))))))))))))),(n,()))=some (n',((),((),()))):=by
 obtain⟨a0,a1,a2,a3,a4,a5,⟨⟩⟩:=x
 obtain⟨h1,h2,h3⟩:=qC5 hb
 have l2:a2.length≤1048576:=h1.1.1
 have l3:a3.length≤1048576:=h1.2.1.1
 have l4:a4.length≤1048576:=h2.1
 have l5:a5.length≤1048576:=h3.1
 obtain⟨l,n1,p1,p2,p3,p4,p5⟩:=MH_LeaseS k a2 1 (by omega) l2 _ rfl (by omega) (by omega)
 obtain⟨f,n2,q1,q2,q3,q4,q5⟩:=MH_FixedS k a3 n1 (by omega) l3 _ rfl (by omega) (by omega)
 obtain⟨r,n3,r1,r2,r3,r4,r5⟩:=MH_RouteS k a4 n2 (by omega) l4 _ rfl (by omega) (by omega)
 obtain⟨us,n4,u1,u2,u3,u4,u5⟩:=MH_UserS k a5 n3 (by omega) _ rfl (by omega) hk h3
 have c1:¬n1<0:=by omega
 have c2:¬n2<0:=by omega
 have c3:¬n3<0:=by omega
 have c4:¬n4<0:=by omega
 obtain⟨v0,v1,v2,v3,v4,v5,v6,v7,v8,v9,v10,v11,v12,v13,v14,v15,⟨⟩⟩:=u
 unfold qBP at hu
 obtain⟨b3,b4,b6,b9,b10,b12,b14,b⟩:=hu
 have b6:v6.length≤1048576:=b6
 have b12:v12.length≤1048576:=b12
 have b14':v14.length≤1048576:=b14.1
 obtain⟨m1,o1,d1,d2,d3,d4,d5⟩:=MH_IntS k v6 n4 (by omega) (by omega) (by omega) b6
 obtain⟨m2,o2,f1,f2,f3,f4,f5⟩:=MH_IntS k v12 o1 (by omega) (by omega) (by omega) b12
 obtain⟨m3,o3,g1,g2,g3,g4,g5⟩:=MH_HeldS k v14 o2 (by omega) _ rfl (by omega) hk b14
 have i1:¬o1<0:=by omega
 have i2:¬o2<0:=by omega
 have i3:¬o3<0:=by omega
 refine⟨l,f,r,us,n4,m1,m2,m3,o3,by omega,by omega,?_,?_,?_,?_⟩
 ·unfold qDM qE8
  simp only[p4,q4,r4,u4,Option.bind_some]
 ·unfold qDQ qE9
  simp only[p5,q5,r5,u5,c1,c2,c3,c4,decide_false,Bool.false_eq_true,if_false,Option.bind_some]
 ·unfold qFB qFY qFA qFZ
  simp only[d4,f4,g4,Option.bind_some]
 ·unfold qDo qFa qFC qFb
  simp only[d5,f5,g5,i1,i2,i3,decide_false,Bool.false_eq_true,if_false,Option.bind_some]
theorem join_law(k:Nat)(hk:4611686018427387904<k)(x:HubA)(id:Int)(s:ByteArray)(now:Int)(hw:Wf_Hub x):w_FnExactJoin k (x,(id,(s,(now,()))))=some (true,((),((),((),((),()))))):=by
 unfold w_FnExactJoin
 by_cases hs:(1048576:Int)<(s.size:Int)
 ·simp only[hs,decide_true,if_true]
 simp only[hs,decide_false,Bool.false_eq_true,if_false]
 have hs':s.size≤1048576:=by omega
 have e0:=fun(hb:qBd x)=>toHub_is k x (by omega) hb
 obtain⟨m,h1,h2⟩:=szHub_le k x 1048576 (by omega) (by omega) hw
 have ei:=fun(hb:qBd x)=>i_Join_is k x id s now (by omega) hb hs'
 have es:=fun(hb:qBd x)=>s_Join_is k x id s now (by omega) hb hs'
 have eq:=fun(hb:qBd x)=>eqHub_is k x x (by omega) hb
 have er:=fun(hb:qBd x)=>eqHub_is k (qFk x id s now).1 (qFk x id s now).1 (by omega) (bd_joinB id s now hb).1
 have eu:=fun(hb:qBd x)=>eqUser_is k (qFk x id s now).2.1 (qFk x id s now).2.1 (by omega) (bd_joinB id s now hb).2
 have ma:=fun(hb:qBd x)=>MH_Hub k x hk hb
 have mr:=fun(hb:qBd x)=>MH_HubU k (qFk x id s now).1 (qFk x id s now).2.1 hk (bd_joinB id s now hb).1 (bd_joinB id s now hb).2
 generalize qFk x id s now=R at ei es er eu mr
 obtain⟨⟨r0,r1,r2,r3,r4,r5,⟨⟩⟩,us,ok⟩:=R
 obtain⟨a0,a1,a2,a3,a4,a5,⟨⟩⟩:=x
 simp only[h1,Option.bind_some]
 by_cases hm:m<0
 ·simp[hm]
 obtain⟨_,hb⟩:=h2 (by omega)
 obtain⟨l1,f1,q1,u1,n1,g1,g2,g3⟩:=ma hb
 obtain⟨l2,f2,q2,u2,n2,m1,m2,m3,n3,j1,j2,j3,j4,j5,j6⟩:=mr hb
 have c1:¬n1<0:=by omega
 have c2:¬n2<0:=by omega
 have c3:¬n3<0:=by omega
 simp only[hm,e0 hb,ei hb,es hb,eq hb,er hb,eu hb,g2,j3,j4,j5,j6,c1,c2,c3,qCI,decide_false,decide_true,Bool.false_eq_true,if_false,Bool.not_true,if_true,Option.bind_some]
theorem pure_FnExactJoin(x:qHt pars_FnExactJoin)(hx:argsWf pars_FnExactJoin x):∃k o,w_FnExactJoin k (argsX pars_FnExactJoin x)=some (true,o):=by
 obtain⟨h0,id,s,now,u⟩:=x
 refine⟨4611686018427387905,((),((),((),((),())))),?_⟩
 show w_FnExactJoin 4611686018427387905 (ag_Hub h0,(id,(s,(now,()))))=_
 exact join_law 4611686018427387905 (by decide) (ag_Hub h0) id s now (wfr_Hub h0 hx.1)
open Go.ChangeShapes Go.WideShapes Go.ChangeAt Go.RowKit
theorem own_FnExactJoin:ownKnob Tryz.prog.godebug=none:=by kernel_rfl
theorem lifted_FnExactJoin(os:Os)(started:os.Started)(H:Type)(enc:TypeId×Value→H) :
  ReturnsInHanded {} Tryz.checked os 8 .any (Rows.fnExactJoinSpec.pre6 enc Tryz.prog Tryz.f8 Rows.fnExactJoinRow.domain false) (Rows.fnExactJoinSpec.post enc Tryz.prog Tryz.f8 false true false false):=
 law_lifted (C:=Tryz.checked) (l:=pars_FnExactJoin) (rb:=4) own_FnExactJoin started (by kernel_rfl) Tryz.func8
  (ChangeSpec.witness6 (enc:=enc) (C:=Tryz.checked) false ⟨#[],#[.agg #[.int .i64 0,.int .i64 0,.slice none 0 0,.slice none 0 0,.slice none 0 0,.slice none 0 0],.int .i64 0,.string ByteArray.empty,.int .i64 0],[]⟩ 8 (by kernel_rfl) (by kernel_rfl) (by kernel_rfl) (by kernel_rfl))
  e_w_FnExactJoin rfl (by decide) pure_FnExactJoin (by kernel_rfl) rfl Tryz.underlying4 (by kernel_rfl) (by kernel_rfl) rfl (fun _=>⟨fun _ h=>h.elim,trivial⟩)
  (fun ds h=>match ds,h with | [_,_,_,_],_=>rfl)
theorem inPlace_FnExactJoin:Tryz.prog.inPlace 8=Rows.fnExactJoinRow.inPlace:=by kernel_rfl
theorem unfollowed_FnExactJoin:Tryz.prog.unfollowed 8=Rows.fnExactJoinRow.unfollowed:=by kernel_rfl
theorem recurses_FnExactJoin:Tryz.prog.recurses 8=Rows.fnExactJoinRow.recurses:=by kernel_rfl
theorem named_FnExactJoin:Tryz.prog.varsNamed 8=Rows.fnExactJoinRow.named:=by kernel_rfl
theorem facts_FnExactJoin:joinedFacts Tryz.prog 8 Tryz.f8 Rows.fnExactJoinSpec Rows.fnExactJoinRow=true:=by
 unfold joinedFacts
 rw[seat_laid,seat_maps,seat_heard,seat_enter,inPlace_FnExactJoin,unfollowed_FnExactJoin,recurses_FnExactJoin,named_FnExactJoin]
 kernel_rfl
theorem fnExactJoin_holds:Rows.FnExactJoinSaid:=
 OpenClaim.holds_of_wide 8 Tryz.f8 rfl rfl rfl rfl rfl rfl rfl ⟨rfl,rfl,rfl,rfl,rfl⟩ rfl rfl rfl rfl rfl (by kernel_rfl) Tryz.func8 facts_FnExactJoin (of_decide_eq_true (by kernel_rfl))
  (by unfold Func.isWrapper;first | (rw[if_pos (by decide +kernel)];kernel_rfl) | (rw[if_neg (by decide +kernel)];exact⟨rfl,rfl⟩)) (fun os started H enc _=>lifted_FnExactJoin os started H enc)
#print axioms fnExactJoin_holds
end Go.Proofs.YtnfllchbpechlaaGreat
