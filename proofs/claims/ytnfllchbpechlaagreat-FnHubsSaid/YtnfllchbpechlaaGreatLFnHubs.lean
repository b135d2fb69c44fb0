import Derived.Test.YtnfllchbpechlaaGreatPFnHubs
import Derived.Test.YtnfllchbpechlaaGreatRows
import Derived.Test.YtnfllchbpechlaaGreatFun3
import Derived.Test.YtnfllchbpechlaaGreatBase
import Derived.Test.YtnfllchbpechlaaGreatFacts
import Derived.WalkKit
import Derived.ProofKit
import Derived.OpenShut
import Derived.ShutString
import Derived.ChangeOld
import Derived.Below
import Derived.SizedLaws
/- FnHubs answers true for every input, and its arguments read behind the call as they did ahead of it. Conditions: none. -/
set_option linter.unusedVariables false
set_option linter.unusedSimpArgs false
namespace Go.Proofs.YtnfllchbpechlaaGreat
open Go Go.Eng Go.Proofs
theorem i_Release_is(k:Nat)(x:qBn)(w:Int)(hk:1048576<k)(hb:qEO x):qGZ k (x,(w,()))=some (((relB x w).1,((relB x w).2,())),((),((),()))):=by
 obtain⟨a0,a1,a2,a3,⟨⟩⟩:=x
 have hl:a2.length≤1048576:=hb.1.1
 have e1:=qFh k (a0,(a1,(a2,(a3,())))) hb
 have e2:=i_PoolOk_is k (a0,(a1,(a2,(a3,())))) hk hl hb.2.1.1
 have e3:=leaseOf_is k (a0,(a1,(a2,(a3,())))) w hk hl
 unfold qGZ
 simp only[e1,e2,e3,Option.bind_some]
 cases hp:qC1 (a0,(a1,(a2,(a3,()))))
 ·simp[relB,hp]
 ·have hsp:=qFf (Ty.dflt qAC) (fun y:qAC.den=>decide (y.2.1=w)) a2
  unfold qCD
  cases hq:(List.range a2.length).find? (fun j=>decide ((Ty.rd (t:=qAC) a2 (j:Nat)).2.1=w)) with
  | none =>
   have hq':(List.range a2.length).find? (fun i=>(fun y:qAC.den=>decide (y.2.1=w)) (a2.getD i (Ty.dflt qAC)))=none:=hq
   rw[hq'] at hsp
   have hsp:a2.filter (fun x=>!decide (x.2.1=w))=a2:=hsp
   simp[relB,relF,hsp]
  | some i =>
   have hq':(List.range a2.length).find? (fun i=>(fun y:qAC.den=>decide (y.2.1=w)) (a2.getD i (Ty.dflt qAC)))=some i:=hq
   rw[hq'] at hsp
   obtain⟨p,g,r,hL,hi,hfil⟩:=hsp
   have hg:=List.find?_some hq'
   simp only[hL,←hi,decide_eq_true_eq] at hg
   have hg:g.2.1=w:=by simpa [List.getD] using hg
   have hon:=pool_once (x:=(a0,(a1,(a2,(a3,()))))) hp hL
   rw[hg] at hon
   have hf:a2.filter (fun y=>!decide (y.2.1=w))=p++r:=hfil.trans (by rw[hon])
   have w':wi64 ((p.length:Int)+1)=(p.length:Int)+1:=qAH _ (by have:=congrArg List.length hL;simp at this;omega)
   have hd:=del1_is k p r g (by rw[←hL];exact hl)
   have hlen:¬(p++r).length=a2.length:=by rw[hL];simp
   have hne:¬((p.length:Nat):Int)<0:=by omega
   subst hi
   subst hL
   simp only[hne,w',hd,decide_false,Bool.false_eq_true,if_false,Option.bind_some,Bool.not_true,if_true]
   unfold relB relF
   simp only[hp,hf,hlen,not_false_eq_true,and_self,if_true]
theorem bd_relB{x:qBn}(w:Int)(hb:qEO x):qEO (relB x w).1:=by
 unfold relB
 split
 ·exact⟨⟨Nat.le_trans (List.length_filter_le _ _) hb.1.1,fun r _=>trivial⟩,hb.2⟩
 ·exact hb
def delU(a:List qA1.den)(f:Int):List qA1.den:=a.filter (fun x=>!decide (x.1=f))
theorem bd_delU{a:List qA1.den}(f:Int)(hb:qDj a):qDj (delU a f):=⟨Nat.le_trans (List.length_filter_le _ _) hb.1,fun r hr=>hb.2 r ((List.mem_filter.1 hr).1)⟩
def dropR(a:List qAT.den)(f:Int):List qAT.den:=a.filter (fun x=>!decide (x.2=f))
theorem bd_dropR{a:List qAT.den}(f:Int)(hb:qEM a):qEM (dropR a f):=⟨Nat.le_trans (List.length_filter_le _ _) hb.1,fun r _=>trivial⟩
def qFl(x:HubA)(f:Int):HubA×Bool:=if atB x.2.2.2.2.2.1 f<0 then(x,false) else(((relB (x.1,(x.2.1,(x.2.2.1,(x.2.2.2.1,())))) f).1.1,((relB (x.1,(x.2.1,(x.2.2.1,(x.2.2.2.1,())))) f).1.2.1,((relB (x.1,(x.2.1,(x.2.2.1,(x.2.2.2.1,())))) f).1.2.2.1,((relB (x.1,(x.2.1,(x.2.2.1,(x.2.2.2.1,())))) f).1.2.2.2.1,(dropR x.2.2.2.2.1 f,(delU x.2.2.2.2.2.1 f,())))))),true)
theorem delU_is(k:Nat)(a:List qA1.den)(f:Int)(hk:1048576<k)(hl:a.length≤1048576):qAZ k (a,(((f,()),()),()))=some (delU a f,((),(((f,()),()),()))):=by
 unfold qAZ
 refine treeF_filter (t:=(.pair (.int .i64) (.pair (.int .i64) (.pair (.pair (.pair (.int .i64) (.pair .str (.pair .str (.pair (.int .i64) (.pair (.ols 3 (.int .i64)) (.int .i64)))))) (.pair (.int .i64) (.pair .str (.pair .str (.pair (.int .i64) (.pair (.ols 3 (.int .i64)) (.int .i64))))))) (.pair (.ols 229 (.pair (.int .i64) (.pair (.int .i64) (.pair (.int .i64) (.pair (.ols 9 .str) (.pair (.ols 4 .bool) (.int .i64))))))) (.int .i64)))))) (fun x:qFg=>!decide (x.1=f)) (fun x:qA1.den=>!decide (x.1=f)) ?_ ?_
 ·intro x n
  rfl
 ·exact delLeaveU_is k _ f hk (Nat.le_trans (Nat.le_of_eq (Go.Eng.encs_len _ _)) hl)
theorem i_Leave_is(k:Nat)(x:HubA)(f:Int)(hk:1048576<k)(hb:qCU x):i_Leave k (x,(f,()))=some (((qFl x f).1,((qFl x f).2,())),((),((),()))):=by
 obtain⟨a0,a1,a2,a3,a4,a5,⟨⟩⟩:=x
 obtain⟨h1,h2,h3⟩:=qBC hb
 unfold i_Leave qFl
 simp only[i_copyHub_is k (a0,(a1,(a2,(a3,(a4,(a5,())))))) hk hb,userAt_is k a5 f hk h3.1,Option.bind_some]
 by_cases q:atB a5 f<0
 ·simp only[q,decide_true,if_true]
 ·simp only[q,decide_false,Bool.false_eq_true,if_false,delU_is k a5 f hk h3.1,i_Release_is k (a0,(a1,(a2,(a3,())))) f hk h1,i_DropTo_is k a4 f hk h2.1,Option.bind_some]
  rfl
theorem bd_leaveB{x:HubA}(f:Int)(hb:qCU x):qCU (qFl x f).1:=by
 obtain⟨a0,a1,a2,a3,a4,a5,⟨⟩⟩:=x
 obtain⟨h1,h2,h3⟩:=qBC hb
 unfold qFl
 split
 ·exact hb
 ·have:=bd_relB f h1
  exact bd_hubOf this.1 this.2.1 (bd_dropR f h2) (bd_delU f h3)
abbrev WoutD:=(Int×Int)×Int
abbrev WoutT:Ty:=(.pair (.pair (.int .i64) (.int .i64)) (.int .i64))
theorem idxWout_is(k:Nat)(a:List WoutD)(fp fn:Int)(hk:1048576<k)(hl:a.length≤1048576):qAK k (a,(((fp,(fn,())),()),())) =
  some (match (List.range a.length).find? (fun i=>decide ((fun x:WoutD=>x.1.1=fp∧x.1.2=fn) (a.getD i (Ty.dflt WoutT)))) with | some i=>(((i:Nat):Int),((),(((fp,(fn,())),()),()))) | none=>(-1,((),(((fp,(fn,())),()),())))):=by
 unfold qAK
 refine qBq (fun i=>(a,(((fp,(fn,())),()),((a.length:Int),(((i:Nat):Int),()))))) a.length (fun i=>decide ((fun x:WoutD=>x.1.1=fp∧x.1.2=fn) (a.getD i (Ty.dflt WoutT)))) (fun i=>(((i:Nat):Int),((),(((fp,(fn,())),()),())))) (-1,((),(((fp,(fn,())),()),()))) ?_ ?_ k (by omega)
 ·intro again i hi
  have g1:(0:Int)≤(i:Int)∧(i:Int)<(a.length:Int):=by omega
  have w2:wi64 ((i:Int)+1)=((i+1:Nat):Int):=(qAH _ (by omega)).trans (by omega)
  simp only[g1,w2,qBd,Ty.rd,Int.toNat_natCast,and_self,decide_true,if_true,Option.bind_some,Bool.decide_and]
  rfl
 ·intro again
  simp
theorem delWout_is(k:Nat)(L:List WoutD)(fp fn:Int)(hk:1048576<k)(hl:L.length≤1048576):qAJ k (L,(((fp,(fn,())),()),())) =
  some (L.filter (fun x=>!decide (x.1.1=fp∧x.1.2=fn)),((),(((fp,(fn,())),()),()))):=by
 have e:=idxWout_is k L fp fn hk hl
 have hsp:=qFf (Ty.dflt WoutT) (fun x:WoutD=>decide (x.1.1=fp∧x.1.2=fn)) L
 unfold qAJ
 simp only[e,Option.bind_some]
 cases hq:(List.range L.length).find? (fun i=>decide ((fun x:WoutD=>x.1.1=fp∧x.1.2=fn) (L.getD i (Ty.dflt WoutT)))) with
 | none =>
  rw[hq] at hsp
  rw[hsp]
  simp
 | some i =>
  rw[hq] at hsp
  obtain⟨p,g,r,rfl,rfl,hfil⟩:=hsp
  have hne:¬((p.length:Nat):Int)=-1:=by omega
  have hl':p.length+r.length+1≤1048576:=by simpa [Nat.add_assoc] using hl
  have w2:wi64 ((p.length:Int)+1)=((p.length+([]:List WoutD).length+1:Nat):Int):=(qAH _ (by omega)).trans (by simp)
  rw[hfil]
  simp only[hne,w2,decide_false,Bool.false_eq_true,if_false]
  refine(del_run (fun x:WoutD=>decide (x.1.1=fp∧x.1.2=fn)) ((fp,(fn,())),()) (fun q=>(q,((),(((fp,(fn,())),()),())))) ?_ ?_ r p [] g k (by simp;omega) (by omega))
  ·intro again p gs r g v hb
   have hlen:(p++g::(gs++v::r)).length=p.length+gs.length+r.length+2:=by simp;omega
   have g1:((p.length+gs.length+1:Nat):Int)<((p++g::(gs++v::r)).length:Int):=by rw[hlen];omega
   have g2:(0:Int)≤((p.length+gs.length+1:Nat):Int)∧((p.length+gs.length+1:Nat):Int)<((p++g::(gs++v::r)).length:Int):=by rw[hlen];omega
   have g3:(0:Int)≤(p.length:Int)∧(p.length:Int)<((p++g::(gs++v::r)).length:Int):=by rw[hlen];omega
   have r1:(p++g::(gs++v::r)).getD (p.length+gs.length+1) (Ty.dflt WoutT)=v:=by
    rw[show p++g::(gs++v::r)=(p++g::gs)++v::r by simp,show p.length+gs.length+1=(p++g::gs).length by simp;omega]
    simp[List.getD]
   have s1:List.set (p++g::(gs++v::r)) p.length v=p++v::(gs++v::r):=by simp
   have w1:wi64 ((p.length:Int)+1)=((p.length+1:Nat):Int):=(qAH _ (by omega)).trans (by omega)
   have w2:wi64 (((p.length+gs.length+1:Nat):Int)+1)=((p.length+gs.length+2:Nat):Int):=(qAH _ (by omega)).trans (by omega)
   obtain⟨⟨v1,v2⟩,v3⟩:=v
   simp only[jn,Ty.rd,Int.toNat_natCast,r1,g1,g2,g3,s1,w1,w2,qBd,decide_true,and_self,if_true,Option.bind_some,Bool.decide_and]
   by_cases q:v1=fp∧v2=fn <;> simp[q]
  ·intro again q t
   have hd:¬(((q++t).length:Nat):Int)<((q++t).length:Int):=by omega
   have g1:(0:Int)≤(q.length:Int)∧(q.length:Int)≤((q++t).length:Int):=by simp only[List.length_append];omega
   simp only[hd,g1,decide_false,Bool.false_eq_true,if_false,and_self,if_true]
   simp
   omega
theorem loop_span{X R A:Type}{step:(X→Option R)→X→Option R}(W:List A)(D:A→Bool)(st:Nat→X)(K:Nat→Option R)(hs:∀again i x,i<W.length→W[i]?=some x→step again (st i)=if D x=true then again (st (i+1)) else K i)(he:∀again,step again (st W.length)=K W.length):∀k,W.length<k→qAG step k (st 0)=K (W.takeWhile D).length:=by
 have key:∀(s p:List A) k,p++s=W→s.length<k→qAG step k (st p.length)=K (p.length+(s.takeWhile D).length):=by
  intro s
  induction s with
  | nil =>
   intro p k h hk
   obtain⟨k,rfl⟩:∃k',k=k'+1:=⟨k-1,by omega⟩
   have:p=W:=by simpa using h
   subst this
   exact he _
  | cons x s ih =>
   intro p k h hk
   obtain⟨k,rfl⟩:∃k',k=k'+1:=⟨k-1,by omega⟩
   show step _ _=_
   subst h
   rw[hs _ _ x (by simp) (by simp)]
   by_cases d:D x=true
   ·have:=ih (p++[x]) k (by simp) (by simpa using hk)
    rw[if_pos d,show p.length+1=(p++[x]).length by simp,this]
    simp[d]
    congr 1
    omega
   ·rw[if_neg d]
    simp[d]
 intro k hk
 have:=key W [] k (by simp) hk
 simpa using this
theorem qHw{a b c d e f:Int}(h1:qAh a b c d=true)(h2:qAh c d e f=true):qAh a b e f=true:=by
 unfold qAh at *
 simp only[Bool.or_eq_true,Bool.and_eq_true,decide_eq_true_eq] at *
 omega
theorem ahead_tri(a b c d:Int):qAh a b c d=true∨(a=c∧b=d)∨qAh c d a b=true:=by
 unfold qAh
 simp only[Bool.or_eq_true,Bool.and_eq_true,decide_eq_true_eq]
 omega
theorem qEP(a b:Int):qAh a b a b=false:=by
 unfold qAh
 simp
theorem ahead_asym{a b c d:Int}(h:qAh a b c d=true):qAh c d a b=false:=by
 cases q:qAh c d a b with
 | false=>rfl
 | true=>have:=qHw h q;rw[qEP] at this;cases this
abbrev qB5:=(Int×Int)×Int
theorem put_split(p n:Int):∀L:List qB5,L.Pairwise (fun x y=>qAh x.1.1 x.1.2 y.1.1 y.1.2=true) →
  (L.filter (fun x=>!decide (x.1.1=p∧x.1.2=n))).takeWhile (fun x=>qAh x.1.1 x.1.2 p n)=L.filter (fun x=>qAh x.1.1 x.1.2 p n) ∧
  (L.filter (fun x=>!decide (x.1.1=p∧x.1.2=n))).dropWhile (fun x=>qAh x.1.1 x.1.2 p n)=L.filter (fun x=>qAh p n x.1.1 x.1.2):=by
 intro L hp
 induction L with
 | nil=>simp
 | cons x L ih =>
  obtain⟨hx,hp⟩:=List.pairwise_cons.1 hp
  by_cases a:qAh x.1.1 x.1.2 p n=true
  ·obtain⟨h1,h2⟩:=ih hp
   have ne:¬(x.1.1=p∧x.1.2=n):=by
    rintro⟨rfl,rfl⟩
    rw[qEP] at a
    cases a
   have b:=ahead_asym a
   simp only[List.filter_cons,ne,decide_false,Bool.not_false,if_true,a,b,List.takeWhile_cons,List.dropWhile_cons,Bool.false_eq_true,if_false,h1,h2,and_self]
  ·have a':qAh x.1.1 x.1.2 p n=false:=by simpa using a
   have hB:∀y∈L,qAh p n y.1.1 y.1.2=true:=fun y hy=>by
    rcases ahead_tri x.1.1 x.1.2 p n with h | ⟨h1,h2⟩ | h
    ·exact absurd h a
    ·have:=hx y hy
     rwa [h1,h2] at this
    ·exact qHw h (hx y hy)
   have e1:L.filter (fun x=>qAh x.1.1 x.1.2 p n)=[]:=List.filter_eq_nil_iff.2 fun y hy=>by simp[ahead_asym (hB y hy)]
   have e2:L.filter (fun x=>qAh p n x.1.1 x.1.2)=L:=List.filter_eq_self.2 hB
   have e3:L.filter (fun x=>!decide (x.1.1=p∧x.1.2=n))=L:=List.filter_eq_self.2 fun y hy=>by
    have:¬(y.1.1=p∧y.1.2=n):=by
     rintro⟨h1,h2⟩
     have:=hB y hy
     rw[h1,h2,qEP] at this
     cases this
    simp[this]
   have e4:L.takeWhile (fun x=>qAh x.1.1 x.1.2 p n)=[]∧L.dropWhile (fun x=>qAh x.1.1 x.1.2 p n)=L:=by
    cases L with
    | nil=>simp
    | cons y L=>simp[ahead_asym (hB y (by simp))]
   by_cases e:x.1.1=p∧x.1.2=n
   ·have b:qAh p n x.1.1 x.1.2=false:=by rw[e.1,e.2,qEP]
    simp only[List.filter_cons,e,and_self,decide_true,Bool.not_true,Bool.false_eq_true,if_false,a',b,e1,e2,e3,e4,qEP]
   ·have b:qAh p n x.1.1 x.1.2=true:=by
     rcases ahead_tri x.1.1 x.1.2 p n with h | h | h
     ·exact absurd h a
     ·exact absurd h e
     ·exact h
    simp only[List.filter_cons,e,decide_false,Bool.not_false,if_true,a',b,e1,e2,e3,List.takeWhile_cons,List.dropWhile_cons,Bool.false_eq_true,if_false,and_self]
theorem foldE_all{g:Nat→Unit→(Bool×Unit×Unit) ⊕ Unit}{fin:Unit→Bool×Unit×Unit}(hg:∀i,g i ()=.inr ()∨∃o,g i ()=.inl (false,o)) :
  ∀m i,(qDx g fin m i ()).1=true→∀j,i≤j→j<i+m→g j ()=.inr ():=by
 intro m
 induction m with
 | zero=>intro i _ j h1 h2;omega
 | succ m ih =>
  intro i h j h1 h2
  rcases hg i with e | ⟨o,e⟩
  ·by_cases hj:j=i
   ·rw[hj];exact e
   ·refine ih (i+1) ?_ j (by omega) (by omega)
    simpa [qDx,e] using h
  ·simp[qDx,e] at h
theorem foldE_fin{g:Nat→Unit→(Bool×Unit×Unit) ⊕ Unit}{fin:Unit→Bool×Unit×Unit}(hg:∀i,g i ()=.inr ()∨∃o,g i ()=.inl (false,o)) :
  ∀m i,(qDx g fin m i ()).1=true→(fin ()).1=true:=by
 intro m
 induction m with
 | zero=>intro i h;simpa [qDx] using h
 | succ m ih =>
  intro i h
  rcases hg i with e | ⟨o,e⟩
  ·exact ih (i+1) (by simpa [qDx,e] using h)
  ·simp[qDx,e] at h
theorem gRoute_or(a:List qB5):∀i,qHV a i ()=.inr ()∨∃o,qHV a i ()=.inl (false,o):=fun i=>by
 unfold qHV
 dsimp only
 split
 ·exact .inl rfl
 ·exact .inr ⟨_,rfl⟩
theorem qHA{a:List qB5}(h:qCz a=true):a.length≤12:=by
 have:=foldE_fin (gRoute_or a) a.length 0 h
 simp only[decide_eq_true_eq] at this
 omega
theorem qIn{a:List qB5}(hl:a.length≤1048576)(h:qCz a=true):a.Pairwise (fun x y=>qAh x.1.1 x.1.2 y.1.1 y.1.2=true):=by
 have hall:=foldE_all (gRoute_or a) a.length 0 h
 have step:∀i (hi:i+1<a.length),qAh a[i].1.1 a[i].1.2 a[i+1].1.1 a[i+1].1.2=true:=fun i hi=>by
  have:=hall (i+1) (by omega) (by omega)
  unfold qHV at this
  have w1:wi64 (((i+1:Nat):Int)-1)=(i:Int):=(qAH _ (by omega)).trans (by omega)
  dsimp only at this
  rw[w1] at this
  split at this
  ·rename_i hc
   simp only[Bool.and_eq_true,Bool.or_eq_true] at hc
   have hc:=hc.2.2
   have hp:(0:Int)<((i+1:Nat):Int):=by omega
   simp only[hp,decide_true,Bool.not_true,Bool.false_eq_true,false_or] at hc
   have e1:Ty.rd (t:=qAT) a ((i:Nat):Int)=a[i]:=by
    show a.getD i _=_
    rw[List.getD_eq_getElem?_getD,List.getElem?_eq_getElem (by omega)];rfl
   have e2:Ty.rd (t:=qAT) a ((i+1:Nat):Int)=a[i+1]:=by
    show a.getD (i+1) _=_
    rw[List.getD_eq_getElem?_getD,List.getElem?_eq_getElem (by omega)];rfl
   rw[e1,e2] at hc
   exact hc
  ·cases this
 rw[List.pairwise_iff_getElem]
 intro i j hi hj hij
 induction j with
 | zero=>omega
 | succ j ih =>
  by_cases e:i=j
  ·subst e;exact step i hj
  ·exact qHw (ih (by omega) (by omega)) (step j hj)
def putL(L:List qB5)(p n c:Int):List qB5:=L.filter (fun x=>qAh x.1.1 x.1.2 p n)++[((p,n),c)]++L.filter (fun x=>qAh p n x.1.1 x.1.2)
def putB(L:List qB5)(p n c:Int):List qB5×Bool:=if qCz L=true∧qCz (putL L p n c)=true then(putL L p n c,true) else(L,false)
theorem putL_len(L:List qB5)(p n c:Int):(putL L p n c).length≤2*L.length+1:=by
 unfold putL
 have h1:=List.length_filter_le (fun x:qB5=>qAh x.1.1 x.1.2 p n) L
 have h2:=List.length_filter_le (fun x:qB5=>qAh p n x.1.1 x.1.2) L
 simp only[List.length_append,List.length_cons,List.length_nil]
 omega
theorem qIo(k:Nat)(a:List qB5)(p n:Int)(hk:1048576<k)(hl:a.length≤1048576):qCK k (a,((p,(n,())),()))=some (a.filter (fun x=>!decide (x.1.1=p∧x.1.2=n)),((),((),()))):=by
 unfold qCK
 simp only[qC0 k a hl,Option.bind_some,delWout_is k a p n hk hl]
theorem i_PutRoute_is(k:Nat)(a:List qB5)(p n c:Int)(hk:1048576<k)(hl:a.length≤1048576):qE4 k (a,((p,(n,(c,()))),()))=some (((putB a p n c).1,((putB a p n c).2,())),((),((),()))):=by
 unfold qE4
 simp only[qIo k a p n hk (by omega),Option.bind_some,jn]
 generalize hW:a.filter (fun x=>!decide (x.1.1=p∧x.1.2=n))=W
 have hWl:W.length≤a.length:=by rw[←hW];exact List.length_filter_le _ _
 refine Eq.trans (loop_span (A:=qB5) W (fun x=>qAh x.1.1 x.1.2 p n) (fun i=>(a,((p,(n,(c,()))),(W,((i:Int),()))))) (fun i=>(qAb k (W,(((i:Nat):Int),([((p,n),c)],())))).bind fun p3=>(qCW k (a,())).bind fun p4=>if(!p4.1)=false then(qCW k (p3.1,())).bind fun p5=>(if(!p5.1)=true then(qBF k (a,())).bind fun p6=>some ((p6.1,(false,())),((),((),()))) else some ((p3.1,(true,())),((),((),())))) else(qBF k (a,())).bind fun p7=>some ((p7.1,(false,())),((),((),())))) ?_ ?_ k (by omega)) ?_
 ·intro again i x hi hx
  have w:wi64 ((i:Int)+1)=((i+1:Nat):Int):=(qAH _ (by omega)).trans (by omega)
  have p1:(i:Int)<(W.length:Int):=by omega
  have p2:0≤(i:Int):=by omega
  obtain⟨⟨x1,x2⟩,x3⟩:=x
  obtain⟨cc,hc1,hc2⟩:=qEe k x1 x2 p n (by omega)
  simp only[Ty.rd,Int.toNat_natCast,qA9 hx,p1,p2,w,hc1,decide_true,and_self,if_true,Option.bind_some]
  by_cases q:qAh x1 x2 p n=true
  ·have:cc<0:=by
    refine Int.not_le.1 fun h=>?_
    rw[hc2.1 h] at q
    cases q
   simp only[this,q,decide_true,if_true]
  ·have:¬cc<0:=by
    have:=hc2.2 (by simpa using q)
    omega
   simp only[this,q,decide_false,Bool.false_eq_true,if_false]
 ·intro again
  have:¬(W.length:Int)<(W.length:Int):=by omega
  simp only[this,decide_false,Bool.false_eq_true,if_false]
 ·have hT:(W.takeWhile (fun x=>qAh x.1.1 x.1.2 p n)).length≤W.length:=by
   have:=congrArg List.length (List.takeWhile_append_dropWhile (p:=fun x:qB5=>qAh x.1.1 x.1.2 p n) (l:=W))
   rw[List.length_append] at this
   omega
  have hins:qAb k (W,((((W.takeWhile (fun x=>qAh x.1.1 x.1.2 p n)).length:Nat):Int),([((p,n),c)],())))=some (W.takeWhile (fun x=>qAh x.1.1 x.1.2 p n)++[((p,n),c)]++W.dropWhile (fun x=>qAh x.1.1 x.1.2 p n),((),((),((),())))):=by
   unfold qAb insF
   have e:=List.takeWhile_append_dropWhile (p:=fun x:qB5=>qAh x.1.1 x.1.2 p n) (l:=W)
   have e1:W.take (W.takeWhile (fun x=>qAh x.1.1 x.1.2 p n)).length=W.takeWhile (fun x=>qAh x.1.1 x.1.2 p n):=by
    conv=>lhs;arg 2;rw[←e]
    rw[List.take_left]
   have e2:W.drop (W.takeWhile (fun x=>qAh x.1.1 x.1.2 p n)).length=W.dropWhile (fun x=>qAh x.1.1 x.1.2 p n):=by
    conv=>lhs;arg 2;rw[←e]
    rw[List.drop_left]
   rw[if_pos (by simp only[List.length_cons,List.length_nil];omega)]
   simp only[Int.toNat_natCast,e1,e2]
  simp only[hins,Option.bind_some,qFe k a hk (by omega),qC0 k a (show a.length≤1048576 by omega)]
  unfold putB
  cases hr:qCz a with
  | false=>simp
  | true =>
   obtain⟨s1,s2⟩:=put_split p n a (qIn (by omega) hr)
   rw[hW] at s1 s2
   have hp:W.takeWhile (fun x=>qAh x.1.1 x.1.2 p n)++[((p,n),c)]++W.dropWhile (fun x=>qAh x.1.1 x.1.2 p n)=putL a p n c:=by rw[s1,s2];rfl
   have hpl:=putL_len a p n c
   have h12:=qHA hr
   simp only[hp,qFe k (putL a p n c) hk (by omega),Option.bind_some]
   cases qCz (putL a p n c) <;> simp
theorem loop_pick1{X R A:Type}{step:(X→Option R)→X→Option R}(a:List A)(D:A→Bool)(st:Nat→List A→X)(r:Option R)(hs:∀again i out x,out.length≤i→i<a.length→a[i]?=some x→step again (st i out)=again (st (i+1) (if D x=true then out++[x] else out)))(he:∀again,step again (st a.length (a.filter D))=r):∀k,a.length<k→qAG step k (st 0 [])=r:=by
 have key:∀(s p:List A) k,p++s=a→s.length<k→qAG step k (st p.length (p.filter D))=r:=by
  intro s
  induction s with
  | nil =>
   intro p k h hk
   obtain⟨k,rfl⟩:∃k',k=k'+1:=⟨k-1,by omega⟩
   have:p=a:=by simpa using h
   subst this
   exact he _
  | cons x s ih =>
   intro p k h hk
   obtain⟨k,rfl⟩:∃k',k=k'+1:=⟨k-1,by omega⟩
   show step _ _=_
   subst h
   rw[hs _ _ _ x (List.length_filter_le _ _) (by simp) (by simp)]
   have:=ih (p++[x]) k (by simp) (by simpa using hk)
   rw[List.filter_append] at this
   have e:p.filter D++[x].filter D=if D x=true then p.filter D++[x] else p.filter D:=by
    by_cases d:D x=true
    ·simp[d]
    ·simp[d]
   rw[e] at this
   simpa using this
 intro k hk
 exact key a [] k (by simp) hk
theorem qIp(k:Nat)(a:List qB5)(p n c:Int)(hk:1048576<k)(hl:a.length≤1048576):qDC k (a,((p,(n,(c,()))),()))=some (((putB a p n c).1,((putB a p n c).2,())),((),((),()))):=by
 unfold qDC
 have hcap:capMax=274877906944:=rfl
 have f1:(a.filter (fun x=>qAh x.1.1 x.1.2 p n)).length≤a.length:=List.length_filter_le _ _
 have f2:(a.filter (fun x=>qAh p n x.1.1 x.1.2)).length≤a.length:=List.length_filter_le _ _
 refine loop_pick1 (A:=qB5) a (fun x=>qAh x.1.1 x.1.2 p n) (fun i out=>(a,((p,(n,(c,()))),(out,((i:Int),()))))) _ ?_ ?_ k (by omega)
 ·intro again i out x ho hi hx
  have w:wi64 ((i:Int)+1)=((i+1:Nat):Int):=(qAH _ (by omega)).trans (by omega)
  have p1:(i:Int)<(a.length:Int):=by omega
  have p2:0≤(i:Int):=by omega
  have c3:out.length+1≤capMax:=by omega
  obtain⟨⟨x1,x2⟩,x3⟩:=x
  simp only[Ty.rd,Int.toNat_natCast,qA9 hx,p1,p2,w,c3,Ahead_is,List.length_nil,List.length_cons,decide_true,and_self,if_true,Option.bind_some,Nat.zero_add]
  cases qAh x1 x2 p n <;> simp
 ·intro again
  have:¬(a.length:Int)<(a.length:Int):=by omega
  have c1:(a.filter (fun x=>qAh x.1.1 x.1.2 p n)).length+1≤capMax:=by omega
  simp only[this,decide_false,Bool.false_eq_true,if_false,List.length_nil,List.length_cons,Nat.zero_add,c1,if_true]
  generalize hA:a.filter (fun x=>qAh x.1.1 x.1.2 p n)++[((p,n),c)]=acc
  have hal:acc.length≤1048577:=by rw[←hA];simp only[List.length_append,List.length_cons,List.length_nil];omega
  refine Eq.trans (congrArg (fun q=>qAG _ k (a,((p,(n,(c,()))),(q,((0:Int),()))))) (List.append_nil acc).symm) (loop_pick1 (A:=qB5) a (fun x=>qAh p n x.1.1 x.1.2) (fun i out=>(a,((p,(n,(c,()))),(acc++out,((i:Int),()))))) (some (((putB a p n c).1,((putB a p n c).2,())),((),((),())))) ?_ ?_ k (by omega))
  ·intro again i out x ho hi hx
   have w:wi64 ((i:Int)+1)=((i+1:Nat):Int):=(qAH _ (by omega)).trans (by omega)
   have p1:(i:Int)<(a.length:Int):=by omega
   have p2:0≤(i:Int):=by omega
   have c3:(acc++out).length+1≤capMax:=by rw[List.length_append];omega
   obtain⟨⟨x1,x2⟩,x3⟩:=x
   simp only[Ty.rd,Int.toNat_natCast,qA9 hx,p1,p2,w,c3,Ahead_is,List.length_nil,List.length_cons,decide_true,and_self,if_true,Option.bind_some,Nat.zero_add]
   cases qAh p n x1 x2 <;> simp
  ·intro again
   have hP:acc++a.filter (fun x=>qAh p n x.1.1 x.1.2)=putL a p n c:=by rw[←hA];rfl
   have c2:0+a.length≤capMax:=by omega
   simp only[‹¬(a.length:Int)<(a.length:Int)›,decide_false,Bool.false_eq_true,if_false,hP,qIl k a hk hl,Option.bind_some,c2,List.length_nil,if_true,List.nil_append]
   unfold putB
   cases hr:qCz a with
   | false =>
    simp
    omega
   | true =>
    have hpl:=putL_len a p n c
    have h12:=qHA hr
    simp only[qIl k (putL a p n c) hk (by omega),Option.bind_some]
    cases qCz (putL a p n c)
    ·simp
     omega
    ·simp
theorem bd_putB{a:List qB5}(p n c:Int)(hb:qEM a):qEM (putB a p n c).1:=by
 unfold putB
 split
 ·rename_i h
  exact⟨show(putL a p n c).length≤1048576 by have:=qHA h.2;omega,fun r _=>trivial⟩
 ·exact hb
def netB(x:HubA)(f p n:Int):HubA×Bool:=if atB x.2.2.2.2.2.1 f<0∨(putB x.2.2.2.2.1 p n f).2=false then(x,false) else((x.1,(x.2.1,(x.2.2.1,(x.2.2.2.1,((putB x.2.2.2.2.1 p n f).1,(x.2.2.2.2.2.1,())))))),true)
theorem bd_netB{x:HubA}(f p n:Int)(hb:qCU x):qCU (netB x f p n).1:=by
 obtain⟨a0,a1,a2,a3,a4,a5,⟨⟩⟩:=x
 obtain⟨h1,h2,h3⟩:=qBC hb
 unfold netB
 split
 ·exact hb
 ·exact bd_hubOf h1.1 h1.2.1 (bd_putB p n f h2) h3
def encnP(t:Ty)(xs:List t.den)(n:Nat):List (t.nmd.den×t.den):=xs.mapIdx fun i x=>(t.enc x (n+i*t.w+1),x)
theorem encnP_fst(t:Ty)(xs:List t.den)(n:Nat):(encnP t xs n).map Prod.fst=t.encn xs n:=by
 apply List.ext_getElem?
 intro i
 simp only[encnP,Ty.encn,List.getElem?_map,List.getElem?_mapIdx]
 cases xs[i]? <;> rfl
theorem encnP_snd(t:Ty)(xs:List t.den)(n:Nat):(encnP t xs n).map Prod.snd=xs:=by
 apply List.ext_getElem?
 intro i
 simp only[encnP,List.getElem?_map,List.getElem?_mapIdx]
 cases xs[i]? <;> rfl
theorem lookn_lt{t:Ty}{xs:List t.den}{m:Nat}{o:OL}(h:t.lookn xs m=some o):m<xs.length*t.w:=by
 unfold Ty.lookn at h
 split at h
 case h_2=>cases h
 rename_i x hx
 have h1:=getO_lt h
 have h2:=(List.getElem?_eq_some_iff.1 hx).1
 exact(Nat.div_lt_iff_lt_mul (by omega)).1 h2
theorem lookn_at{t:Ty}{xs:List t.den}{i off:Nat}{x:t.den}{o:OL}(hx:xs[i]?=some x)(h:t.getO x off=some o):t.lookn xs (i*t.w+off)=some o:=by
 have hlt:=getO_lt h
 have e1:(i*t.w+off) / t.w=i:=by rw[Nat.mul_comm,Nat.mul_add_div (by omega),Nat.div_eq_of_lt hlt,Nat.add_zero]
 have e2:(i*t.w+off) % t.w=off:=by rw[Nat.mul_comm,Nat.mul_add_mod,Nat.mod_eq_of_lt hlt]
 simp only[Ty.lookn,e1,e2,hx,h]
theorem encnP_dec{t:Ty}{xs:List t.den}{n:Nat}{lk:Nat→Option OL}(hlk:∀m o,t.lookn xs m=some o→lk (n+m+1)=some o){y:t.nmd.den×t.den}(h:y∈encnP t xs n):t.dec lk y.1=some y.2:=by
 obtain⟨i,hi⟩:=List.getElem?_of_mem h
 unfold encnP at hi
 rw[List.getElem?_mapIdx] at hi
 cases hx:xs[i]? with
 | none=>rw[hx] at hi;cases hi
 | some x =>
  rw[hx] at hi
  injection hi with hi
  subst hi
  refine dec_enc (by omega) fun off o ho=>?_
  have:=hlk _ o (lookn_at hx ho)
  rw[←this]
  congr 1
  omega
theorem encn_nms(t:Ty)(xs:List t.den)(n:Nat):((t.encn xs n).flatMap t.nms).Pairwise (· < ·)∧∀m∈(t.encn xs n).flatMap t.nms,n+1≤m∧m<n+1+xs.length*t.w:=by
 unfold Ty.encn
 induction xs generalizing n with
 | nil=>simp
 | cons x xs ih =>
  rw[List.mapIdx_cons,List.flatMap_cons]
  have e:(xs.mapIdx fun i x=>t.enc x (n+(i+1)*t.w+1))=xs.mapIdx fun i x=>t.enc x ((n+t.w)+i*t.w+1):=by
   congr 1
   funext i x
   rw[show n+(i+1)*t.w+1=(n+t.w)+i*t.w+1 by rw[Nat.add_mul,Nat.one_mul];omega]
  rw[e]
  obtain⟨h1,h2⟩:=ih (n+t.w)
  obtain⟨h3,h4⟩:=nms_enc (t:=t) (x:=x) (n:=n+0*t.w+1) (by omega)
  simp only[Nat.zero_mul,Nat.add_zero] at h3 h4 ⊢
  have hw:(xs.length+1)*t.w=xs.length*t.w+t.w:=by rw[Nat.add_mul,Nat.one_mul]
  refine⟨List.pairwise_append.2 ⟨h3,h1,fun p hp q hq=>?_⟩,fun m hm=>?_⟩
  ·have:=h4 p hp
   have:=h2 q hq
   omega
  ·simp only[List.length_cons]
   rw[hw]
   rcases List.mem_append.1 hm with hm | hm
   ·have:=h4 m hm;omega
   ·have:=h2 m hm;omega
theorem namesF_some{p q:Pat}{G:p.nmd.den→Option (q.nmd.den×p.nmd.out)}{x:p.den}{y:q.nmd.den}{o:p.nmd.out}{y':q.den}{o':p.out}(hG:G (p.enc x 0)=some (y,o))(h1:q.dec (lookS (p.lookP x)) y=some y')(h2:p.decO (lookS (p.lookP x)) o=some o')(hn:(q.nms y++p.nmsO o).Nodup) :
  namesF p q G x=some (y',o'):=by
 unfold namesF
 simp only[hG,h1,h2,hn,if_true]
theorem qBv{t:Ty}(xs:List t.den)(i:Nat)(h:i<xs.length):Ty.rd (t:=t) xs (i:Int)=xs[i]:=by
 rw[rd_get (t:=t) xs _ (by simpa using h)]
 simp
def foldL{A B R:Type}(g:A→B→R ⊕ B)(fin:B→Option R):List A→B→Option R
 | [],b=>fin b
 | x::xs,b=>match g x b with
  | .inl r=>some r
  | .inr b'=>foldL g fin xs b'
theorem qGh{X R A B:Type}{step:(X→Option R)→X→Option R}(L:List A)(st:Nat→B→X)(g:A→B→R ⊕ B)(fin:B→Option R)(I:Nat→B→Prop)(hs:∀again i (h:i<L.length) b,I i b→step again (st i b)=match g L[i] b with | .inl r=>some r | .inr b'=>again (st (i+1) b'))(hI:∀i (h:i<L.length) b b',I i b→g L[i] b=.inr b'→I (i+1) b')(he:∀again b,I L.length b→step again (st L.length b)=fin b)(k:Nat)(hk:L.length<k)(b:B)(hb:I 0 b) :
  qAG step k (st 0 b)=foldL g fin L b:=by
 have key:∀m i kk b,i+m=L.length→m<kk→I i b→qAG step kk (st i b)=foldL g fin (L.drop i) b:=by
  intro m
  induction m with
  | zero =>
   intro i kk b h hkk hb
   obtain⟨kk,rfl⟩:∃k',kk=k'+1:=⟨kk-1,by omega⟩
   have:i=L.length:=by omega
   subst this
   rw[List.drop_length]
   exact he _ b hb
  | succ m ih =>
   intro i kk b h hkk hb
   obtain⟨kk,rfl⟩:∃k',kk=k'+1:=⟨kk-1,by omega⟩
   have hi:i<L.length:=by omega
   show step _ _=_
   rw[hs _ i hi b hb,List.drop_eq_getElem_cons hi]
   unfold foldL
   cases hq:g L[i] b with
   | inl r=>rfl
   | inr b'=>exact ih (i+1) kk b' (by omega) (by omega) (hI i hi b b' hb hq)
 have:=key L.length 0 k b (by omega) hk hb
 rwa [List.drop_zero] at this
theorem qHB{A R:Type}(keep:A→Bool)(fin:List A→Option R)(L acc:List A):foldL (fun x lst=>.inr (if keep x=true then lst++[x] else lst)) fin L acc=fin (acc++L.filter keep):=by
 induction L generalizing acc with
 | nil=>simp[foldL]
 | cons x L ih =>
  unfold foldL
  dsimp only
  rw[ih]
  cases hk:keep x <;> simp[hk]
theorem find_loopM{X R:Type}{step:(X→Option R)→X→Option R}(st:Nat→X)(n:Nat)(p:Nat→Bool)(hit:Nat→R)(miss:Option R)(hs:∀again i,i<n→step again (st i)=if p i=true then some (hit i) else again (st (i+1)))(he:∀again,step again (st n)=miss)(k:Nat)(hk:n<k) :
  qAG step k (st 0)=match (List.range n).find? p with | some i=>some (hit i) | none=>miss:=by
 have key:∀m i k,i+m=n→m<k→qAG step k (st i)=match (List.range' i m).find? p with | some i=>some (hit i) | none=>miss:=by
  intro m
  induction m with
  | zero =>
   intro i k h hk
   obtain⟨k,rfl⟩:∃k',k=k'+1:=⟨k-1,by omega⟩
   have:i=n:=by omega
   subst this
   exact he _
  | succ m ih =>
   intro i k h hk
   obtain⟨k,rfl⟩:∃k',k=k'+1:=⟨k-1,by omega⟩
   show step _ _=_
   rw[hs _ i (by omega),List.range'_succ,List.find?_cons]
   cases hp:p i with
   | true=>simp
   | false=>simp only[Bool.false_eq_true,if_false];exact ih (i+1) k (by omega) (by omega)
 rw[List.range_eq_range']
 exact key n 0 k (by omega) hk
theorem qCo{X R:Type}{step:(X→Option R)→X→Option R}{k:Nat}(hk:0<k)(x:X):qAG step k x=step (qAG step (k-1)) x:=by
 obtain⟨j,rfl⟩:∃j,k=j+1:=⟨k-1,by omega⟩
 rfl
def qEn(q:List qAC.den)(a:Int):Int:=match (List.range q.length).find? (fun j=>decide ((Ty.rd (t:=qAC) q (j:Nat)).1=a)) with | some j=>(Ty.rd (t:=qAC) q (j:Nat)).2.1 | none=>0
theorem i_HolderOf_is(k:Nat)(x:qBn)(a:Int)(hk:1048576<k)(hl:x.2.2.1.length≤1048576):qDu k (x,(a,()))=some (qEn x.2.2.1 a,((),((),()))):=by
 unfold qDu qEn
 refine(qBq (R:=Int×Unit×Unit×Unit) (fun j=>(a,(x.2.2.1,((x.2.2.1.length:Int),(((j:Nat):Int),()))))) x.2.2.1.length (fun j=>decide ((Ty.rd (t:=qAC) x.2.2.1 (j:Nat)).1=a)) (fun j=>((Ty.rd (t:=qAC) x.2.2.1 (j:Nat)).2.1,((),((),())))) (0,((),((),()))) ?_ ?_ k (by omega)).trans ?_
 ·intro ag j hj
  have q1:(0:Int)≤(j:Int)∧(j:Int)<(x.2.2.1.length:Int):=by omega
  have w3:wi64 ((j:Int)+1)=((j+1:Nat):Int):=(qAH _ (by omega)).trans (by omega)
  simp only[q1,w3,and_self,decide_true,if_true]
 ·intro ag
  simp only[Int.lt_irrefl,decide_false,Bool.false_eq_true,if_false]
 ·cases (List.range x.2.2.1.length).find? (fun j=>decide ((Ty.rd (t:=qAC) x.2.2.1 (j:Nat)).1=a)) <;> rfl
theorem qFi(k:Nat)(x:qBn)(a:Int)(hk:1048576<k)(hl:x.2.2.1.length≤1048576):qCm k (x,(a,()))=some (qEn x.2.2.1 a,((),((),()))):=by
 unfold qCm qEn
 refine(qBq (R:=Int×Unit×Unit×Unit) (fun j=>(a,(x,(((j:Nat):Int),())))) x.2.2.1.length (fun j=>decide ((Ty.rd (t:=qAC) x.2.2.1 (j:Nat)).1=a)) (fun j=>((Ty.rd (t:=qAC) x.2.2.1 (j:Nat)).2.1,((),((),())))) (0,((),((),()))) ?_ ?_ k (by omega)).trans ?_
 ·intro ag j hj
  have q1:(0:Int)≤(j:Int)∧(j:Int)<(x.2.2.1.length:Int):=by omega
  have w3:wi64 ((j:Int)+1)=((j+1:Nat):Int):=(qAH _ (by omega)).trans (by omega)
  simp only[q1,w3,and_self,decide_true,if_true]
 ·intro ag
  simp only[Int.lt_irrefl,decide_false,Bool.false_eq_true,if_false]
 ·cases (List.range x.2.2.1.length).find? (fun j=>decide ((Ty.rd (t:=qAC) x.2.2.1 (j:Nat)).1=a)) <;> rfl
abbrev qAm:=Int×Int×Int
/-- How many hosts a net has. -/
def hostN(n:Int):Nat:=2^(32-n.toNat)-2
theorem qIq{n:Int}(h:24≤n∧n≤30):∃M:Nat,(2:Int)^(32-n.toNat)=(M:Int)∧hostN n=M-2∧(M=4∨M=8∨M=16∨M=32∨M=64∨M=128∨M=256):=by
 have:n=24∨n=25∨n=26∨n=27∨n=28∨n=29∨n=30:=by omega
 rcases this with rfl | rfl | rfl | rfl | rfl | rfl | rfl
 ·exact⟨256,rfl,rfl,by omega⟩
 ·exact⟨128,rfl,rfl,by omega⟩
 ·exact⟨64,rfl,rfl,by omega⟩
 ·exact⟨32,rfl,rfl,by omega⟩
 ·exact⟨16,rfl,rfl,by omega⟩
 ·exact⟨8,rfl,rfl,by omega⟩
 ·exact⟨4,rfl,rfl,by omega⟩
theorem host_in{p n:Int}(h:24≤n∧n≤30)(hp:prefB p n=true)(j:Nat)(hj:j<hostN n):qEl p n (p+1+(j:Int))=true:=by
 obtain⟨M,h1,h2,h3⟩:=qIq h
 unfold prefB at hp
 unfold qEl inB
 rw[h1] at hp ⊢
 simp only[decide_eq_true_eq] at hp
 simp only[Bool.and_eq_true,Bool.not_eq_true',decide_eq_true_eq,decide_eq_false_iff_not]
 rw[h2] at hj
 rcases h3 with rfl | rfl | rfl | rfl | rfl | rfl | rfl <;> omega
theorem host_end{p n:Int}(h:24≤n∧n≤30):qEl p n (p+1+(hostN n:Int))=false:=by
 obtain⟨M,h1,h2,h3⟩:=qIq h
 unfold qEl
 rw[h1,h2]
 have:p+1+((M-2:Nat):Int)=p+((M:Int)-1):=by omega
 rw[this]
 simp
theorem host_gt{p n a:Int}(h:24≤n∧n≤30)(hh:qEl p n a=true):p<a∧0≤p:=by
 obtain⟨M,h1,h2,h3⟩:=qIq h
 unfold qEl inB at hh
 rw[h1] at hh
 simp only[Bool.and_eq_true,Bool.not_eq_true',decide_eq_true_eq,decide_eq_false_iff_not] at hh
 rcases h3 with rfl | rfl | rfl | rfl | rfl | rfl | rfl <;> omega
def fixW(q:List qAQ.den)(w:Int):Option Nat:=(List.range q.length).find? (fun j=>decide ((Ty.rd (t:=qAQ) q (j:Nat)).1=w))
def freeJ(x:qBn):Option Nat:=(List.range (hostN x.2.1)).find? (fun j=>decide (qEn x.2.2.1 (x.1+1+(j:Int))=0)&&decide (qBo x.2.2.2.1 (x.1+1+(j:Int))=0))
/-- The address that one may have, who has none yet. -/
def addrO(x:qBn)(w:Int):Option Int:=match fixW x.2.2.2.1 w with
 | some j=>some (Ty.rd (t:=qAQ) x.2.2.2.1 (j:Nat)).2
 | none=>match freeJ x with
  | some j=>some (x.1+1+(j:Int))
  | none=>none
def addrD(x:qBn)(w d:Int):Int:=match addrO x w with | some a=>a | none=>d
theorem hostN_le{n:Int}(h:24≤n∧n≤30):hostN n≤254:=by
 obtain⟨M,h1,h2,h3⟩:=qIq h
 omega
theorem prefB_le{p n:Int}(hp:prefB p n=true):0≤p∧p≤4294967295:=by
 unfold prefB at hp
 simp only[decide_eq_true_eq] at hp
 exact hp.1
theorem i_addrFor_is(k:Nat)(x:qBn)(w:Int)(hk:1048576<k)(hl:x.2.2.1.length≤1048576)(hl':x.2.2.2.1.length≤1048576)(hn:24≤x.2.1∧x.2.1≤30)(hp:prefB x.1 x.2.1=true) :
  qGV k (x,(w,()))=some (addrD x w (-1),((),((),()))):=by
 have hN:=hostN_le hn
 have hp4:=prefB_le hp
 unfold qGV
 refine(find_loopM (R:=Int×Unit×Unit×Unit) (fun j=>(w,(x,(x.2.2.2.1,((x.2.2.2.1.length:Int),(((j:Nat):Int),())))))) x.2.2.2.1.length (fun j=>decide ((Ty.rd (t:=qAQ) x.2.2.2.1 (j:Nat)).1=w)) (fun j=>((Ty.rd (t:=qAQ) x.2.2.2.1 (j:Nat)).2,((),((),()))))
  (some (match freeJ x with | some j=>(x.1+1+(j:Int),((),((),()))) | none=>(-1,((),((),()))))) (fun ag j hj=>?_) (fun ag=>?_) k (by omega)).trans ?_
 ·have q1:(0:Int)≤(j:Int)∧(j:Int)<(x.2.2.2.1.length:Int):=by omega
  have w3:wi64 ((j:Int)+1)=((j+1:Nat):Int):=(qAH _ (by omega)).trans (by omega)
  simp only[q1,w3,and_self,decide_true,if_true]
 ·have w0:wi64 (x.1+1)=x.1+1+((0:Nat):Int):=(qAH _ (by omega)).trans (by omega)
  simp only[Int.lt_irrefl,decide_false,Bool.false_eq_true,if_false,w0]
  refine(qBq (R:=Int×Unit×Unit×Unit) (fun j=>(x,(x.1+1+((j:Nat):Int),()))) (hostN x.2.1) (fun j=>decide (qEn x.2.2.1 (x.1+1+(j:Int))=0)&&decide (qBo x.2.2.2.1 (x.1+1+(j:Int))=0)) (fun j=>(x.1+1+(j:Int),((),((),())))) (-1,((),((),()))) (fun ag j hj=>?_) (fun ag=>?_) k (by omega))
  ·have w3:wi64 (x.1+1+(j:Int)+1)=x.1+1+((j+1:Nat):Int):=(qAH _ (by omega)).trans (by omega)
   have e1:=qIm k x.1 x.2.1 (x.1+1+(j:Int))
   have e2:=i_HolderOf_is k x (x.1+1+(j:Int)) hk hl
   have e3:=qHu k x (x.1+1+(j:Int)) hk hl'
   rw[host_in hn hp j hj] at e1
   simp only[e1,Option.bind_some,if_true]
   have e2:qDu k ((x.1,(x.2.1,(x.2.2.1,(x.2.2.2.1,())))),(x.1+1+(j:Int),()))=some (qEn x.2.2.1 (x.1+1+(j:Int)),((),((),()))):=e2
   have e3:qB8 k ((x.1,(x.2.1,(x.2.2.1,(x.2.2.2.1,())))),(x.1+1+(j:Int),()))=some (qBo x.2.2.2.1 (x.1+1+(j:Int)),((),((),()))):=e3
   simp only[e2,e3,Option.bind_some,w3]
   by_cases c1:qEn x.2.2.1 (x.1+1+(j:Int))=0
   ·by_cases c2:qBo x.2.2.2.1 (x.1+1+(j:Int))=0
    ·simp[c1,c2]
    ·simp[c1,c2]
   ·simp[c1]
  ·have e1:=qIm k x.1 x.2.1 (x.1+1+(hostN x.2.1:Int))
   rw[host_end hn] at e1
   simp only[e1,Option.bind_some,Bool.false_eq_true,if_false]
 ·unfold addrD addrO fixW
  cases (List.range x.2.2.2.1.length).find? (fun j=>decide ((Ty.rd (t:=qAQ) x.2.2.2.1 (j:Nat)).1=w)) with
  | some j=>rfl
  | none=>cases freeJ x <;> rfl
theorem s_l11Free_is(k:Nat)(x:qBn)(w:Int)(hk:1048576<k)(hl:x.2.2.1.length≤1048576)(hl':x.2.2.2.1.length≤1048576)(hn:24≤x.2.1∧x.2.1≤30)(hp:prefB x.1 x.2.1=true) :
  qGH k (x,(w,()))=some (addrD x w 0,((),((),()))):=by
 have hN:=hostN_le hn
 have hp4:=prefB_le hp
 unfold qGH
 refine(find_loopM (R:=Int×Unit×Unit×Unit) (fun j=>(w,(x,(((j:Nat):Int),())))) x.2.2.2.1.length (fun j=>decide ((Ty.rd (t:=qAQ) x.2.2.2.1 (j:Nat)).1=w)) (fun j=>((Ty.rd (t:=qAQ) x.2.2.2.1 (j:Nat)).2,((),((),()))))
  (some (match freeJ x with | some j=>(x.1+1+(j:Int),((),((),()))) | none=>(0,((),((),()))))) (fun ag j hj=>?_) (fun ag=>?_) k (by omega)).trans ?_
 ·have q1:(0:Int)≤(j:Int)∧(j:Int)<(x.2.2.2.1.length:Int):=by omega
  have w3:wi64 ((j:Int)+1)=((j+1:Nat):Int):=(qAH _ (by omega)).trans (by omega)
  simp only[q1,w3,and_self,decide_true,if_true]
 ·have w0:wi64 (x.1+1)=x.1+1+((0:Nat):Int):=(qAH _ (by omega)).trans (by omega)
  simp only[Int.lt_irrefl,decide_false,Bool.false_eq_true,if_false,w0]
  obtain⟨M,m1,m2,m3⟩:=qIq hn
  have es:=qFA k x.2.1 (by omega) (by omega)
  rw[m1] at es
  have w4:wi64 (x.1+(M:Int))=x.1+M:=qAH _ (by omega)
  have w5:wi64 (x.1+(M:Int)-1)=x.1+M-1:=qAH _ (by omega)
  refine(qBq (R:=Int×Unit×Unit×Unit) (fun j=>(x,(x.1+1+((j:Nat):Int),()))) (hostN x.2.1) (fun j=>decide (qEn x.2.2.1 (x.1+1+(j:Int))=0)&&decide (qBo x.2.2.2.1 (x.1+1+(j:Int))=0)) (fun j=>(x.1+1+(j:Int),((),((),())))) (0,((),((),()))) (fun ag j hj=>?_) (fun ag=>?_) k (by omega))
  ·have w3:wi64 (x.1+1+(j:Int)+1)=x.1+1+((j+1:Nat):Int):=(qAH _ (by omega)).trans (by omega)
   have g1:x.1+1+(j:Int)<x.1+M-1:=by omega
   have e2:=qFi k x (x.1+1+(j:Int)) hk hl
   have e3:=qEm k x (x.1+1+(j:Int)) hk hl'
   have e2:qCm k ((x.1,(x.2.1,(x.2.2.1,(x.2.2.2.1,())))),(x.1+1+(j:Int),()))=some (qEn x.2.2.1 (x.1+1+(j:Int)),((),((),()))):=e2
   have e3:qBZ k ((x.1,(x.2.1,(x.2.2.1,(x.2.2.2.1,())))),(x.1+1+(j:Int),()))=some (qBo x.2.2.2.1 (x.1+1+(j:Int)),((),((),()))):=e3
   simp only[es,w4,w5,g1,e2,e3,Option.bind_some,w3,decide_true,if_true]
   by_cases c1:qEn x.2.2.1 (x.1+1+(j:Int))=0
   ·by_cases c2:qBo x.2.2.2.1 (x.1+1+(j:Int))=0
    ·simp[c1,c2]
    ·simp[c1,c2]
   ·simp[c1]
  ·have g1:¬x.1+1+(hostN x.2.1:Int)<x.1+M-1:=by omega
   simp only[es,w4,w5,g1,Option.bind_some,decide_false,Bool.false_eq_true,if_false]
 ·unfold addrD addrO fixW
  cases (List.range x.2.2.2.1.length).find? (fun j=>decide ((Ty.rd (t:=qAQ) x.2.2.2.1 (j:Nat)).1=w)) with
  | some j=>rfl
  | none=>cases freeJ x <;> rfl
theorem qIr{x:qBn}(h:qC1 x=true):prefB x.1 x.2.1=true∧(24≤x.2.1∧x.2.1≤30)∧x.2.2.1.length≤6∧x.2.2.2.1.length≤4:=by
 unfold qC1 at h
 simp only[Bool.and_eq_true,decide_eq_true_eq] at h
 exact⟨h.1,h.2.1,h.2.2.1,h.2.2.2.1⟩
theorem qHC{x:qBn}(h:qC1 x=true)(i:Nat)(hi:i<x.2.2.1.length):(∀h0:0<i,(x.2.2.1[i-1]'(by omega)).1<x.2.2.1[i].1)∧qEl x.1 x.2.1 x.2.2.1[i].1=true∧(1≤x.2.2.1[i].2.1∧x.2.2.1[i].2.1≤99)∧(qBo x.2.2.2.1 x.2.2.1[i].1=0∨qBo x.2.2.2.1 x.2.2.1[i].1=x.2.2.1[i].2.1):=by
 have hl:=(qIr h).2.2.1
 unfold qC1 at h
 simp only[Bool.and_eq_true,List.all_eq_true] at h
 have hb:=h.2.2.2.2.2 i (by simpa using hi)
 unfold badL at hb
 rw[qBv (t:=qAC) x.2.2.1 i hi] at hb
 simp only[Bool.not_not,Bool.and_eq_true,Bool.not_eq_true',Bool.and_eq_false_iff,decide_eq_true_eq,decide_eq_false_iff_not,Bool.or_eq_true] at hb
 obtain⟨b1,b2,b3,_,_,b6⟩:=hb
 refine⟨fun h0=>?_,b2,b3,b6⟩
 have w:wi64 ((i:Int)-1)=((i-1:Nat):Int):=(qAH _ (by omega)).trans (by omega)
 rw[w,qBv (t:=qAC) x.2.2.1 (i-1) (by omega)] at b1
 rcases b1 with b1 | b1
 ·omega
 ·exact Int.not_le.1 b1
theorem pool_fix{x:qBn}(h:qC1 x=true)(i:Nat)(hi:i<x.2.2.2.1.length):(1≤x.2.2.2.1[i].1∧x.2.2.2.1[i].1≤99)∧qEl x.1 x.2.1 x.2.2.2.1[i].2=true∧qBo x.2.2.2.1 x.2.2.2.1[i].2=x.2.2.2.1[i].1:=by
 unfold qC1 at h
 simp only[Bool.and_eq_true,List.all_eq_true] at h
 have hb:=h.2.2.2.2.1 i (by simpa using hi)
 unfold badF at hb
 rw[qBv (t:=qAQ) x.2.2.2.1 i hi] at hb
 simp only[Bool.not_not,Bool.and_eq_true,decide_eq_true_eq] at hb
 exact⟨hb.1,hb.2.1,hb.2.2.2⟩
theorem asc_of{A:Type}{f:A→Int}:∀{L:List A},(∀i (hi:i<L.length) (h0:0<i),f (L[i-1]'(by omega))<f L[i])→L.Pairwise (fun a b=>f a<f b):=by
 intro L h
 rw[List.pairwise_iff_getElem]
 intro i j hi hj hij
 induction j with
 | zero=>omega
 | succ j ih =>
  have hs:=h (j+1) hj (by omega)
  by_cases e:i=j
  ·subst e
   exact hs
  ·exact Int.lt_trans (ih (by omega) (by omega)) hs
theorem lease_asc{x:qBn}(h:qC1 x=true):x.2.2.1.Pairwise (fun a b=>a.1<b.1):=asc_of (f:=fun a:qAm=>a.1) fun i hi h0=>(qHC h i hi).1 h0
theorem qGi{n:Nat}{p:Nat→Bool}(h:(List.range n).find? p=none)(j:Nat)(hj:j<n):p j=false:=by
 have:=List.find?_eq_none.1 h j (List.mem_range.2 hj)
 simpa using this
theorem qDd{n:Nat}{p:Nat→Bool}{j:Nat}(h:(List.range n).find? p=some j):j<n∧p j=true:=⟨List.mem_range.1 (List.mem_of_find?_eq_some h),List.find?_some h⟩
theorem leaseB_no{q:List qAC.den}{w:Int}(h:qCD q w<0):∀l∈q,l.2.1≠w:=by
 unfold qCD at h
 split at h
 ·omega
 ·rename_i hn
  intro l hl
  obtain⟨i,hi,rfl⟩:=List.getElem_of_mem hl
  have:=qGi hn i hi
  rw[qBv (t:=qAC) q i hi] at this
  simpa using this
theorem leaseB_yes{q:List qAC.den}{w:Int}(h:¬qCD q w<0):∃i:Nat,∃hi:i<q.length,qCD q w=(i:Int)∧q[i].2.1=w∧(List.range q.length).find? (fun j=>decide ((Ty.rd (t:=qAC) q (j:Nat)).2.1=w))=some i:=by
 unfold qCD at h ⊢
 split at h
 ·rename_i j hj
  obtain⟨h1,h2⟩:=qDd hj
  rw[qBv (t:=qAC) q j h1] at h2
  exact⟨j,h1,rfl,by simpa using h2,hj⟩
 ·omega
theorem holdB_no{q:List qAC.den}{a:Int}(h1:∀l∈q,1≤l.2.1)(h:qEn q a=0):∀l∈q,l.1≠a:=by
 unfold qEn at h
 split at h
 ·rename_i j hj
  obtain⟨g1,g2⟩:=qDd hj
  rw[qBv (t:=qAC) q j g1] at h
  have h:q[j].2.1=0:=h
  have h1:(1:Int)≤q[j].2.1:=h1 _ (List.getElem_mem g1)
  rw[h] at h1
  exact absurd h1 (by decide)
 ·rename_i hn
  intro l hl
  obtain⟨i,hi,rfl⟩:=List.getElem_of_mem hl
  have:=qGi hn i hi
  rw[qBv (t:=qAC) q i hi] at this
  simpa using this
/-- Where the address of a new lease lies: in the net, and nobody's. -/
theorem addr_free{x:qBn}{w a:Int}(h:qC1 x=true)(hw:qCD x.2.2.1 w<0)(ha:addrO x w=some a):(∀l∈x.2.2.1,l.1≠a)∧qEl x.1 x.2.1 a=true∧0<a∧(qBo x.2.2.2.1 a=0∨qBo x.2.2.2.1 a=w):=by
 obtain⟨n1,n2,n3,n4⟩:=qIr h
 unfold addrO at ha
 split at ha
 ·rename_i j hj
  obtain⟨g1,g2⟩:=qDd hj
  rw[qBv (t:=qAQ) x.2.2.2.1 j g1] at ha g2
  simp only[decide_eq_true_eq] at g2
  simp only[Option.some.injEq] at ha
  subst ha
  obtain⟨f1,f2,f3⟩:=pool_fix h j g1
  refine⟨fun l hl e=>?_,f2,by have:=host_gt n2 f2;omega,.inr (by rw[f3];exact g2)⟩
  obtain⟨i,hi,rfl⟩:=List.getElem_of_mem hl
  obtain⟨_,_,_,l4⟩:=qHC h i hi
  rw[e,f3] at l4
  have:=leaseB_no hw _ (List.getElem_mem hi)
  rcases l4 with l4 | l4
  ·omega
  ·exact this (by rw[←l4];exact g2)
 ·split at ha
  ·rename_i j hj
   obtain⟨g1,g2⟩:=qDd hj
   simp only[Option.some.injEq] at ha
   subst ha
   simp only[Bool.and_eq_true,decide_eq_true_eq] at g2
   have hh:=host_in n2 n1 j g1
   refine⟨holdB_no (fun l hl=>?_) g2.1,hh,by have:=host_gt n2 hh;omega,.inl g2.2⟩
   obtain⟨i,hi,rfl⟩:=List.getElem_of_mem hl
   exact(qHC h i hi).2.2.1.1
  ·cases ha
theorem asc_split{A:Type}{f:A→Int}(a:Int):∀{L:List A},L.Pairwise (fun x y=>f x<f y)→(∀l∈L,f l≠a)→L.takeWhile (fun x=>decide (f x<a))=L.filter (fun x=>decide (f x<a))∧L.dropWhile (fun x=>decide (f x<a))=L.filter (fun x=>decide (a<f x))
 | [],_,_=>⟨rfl,rfl⟩
 | x::L,hp,hn=>by
  obtain⟨p1,p2⟩:=List.pairwise_cons.1 hp
  by_cases c:f x<a
  ·obtain⟨h1,h2⟩:=asc_split a p2 fun l hl=>hn l (List.mem_cons_of_mem _ hl)
   have c':¬a<f x:=by omega
   simp only[List.takeWhile_cons,List.dropWhile_cons,List.filter_cons,c,c',decide_true,decide_false,Bool.false_eq_true,if_true,if_false,h1,h2,and_self]
  ·have hx:=hn x (List.mem_cons_self ..)
   have c':a<f x:=by omega
   have e1:L.filter (fun x=>decide (f x<a))=[]:=List.filter_eq_nil_iff.2 fun y hy=>by have:=p1 y hy;simp;omega
   have e2:L.filter (fun x=>decide (a<f x))=L:=List.filter_eq_self.2 fun y hy=>by have:=p1 y hy;simp;omega
   simp only[List.takeWhile_cons,List.dropWhile_cons,List.filter_cons,c,c',decide_true,decide_false,Bool.false_eq_true,if_true,if_false,e1,e2,and_self]
def insL(L:List qAm)(a w u:Int):List qAm:=L.filter (fun x=>decide (x.1<a))++[(a,(w,u))]++L.filter (fun x=>decide (a<x.1))
/-- What Grant does to a pool. -/
def qBD(x:qBn)(w now:Int):qBn×Int×Bool:=
 if qC1 x=true∧(1≤w∧w≤99)∧(0≤now∧now≤999999980) then
  (if qCD x.2.2.1 w<0 then
   (match addrO x w with
   | none=>(x,(0,false))
   | some a=>if 6≤x.2.2.1.length then(x,(0,false)) else((x.1,(x.2.1,(insL x.2.2.1 a w (now+20),(x.2.2.2.1,())))),(a,true)))
  else((x.1,(x.2.1,(x.2.2.1.set (qCD x.2.2.1 w).toNat ((Ty.rd (t:=qAC) x.2.2.1 (qCD x.2.2.1 w)).1,((Ty.rd (t:=qAC) x.2.2.1 (qCD x.2.2.1 w)).2.1,now+20)),(x.2.2.2.1,())))),((Ty.rd (t:=qAC) x.2.2.1 (qCD x.2.2.1 w)).1,true)))
 else(x,(0,false))
theorem i_Grant_is(k:Nat)(x:qBn)(w now:Int)(hk:1048576<k)(hb:qEO x):i_Grant k (x,(w,(now,())))=some (((qBD x w now).1,((qBD x w now).2.1,((qBD x w now).2.2,()))),((),((),((),())))):=by
 have hl:x.2.2.1.length≤1048576:=hb.1.1
 have hl':x.2.2.2.1.length≤1048576:=hb.2.1.1
 have e1:=qFh k x hb
 have e2:=i_PoolOk_is k x hk hl hl'
 have e3:=isId_is k w
 have e4:=qCx k now 0 999999980
 have e5:=leaseOf_is k x w hk hl
 unfold i_Grant
 obtain⟨p,n,L,Q,⟨⟩⟩:=x
 dsimp only at e1 e2 e3 e4 e5 hl hl' ⊢
 simp only[e1,e2,e3,e4,Option.bind_some]
 unfold qBD
 cases hp:qC1 (p,(n,(L,(Q,()))))
 ·simp
 obtain⟨n1,n2,n3,n4⟩:=qIr hp
 dsimp only at n1 n2 n3 n4
 by_cases c1:1≤w∧w≤99
 rotate_left
 ·simp[c1]
 by_cases c2:0≤now∧now≤999999980
 rotate_left
 ·simp[c1,c2]
 have wn:wi64 (now+20)=now+20:=qAH _ (by omega)
 simp only[c1,c2,e5,wn,and_self,decide_true,Bool.not_true,Bool.false_eq_true,if_true,if_false,Option.bind_some]
 by_cases c3:qCD L w<0
 rotate_left
 ·obtain⟨i,hi,g1,_,_⟩:=leaseB_yes c3
  rw[g1]
  have q1:(0:Int)≤(i:Int):=by omega
  have q2:(i:Int)<(L.length:Int):=by omega
  have q3:¬(i:Int)<0:=by omega
  simp only[q1,q2,q3,and_self,decide_true,if_true,if_false]
 have c3':¬0≤qCD L w:=by omega
 have e6:=i_addrFor_is k (p,(n,(L,(Q,())))) w hk hl hl' n2 n1
 simp only[c3,c3',e6,decide_false,if_true,Bool.false_eq_true,if_false,Option.bind_some]
 unfold addrD
 cases ha:addrO (p,(n,(L,(Q,())))) w with
 | none =>
  dsimp only
  by_cases c4:(6:Int)≤(L.length:Int)
  ·simp[c4]
  ·simp[c4]
 | some a =>
  obtain⟨f1,f2,f3,_⟩:=addr_free hp c3 ha
  dsimp only at f1
  have c5:¬a<0:=by omega
  by_cases c4:6≤L.length
  ·have c4':(6:Int)≤(L.length:Int):=by omega
   simp[c4,c4']
  ·have c4':¬(6:Int)≤(L.length:Int):=by omega
   simp only[c4,c4',c5,decide_false,Bool.false_eq_true,if_false]
   refine(loop_span (A:=qAm) L (fun x=>decide (x.1<a)) (fun i=>(w,(now,((0,(0,([],([],())))),((p,(n,(L,(Q,())))),(a,((i:Int),()))))))) (fun i=>(qAU k (L,((i:Int),([(a,(w,now+20))],())))).bind fun p7=>some (((p,(n,(p7.1,(Q,())))),(a,(true,()))),((),((),((),()))))) (fun again i y hi hy=>?_) (fun again=>?_) k (by omega)).trans ?_
   ·have w3:wi64 ((i:Int)+1)=((i+1:Nat):Int):=(qAH _ (by omega)).trans (by omega)
    have p1:(i:Int)<(L.length:Int):=by omega
    have p2:(0:Int)≤(i:Int):=by omega
    simp only[Ty.rd,Int.toNat_natCast,qA9 hy,p1,p2,w3,wn,decide_true,and_self,if_true]
   ·simp only[Int.lt_irrefl,decide_false,Bool.false_eq_true,if_false,wn]
   ·obtain⟨s1,s2⟩:=asc_split (f:=fun x:qAm=>x.1) a (lease_asc hp) f1
    have e:=List.takeWhile_append_dropWhile (p:=fun x:qAm=>decide (x.1<a)) (l:=L)
    have hT:(L.takeWhile (fun x:qAm=>decide (x.1<a))).length≤L.length:=by
     have:=congrArg List.length e
     rw[List.length_append] at this
     omega
    have t1:L.take (L.takeWhile (fun x:qAm=>decide (x.1<a))).length=L.takeWhile (fun x:qAm=>decide (x.1<a)):=by
     conv=>lhs;arg 2;rw[←e]
     rw[List.take_left]
    have t2:L.drop (L.takeWhile (fun x:qAm=>decide (x.1<a))).length=L.dropWhile (fun x:qAm=>decide (x.1<a)):=by
     conv=>lhs;arg 2;rw[←e]
     rw[List.drop_left]
    have hins:qAU k (L,((((L.takeWhile (fun x:qAm=>decide (x.1<a))).length:Nat):Int),([(a,(w,now+20))],())))=some (insL L a w (now+20),((),((),((),())))):=by
     unfold qAU insF insL
     rw[if_pos (by simp only[List.length_cons,List.length_nil];omega)]
     dsimp only at s1 s2
     dsimp only
     rw[Int.toNat_natCast,t1,t2,s1,s2]
    simp only[hins,Option.bind_some]
theorem s_Grant_is(k:Nat)(x:qBn)(w now:Int)(hk:1048576<k)(hb:qEO x):s_Grant k (x,(w,(now,())))=some (((qBD x w now).1,((qBD x w now).2.1,((qBD x w now).2.2,()))),((),((),((),())))):=by
 have hcap:capMax=274877906944:=rfl
 have hl:x.2.2.1.length≤1048576:=hb.1.1
 have hl':x.2.2.2.1.length≤1048576:=hb.2.1.1
 have e1:=qGf k x hb
 have e2:=qHv k x hk hl hl'
 unfold s_Grant
 obtain⟨p,n,L,Q,⟨⟩⟩:=x
 dsimp only at e1 e2 hl hl' ⊢
 simp only[e1,e2,qCe,Option.bind_some]
 unfold qBD
 cases hp:qC1 (p,(n,(L,(Q,()))))
 ·simp
 obtain⟨n1,n2,n3,n4⟩:=qIr hp
 dsimp only at n1 n2 n3 n4
 by_cases c1:1≤w∧w≤99
 rotate_left
 ·simp[c1]
 by_cases c2:0≤now∧now≤999999980
 rotate_left
 ·simp[c1,c2]
 have wn:wi64 (now+20)=now+20:=qAH _ (by omega)
 simp only[c1,c2,wn,and_self,decide_true,Bool.not_true,Bool.false_eq_true,if_true,if_false,Option.bind_some]
 refine(find_loopM (R:=(qBn×Int×Bool×Unit)×Unit×Unit×Unit×Unit) (fun j=>(w,(now,((p,(n,(L,(Q,())))),(((0:Int),((0:Int),(([]:List qAm),(([]:List (Int×Int)),())))),((p,(n,(L,(Q,())))),(((j:Nat):Int),()))))))) L.length (fun j=>decide ((Ty.rd (t:=qAC) L (j:Nat)).2.1=w))
  (fun j=>(((p,(n,(L.set j ((Ty.rd (t:=qAC) L (j:Int)).1,((Ty.rd (t:=qAC) L (j:Int)).2.1,now+20)),(Q,())))),((Ty.rd (t:=qAC) L (j:Int)).1,(true,()))),((),((),((),())))))
  (some (match addrO (p,(n,(L,(Q,())))) w with
   | none=>(((p,(n,(L,(Q,())))),((0:Int),(false,()))),((),((),((),()))))
   | some a=>if 6≤L.length then(((p,(n,(L,(Q,())))),((0:Int),(false,()))),((),((),((),())))) else if qCD L w<0 then(((p,(n,(insL L a w (now+20),(Q,())))),(a,(true,()))),((),((),((),())))) else(((p,(n,(L.filter (fun x=>decide (x.1<a))++[(a,(w,now+20))]++L.filter (fun x=>decide (a<x.1)),(Q,())))),(a,(true,()))),((),((),((),())))))) (fun ag j hj=>?_) (fun ag=>?_) k (by omega)).trans ?_
 ·have q1:(0:Int)≤(j:Int)∧(j:Int)<(L.length:Int):=by omega
  have w3:wi64 ((j:Int)+1)=((j+1:Nat):Int):=(qAH _ (by omega)).trans (by omega)
  have hset:∀v:qAm,Ty.rd (t:=qAC) (L.set j v) (j:Int)=v:=fun v=>by
   rw[qBv (t:=qAC) (L.set j v) j (by rw[List.length_set];exact hj)]
   exact List.getElem_set_self ..
  simp only[q1,w3,wn,List.length_set,Int.toNat_natCast,hset,and_self,decide_true,if_true]
 ·have e6:=s_l11Free_is k (p,(n,(L,(Q,())))) w hk hl hl' n2 n1
  simp only[Int.lt_irrefl,decide_false,Bool.false_eq_true,if_false,e6,Option.bind_some]
  unfold addrD
  cases ha:addrO (p,(n,(L,(Q,())))) w with
  | none =>
   dsimp only
   by_cases c4:(L.length:Int)=6
   ·simp[c4]
   ·simp[c4]
  | some a =>
   have hpos:a≠0:=by
    unfold addrO at ha
    split at ha
    ·rename_i j hj
     obtain⟨g1,g2⟩:=qDd hj
     rw[qBv (t:=qAQ) Q j g1] at ha
     simp only[Option.some.injEq] at ha
     have hh:=host_gt n2 (pool_fix hp j g1).2.1
     intro e
     rw[←ha] at e
     have h1:p<(Q[j]'g1).2:=hh.1
     have h2:(Q[j]'g1).2=0:=e
     rw[h2] at h1
     exact absurd hh.2 (Int.not_le.2 h1)
    ·split at ha
     ·rename_i j hj
      simp only[Option.some.injEq] at ha
      have:=prefB_le n1
      omega
     ·cases ha
   dsimp only
   by_cases c4:6≤L.length
   ·have c4':(L.length:Int)=6:=by omega
    simp[c4,c4']
   ·have c4':¬(L.length:Int)=6:=by omega
    have hins:∀C:Prop,∀_:Decidable C,(if C then(((p,(n,(insL L a w (now+20),(Q,())))),(a,(true,()))),((),((),((),())))) else(((p,(n,(L.filter (fun x=>decide (x.1<a))++[(a,(w,now+20))]++L.filter (fun x=>decide (a<x.1)),(Q,())))),(a,(true,()))),((),((),((),())))):(qBn×Int×Bool×Unit)×Unit×Unit×Unit×Unit)=(((p,(n,(insL L a w (now+20),(Q,())))),(a,(true,()))),((),((),((),())))):=fun C _=>by
     split <;> rfl
    simp only[c4,c4',hpos,decide_false,Bool.false_eq_true,if_false,hins]
    refine(qGh (A:=qAm) L (fun i (out:List qAm)=>(w,(now,((p,(n,(L,(Q,())))),(((0:Int),((0:Int),(([]:List qAm),(([]:List (Int×Int)),())))),((p,(n,(L,(Q,())))),(a,(out,(((i:Nat):Int),()))))))))) (fun y out=>.inr (if decide (y.1<a)=true then out++[y] else out))
     (fun out=>foldL (fun(y:qAm) out=>.inr (if decide (a<y.1)=true then out++[y] else out)) (fun out=>some (((p,(n,(out,(Q,())))),(a,(true,()))),((),((),((),()))))) L (out++[(a,(w,now+20))])) (fun i out=>out.length≤i)
     (fun ag i hi out hout=>?_) (fun i hi out out' hout e=>?_) (fun ag out hout=>?_) k (by omega) [] (by simp)).trans ?_
    ·have q1:(0:Int)≤(i:Int)∧(i:Int)<(L.length:Int):=by omega
     have w3:wi64 ((i:Int)+1)=((i+1:Nat):Int):=(qAH _ (by omega)).trans (by omega)
     have hcp:out.length+([L[i]]:List qAm).length≤capMax:=by rw[List.length_singleton];omega
     have hrd:=qBv (t:=qAC) L i hi
     by_cases d:L[i].1<a
     ·simp only[q1,w3,hrd,d,and_self,decide_true,if_true]
      rw[if_pos hcp]
     ·simp only[q1,w3,hrd,d,and_self,decide_true,decide_false,Bool.false_eq_true,if_true,if_false]
    ·simp only[Sum.inr.injEq] at e
     subst e
     split
     ·simp;omega
     ·omega
    ·have hcp:out.length+([(a,(w,now+20))]:List qAm).length≤capMax:=by rw[List.length_singleton];omega
     simp only[Int.lt_irrefl,decide_false,Bool.false_eq_true,if_false,wn]
     rw[if_pos hcp]
     refine qGh (A:=qAm) L (fun i (out:List qAm)=>((p,(n,(L,(Q,())))),(((0:Int),((0:Int),(([]:List qAm),(([]:List (Int×Int)),())))),((p,(n,(L,(Q,())))),(a,(out,(((i:Nat):Int),()))))))) (fun y out=>.inr (if decide (a<y.1)=true then out++[y] else out))
      (fun out=>some (((p,(n,(out,(Q,())))),(a,(true,()))),((),((),((),()))))) (fun i out=>out.length≤L.length+1+i)
      (fun ag i hi out hout=>?_) (fun i hi out out' hout e=>?_) (fun ag out hout=>?_) k (by omega) (out++[(a,(w,now+20))]) (by rw[List.length_append,List.length_singleton];omega)
     ·have q1:(0:Int)≤(i:Int)∧(i:Int)<(L.length:Int):=by omega
      have w3:wi64 ((i:Int)+1)=((i+1:Nat):Int):=(qAH _ (by omega)).trans (by omega)
      have hcp:out.length+([L[i]]:List qAm).length≤capMax:=by rw[List.length_singleton];omega
      have hrd:=qBv (t:=qAC) L i hi
      by_cases d:a<L[i].1
      ·simp only[q1,w3,hrd,d,and_self,decide_true,if_true]
       rw[if_pos hcp]
      ·simp only[q1,w3,hrd,d,and_self,decide_true,decide_false,Bool.false_eq_true,if_true,if_false]
     ·simp only[Sum.inr.injEq] at e
      subst e
      split
      ·simp;omega
      ·omega
     ·simp only[Int.lt_irrefl,decide_false,Bool.false_eq_true,if_false]
    ·rw[qHB (fun y:qAm=>decide (y.1<a)),qHB (fun y:qAm=>decide (a<y.1)),List.nil_append]
     rfl
 ·by_cases c3:qCD L w<0
  ·have hnone:(List.range L.length).find? (fun j=>decide ((Ty.rd (t:=qAC) L (j:Nat)).2.1=w))=none:=by
    unfold qCD at c3
    split at c3
    ·omega
    ·rename_i hn
     exact hn
   simp only[hnone,c3,if_true]
   cases addrO (p,(n,(L,(Q,())))) w with
   | none=>rfl
   | some a =>
    dsimp only
    split <;> rfl
  ·obtain⟨i,hi,g1,_,g3⟩:=leaseB_yes c3
   have q3:¬(i:Int)<0:=by omega
   simp only[g3,g1,q3,if_false,Int.toNat_natCast]
abbrev THeldO:Ty:=.pair (.int .i64) (.pair (.int .i64) (.pair (.int .i64) (.pair (.ols 9 .str) (.pair (.ols 4 .bool) (.int .i64)))))
abbrev qA0:Ty:=.pair (.int .i64) (.pair (.int .i64) (.pair (.pair (.pair (.int .i64) (.pair .str (.pair .str (.pair (.int .i64) (.pair (.ols 3 (.int .i64)) (.int .i64)))))) (.pair (.int .i64) (.pair .str (.pair .str (.pair (.int .i64) (.pair (.ols 3 (.int .i64)) (.int .i64))))))) (.pair (.ols 229 THeldO) (.int .i64))))
abbrev TUserN:Ty:=.pair (.int .i64) (.pair (.int .i64) (.pair (.pair (.pair (.int .i64) (.pair .str (.pair .str (.pair (.int .i64) (.pair .nm (.int .i64)))))) (.pair (.int .i64) (.pair .str (.pair .str (.pair (.int .i64) (.pair .nm (.int .i64))))))) (.pair .nm (.int .i64))))
abbrev PUserO:Pat:=.agg (.cons (.int .i64) (.cons (.int .i64) (.cons (.int .i64) (.cons .str (.cons .str (.cons (.int .i64) (.cons (.own false 3 (.int .i64)) (.cons (.int .i64) (.cons (.int .i64) (.cons .str (.cons .str (.cons (.int .i64) (.cons (.own false 3 (.int .i64)) (.cons (.int .i64) (.cons (.own false 229 THeldO) (.cons (.int .i64) .nil))))))))))))))))
abbrev qEo:=Int×Int×((Int×ByteArray×ByteArray×Int×Nat×Int)×Int×ByteArray×ByteArray×Int×Nat×Int)×Nat×Int
abbrev FlatN:=Int×Int×Int×ByteArray×ByteArray×Int×Nat×Int×Int×ByteArray×ByteArray×Int×Nat×Int×Nat×Int×Unit
abbrev qBg:=Int×Int×((Int×ByteArray×ByteArray×Int×List Int×Int)×Int×ByteArray×ByteArray×Int×List Int×Int)×List (Int×Int×Int×List ByteArray×List Bool×Int)×Int
abbrev qFB:=Int×Int×Int×ByteArray×ByteArray×Int×List Int×Int×Int×ByteArray×ByteArray×Int×List Int×Int×List (Int×Int×Int×List ByteArray×List Bool×Int)×Int×Unit
def rowN(f:FlatN):qEo:=(f.1,(f.2.1,(((f.2.2.1,(f.2.2.2.1,(f.2.2.2.2.1,(f.2.2.2.2.2.1,(f.2.2.2.2.2.2.1,f.2.2.2.2.2.2.2.1))))),(f.2.2.2.2.2.2.2.2.1,(f.2.2.2.2.2.2.2.2.2.1,(f.2.2.2.2.2.2.2.2.2.2.1,(f.2.2.2.2.2.2.2.2.2.2.2.1,(f.2.2.2.2.2.2.2.2.2.2.2.2.1,f.2.2.2.2.2.2.2.2.2.2.2.2.2.1)))))),(f.2.2.2.2.2.2.2.2.2.2.2.2.2.2.1,f.2.2.2.2.2.2.2.2.2.2.2.2.2.2.2.1))))
def rowR(f:qFB):qBg:=(f.1,(f.2.1,(((f.2.2.1,(f.2.2.2.1,(f.2.2.2.2.1,(f.2.2.2.2.2.1,(f.2.2.2.2.2.2.1,f.2.2.2.2.2.2.2.1))))),(f.2.2.2.2.2.2.2.2.1,(f.2.2.2.2.2.2.2.2.2.1,(f.2.2.2.2.2.2.2.2.2.2.1,(f.2.2.2.2.2.2.2.2.2.2.2.1,(f.2.2.2.2.2.2.2.2.2.2.2.2.1,f.2.2.2.2.2.2.2.2.2.2.2.2.2.1)))))),(f.2.2.2.2.2.2.2.2.2.2.2.2.2.2.1,f.2.2.2.2.2.2.2.2.2.2.2.2.2.2.2.1))))
theorem foldL_part{A R:Type}(p:A→Bool)(fin:List A×List A→Option R):∀(L a b:List A),foldL (fun x s=>.inr (if p x=true then(s.1++[x],s.2) else(s.1,s.2++[x]))) fin L (a,b)=fin (a++L.filter p,b++L.filter (fun x=>!p x))
 | [],a,b=>by simp[foldL]
 | x::L,a,b=>by
  unfold foldL
  cases hp:p x with
  | true =>
   simp only[if_true]
   rw[foldL_part p fin L]
   simp[hp]
  | false =>
   simp only[Bool.false_eq_true,if_false]
   rw[foldL_part p fin L]
   simp[hp]
theorem Concat_is(k:Nat)(A B C:List qEo)(hk:1048576<k)(hl:A.length+B.length+C.length≤3000000):qAg k ([A,B,C],())=some (A++B++C,((),())):=by
 have hcap:capMax=274877906944:=rfl
 have l0:(([A,B,C]:List (List qEo)).length:Int)=3:=rfl
 have r0:Ty.rd (t:=.list TUserN) [A,B,C] 0=A:=rfl
 have r1:Ty.rd (t:=.list TUserN) [A,B,C] 1=B:=rfl
 have r2:Ty.rd (t:=.list TUserN) [A,B,C] 2=C:=rfl
 have u0:wi64 ((0:Int)+1)=1:=by decide
 have u1:wi64 ((1:Int)+1)=2:=by decide
 have u2:wi64 ((2:Int)+1)=3:=by decide
 have s0:wi64 ((0:Int)+(A.length:Int))=(A.length:Int):=(qAH _ (by omega)).trans (by omega)
 have s1:wi64 ((A.length:Int)+(B.length:Int))=((A.length+B.length:Nat):Int):=(qAH _ (by omega)).trans (by omega)
 have s2:wi64 (((A.length+B.length:Nat):Int)+(C.length:Int))=((A.length+B.length+C.length:Nat):Int):=(qAH _ (by omega)).trans (by omega)
 have n0:¬((A.length:Nat):Int)<0:=by omega
 have n1:¬((A.length+B.length:Nat):Int)<0:=by omega
 have n2:¬((A.length+B.length+C.length:Nat):Int)<0:=by omega
 have d0:(0:Int)<3:=by decide
 have d1:(1:Int)<3:=by decide
 have d2:(2:Int)<3:=by decide
 have d3:¬(3:Int)<3:=by decide
 have e0:(0:Int)≤0:=by decide
 have e1:(0:Int)≤1:=by decide
 have e2:(0:Int)≤2:=by decide
 have g:qAk k ((),(((A.length+B.length+C.length:Nat):Int),()))=some (([]:List qEo),((),((),()))):=by
  unfold qAk growF
  rw[if_pos (by dsimp only;rw[Int.toNat_natCast];omega)]
 have c0:([]:List qEo).length+A.length≤capMax:=by rw[List.length_nil];omega
 have c1:(([]:List qEo)++A).length+B.length≤capMax:=by rw[List.nil_append];omega
 have c2:(([]:List qEo)++A++B).length+C.length≤capMax:=by rw[List.nil_append,List.length_append];omega
 unfold qAg
 simp only[l0]
 rw[qCo (by omega)]
 simp only[l0,d0,e0,and_self,decide_true,if_true,r0,s0,n0,decide_false,Bool.false_eq_true,if_false,u0]
 rw[qCo (by omega)]
 simp only[l0,d1,e1,and_self,decide_true,if_true,r1,s1,n1,decide_false,Bool.false_eq_true,if_false,u1]
 rw[qCo (by omega)]
 simp only[l0,d2,e2,and_self,decide_true,if_true,r2,s2,n2,decide_false,Bool.false_eq_true,if_false,u2]
 rw[qCo (by omega)]
 simp only[l0,d3,decide_false,Bool.false_eq_true,if_false,g,Option.bind_some]
 rw[qCo (by omega)]
 simp only[l0,d0,e0,and_self,decide_true,if_true,r0,c0,u0]
 rw[qCo (by omega)]
 simp only[l0,d1,e1,and_self,decide_true,if_true,r1,c1,u1]
 rw[qCo (by omega)]
 simp only[l0,d2,e2,and_self,decide_true,if_true,r2,c2,u2]
 rw[qCo (by omega)]
 simp only[d3,decide_false,Bool.false_eq_true,if_false,List.nil_append]
theorem withUser_n_is(k:Nat)(E:List qEo)(f:FlatN)(hk:1048576<k)(hl:E.length≤1048576) :
  qCP k (E,(f,()))=some (E.filter (fun x=>decide (x.1<f.1))++[rowN f]++E.filter (fun x=>!decide (x.1<f.1)),((),((),()))):=by
 have hcap:capMax=274877906944:=rfl
 unfold qCP
 refine(qGh (A:=qEo) E (fun i (s:List qEo×List qEo)=>(f,(s.1,(s.2,(E,((E.length:Int),(((i:Nat):Int),()))))))) (fun x s=>.inr (if decide (x.1<f.1)=true then(s.1++[x],s.2) else(s.1,s.2++[x])))
  (fun s=>some (s.1++[rowN f]++s.2,((),((),())))) (fun i s=>s.1.length+s.2.length≤i) (fun ag i hi s hs=>?_) (fun i hi s s' hs e=>?_) (fun ag s hs=>?_) k (by omega) ([],[]) (by simp)).trans ?_
 ·have q1:(0:Int)≤(i:Int)∧(i:Int)<(E.length:Int):=by omega
  have w3:wi64 ((i:Int)+1)=((i+1:Nat):Int):=(qAH _ (by omega)).trans (by omega)
  have hrd:=qBv (t:=TUserN) E i hi
  have hc1:∀r:qEo,s.1.length+([r]:List qEo).length≤capMax:=fun r=>by rw[List.length_singleton];omega
  have hc2:∀r:qEo,s.2.length+([r]:List qEo).length≤capMax:=fun r=>by rw[List.length_singleton];omega
  by_cases d:E[i].1<f.1
  ·simp only[q1,w3,hrd,d,and_self,decide_true,if_true]
   rw[if_pos (hc1 _)]
  ·simp only[q1,w3,hrd,d,and_self,decide_true,decide_false,Bool.false_eq_true,if_true,if_false]
   rw[if_pos (hc2 _)]
 ·simp only[Sum.inr.injEq] at e
  subst e
  split
  ·simp;omega
  ·simp;omega
 ·have hcc:=Concat_is k s.1 [rowN f] s.2 hk (by simp;omega)
  unfold rowN at hcc
  simp only[Int.lt_irrefl,decide_false,Bool.false_eq_true,if_false,hcc,Option.bind_some]
  rfl
 ·rw[foldL_part (fun x:qEo=>decide (x.1<f.1))]
  rfl
theorem flatMap_perm{A B:Type}{f:A→List B}{l l':List A}(h:l.Perm l'):(l.flatMap f).Perm (l'.flatMap f):=h.flatMap_right f
def encU(L:List qBg):List qEo:=qA0.encn L 0
def encUP(L:List qBg):List (qEo×qBg):=encnP qA0 L 0
theorem encU_fst(L:List qBg):(encUP L).map Prod.fst=encU L:=encnP_fst qA0 L 0
theorem encU_snd(L:List qBg):(encUP L).map Prod.snd=L:=encnP_snd qA0 L 0
theorem encU_len(L:List qBg):(encU L).length=L.length:=encn_len qA0 L 0
theorem encnP_pair{t:Ty}{xs:List t.den}{n:Nat}{y:t.nmd.den×t.den}(h:y∈encnP t xs n):∃m,y.1=t.enc y.2 m:=by
 obtain⟨i,hi⟩:=List.getElem?_of_mem h
 unfold encnP at hi
 rw[List.getElem?_mapIdx] at hi
 cases hx:xs[i]? with
 | none=>rw[hx] at hi;cases hi
 | some x =>
  rw[hx] at hi
  injection hi with hi
  subst hi
  exact⟨_,rfl⟩
theorem encUP_id(L:List qBg)(y:qEo×qBg)(h:y∈encUP L):y.1.1=y.2.1:=by
 obtain⟨m,e⟩:=encnP_pair (t:=qA0) (xs:=L) (n:=0) (y:=y) h
 exact congrArg (fun z:qEo=>z.1) e
theorem encU_filter(L:List qBg)(p:Int→Bool):(encU L).filter (fun y=>p y.1)=((encUP L).filter (fun y=>p y.2.1)).map Prod.fst∧((encUP L).filter (fun y=>p y.2.1)).map Prod.snd=L.filter (fun y=>p y.1):=by
 constructor
 ·rw[←encU_fst,List.filter_map]
  congr 1
  exact List.filter_congr fun y hy=>congrArg p (encUP_id L y hy)
 ·conv=>rhs;rw[←encU_snd L]
  rw[List.filter_map]
  rfl
theorem qB0{lk:Nat→Option OL}{a b:Ty}{x:(Ty.pair a b).nmd.den}{y:a.den}{z:b.den}(h1:a.dec lk x.1=some y)(h2:b.dec lk x.2=some z):(Ty.pair a b).dec lk x=some (y,z):=by
 show(match a.dec lk x.1,b.dec lk x.2 with
  | some y,some z=>some (y,z)
  | _,_=>none)=_
 rw[h1,h2]
theorem decN_at{lk:Nat→Option OL}{e m:Nat}{u:Ty}{ys:List u.den}(h:lk (m+1)=some ⟨e,u,ys⟩):decN lk e u (m+1)=some ys:=by
 show(match lk (m+1) with
  | some o=>if h:o.e=e∧o.u=u then some (h.2 ▸ o.ys) else none
  | none=>none)=some ys
 rw[h]
 simp
def flatN(N:Nat)(u:qFB):FlatN:=(u.1,(u.2.1,(u.2.2.1,(u.2.2.2.1,(u.2.2.2.2.1,(u.2.2.2.2.2.1,(N+1,(u.2.2.2.2.2.2.2.1,(u.2.2.2.2.2.2.2.2.1,(u.2.2.2.2.2.2.2.2.2.1,(u.2.2.2.2.2.2.2.2.2.2.1,(u.2.2.2.2.2.2.2.2.2.2.2.1,(N+1+1,(u.2.2.2.2.2.2.2.2.2.2.2.2.2.1,(N+1+1+1,(u.2.2.2.2.2.2.2.2.2.2.2.2.2.2.2.1,()))))))))))))))))
theorem penc_is(L:List qBg)(u:qFB):Pat.enc (.cons (.own false 45 qA0) (.cons PUserO .nil)) (L,(u,())) 0=(encU L,(flatN (0+L.length*qA0.w) u,())):=rfl
theorem dec_user{lk:Nat→Option OL}{N:Nat}{u:qFB}(h0:lk (N+0+1)=some ⟨3,.int .i64,u.2.2.2.2.2.2.1⟩)(h1:lk (N+1+1)=some ⟨3,.int .i64,u.2.2.2.2.2.2.2.2.2.2.2.2.1⟩)(h2:lk (N+2+1)=some ⟨229,THeldO,u.2.2.2.2.2.2.2.2.2.2.2.2.2.2.1⟩) :
  qA0.dec lk (rowN (flatN N u))=some (rowR u):=
 qB0 rfl (qB0 rfl (qB0 (qB0 (qB0 rfl (qB0 rfl (qB0 rfl (qB0 rfl (qB0 (decN_at (m:=N) h0) rfl))))) (qB0 rfl (qB0 rfl (qB0 rfl (qB0 rfl (qB0 (decN_at (m:=N+1) h1) rfl)))))) (qB0 (decN_at (m:=N+1+1) h2) rfl)))
theorem lookS_list(L:List qA0.den)(u:qFB)(m:Nat)(o:OL)(h:qA0.lookn L m=some o):lookS (Pat.lookP (.cons (.own false 45 qA0) (.cons PUserO .nil)) (L,(u,()))) (0+m+1)=some o:=by
 have hlt:=lookn_lt h
 rw[Nat.zero_add]
 show(if m<L.length*qA0.w then qA0.lookn L m else _)=some o
 rw[if_pos hlt]
 exact h
theorem lookS_user(L:List qA0.den)(u:qFB)(j:Nat)(o:OL)(hj:j<3)(h:PUserO.lookP u j=some o):lookS (Pat.lookP (.cons (.own false 45 qA0) (.cons PUserO .nil)) (L,(u,()))) (L.length*qA0.w+j+1)=some o:=by
 show(if L.length*qA0.w+j<L.length*qA0.w then qA0.lookn L (L.length*qA0.w+j) else(if L.length*qA0.w+j-L.length*qA0.w<3 then PUserO.lookP u (L.length*qA0.w+j-L.length*qA0.w) else _))=some o
 rw[if_neg (by omega),show L.length*qA0.w+j-L.length*qA0.w=j by omega,if_pos hj]
 exact h
theorem i_withUser_is(k:Nat)(L:List qBg)(u:qFB)(hk:1048576<k)(hl:L.length≤1048576) :
  qG5 k (L,(u,()))=some (L.filter (fun x=>decide (x.1<u.1))++[rowR u]++L.filter (fun x=>!decide (x.1<u.1)),((),((),()))):=by
 have hlk:∀m o,qA0.lookn L m=some o→lookS (Pat.lookP (.cons (.own false 45 qA0) (.cons PUserO .nil)) (L,(u,()))) (0+m+1)=some o:=fun m o h=>lookS_list L u m o h
 have h0:=lookS_user L u 0 ⟨3,.int .i64,u.2.2.2.2.2.2.1⟩ (by decide) rfl
 have h1:=lookS_user L u 1 ⟨3,.int .i64,u.2.2.2.2.2.2.2.2.2.2.2.2.1⟩ (by decide) rfl
 have h2:=lookS_user L u 2 ⟨229,THeldO,u.2.2.2.2.2.2.2.2.2.2.2.2.2.2.1⟩ (by decide) rfl
 have hrow:=dec_user h0 h1 h2
 have hpe:=penc_is L u
 rw[Nat.zero_add] at hpe
 obtain⟨N,hN⟩:∃N,N=L.length*qA0.w:=⟨_,rfl⟩
 rw[←hN] at hrow hpe
 have hG:=withUser_n_is k (encU L) (flatN N u) hk (by rw[encU_len];exact hl)
 have hf1:=encU_filter L (fun z=>decide (z<u.1))
 have hf2:=encU_filter L (fun z=>!decide (z<u.1))
 have hY1:((encUP L).filter (fun y=>decide (y.2.1<u.1))++[(rowN (flatN N u),rowR u)]++(encUP L).filter (fun y=>!decide (y.2.1<u.1))).map Prod.fst=(encU L).filter (fun x=>decide (x.1<u.1))++[rowN (flatN N u)]++(encU L).filter (fun x=>!decide (x.1<u.1)):=by
  rw[List.map_append,List.map_append,←hf1.1,←hf2.1]
  rfl
 have hY2:((encUP L).filter (fun y=>decide (y.2.1<u.1))++[(rowN (flatN N u),rowR u)]++(encUP L).filter (fun y=>!decide (y.2.1<u.1))).map Prod.snd=L.filter (fun x=>decide (x.1<u.1))++[rowR u]++L.filter (fun x=>!decide (x.1<u.1)):=by
  rw[List.map_append,List.map_append,hf1.2,hf2.2]
  rfl
 have hd:=decs_map (t:=qA0) (lk:=lookS (Pat.lookP (.cons (.own false 45 qA0) (.cons PUserO .nil)) (L,(u,())))) (Y:=(encUP L).filter (fun y=>decide (y.2.1<u.1))++[(rowN (flatN N u),rowR u)]++(encUP L).filter (fun y=>!decide (y.2.1<u.1))) (fun y hy=>by
  rcases List.mem_append.1 hy with hy | hy
  ·rcases List.mem_append.1 hy with hy | hy
   ·exact encnP_dec hlk (List.mem_filter.1 hy).1
   ·have hy:y=(rowN (flatN N u),rowR u):=List.mem_singleton.1 hy
    subst hy
    exact hrow
  ·exact encnP_dec hlk (List.mem_filter.1 hy).1)
 have hperm:((encU L).filter (fun x=>decide (x.1<u.1))++[rowN (flatN N u)]++(encU L).filter (fun x=>!decide (x.1<u.1))).Perm (rowN (flatN N u)::encU L):=by
  refine(List.perm_append_comm.append_right _).trans ?_
  rw[List.append_assoc]
  exact(List.filter_append_perm (fun x:qEo=>decide (x.1<u.1)) (encU L)).cons _
 have hnd:(List.flatMap qA0.nms ((encU L).filter (fun x=>decide (x.1<u.1))++[rowN (flatN N u)]++(encU L).filter (fun x=>!decide (x.1<u.1)))).Nodup:=by
  have hp2:=flatMap_perm (f:=qA0.nms) hperm
  refine hp2.nodup_iff.2 ?_
  obtain⟨n1,n2⟩:=encn_nms qA0 L 0
  show(qA0.nms (rowN (flatN N u))++(qA0.encn L 0).flatMap qA0.nms).Nodup
  have hu:qA0.nms (rowN (flatN N u))=[N+1,N+1+1,N+1+1+1]:=rfl
  rw[hu]
  refine List.nodup_append.2 ⟨?_,n1.imp fun h=>Nat.ne_of_lt h,fun a ha b hb=>?_⟩
  ·simp
  ·have:=n2 b hb
   rw[←hN] at this
   simp only[List.mem_cons,List.not_mem_nil,or_false] at ha
   omega
 unfold qG5
 exact namesF_some (p:=.cons (.own false 45 qA0) (.cons PUserO .nil)) (q:=.own false 45 qA0) (G:=qCP k) (x:=(L,(u,()))) ((congrArg (qCP k) hpe).trans hG) ((congrArg (qA0.decs _) hY1).symm.trans (hd.trans (congrArg some hY2))) rfl (by
  show(List.flatMap qA0.nms _++[]).Nodup
  rw[List.append_nil]
  exact hnd)
theorem s_l22Put_is(k:Nat)(L:List qBg)(u:qFB)(hk:1048576<k)(hl:L.length≤1048576) :
  qGy k (L,(u,()))=some (L.filter (fun x=>decide (x.1<u.1))++[rowR u]++L.filter (fun x=>decide (u.1<x.1)),((),((),()))):=by
 have hcap:capMax=274877906944:=rfl
 unfold qGy
 refine(qGh (A:=qBg) L (fun i (out:List qBg)=>(L,(u,(out,(((i:Nat):Int),()))))) (fun y out=>.inr (if decide (y.1<u.1)=true then out++[y] else out))
  (fun out=>foldL (fun(y:qBg) out=>.inr (if decide (u.1<y.1)=true then out++[y] else out)) (fun out=>some (out,((),((),())))) L (out++[rowR u])) (fun i out=>out.length≤i)
  (fun ag i hi out hout=>?_) (fun i hi out out' hout e=>?_) (fun ag out hout=>?_) k (by omega) [] (by simp)).trans ?_
 ·have q1:(0:Int)≤(i:Int)∧(i:Int)<(L.length:Int):=by omega
  have w3:wi64 ((i:Int)+1)=((i+1:Nat):Int):=(qAH _ (by omega)).trans (by omega)
  have hcp:∀r:qBg,out.length+([r]:List qBg).length≤capMax:=fun r=>by rw[List.length_singleton];omega
  have hrd:=qBv (t:=qA1) L i hi
  by_cases d:L[i].1<u.1
  ·simp only[q1,w3,hrd,d,and_self,decide_true,if_true]
   rw[if_pos (hcp _)]
  ·simp only[q1,w3,hrd,d,and_self,decide_true,decide_false,Bool.false_eq_true,if_true,if_false]
 ·simp only[Sum.inr.injEq] at e
  subst e
  split
  ·simp;omega
  ·omega
 ·have hcp:∀r:qBg,out.length+([r]:List qBg).length≤capMax:=fun r=>by rw[List.length_singleton];omega
  simp only[Int.lt_irrefl,decide_false,Bool.false_eq_true,if_false]
  rw[if_pos (hcp _)]
  refine qGh (A:=qBg) L (fun i (out:List qBg)=>(L,(u,(out,(((i:Nat):Int),()))))) (fun y out=>.inr (if decide (u.1<y.1)=true then out++[y] else out))
   (fun out=>some (out,((),((),())))) (fun i out=>out.length≤L.length+1+i)
   (fun ag i hi out hout=>?_) (fun i hi out out' hout e=>?_) (fun ag out hout=>?_) k (by omega) (out++[rowR u]) (by rw[List.length_append,List.length_singleton];omega)
  ·have q1:(0:Int)≤(i:Int)∧(i:Int)<(L.length:Int):=by omega
   have w3:wi64 ((i:Int)+1)=((i+1:Nat):Int):=(qAH _ (by omega)).trans (by omega)
   have hcp:∀r:qBg,out.length+([r]:List qBg).length≤capMax:=fun r=>by rw[List.length_singleton];omega
   have hrd:=qBv (t:=qA1) L i hi
   by_cases d:u.1<L[i].1
   ·simp only[q1,w3,hrd,d,and_self,decide_true,if_true]
    rw[if_pos (hcp _)]
   ·simp only[q1,w3,hrd,d,and_self,decide_true,decide_false,Bool.false_eq_true,if_true,if_false]
  ·simp only[Sum.inr.injEq] at e
   subst e
   split
   ·simp;omega
   ·omega
  ·simp only[Int.lt_irrefl,decide_false,Bool.false_eq_true,if_false]
 ·rw[qHB (fun y:qBg=>decide (y.1<u.1)),qHB (fun y:qBg=>decide (u.1<y.1)),List.nil_append]
theorem atB_no{q:List qA1.den}{id:Int}(h:atB q id<0):∀u∈q,u.1≠id:=by
 unfold atB at h
 split at h
 ·omega
 ·rename_i hn
  intro l hl
  obtain⟨i,hi,rfl⟩:=List.getElem_of_mem hl
  have:=qGi hn i hi
  rw[qBv (t:=qA1) q i hi] at this
  simpa using this
/-- A user of no ways yet. -/
def qGj(id a:Int)(s:qDc):qFB:=(id,(a,(s.1,(s.2.1,(s.2.2.1,(s.2.2.2.1,(s.2.2.2.2.1,(s.2.2.2.2.2.1,(s.2.2.2.2.2.2.1,(s.2.2.2.2.2.2.2.1,(s.2.2.2.2.2.2.2.2.1,(s.2.2.2.2.2.2.2.2.2.1,(s.2.2.2.2.2.2.2.2.2.2.1,(s.2.2.2.2.2.2.2.2.2.2.2.1,([],(0,()))))))))))))))))
def user0:qFB:=(0,(0,(0,((⟨#[]⟩:ByteArray),((⟨#[]⟩:ByteArray),(0,([],(0,(0,((⟨#[]⟩:ByteArray),((⟨#[]⟩:ByteArray),(0,([],(0,([],(0,()))))))))))))))))
def putU(L:List qBg)(u:qFB):List qBg:=L.filter (fun x=>decide (x.1<u.1))++[rowR u]++L.filter (fun x=>decide (u.1<x.1))
abbrev seedA:ByteArray:=⟨#[97]⟩
abbrev seedB:ByteArray:=⟨#[98]⟩
abbrev poolH(h:HubA):qBn:=(h.1,(h.2.1,(h.2.2.1,(h.2.2.2.1,()))))
/-- May one join? -/
def joinOk(h:HubA)(id now:Int):Bool:=decide (1≤id∧id≤98)&&(decide (atB h.2.2.2.2.2.1 id<0)&&(decide (h.2.2.2.2.2.1.length<3)&&((qBD (poolH h) id now).2.2&&(putB h.2.2.2.2.1 (qBD (poolH h) id now).2.1 32 id).2)))
def qFn(h:HubA)(id:Int)(s:ByteArray)(now:Int):HubA×qFB×Bool:=
 if joinOk h id now=true then(((qBD (poolH h) id now).1.1,((qBD (poolH h) id now).1.2.1,((qBD (poolH h) id now).1.2.2.1,((qBD (poolH h) id now).1.2.2.2.1,((putB h.2.2.2.2.1 (qBD (poolH h) id now).2.1 32 id).1,(putU h.2.2.2.2.2.1 (qGj id (qBD (poolH h) id now).2.1 (qFm s seedB seedA)),())))))),
  (qGj id (qBD (poolH h) id now).2.1 (qFm s seedA seedB),true))
 else(h,(user0,false))
theorem filter_ge{L:List qBg}{id:Int}(h:∀u∈L,u.1≠id):L.filter (fun x=>!decide (x.1<id))=L.filter (fun x=>decide (id<x.1)):=List.filter_congr fun x hx=>by
 have:=h x hx
 by_cases c:x.1<id
 ·have c':¬id<x.1:=by omega
  simp[c,c']
 ·have c':id<x.1:=by omega
  simp[c,c']
theorem i_Join_is(k:Nat)(h:HubA)(id:Int)(s:ByteArray)(now:Int)(hk:2097152<k)(hb:qCU h)(hs:s.size≤1048576) :
  i_Join k (h,(id,(s,(now,()))))=some (((qFn h id s now).1,((qFn h id s now).2.1,((qFn h id s now).2.2,()))),((),((),((),((),()))))):=by
 obtain⟨a0,a1,a2,a3,a4,a5,⟨⟩⟩:=h
 obtain⟨h1,h2,h3⟩:=qBC hb
 have e1:=i_copyHub_is k _ (by omega) hb
 have e2:=qCx k id 1 98
 have e3:=userAt_is k a5 id (by omega) h3.1
 have e4:=i_Grant_is k (a0,(a1,(a2,(a3,())))) id now (by omega) h1
 have e5:=i_PutRoute_is k a4 (qBD (a0,(a1,(a2,(a3,())))) id now).2.1 32 id (by omega) h2.1
 have e6:=i_PairSlots_is k s hs hk
 have e7:=i_withUser_is k a5 (qGj id (qBD (a0,(a1,(a2,(a3,())))) id now).2.1 (qFm s seedB seedA)) (by omega) h3.1
 unfold qGj at e7
 unfold i_Join
 dsimp only
 simp only[e1,e2,e3,e4,e5,e6,e7,Option.bind_some]
 unfold qFn joinOk
 dsimp only
 by_cases c1:1≤id∧id≤98
 rotate_left
 ·simp only[c1,decide_false,Bool.not_false,Bool.false_and,Bool.false_eq_true,if_false]
  rfl
 by_cases c2:atB a5 id<0
 rotate_left
 ·have c2':0≤atB a5 id:=by omega
  simp only[c1,c2,c2',and_self,decide_true,decide_false,Bool.not_true,Bool.true_and,Bool.false_and,Bool.false_eq_true,if_true,if_false]
  rfl
 have c2':¬0≤atB a5 id:=by omega
 by_cases c3:a5.length<3
 rotate_left
 ·have c3':(3:Int)≤(a5.length:Int):=by omega
  simp only[c1,c2,c2',c3,c3',and_self,decide_true,decide_false,Bool.not_true,Bool.true_and,Bool.false_and,Bool.false_eq_true,if_true,if_false]
  rfl
 have c3':¬(3:Int)≤(a5.length:Int):=by omega
 have hfil:=filter_ge (atB_no c2)
 simp only[c1,c2,c2',c3,c3',and_self,decide_true,decide_false,Bool.not_true,Bool.true_and,Bool.false_eq_true,if_true,if_false]
 cases c4:(qBD (a0,(a1,(a2,(a3,())))) id now).2.2 with
 | false=>simp only[Bool.not_false,Bool.false_and,Bool.false_eq_true,if_false];rfl
 | true =>
  cases c5:(putB a4 (qBD (a0,(a1,(a2,(a3,())))) id now).2.1 32 id).2 with
  | false=>simp only[Bool.not_true,Bool.not_false,Bool.and_false,Bool.false_eq_true,if_true,if_false];rfl
  | true =>
   simp only[Bool.not_true,Bool.and_self,Bool.false_eq_true,if_true,if_false]
   unfold putU qGj
   rw[←hfil]
theorem bd_flatU(id a:Int)(s x y:ByteArray):qEN (qGj id a (qFm s x y)):=by
 obtain⟨b1,b2,b3,b4,b5,b6,_⟩:=pair_bd s x y
 exact⟨b1,b2,b3,b4,b5,b6,⟨by show([]:List (Int×Int×Int×List ByteArray×List Bool×Int)).length≤_;decide,fun r hr=>by cases hr⟩,trivial⟩
theorem bd_user0:qEN user0:=by
 refine⟨?_,?_,?_,?_,?_,?_,⟨?_,fun r hr=>by cases hr⟩,trivial⟩
 ·show(⟨#[]⟩:ByteArray).size≤_;decide
 ·show(⟨#[]⟩:ByteArray).size≤_;decide
 ·show([]:List Int).length≤_;decide
 ·show(⟨#[]⟩:ByteArray).size≤_;decide
 ·show(⟨#[]⟩:ByteArray).size≤_;decide
 ·show([]:List Int).length≤_;decide
 ·show([]:List (Int×Int×Int×List ByteArray×List Bool×Int)).length≤_;decide
theorem bd_putU{L:List qBg}{u:qFB}(hb:qDj L)(hl:L.length<3)(hu:qEN u):qDj (putU L u):=by
 unfold putU
 refine⟨?_,fun r hr=>?_⟩
 ·have a:=List.length_filter_le (fun x:qBg=>decide (x.1<u.1)) L
  have b:=List.length_filter_le (fun x:qBg=>decide (u.1<x.1)) L
  simp only[List.length_append,List.length_singleton]
  omega
 ·rcases List.mem_append.1 hr with hr | hr
  ·rcases List.mem_append.1 hr with hr | hr
   ·exact hb.2 r (List.mem_filter.1 hr).1
   ·have hr:r=rowR u:=List.mem_singleton.1 hr
    subst hr
    exact hu
  ·exact hb.2 r (List.mem_filter.1 hr).1
theorem s_Join_is(k:Nat)(h:HubA)(id:Int)(s:ByteArray)(now:Int)(hk:2097152<k)(hb:qCU h)(hs:s.size≤1048576) :
  s_Join k (h,(id,(s,(now,()))))=some (((qFn h id s now).1,((qFn h id s now).2.1,((qFn h id s now).2.2,()))),((),((),((),((),()))))):=by
 obtain⟨a0,a1,a2,a3,a4,a5,⟨⟩⟩:=h
 obtain⟨h1,h2,h3⟩:=qBC hb
 have e1:=qGg k _ (by omega) hb
 have e3:=l22At_is k a5 id (by omega) h3.1
 have e4:=s_Grant_is k (a0,(a1,(a2,(a3,())))) id now (by omega) h1
 have e5:=qIp k a4 (qBD (a0,(a1,(a2,(a3,())))) id now).2.1 32 id (by omega) h2.1
 have e6:=s_PairSlots_is k s hs hk
 have e7:=s_l22Put_is k a5 (qGj id (qBD (a0,(a1,(a2,(a3,())))) id now).2.1 (qFm s seedB seedA)) (by omega) h3.1
 have e8:=fun hl=>qDL k (putU a5 (qGj id (qBD (a0,(a1,(a2,(a3,())))) id now).2.1 (qFm s seedB seedA))) (by omega) (bd_putU h3 hl (bd_flatU ..))
 unfold putU at e8
 unfold qGj at e7 e8
 unfold s_Join
 dsimp only
 simp only[e1,qCe,e3,e4,e5,e6,e7,Option.bind_some]
 unfold qFn joinOk
 dsimp only
 by_cases c1:1≤id∧id≤98
 rotate_left
 ·simp only[c1,decide_false,Bool.not_false,Bool.false_and,Bool.false_eq_true,if_false]
  rfl
 by_cases c2:atB a5 id<0
 rotate_left
 ·have c2':0≤atB a5 id:=by omega
  simp only[c1,c2,c2',and_self,decide_true,decide_false,Bool.not_true,Bool.true_and,Bool.false_and,Bool.false_eq_true,if_true,if_false]
  rfl
 have c2':¬0≤atB a5 id:=by omega
 by_cases c3:a5.length<3
 rotate_left
 ·have c3':(3:Int)≤(a5.length:Int):=by omega
  simp only[c1,c2,c2',c3,c3',and_self,decide_true,decide_false,Bool.not_true,Bool.true_and,Bool.false_and,Bool.false_eq_true,if_true,if_false]
  rfl
 have c3':¬(3:Int)≤(a5.length:Int):=by omega
 have e8:=e8 c3
 simp only[c1,c2,c2',c3,c3',and_self,decide_true,decide_false,Bool.not_true,Bool.true_and,Bool.false_eq_true,if_true,if_false]
 cases c4:(qBD (a0,(a1,(a2,(a3,())))) id now).2.2 with
 | false=>simp only[Bool.not_false,Bool.false_and,Bool.false_eq_true,if_false];rfl
 | true =>
  cases c5:(putB a4 (qBD (a0,(a1,(a2,(a3,())))) id now).2.1 32 id).2 with
  | false=>simp only[Bool.not_true,Bool.not_false,Bool.and_false,Bool.false_eq_true,if_true,if_false];rfl
  | true =>
   simp only[Bool.not_true,Bool.and_self,Bool.false_eq_true,if_true,if_false]
   unfold putU qGj
   simp only[e8,Option.bind_some]
theorem bd_grantB{x:qBn}(w now:Int)(hb:qEO x):qEO (qBD x w now).1:=by
 unfold qBD
 split
 ·split
  ·split
   ·exact hb
   ·split
    ·exact hb
    ·rename_i a _ hl
     refine⟨⟨?_,fun _ _=>trivial⟩,hb.2.1,trivial⟩
     have p:=List.length_filter_le (fun x:qAm=>decide (x.1<a)) x.2.2.1
     have q:=List.length_filter_le (fun x:qAm=>decide (a<x.1)) x.2.2.1
     show(insL x.2.2.1 a w (now+20)).length≤1048576
     unfold insL
     simp only[List.length_append,List.length_singleton]
     omega
  ·refine⟨⟨?_,fun _ _=>trivial⟩,hb.2.1,trivial⟩
   show(List.set _ _ _).length≤1048576
   rw[List.length_set]
   exact hb.1.1
 ·exact hb
theorem bd_joinB{h:HubA}(id:Int)(s:ByteArray)(now:Int)(hb:qCU h):qCU (qFn h id s now).1∧qEN (qFn h id s now).2.1:=by
 obtain⟨a0,a1,a2,a3,a4,a5,⟨⟩⟩:=h
 obtain⟨h1,h2,h3⟩:=qBC hb
 unfold qFn
 split
 ·rename_i hj
  unfold joinOk at hj
  simp only[Bool.and_eq_true,decide_eq_true_eq] at hj
  have:=bd_grantB id now h1
  exact⟨bd_hubOf this.1 this.2.1 (bd_putB _ _ _ h2) (bd_putU h3 hj.2.2.1 (bd_flatU ..)),bd_flatU ..⟩
 ·exact⟨hb,bd_user0⟩
def gLook(a:List qAT.den)(x:Int)(i:Nat)(b:Int×Int):(Int×Unit×Unit×Unit) ⊕ (Int×Int):=
 let r:=Ty.rd (t:=qAT) a i
 .inr (if inB r.1.1 r.1.2 x&&decide (b.1<r.1.2) then(r.1.2,r.2) else b)
def lookB(a:List qAT.den)(x:Int):Int:=if qCz a then(qDx (gLook a x) (fun b=>(b.2,((),((),())))) a.length 0 (-1,0)).1 else 0
theorem i_LookUp_is(k:Nat)(a:List qAT.den)(x:Int)(hk:1048576<k)(hl:a.length≤1048576):qG6 k (a,(x,()))=some (lookB a x,((),((),()))):=by
 unfold qG6 lookB
 simp only[qFe k a hk hl,Option.bind_some]
 cases hb:qCz a with
 | false=>simp
 | true =>
  simp only[Bool.not_true,Bool.false_eq_true,if_false,if_true]
  refine(qFo (A:=Int×Int×Int) (fun i b=>(x,((b.1,(b.2.1,(b.2.2,()))),(a,((a.length:Int),(((i:Nat):Int),())))))) a.length (fun i b=>.inr (if inB (Ty.rd (t:=qAT) a i).1.1 (Ty.rd (t:=qAT) a i).1.2 x&&decide (b.2.1<(Ty.rd (t:=qAT) a i).1.2) then((Ty.rd (t:=qAT) a i).1.1,(Ty.rd (t:=qAT) a i).1.2,(Ty.rd (t:=qAT) a i).2) else b)) (fun b=>(b.2.2,((),((),())))) (fun _ _=>True) ?_ (fun _ _ _ _ _ _=>trivial) ?_ k (0,-1,0) trivial (by omega)).trans ?_
  ·intro again i b hi _
   have w2:wi64 ((i:Int)+1)=((i+1:Nat):Int):=(qAH _ (by omega)).trans (by omega)
   have g1:(0:Int)≤(i:Int)∧(i:Int)<(a.length:Int):=by omega
   simp only[g1,qIk,w2,and_self,decide_true,if_true,Option.bind_some]
   cases inB (Ty.rd (t:=qAT) a i).1.1 (Ty.rd (t:=qAT) a i).1.2 x with
   | false=>simp
   | true=>by_cases h:b.2.1<(Ty.rd (t:=qAT) a i).1.2 <;> simp[h]
  ·intro again b _
   simp
  ·refine congrArg some ?_
   refine foldE_sim (n:=a.length) (fun(b:Int×Int×Int) (c:Int×Int)=>b.2=c) ?_ ?_ _ _ _ _ (by omega) rfl
   ·rintro i b c hi rfl
    refine .inr ⟨_,_,rfl,rfl,?_⟩
    split <;> rfl
   ·rintro b c rfl
    rfl
/-- A pool's law, in lists. -/
def PoolP(x:qBn):Prop:=prefB x.1 x.2.1=true∧(24≤x.2.1∧x.2.1≤30)∧x.2.2.1.length≤6∧x.2.2.2.1.length≤4∧(List.range x.2.2.2.1.length).all (fun j=>!badF x j)=true∧x.2.2.1.Pairwise (fun a b:qAm=>a.1<b.1∧a.2.1≠b.2.1) ∧
 ∀l:qAm,l∈x.2.2.1→qEl x.1 x.2.1 l.1=true∧(1≤l.2.1∧l.2.1≤99)∧(0≤l.2.2∧l.2.2≤1000000000)∧(qBo x.2.2.2.1 l.1=0∨qBo x.2.2.2.1 l.1=l.2.1)
theorem pool_row{x:qBn}(h:qC1 x=true)(i:Nat)(hi:i<x.2.2.1.length):(0≤x.2.2.1[i].2.2∧x.2.2.1[i].2.2≤1000000000)∧∀j (hj:j<i),(x.2.2.1[j]'(by omega)).2.1≠x.2.2.1[i].2.1:=by
 unfold qC1 at h
 simp only[Bool.and_eq_true,List.all_eq_true] at h
 have hb:=h.2.2.2.2.2 i (by simpa using hi)
 unfold badL at hb
 rw[qBv (t:=qAC) x.2.2.1 i hi] at hb
 simp only[Bool.not_not,Bool.and_eq_true,List.all_eq_true,decide_eq_true_eq] at hb
 obtain⟨_,_,_,b4,b5,_⟩:=hb
 refine⟨b4,fun j hj=>?_⟩
 have:=b5 j (List.mem_range.2 hj)
 rw[qBv (t:=qAC) x.2.2.1 j (by omega)] at this
 simpa using this
theorem pool_to{x:qBn}(h:qC1 x=true):PoolP x:=by
 obtain⟨n1,n2,n3,n4⟩:=qIr h
 refine⟨n1,n2,n3,n4,?_,?_,?_⟩
 ·unfold qC1 at h
  simp only[Bool.and_eq_true] at h
  exact h.2.2.2.2.1
 ·have ha:=lease_asc h
  rw[List.pairwise_iff_getElem] at ha ⊢
  exact fun i j hi hj hij=>⟨ha i j hi hj hij,(pool_row h j hj).2 i hij⟩
 ·intro l hl
  obtain⟨i,hi,rfl⟩:=List.getElem_of_mem hl
  obtain⟨_,a,b,c⟩:=qHC h i hi
  exact⟨a,b,(pool_row h i hi).1,c⟩
theorem pool_of{x:qBn}(h:PoolP x):qC1 x=true:=by
 obtain⟨n1,n2,n3,n4,n5,n6,n7⟩:=h
 unfold qC1
 simp only[n1,n2,n3,n4,n5,and_self,decide_true,Bool.true_and,List.all_eq_true,List.mem_range]
 intro i hi
 obtain⟨b1,b2,b3,b4⟩:=n7 x.2.2.1[i] (List.getElem_mem hi)
 rw[List.pairwise_iff_getElem] at n6
 unfold badL
 rw[qBv (t:=qAC) x.2.2.1 i hi]
 simp only[Bool.not_not,Bool.and_eq_true,Bool.not_eq_true',Bool.and_eq_false_iff,List.all_eq_true,decide_eq_true_eq,decide_eq_false_iff_not,Bool.or_eq_true]
 refine⟨?_,b1,b2,b3,fun j hj=>?_,b4⟩
 ·by_cases h0:0<i
  ·have w:wi64 ((i:Int)-1)=((i-1:Nat):Int):=(qAH _ (by omega)).trans (by omega)
   rw[w,qBv (t:=qAC) x.2.2.1 (i-1) (by omega)]
   exact .inr (Int.not_le.2 (n6 (i-1) i (by omega) hi (by omega)).1)
  ·exact .inl (by omega)
 ·have hj:=List.mem_range.1 hj
  rw[qBv (t:=qAC) x.2.2.1 j (by omega)]
  exact(n6 j i (by omega) hi hj).2
theorem hold_is{q:List qAC.den}{a w:Int}(h1:∃l:qAm,l∈q∧l.1=a)(h2:∀l:qAm,l∈q→l.1=a→l.2.1=w):qEn q a=w:=by
 unfold qEn
 split
 ·rename_i j hj
  obtain⟨g1,g2⟩:=qDd hj
  rw[qBv (t:=qAC) q j g1] at g2 ⊢
  exact h2 _ (List.getElem_mem g1) (by simpa using g2)
 ·rename_i hn
  obtain⟨l,hl,e⟩:=h1
  obtain⟨i,hi,rfl⟩:=List.getElem_of_mem hl
  have:=qGi hn i hi
  rw[qBv (t:=qAC) q i hi] at this
  simp[e] at this
theorem hold_no{q:List qAC.den}{a:Int}(h:∀l:qAm,l∈q→l.1≠a):qEn q a=0:=by
 unfold qEn
 split
 ·rename_i j hj
  obtain⟨g1,g2⟩:=qDd hj
  rw[qBv (t:=qAC) q j g1] at g2
  exact absurd (by simpa using g2) (h _ (List.getElem_mem g1))
 ·rfl
/-- Who is granted a lease has the one of that address, and none else. -/
theorem grant_ok{x:qBn}{w now:Int}(h:(qBD x w now).2.2=true):PoolP (qBD x w now).1∧(∀l:qAm,l∈(qBD x w now).1.2.2.1→(l.1=(qBD x w now).2.1↔l.2.1=w))∧∃l:qAm,l∈(qBD x w now).1.2.2.1∧l.1=(qBD x w now).2.1:=by
 obtain⟨p,n,L,Q,⟨⟩⟩:=x
 unfold qBD at h ⊢
 split at h
 rotate_left
 ·cases h
 rename_i h0
 obtain⟨hp,hw,hn⟩:=h0
 have hP:=pool_to hp
 obtain⟨n1,n2,n3,n4,n5,n6,n7⟩:=hP
 dsimp only at n1 n2 n3 n4 n5 n6 n7 h ⊢
 rw[if_pos ⟨hp,hw,hn⟩]
 by_cases c3:qCD L w<0
 ·rw[if_pos c3] at h ⊢
  cases ha:addrO (p,(n,(L,(Q,())))) w with
  | none=>rw[ha] at h;cases h
  | some a =>
   rw[ha] at h
   dsimp only at h ⊢
   by_cases c4:6≤L.length
   ·rw[if_pos c4] at h;cases h
   rw[if_neg c4]
   obtain⟨f1,f2,f3,f4⟩:=addr_free hp c3 ha
   have f5:=leaseB_no c3
   dsimp only at f1 f2 f4 f5
   have e:=List.takeWhile_append_dropWhile (p:=fun x:qAm=>decide (x.1<a)) (l:=L)
   obtain⟨s1,s2⟩:=asc_split (f:=fun x:qAm=>x.1) a (lease_asc hp) f1
   dsimp only at s1 s2
   rw[s1,s2] at e
   have hmem:∀l:qAm,l∈insL L a w (now+20)→l∈L∨l=(a,(w,now+20)):=by
    intro l hl
    unfold insL at hl
    rcases List.mem_append.1 hl with hl | hl
    ·rcases List.mem_append.1 hl with hl | hl
     ·exact .inl (List.mem_filter.1 hl).1
     ·exact .inr (List.mem_singleton.1 hl)
    ·exact .inl (List.mem_filter.1 hl).1
   refine⟨⟨n1,n2,?_,n4,n5,?_,?_⟩,?_,(a,(w,now+20)),?_,rfl⟩
   ·have:=congrArg List.length e
    unfold insL
    simp only[List.length_append,List.length_cons,List.length_nil] at this ⊢
    omega
   ·rw[←e] at n6
    obtain⟨q1,q2,q3⟩:=List.pairwise_append.1 n6
    unfold insL
    refine List.pairwise_append.2 ⟨List.pairwise_append.2 ⟨q1,List.pairwise_singleton ..,?_⟩,q2,?_⟩
    ·intro u hu v hv
     have hv:=List.mem_singleton.1 hv
     subst hv
     obtain⟨u1,u2⟩:=List.mem_filter.1 hu
     exact⟨by simpa using u2,f5 u u1⟩
    ·intro u hu v hv
     rcases List.mem_append.1 hu with hu | hu
     ·exact q3 u hu v hv
     ·have hu:=List.mem_singleton.1 hu
      subst hu
      obtain⟨u1,u2⟩:=List.mem_filter.1 hv
      exact⟨by simpa using u2,fun e=>f5 v u1 e.symm⟩
   ·intro l hl
    rcases hmem l hl with hl | rfl
    ·exact n7 l hl
    ·exact⟨f2,hw,by dsimp only;omega,f4⟩
   ·intro l hl
    rcases hmem l hl with hl | rfl
    ·exact⟨fun e=>absurd e (f1 l hl),fun e=>absurd e (f5 l hl)⟩
    ·exact⟨fun _=>rfl,fun _=>rfl⟩
   ·unfold insL
    exact List.mem_append_left _ (List.mem_append_right _ (List.mem_singleton.2 rfl))
 ·rw[if_neg c3]
  obtain⟨i,hi,g1,g2,_⟩:=leaseB_yes c3
  rw[g1,qBv (t:=qAC) L i hi,Int.toNat_natCast]
  have hm:(L.set i (L[i].1,(L[i].2.1,now+20))).map (fun l:qAm=>(l.1,l.2.1))=L.map (fun l:qAm=>(l.1,l.2.1)):=by
   rw[List.map_set]
   have hs:=List.set_getElem_self (show i<(L.map (fun l:qAm=>(l.1,l.2.1))).length by simpa using hi)
   rw[List.getElem_map] at hs
   exact hs
  have hmem:∀l:qAm,l∈L.set i (L[i].1,(L[i].2.1,now+20))→l∈L∨l=(L[i].1,(L[i].2.1,now+20)):=fun l hl=>List.mem_or_eq_of_mem_set hl
  have huni:∀l:qAm,l∈L→(l.1=L[i].1↔l.2.1=w):=by
   intro l hl
   obtain⟨j,hj,rfl⟩:=List.getElem_of_mem hl
   rw[List.pairwise_iff_getElem] at n6
   rcases Nat.lt_trichotomy i j with hij | hij | hij
   ·have:=n6 i j hi hj hij
    have a1:(L[i]:qAm).1<(L[j]:qAm).1:=this.1
    have a2:(L[i]:qAm).2.1≠(L[j]:qAm).2.1:=this.2
    exact⟨fun e=>by rw[e] at a1;exact absurd a1 (Int.lt_irrefl _),fun e=>absurd (g2.trans e.symm) a2⟩
   ·subst hij
    exact⟨fun _=>g2,fun _=>rfl⟩
   ·have:=n6 j i hj hi hij
    have a1:(L[j]:qAm).1<(L[i]:qAm).1:=this.1
    have a2:(L[j]:qAm).2.1≠(L[i]:qAm).2.1:=this.2
    exact⟨fun e=>by rw[e] at a1;exact absurd a1 (Int.lt_irrefl _),fun e=>absurd (e.trans g2.symm) a2⟩
  have hLi:=n7 L[i] (List.getElem_mem hi)
  refine⟨⟨n1,n2,by rw[List.length_set];exact n3,n4,n5,?_,?_⟩,?_,(L[i].1,(L[i].2.1,now+20)),?_,rfl⟩
  ·have:(L.map (fun l:qAm=>(l.1,l.2.1))).Pairwise (fun a b=>a.1<b.1∧a.2≠b.2):=List.pairwise_map.2 n6
   rw[←hm] at this
   exact List.pairwise_map.1 this
  ·intro l hl
   rcases hmem l hl with hl | rfl
   ·exact n7 l hl
   ·exact⟨hLi.1,hLi.2.1,by dsimp only;omega,hLi.2.2.2⟩
  ·intro l hl
   rcases hmem l hl with hl | rfl
   ·exact huni l hl
   ·exact⟨fun _=>g2,fun _=>rfl⟩
  ·exact List.mem_set hi _
theorem rel_no{x:qBn}{w a:Int}(hp:PoolP x)(hu:∀l:qAm,l∈x.2.2.1→(l.1=a↔l.2.1=w)):qEn (relB x w).1.2.2.1 a=0:=by
 unfold relB
 have hf:∀l:qAm,l∈relF x.2.2.1 w→l.1≠a:=by
  intro l hl e
  unfold relF at hl
  obtain⟨h1,h2⟩:=List.mem_filter.1 hl
  have:=(hu l h1).1 e
  simp[this] at h2
 split
 ·exact hold_no hf
 ·rename_i h
  simp only[pool_of hp,true_and,Decidable.not_not] at h
  have:relF x.2.2.1 w=x.2.2.1:=by
   unfold relF at h ⊢
   exact List.filter_sublist.eq_of_length h
  rw[this] at hf
  exact hold_no hf
/-- What a table's walk for the longest match ends with. -/
theorem look_fold{M:List qB5}{a:Int}(P:Int×Int→Prop)(hstep:∀i (hi:i<M.length) b,P b→inB M[i].1.1 M[i].1.2 a=true→b.1<M[i].1.2→P (M[i].1.2,M[i].2)) :
  ∀m i b,i+m=M.length→P b→∃b',P b'∧(∀j (hj:j<M.length),i≤j→inB M[j].1.1 M[j].1.2 a=true→M[j].1.2≤b'.1)∧b.1≤b'.1∧qDx (gLook M a) (fun b=>(b.2,((),((),())))) m i b=(b'.2,((),((),()))):=by
 intro m
 induction m with
 | zero=>exact fun i b hi hb=>⟨b,hb,fun j hj hij=>by omega,Int.le_refl _,rfl⟩
 | succ m ih =>
  intro i b hi hb
  have hlt:i<M.length:=by omega
  have hr:Ty.rd (t:=qAT) M (i:Nat)=M[i]:=qBv (t:=qAT) M i hlt
  by_cases c:inB M[i].1.1 M[i].1.2 a=true∧b.1<M[i].1.2
  ·obtain⟨b',h1,h2,h3,h4⟩:=ih (i+1) (M[i].1.2,M[i].2) (by omega) (hstep i hlt b hb c.1 c.2)
   have h3:M[i].1.2≤b'.1:=h3
   refine⟨b',h1,fun j hj hij hin=>?_,by omega,?_⟩
   ·by_cases e:i=j
    ·subst e;exact h3
    ·exact h2 j hj (by omega) hin
   ·rw[←h4]
    conv=>lhs;unfold qDx
    unfold gLook
    simp only[hr,c.1,c.2,decide_true,Bool.and_self,if_true]
  ·obtain⟨b',h1,h2,h3,h4⟩:=ih (i+1) b (by omega) hb
   refine⟨b',h1,fun j hj hij hin=>?_,h3,?_⟩
   ·by_cases e:i=j
    ·subst e
     have:¬b.1<M[i].1.2:=fun h=>c ⟨hin,h⟩
     omega
    ·exact h2 j hj (by omega) hin
   ·rw[←h4]
    conv=>lhs;unfold qDx
    unfold gLook
    have:(inB M[i].1.1 M[i].1.2 a&&decide (b.1<M[i].1.2))=false:=by
     cases h:inB M[i].1.1 M[i].1.2 a
     ·rfl
     ·have:¬b.1<M[i].1.2:=fun h'=>c ⟨h,h'⟩
      simp[this]
    simp only[hr,this,Bool.false_eq_true,if_false]
theorem qAe{M:List qB5}{a id:Int}(hr:qCz M=true)(hm:((a,32),id)∈M):lookB M a=id:=by
 have hlen:=qHA hr
 have hall:=foldE_all (gRoute_or M) M.length 0 hr
 have hs:=qIn (by omega) hr
 rw[List.pairwise_iff_getElem] at hs
 obtain⟨i0,hi0,e0⟩:=List.getElem_of_mem hm
 have hok:∀i (hi:i<M.length),(0≤M[i].1.1∧M[i].1.1≤4294967295)∧(0≤M[i].1.2∧M[i].1.2≤32)∧M[i].1.1 % 2^(32-M[i].1.2.toNat)=0:=fun i hi=>by
  have:=hall i (by omega) (by omega)
  unfold qHV at this
  rw[qBv (t:=qAT) M i hi] at this
  dsimp only at this
  split at this
  ·rename_i hc
   simp only[Bool.and_eq_true] at hc
   exact of_decide_eq_true hc.1
  ·cases this
 have h0:=hok i0 hi0
 rw[e0] at h0
 dsimp only at h0
 obtain⟨b',h1,h2,_,h4⟩:=look_fold (M:=M) (a:=a) (fun b=>b.1≤32∧(b.1=32→b.2=id)) (fun i hi b _ hin _=>by
  refine⟨(hok i hi).2.1.2,fun h32=>?_⟩
  have h32:M[i].1.2=32:=h32
  unfold inB at hin
  simp only[Bool.and_eq_true,decide_eq_true_eq,h32] at hin
  have ea:M[i].1.1=a:=by
   have:=hin.2.2
   simp at this
   omega
  have:i=i0:=by
   rcases Nat.lt_trichotomy i i0 with hij | hij | hij
   ·have:=hs i i0 hi hi0 hij
    rw[e0,ea,h32,qEP] at this
    cases this
   ·exact hij
   ·have:=hs i0 i hi0 hi hij
    rw[e0,ea,h32,qEP] at this
    cases this
  subst this
  rw[e0]) M.length 0 (-1,0) (by omega) ⟨by decide,fun h=>by cases h⟩
 have hin:inB a 32 a=true:=by
  unfold inB
  simp only[Bool.and_eq_true,decide_eq_true_eq]
  exact⟨h0,h0.1,by simp⟩
 have:=h2 i0 hi0 (by omega) (by rw[e0];exact hin)
 rw[e0] at this
 have this:(32:Int)≤b'.1:=this
 unfold lookB
 rw[if_pos hr,h4]
 exact h1.2 (by omega)
theorem look_drop{M:List qB5}{a id:Int}(h0:id≠0)(hm:∀r∈M,r.2≠id):lookB M a≠id:=by
 unfold lookB
 split
 ·obtain⟨b',h1,_,_,h4⟩:=look_fold (M:=M) (a:=a) (fun b=>b.2≠id) (fun i hi b _ _ _=>hm _ (List.getElem_mem hi)) M.length 0 (-1,0) (by omega) (fun e=>h0 e.symm)
  rw[h4]
  exact h1
 ·exact fun e=>h0 e.symm
theorem put_len{L:List qBg}{id:Int}(h:∀u∈L,u.1≠id):(L.filter (fun x=>decide (x.1<id))).length+(L.filter (fun x=>decide (id<x.1))).length=L.length:=by
 induction L with
 | nil=>rfl
 | cons x L ih =>
  have:=ih fun u hu=>h u (List.mem_cons_of_mem _ hu)
  have hx:=h x (List.mem_cons_self ..)
  by_cases c:x.1<id
  ·have c':¬id<x.1:=by omega
   simp only[List.filter_cons,c,c',decide_true,decide_false,Bool.false_eq_true,if_true,if_false,List.length_cons]
   omega
  ·have c':id<x.1:=by omega
   simp only[List.filter_cons,c,c',decide_true,decide_false,Bool.false_eq_true,if_true,if_false,List.length_cons]
   omega
theorem put_mem{L:List qBg}{u:qFB}{x:qBg}(h:x∈putU L u):x=rowR u∨x.1≠u.1:=by
 unfold putU at h
 rcases List.mem_append.1 h with h | h
 ·rcases List.mem_append.1 h with h | h
  ·have:=(List.mem_filter.1 h).2
   exact .inr (by have:=of_decide_eq_true this;omega)
  ·exact .inl (List.mem_singleton.1 h)
 ·have:=(List.mem_filter.1 h).2
  exact .inr (by have:=of_decide_eq_true this;omega)
theorem put_in(L:List qBg)(u:qFB):rowR u∈putU L u:=by
 unfold putU
 exact List.mem_append_left _ (List.mem_append_right _ (List.mem_singleton.2 rfl))
theorem del_put{L:List qBg}{u:qFB}(h:∀x∈L,x.1≠u.1):(delU (putU L u) u.1).length=L.length:=by
 have e1:(L.filter (fun x:qBg=>decide (x.1<u.1))).filter (fun x=>!decide (x.1=u.1))=L.filter (fun x:qBg=>decide (x.1<u.1)):=List.filter_eq_self.2 fun y hy=>by
  have:=of_decide_eq_true (List.mem_filter.1 hy).2
  have:¬y.1=u.1:=by omega
  simp[this]
 have e2:(L.filter (fun x:qBg=>decide (u.1<x.1))).filter (fun x=>!decide (x.1=u.1))=L.filter (fun x:qBg=>decide (u.1<x.1)):=List.filter_eq_self.2 fun y hy=>by
  have:=of_decide_eq_true (List.mem_filter.1 hy).2
  have:¬y.1=u.1:=by omega
  simp[this]
 have e3:[rowR u].filter (fun x:qBg=>!decide (x.1=u.1))=[]:=List.filter_eq_nil_iff.2 fun y hy=>by
  have:=List.mem_singleton.1 hy
  subst this
  simp[rowR]
 have:=put_len h
 unfold delU putU
 rw[List.filter_append,List.filter_append,e1,e2,e3]
 simp only[List.length_append,List.length_nil]
 omega
theorem atB_yes{q:List qA1.den}{u:qBg}(h:u∈q):¬atB q u.1<0:=by
 unfold atB
 split
 ·omega
 ·rename_i hn
  obtain⟨i,hi,rfl⟩:=List.getElem_of_mem h
  have:=qGi hn i hi
  rw[qBv (t:=qA1) q i hi] at this
  simp at this
theorem atB_del(q:List qA1.den)(id:Int):atB (delU q id) id<0:=by
 unfold atB
 split
 ·rename_i j hj
  obtain⟨g1,g2⟩:=qDd hj
  rw[qBv (t:=qA1) _ j g1] at g2
  have hm:((delU q id)[j]:qBg)∈q.filter (fun x:qBg=>!decide (x.1=id)):=List.getElem_mem g1
  have:=(List.mem_filter.1 hm).2
  have g2:((delU q id)[j]:qBg).1=id:=by simpa using g2
  simp[g2] at this
 ·omega
abbrev Cur:Type:=List Int×Int×Int×Unit
def qFj(c:Cur):Prop:=0≤c.2.1∧c.2.1≤(c.1.length:Int)∧c.1.length≤1048576
theorem and255(y:Int):0≤qAa .and .i64 y 255∧qAa .and .i64 y 255≤255:=by
 have h:(BitVec.ofInt 64 y &&& BitVec.ofInt 64 255).toNat≤255:=by
  rw[BitVec.toNat_and]
  exact Nat.le_trans Nat.and_le_right (by decide)
 show 0≤IntKind.i64.wrap ((BitVec.ofInt 64 y &&& BitVec.ofInt 64 255).toNat:Int)∧IntKind.i64.wrap ((BitVec.ofInt 64 y &&& BitVec.ofInt 64 255).toNat:Int)≤255
 rw[qAH _ (by omega)]
 omega
theorem Byte_is(k:Nat)(c:Cur)(hc:qFj c):∃(v:Int) (c':Cur),qB4 k (c,())=some (v,(c',()))∧0≤v∧v≤255∧qFj c':=by
 obtain⟨h0,h1,h2⟩:=hc
 unfold qB4
 by_cases h:c.2.1<(c.1.length:Int)
 ·have w:wi64 (c.2.1+1)=c.2.1+1:=qAH _ (by omega)
  simp only[h,h0,and_self,decide_true,if_true]
  refine⟨_,_,rfl,(and255 _).1,(and255 _).2,?_⟩
  exact⟨by simp only[w];omega,by simp only[w];omega,h2⟩
 ·simp only[h,decide_false,Bool.false_eq_true,if_false]
  exact⟨_,_,rfl,(and255 _).1,(and255 _).2,h0,h1,h2⟩
theorem tmod_in(v n:Int)(h:0≤v)(hn:0<n):0≤Int.tmod v n∧Int.tmod v n<n:=by
 rw[Int.tmod_eq_emod_of_nonneg h]
 exact⟨Int.emod_nonneg _ (by omega),Int.emod_lt_of_pos _ hn⟩
theorem qEf(k:Nat)(c:Cur)(n:Int)(hc:qFj c):∃(v:Int) (c':Cur),qBl k (c,(n,()))=some (v,(c',((),())))∧0≤v∧(0<n→v<n)∧qFj c':=by
 unfold qBl
 by_cases hn:n≤0
 ·simp only[hn,decide_true,if_true]
  exact⟨0,c,rfl,by omega,fun h=>by omega,hc⟩
 ·have hz:¬n=0:=by omega
  obtain⟨v1,c1,e1,a1,b1,hc1⟩:=Byte_is k c hc
  by_cases hs:n≤256
  ·simp only[hn,hs,hz,e1,decide_true,decide_false,Bool.false_eq_true,if_true,if_false,Option.bind_some]
   exact⟨_,_,rfl,(tmod_in v1 n a1 (by omega)).1,fun _=>(tmod_in v1 n a1 (by omega)).2,hc1⟩
  ·obtain⟨v2,c2,e2,a2,b2,hc2⟩:=Byte_is k c1 hc1
   obtain⟨v3,c3,e3,a3,b3,hc3⟩:=Byte_is k c2 hc2
   obtain⟨v4,c4,e4,a4,b4,hc4⟩:=Byte_is k c3 hc3
   have e:0≤wi64 (wi64 (wi64 (wi64 (v1*16777216)+wi64 (v2*65536))+wi64 (v3*256))+v4):=by
    simp only[wi64,IntKind.wrap_i64]
    omega
   simp only[hn,hs,hz,e1,e2,e3,e4,decide_false,Bool.false_eq_true,if_false,Option.bind_some]
   exact⟨_,_,rfl,(tmod_in _ n e (by omega)).1,fun _=>(tmod_in _ n e (by omega)).2,hc4⟩
theorem PickInt_is(k:Nat)(c:Cur)(l:List Int)(hc:qFj c)(hl:0<l.length):∃(v:Int) (c':Cur),qCn k (c,(l,()))=some (v,(c',((),())))∧v∈l∧qFj c':=by
 obtain⟨v,c',e,h0,h1,h⟩:=qEf k c (l.length:Int) hc
 have h1:=h1 (by omega)
 unfold qCn
 simp only[e,h0,h1,and_self,if_true,Option.bind_some]
 refine⟨_,_,rfl,?_,h⟩
 rw[rd_get (t:=.int .i64) l v (by omega)]
 exact List.getElem_mem _
theorem strOf_size(l:List Int):(qAl l).size=l.length:=by simp[qAl,ByteArray.size]
theorem Text_is(k:Nat)(c:Cur)(n:Int)(hc:qFj c)(hk:1048576<k):∃(t:ByteArray) (c':Cur),qGL k (c,(n,()))=some (t,(c',((),())))∧t.size≤5000∧qFj c':=by
 have hcap:capMax=274877906944:=rfl
 unfold qGL
 simp only[decide_eq_true_eq]
 rw[jn_one]
 have hm:(if 5000<n then(5000:Int) else n)≤5000:=by split <;> omega
 generalize (if 5000<n then(5000:Int) else n)=m at hm
 obtain⟨r,h1,h2,h3⟩:=(qHW (T:=ByteArray×Cur) (g:=fun r=>(r.1,(r.2,((),())))) (fun y:Cur×Int×List Int×Int×Unit=>(m-y.2.2.2.1).toNat) (fun y=>qFj y.1∧y.2.1=m∧0≤y.2.2.2.1∧(y.2.2.1.length:Int)=y.2.2.2.1∧y.2.2.1.length≤5000) (fun _ r=>r.1.size≤5000∧qFj r.2) (step:=fun(rec0:(Cur×Int×List (Int)×Int×Unit)→Option (ByteArray×Cur×Unit×Unit)) (y0:Cur×Int×List (Int)×Int×Unit) =>
  (if y0.2.2.2.1<y0.2.1 then
  ((qB4 k ((y0.1.1,(y0.1.2.1,(y0.1.2.2.1,()))),())).bind fun p2 =>
  (if List.length y0.2.2.1+List.length ([(wu8 (p2.1))]:List (Int))≤capMax then
  (rec0 ((p2.2.1.1,(p2.2.1.2.1,(p2.2.1.2.2.1,()))),(y0.2.1,((y0.2.2.1++([(wu8 (p2.1))]:List (Int))),((wi64 (y0.2.2.2.1+(1:Int))),())))))
  else none))
  else
  some ((qAl y0.2.2.1),((y0.1.1,(y0.1.2.1,(y0.1.2.2.1,()))),((),()))))) (by
   rintro⟨c,m',l,i,u⟩ ⟨g0,g1,g2,g3,g4⟩ again hg
   simp only at g0 g1 g2 g3 g4
   subst g1
   by_cases hi:i<m'
   ·obtain⟨v,c',e,_,_,hc'⟩:=Byte_is k c g0
    have w:wi64 (i+1)=i+1:=qAH _ (by omega)
    simp only[hi,if_true,e,Option.bind_some,w]
    rw[if_pos (by simp only[List.length_singleton];omega)]
    exact hg (c',(m',((l++[wu8 v]),(i+1,())))) ⟨hc',rfl,by simp only;omega,by simp only[List.length_append,List.length_singleton];omega,by simp only[List.length_append,List.length_singleton];omega⟩ (by simp only;omega)
   ·simp only[hi,if_false]
    exact⟨(qAl l,c),rfl,by rw[strOf_size];exact g4,g0⟩) k (c,(m,(([]:List Int),((0:Int),())))) ⟨hc,rfl,by simp,by simp,by simp⟩ (by simp only;omega))
 exact⟨r.1,r.2,h1,h2,h3⟩
theorem New_is(k:Nat)(a:List Int)(hl:a.length≤1048576)(hk:1048576<k):∃c:Cur,qGz k (a,())=some (c,((),()))∧qFj c:=by
 unfold qGz
 refine qHW (g:=fun c:Cur=>(c,((),()))) (fun y:List Int×Int×Int×Unit=>(a.length-y.2.2.1).toNat) (fun y=>y.1=a∧0≤y.2.2.1) (fun _ c=>qFj c) ?_ k _ ⟨rfl,by simp⟩ (by simp only;omega)
 rintro⟨b,h,i,u⟩ ⟨g1,g2⟩ again hg
 simp only at g1 g2
 subst g1
 by_cases hi:i<(b.length:Int)
 ·by_cases h4:i<4000
  ·have w:wi64 (i+1)=i+1:=qAH _ (by omega)
   simp only[hi,h4,g2,and_self,decide_true,if_true,w]
   exact hg _ ⟨rfl,by simp only;omega⟩ (by simp only;omega)
  ·simp only[hi,h4,decide_true,decide_false,if_true,Bool.false_eq_true,if_false]
   exact⟨_,rfl,by simp,by simp,hl⟩
 ·simp only[hi,decide_false,Bool.false_eq_true,if_false]
  exact⟨_,rfl,by simp,by simp,hl⟩
theorem DrawPlaces_is(k:Nat)(a:List Int)(ha:a.length≤1048576)(hk:2097152<k):∃l:List Int,qDW k (a,())=some (l,((),()))∧l.length=12∧∀x∈l,0≤x∧x<10000:=by
 unfold qDW
 obtain⟨c,e1,hc⟩:=New_is k a ha (by omega)
 obtain⟨v,c1,e2,_,_,hc1⟩:=Byte_is k c hc
 simp only[e1,e2,Option.bind_some]
 refine(fun(key:∃r,_=some r∧(∃l:List Int,r=(l,((),()))∧l.length=12∧∀x∈l,0≤x∧x<10000))=>by obtain⟨r,h1,l,rfl,h2⟩:=key;exact⟨l,h1,h2⟩) ?_
 refine whileK_ends (X:=Cur×List Int×Int×Unit) (R:=List Int×Unit×Unit) (fun q=>(12-q.2.2.1).toNat) (fun q=>qFj q.1∧(q.2.1.length:Int)=q.2.2.1∧q.2.2.1≤12∧∀x∈q.2.1,0≤x∧x<10000) (fun _ r=>∃l:List Int,r=(l,((),()))∧l.length=12∧∀x∈l,0≤x∧x<10000)
  ?_ k (c1,([],(0,()))) ⟨hc1,rfl,by show(0:Int)≤12;decide,by intro x hx;cases hx⟩ (by show 12<k;omega)
 rintro⟨c2,out,i,⟨⟩⟩ ⟨hc2,hl,i1,hin⟩ again hag
 simp only at hc2 hl i1 hin hag
 by_cases g:i<12
 ·obtain⟨w,c3,b1,w0,w1,hc3⟩:=qEf k c2 10000 hc2
  have w1:=w1 (by omega)
  have e2:wi64 (i+1)=i+1:=qAH _ (by omega)
  have hcap:out.length+([w]:List Int).length≤capMax:=qGb _ _ (by simp;omega)
  simp only[g,b1,e2,hcap,decide_true,if_true,Option.bind_some]
  refine hag (c3,(out++[w],(i+1,()))) ⟨hc3,by simp;omega,by show i+1≤12;omega,fun x hx=>?_⟩ (by show(12-(i+1)).toNat<(12-i).toNat;omega)
  rcases List.mem_append.1 hx with hx | hx
  ·exact hin x hx
  ·simp at hx;subst hx;exact⟨w0,w1⟩
 ·simp only[g,decide_false,Bool.false_eq_true,if_false]
  exact⟨_,rfl,out,rfl,by omega,hin⟩
theorem PrefixOf_is(k:Nat)(a n:Int)(h:0≤n∧n≤32)(hk:40<k):∃(p m:Int) (b:Bool),qDs k (a,(n,()))=some (((p,(m,())),(b,())),((),((),()))):=by
 unfold qDs
 simp only[qFW,Option.bind_some]
 by_cases c:0≤a∧a≤4294967295
 ·have hp:=qFd (32-n.toNat)
  simp only[c,qCe,h,and_self,decide_true,Bool.not_true,if_true,Bool.false_eq_true,if_false,Option.bind_some,qFA k n h hk]
  rw[if_neg (by omega)]
  exact⟨_,_,_,rfl⟩
 ·simp only[c,decide_false,Bool.not_false,Bool.true_eq_false,if_false]
  exact⟨_,_,_,rfl⟩
theorem l22Net_is(k:Nat)(c:Cur)(hc:qFj c)(hk:40<k):∃(p n:Int) (c':Cur),qIJ k (c,())=some ((p,(n,())),(c',()))∧qFj c':=by
 obtain⟨v,c1,e1,hv,h1⟩:=PickInt_is k c [24,28,29] hc (by simp)
 obtain⟨p,m,b,e2⟩:=PrefixOf_is k 167772160 v (by simp at hv;omega) hk
 unfold qIJ
 simp only[e1,e2,Option.bind_some]
 exact⟨_,_,_,rfl,h1⟩
theorem l08Prefix_is(k:Nat)(c:Cur)(hc:qFj c)(hk:40<k):∃(p n:Int) (c':Cur),qEB k (c,())=some ((p,(n,())),(c',()))∧qFj c':=by
 obtain⟨u,c0,e0,_,_,h0⟩:=qEf k c 1024 hc
 obtain⟨v,c1,e1,hv,h1⟩:=PickInt_is k c0 [0,8,22,24,25,26,28,29,30,31,32] h0 (by simp)
 obtain⟨p,m,b,e2⟩:=PrefixOf_is k (wi64 (167772160+u)) v (by simp at hv;omega) hk
 unfold qEB
 simp only[e0,e1,e2,Option.bind_some]
 exact⟨_,_,_,rfl,h1⟩
theorem bd_hub0(p n:Int):qCU (p,(n,([],([],([],([],())))))):=
 bd_hubOf ⟨by simp,fun r hr=>by cases hr⟩ ⟨by simp,fun r hr=>by cases hr⟩ ⟨by simp,fun r hr=>by cases hr⟩ ⟨by simp,fun r hr=>by cases hr⟩
theorem HubNew_is(k:Nat)(p n:Int)(hk:1048576<k):∃(h:HubA) (b:Bool),qEx k ((p,(n,())),())=some ((h,(b,())),((),()))∧qCU h:=by
 unfold qEx
 simp only[qHv k (p,(n,([],([],())))) hk (by simp) (by simp),Option.bind_some]
 cases qC1 (p,(n,([],([],()))))
 ·simp only[Bool.not_false,if_true]
  exact⟨_,_,rfl,bd_hub0 0 0⟩
 ·simp only[Bool.not_true,Bool.false_eq_true,if_false]
  exact⟨_,_,rfl,bd_hub0 p n⟩
theorem Join_f(k:Nat)(h:HubA)(id:Int)(s:ByteArray)(now:Int)(hk:2097152<k)(hb:qCU h)(hs:s.size≤1048576):s_Join_f k (h,(id,(s,(now,()))))=some (((qFn h id s now).1,((qFn h id s now).2.1,((qFn h id s now).2.2,()))),((),((),((),((),()))))):=s_Join_is k h id s now hk hb hs
theorem Leave_f(k:Nat)(x:HubA)(f:Int)(hk:1048576<k)(hb:qCU x):qGN k (x,(f,()))=some (((qFl x f).1,((qFl x f).2,())),((),((),()))):=by
 obtain⟨a0,a1,a2,a3,a4,a5,⟨⟩⟩:=x
 obtain⟨h1,h2,h3⟩:=qBC hb
 have hl:a5.length≤1048576:=h3.1
 have hcap:capMax=274877906944:=rfl
 unfold qGN qFl
 simp only[qGg k (a0,(a1,(a2,(a3,(a4,(a5,())))))) hk hb,l22At_is k a5 f hk h3.1,Option.bind_some]
 by_cases q:atB a5 f<0
 ·simp only[q,decide_true,if_true]
 ·simp only[q,decide_false,Bool.false_eq_true,if_false,s_Release_is k (a0,(a1,(a2,(a3,())))) f hk h1,s_DropTo_is k a4 f hk h2.1,Option.bind_some]
  generalize hr:relB (a0,(a1,(a2,(a3,())))) f=rb
  obtain⟨⟨b0,b1,b2,b3,⟨⟩⟩,ok⟩:=rb
  refine Eq.trans (loop_pick (A:=qA1.den) a5 (fun x=>!decide (x.1=f)) (fun i out=>(f,((a0,(a1,(a2,(a3,(a4,(a5,())))))),(((0:Int),((0:Int),([],([],([],([],())))))),((b0,(b1,(b2,(b3,(dropR a4 f,(a5,())))))),(out,((i:Int),()))))))) (fun out=>(qBE k (out,())).bind fun p=>some (((b0,(b1,(b2,(b3,(dropR a4 f,(p.1,())))))),(true,())),((),((),())))) ?_ ?_ k (by omega)) ?_
  ·intro again i out y ho hi hy
   have w':wi64 ((i:Int)+1)=((i+1:Nat):Int):=(qAH _ (by omega)).trans (by omega)
   have p1:(i:Int)<(a5.length:Int):=by omega
   have p2:0≤(i:Int):=by omega
   have c3:out.length+1≤capMax:=by omega
   obtain⟨y0,y1,⟨⟨y2,y3,y4,y5,y6,y7⟩,y8,y9,y10,y11,y12,y13⟩,y14,y15⟩:=y
   by_cases q:y0=f
   ·simp only[Ty.rd,Int.toNat_natCast,qA9 hy,p1,p2,w',c3,q,decide_true,Bool.not_true,Bool.false_eq_true,if_false,and_self,if_true]
   ·simp only[Ty.rd,Int.toNat_natCast,qA9 hy,p1,p2,w',c3,q,List.length_nil,List.length_cons,decide_false,Bool.not_false,decide_true,and_self,if_true,Nat.zero_add]
  ·intro again out
   have:¬(a5.length:Int)<(a5.length:Int):=by omega
   simp only[this,decide_false,Bool.false_eq_true,if_false]
  ·have e:=qDL k (delU a5 f) hk (bd_delU f h3)
   unfold delU at e ⊢
   simp only[e,Option.bind_some]
theorem AddNet_f(k:Nat)(x:HubA)(f p n:Int)(hk:1048576<k)(hb:qCU x):qEy k (x,(f,((p,(n,())),())))=some (((netB x f p n).1,((netB x f p n).2,())),((),((),((),())))):=by
 obtain⟨a0,a1,a2,a3,a4,a5,⟨⟩⟩:=x
 obtain⟨h1,h2,h3⟩:=qBC hb
 unfold qEy netB
 simp only[qGg k (a0,(a1,(a2,(a3,(a4,(a5,())))))) hk hb,l22At_is k a5 f hk h3.1,qIp k a4 p n f hk h2.1,Option.bind_some]
 by_cases q:atB a5 f<0
 ·cases hq:(putB a4 p n f).2 <;> simp[q]
 ·cases hq:(putB a4 p n f).2 <;> simp[q]
theorem l22Hub_is(k:Nat)(c:Cur)(hc:qFj c)(hk:2097152<k):∃r:HubA×qFB×Cur,qIL k (c,())=some ((r.1,(r.2.1,())),(r.2.2,()))∧qCU r.1:=by
 obtain⟨p,n,c1,e1,h1⟩:=l22Net_is k c hc (by omega)
 obtain⟨h0,b,e2,h2⟩:=HubNew_is k p n (by omega)
 unfold qIL
 simp only[e1,e2,Option.bind_some]
 refine qHW (g:=fun r:HubA×qFB×Cur=>((r.1,(r.2.1,())),(r.2.2,()))) (fun y:Cur×HubA×qFB×HubA×qFB×Int×Unit=>(6-y.2.2.2.2.2.1).toNat) (fun y=>qFj y.1∧qCU y.2.2.2.1∧0≤y.2.2.2.2.2.1∧y.2.2.2.2.2.1≤6) (fun _ r=>qCU r.1) ?_ k _ ⟨h1,h2,by simp,by simp⟩ (by simp only;omega)
 rintro⟨c,z,zu,h,u,i,⟨⟩⟩ ⟨hc,hb,i0,i6⟩ again hg
 dsimp only at hc hb i0 i6
 obtain⟨v,c2,e3,v0,v6,h3⟩:=qEf k c 6 hc
 have v6:=v6 (by decide)
 have w:wi64 (i+1)=i+1:=qAH _ (by omega)
 simp only[e3,Option.bind_some]
 by_cases hi:i<v
 rotate_left
 ·simp only[hi,decide_false,Bool.false_eq_true,if_false]
  exact⟨(h,u,c2),rfl,hb⟩
 simp only[hi,decide_true,if_true,w]
 obtain⟨q,c3,e4,_,_,h4⟩:=qEf k c2 5 h3
 simp only[e4,Option.bind_some]
 by_cases q0:q=0
 ·obtain⟨d,c4,e5,_,_,h5⟩:=qEf k c3 3 h4
  have e6:=Leave_f k h (wi64 (1+d)) (by omega) hb
  simp only[q0,decide_true,if_true,e5,e6,Option.bind_some]
  exact hg (c4,(z,(zu,((qFl h (wi64 (1+d))).1,(u,(i+1,())))))) ⟨h5,bd_leaveB _ hb,by simp only;omega,by simp only;omega⟩ (by simp only;omega)
 by_cases q1:q=1
 ·obtain⟨d,c4,e5,_,_,h5⟩:=qEf k c3 3 h4
  obtain⟨p,n,c5,e6,h6⟩:=l08Prefix_is k c4 h5 (by omega)
  have e7:=AddNet_f k h (wi64 (1+d)) p n (by omega) hb
  simp only[q0,q1,decide_true,decide_false,Bool.false_eq_true,if_true,if_false,e5,e6,e7,Option.bind_some]
  exact hg (c5,(z,(zu,((netB h (wi64 (1+d)) p n).1,(u,(i+1,())))))) ⟨h6,bd_netB _ _ _ hb,by simp only;omega,by simp only;omega⟩ (by simp only;omega)
 ·obtain⟨d,c4,e5,_,_,h5⟩:=qEf k c3 4 h4
  obtain⟨t,c5,e6,ht,h6⟩:=Text_is k c4 2 h5 (by omega)
  have e7:=Join_f k h (wi64 (1+d)) t i hk hb (by omega)
  have b7:=(bd_joinB (wi64 (1+d)) t i hb).1
  simp only[q0,q1,decide_false,Bool.false_eq_true,if_false,e5,e6,e7,Option.bind_some]
  generalize qFn h (wi64 (1+d)) t i=R at b7 ⊢
  obtain⟨h',u',ok⟩:=R
  cases ok
  ·simp only[Bool.false_eq_true,if_false]
   exact hg (c5,(z,(zu,(h,(u,(i+1,())))))) ⟨h6,hb,by simp only;omega,by simp only;omega⟩ (by simp only;omega)
  ·simp only[if_true]
   exact hg (c5,(z,(zu,(h',(u',(i+1,())))))) ⟨h6,b7,by simp only;omega,by simp only;omega⟩ (by simp only;omega)
theorem DrawHub_is(k:Nat)(a:List Int)(ha:a.length≤1048576)(hk:2097152<k):∃h:HubA,qGO k (a,())=some (h,((),()))∧qCU h:=by
 obtain⟨c,e1,hc⟩:=New_is k a ha (by omega)
 obtain⟨⟨h,u,c'⟩,e2,hb⟩:=l22Hub_is k c hc hk
 unfold qGO
 simp only[e1,e2,Option.bind_some]
 exact⟨h,rfl,hb⟩
theorem loop_inv{X R A:Type}{step:(X→Option R)→X→Option R}(st:Nat→A→X)(n:Nat)(Inv:Nat→A→Prop)(r:Option R)(hs:∀again i a,i<n→Inv i a→∃a',Inv (i+1) a'∧step again (st i a)=again (st (i+1) a'))(he:∀again a,Inv n a→step again (st n a)=r):∀k a,n<k→Inv 0 a→qAG step k (st 0 a)=r:=by
 have key:∀m i k a,i+m=n→m<k→Inv i a→qAG step k (st i a)=r:=by
  intro m
  induction m with
  | zero =>
   intro i k a hi hk ha
   obtain⟨k,rfl⟩:∃k',k=k'+1:=⟨k-1,by omega⟩
   have:i=n:=by omega
   subst this
   exact he _ a ha
  | succ m ih =>
   intro i k a hi hk ha
   obtain⟨k,rfl⟩:∃k',k=k'+1:=⟨k-1,by omega⟩
   obtain⟨a',h1,h2⟩:=hs (qAG step k) i a (by omega) ha
   exact Eq.trans h2 (ih (i+1) k a' (by omega) (by omega) h1)
 exact fun k a hk ha=>key n 0 k a (by omega) hk ha
theorem join_cases(h:HubA)(id:Int)(s:ByteArray)(now:Int):qFn h id s now=(h,(user0,false)) ∨
  ∃(q0 q1:Int) (q2:List qAC.den) (q3:List qAQ.den) (r:List qB5) (addr:Int),
   qFn h id s now=((q0,(q1,(q2,(q3,(r,(putU h.2.2.2.2.2.1 (qGj id addr (qFm s seedB seedA)),())))))),(qGj id addr (qFm s seedA seedB),true)) ∧
   (∀u:qBg,u∈h.2.2.2.2.2.1→u.1≠id)∧(1≤id∧id≤98)∧PoolP (q0,(q1,(q2,(q3,()))))∧(∀l:qAm,l∈q2→(l.1=addr↔l.2.1=id))∧(∃l:qAm,l∈q2∧l.1=addr)∧qCz r=true∧((addr,32),id)∈r:=by
 unfold qFn
 cases hj:joinOk h id now
 ·exact .inl rfl
 ·right
  unfold joinOk at hj
  simp only[Bool.and_eq_true,decide_eq_true_eq] at hj
  obtain⟨j1,j2,j3,j4,j5⟩:=hj
  obtain⟨g1,g2,g3⟩:=grant_ok j4
  generalize qBD (poolH h) id now=G at g1 g2 g3 j5
  obtain⟨⟨q0,q1,q2,q3,⟨⟩⟩,addr,ok⟩:=G
  unfold putB at j5
  split at j5
  ·rename_i hr
   refine⟨q0,q1,q2,q3,putL h.2.2.2.2.1 addr 32 id,addr,?_,atB_no j2,j1,g1,g2,g3,hr.2,?_⟩
   ·unfold putB
    simp only[if_true]
    rw[if_pos hr]
   ·unfold putL
    exact List.mem_append_left _ (List.mem_append_right _ (List.mem_singleton.2 rfl))
  ·cases j5
theorem leave_cases{q0 q1:Int}{q2:List qAC.den}{q3:List qAQ.den}{r:List qB5}{U:List qBg}{id addr:Int}(hu:¬atB U id<0)(hp:PoolP (q0,(q1,(q2,(q3,())))))(hq:∀l:qAm,l∈q2→(l.1=addr↔l.2.1=id)) :
  ∃(b0 b1:Int) (b2:List qAC.den) (b3:List qAQ.den),qFl (q0,(q1,(q2,(q3,(r,(U,())))))) id=((b0,(b1,(b2,(b3,(dropR r id,(delU U id,())))))),true)∧qEn b2 addr=0 ∧
   qFl (b0,(b1,(b2,(b3,(dropR r id,(delU U id,())))))) id=((b0,(b1,(b2,(b3,(dropR r id,(delU U id,())))))),false):=by
 have h1:=rel_no (x:=(q0,(q1,(q2,(q3,()))))) hp hq
 unfold qFl
 dsimp only
 rw[if_neg hu]
 exact⟨_,_,_,_,rfl,h1,by rw[if_pos (atB_del U id)]⟩
theorem hubs_law(k:Nat)(hk:2097152<k)(a:List Int):w_FnHubs k (a,())=some (true,((),())):=by
 unfold w_FnHubs
 simp only[w_big,Option.bind_some]
 by_cases ha:(1048576:Int)<(a.length:Int)
 ·simp only[ha,decide_true,if_true]
 have ha':a.length≤1048576:=by omega
 obtain⟨h,e1,hb⟩:=DrawHub_is k a ha' (by omega)
 obtain⟨l,e2,hl,_⟩:=DrawPlaces_is k a ha' (by omega)
 have hl0:(0:Int)≤0∧(0:Int)<(l.length:Int):=by omega
 simp only[ha,decide_false,Bool.false_eq_true,if_false,e1,e2,hl0,and_self,if_true,Option.bind_some]
 generalize wi64 (1+Int.tmod (Ty.rd (t:=.int .i64) l 0) 6)=id
 have e3:=i_Join_is k h id ⟨#[115,101,101,100]⟩ 9 hk hb (by decide)
 have e4:=s_Join_is k h id ⟨#[115,101,101,100]⟩ 9 hk hb (by decide)
 have hbA:=(bd_joinB id ⟨#[115,101,101,100]⟩ 9 hb).1
 rcases join_cases h id ⟨#[115,101,101,100]⟩ 9 with hR | ⟨q0,q1,q2,q3,r,addr,hR,hn,hid,hP,hq,hq',hr,hm⟩
 ·rw[hR] at e3 e4
  obtain⟨a0,a1,a2,a3,a4,a5,⟨⟩⟩:=h
  simp only[e3,e4,decide_true,Bool.not_true,Bool.not_false,Bool.false_eq_true,if_true,if_false,Option.bind_some]
 rw[hR] at e3 e4 hbA
 obtain⟨a0,a1,a2,a3,a4,a5,⟨⟩⟩:=h
 dsimp only at e3 e4 hbA hn
 have hin:=put_in a5 (qGj id addr (qFm ⟨#[115,101,101,100]⟩ seedB seedA))
 have hmem:=fun x=>put_mem (L:=a5) (u:=qGj id addr (qFm ⟨#[115,101,101,100]⟩ seedB seedA)) (x:=x)
 have hdel:=del_put (L:=a5) (u:=qGj id addr (qFm ⟨#[115,101,101,100]⟩ seedB seedA)) hn
 have hat:=atB_yes hin
 have hbU:=(qBC hbA).2.2.1
 have hbR:=(qBC hbA).2.1.1
 have hbP:=(qBC hbA).1.1.1
 generalize hU:putU a5 (qGj id addr (qFm ⟨#[115,101,101,100]⟩ seedB seedA))=U at e3 e4 hbA hin hmem hdel hat hbU
 have hat:¬atB U id<0:=hat
 have hdel:(delU U id).length=a5.length:=hdel
 obtain⟨b0,b1,b2,b3,f1,f2,f3⟩:=leave_cases (r:=r) hat hP hq
 have e5:=i_Leave_is k (q0,(q1,(q2,(q3,(r,(U,())))))) id (by omega) hbA
 have hbB:=bd_leaveB id hbA
 rw[f1] at e5 hbB
 have e6:=i_Leave_is k (b0,(b1,(b2,(b3,(dropR r id,(delU U id,())))))) id (by omega) hbB
 rw[f3] at e6
 have hbR':=(qBC hbB).2.1.1
 have hbP':=(qBC hbB).1.1.1
 have e7:=i_LookUp_is k r addr (by omega) hbR
 rw[qAe hr hm] at e7
 have hdr:∀x∈dropR r id,x.2≠id:=fun x hx=>by
  have:=(List.mem_filter.1 hx).2
  simpa using this
 have e8:=i_LookUp_is k (dropR r id) addr (by omega) hbR'
 have f4:=look_drop (a:=addr) (id:=id) (by omega) hdr
 generalize lookB (dropR r id) addr=lb at e8 f4
 have e9:=qFi k (q0,(q1,(q2,(q3,())))) addr (by omega) hbP
 rw[show qEn (q0,(q1,(q2,(q3,())))).2.2.1 addr=id from hold_is hq' fun l hl he=>(hq l hl).1 he] at e9
 have e10:=qFi k (b0,(b1,(b2,(b3,())))) addr (by omega) hbP'
 rw[show qEn (b0,(b1,(b2,(b3,())))).2.2.1 addr=0 from f2] at e10
 generalize hDR:dropR r id=DR at e5 e6 e8 hdr hbR'
 generalize hDU:delU U id=DU at e5 e6 hdel
 unfold qGj qFm at e3 e4
 simp only[e3,e4,decide_true,Bool.not_true,Bool.false_eq_true,if_true,if_false,Option.bind_some]
 refine loop_inv (A:=Int×Int×Int×ByteArray×ByteArray×Int×Unit×Int×Int×ByteArray×ByteArray×Int×Unit×Int×Unit×Int×Unit) (fun i e=>(_,(id,(_,(_,(e,(((i:Nat):Int),()))))))) U.length (fun i e=>(∀j (hj:j<U.length),j<i→U[j].1≠id)∨(e.2.1=addr∧e.2.2.2.2.1=dg (⟨#[115,101,101,100]⟩++seedA))) _ (fun again i e hi hI=>?_) (fun again e hI=>?_) k _ (by omega) (.inl fun j _ hj=>by omega)
 ·have w:wi64 ((i:Int)+1)=((i+1:Nat):Int):=(qAH _ (by omega)).trans (by omega)
  have p1:(i:Int)<(U.length:Int):=by omega
  have p2:0≤(i:Int):=by omega
  obtain⟨x,hx⟩:∃x,U[i]?=some x:=⟨U[i],List.getElem?_eq_getElem hi⟩
  have hxi:U[i]=x:=by rw[List.getElem?_eq_getElem hi] at hx;exact Option.some.inj hx
  have hxm:=hmem x (by rw[←hxi];exact List.getElem_mem hi)
  simp only[Ty.rd,Int.toNat_natCast,qA9 hx,p1,p2,w,decide_true,and_self,if_true]
  by_cases c:x.1=id
  ·simp only[c,decide_true,if_true]
   refine⟨_,.inr ?_,rfl⟩
   rcases hxm with rfl | hxm
   ·exact⟨rfl,rfl⟩
   ·exact absurd c hxm
  ·simp only[c,decide_false,Bool.false_eq_true,if_false]
   refine⟨e,?_,rfl⟩
   rcases hI with hI | hI
   ·refine .inl fun j hj hji=>?_
    by_cases e':j=i
    ·subst e';rw[hxi];exact c
    ·exact hI j hj (by omega)
   ·exact .inr hI
 ·have hI:e.2.1=addr∧e.2.2.2.2.1=dg (⟨#[115,101,101,100]⟩++seedA):=by
   rcases hI with hI | hI
   ·obtain⟨j,hj,hje⟩:=List.getElem_of_mem hin
    have:=hI j hj hj
    rw[hje] at this
    exact absurd rfl this
   ·exact hI
  simp only[Int.lt_irrefl,decide_false,Bool.false_eq_true,if_false,e5,e6,Option.bind_some]
  refine loop_inv (A:=Unit) (fun i _=>(_,(id,(_,(_,(_,(_,(_,(_,(_,(((i:Nat):Int),()))))))))))) DR.length (fun _ _=>True) _ (fun again i _ hi _=>⟨(),trivial,?_⟩) (fun again _ _=>?_) k () (by omega) trivial
  ·have w:wi64 ((i:Int)+1)=((i+1:Nat):Int):=(qAH _ (by omega)).trans (by omega)
   have p1:(i:Int)<(DR.length:Int):=by omega
   have p2:0≤(i:Int):=by omega
   obtain⟨x,hx⟩:∃x,DR[i]?=some x:=⟨DR[i],List.getElem?_eq_getElem hi⟩
   have hxi:=hdr x (List.mem_of_getElem? hx)
   simp only[Ty.rd,Int.toNat_natCast,qA9 hx,p1,p2,w,hxi,decide_true,decide_false,and_self,Bool.false_eq_true,if_true,if_false]
  ·have e7':∀y:HubA,y.2.2.2.2.1=r→∀t,qDb k (y,(id,((addr,(addr,(t,()))),())))=some (true,((),((),((),())))):=fun y hy t=>by
    unfold qDb
    simp only[hy,e7,Option.bind_some,decide_true]
   have e7'':∀y:HubA,y.2.2.2.2.1=r→∀t,qE9 k (y,((addr,(addr,(t,()))),()))=some (id,((),((),()))):=fun y hy t=>by
    unfold qE9
    simp only[hy,e7,Option.bind_some]
   have e8':∀y:HubA,y.2.2.2.2.1=DR→∀t,qDb k (y,(id,((addr,(addr,(t,()))),())))=some (false,((),((),((),())))):=fun y hy t=>by
    unfold qDb
    simp only[hy,e8,Option.bind_some,f4,decide_false]
   simp only[Int.lt_irrefl,decide_false,Bool.false_eq_true,if_false,hI.1,hI.2,decide_true,if_true,e7' (q0,(q1,(q2,(q3,(r,(U,())))))) rfl,e7'' (q0,(q1,(q2,(q3,(r,(U,())))))) rfl,e8' (b0,(b1,(b2,(b3,(DR,(DU,())))))) rfl,e9,e10,hdel,Option.bind_some,Bool.not_false]
theorem pure_FnHubs(x:qHd pars_FnHubs)(hx:argsWf pars_FnHubs x):∃k o,w_FnHubs k (argsX pars_FnHubs x)=some (true,o):=by
 obtain⟨c,u⟩:=x
 exact⟨2097153,((),()),hubs_law 2097153 (by decide) _⟩
open Go.ChangeShapes Go.WideShapes Go.ChangeAt Go.RowKit
theorem own_FnHubs:ownKnob Tryz.prog.godebug=none:=by kernel_rfl
theorem lifted_FnHubs(os:Os)(started:os.Started)(H:Type)(enc:TypeId×Value→H) :
  ReturnsInHanded {} Tryz.checked os 3 .any (Rows.fnHubsSpec.pre6 enc Tryz.prog Tryz.f3 Rows.fnHubsRow.domain false) (Rows.fnHubsSpec.post enc Tryz.prog Tryz.f3 false true false false):=
 law_lifted (C:=Tryz.checked) (l:=pars_FnHubs) (rb:=4) own_FnHubs started (by kernel_rfl) Tryz.func3
  (ChangeSpec.witness6 (enc:=enc) (C:=Tryz.checked) false ⟨#[],#[.slice none 0 0],[]⟩ 8 (by kernel_rfl) (by kernel_rfl) (by kernel_rfl) (by kernel_rfl))
  e_w_FnHubs rfl (by decide) pure_FnHubs (by kernel_rfl) rfl Tryz.underlying4 (by kernel_rfl) (by kernel_rfl) rfl (fun _=>⟨fun _ h=>h.elim,trivial⟩)
  (fun ds h=>match ds,h with | [_],_=>rfl)
theorem inPlace_FnHubs:Tryz.prog.inPlace 3=Rows.fnHubsRow.inPlace:=by kernel_rfl
theorem unfollowed_FnHubs:Tryz.prog.unfollowed 3=Rows.fnHubsRow.unfollowed:=by kernel_rfl
theorem recurses_FnHubs:Tryz.prog.recurses 3=Rows.fnHubsRow.recurses:=by kernel_rfl
theorem named_FnHubs:Tryz.prog.varsNamed 3=Rows.fnHubsRow.named:=by kernel_rfl
theorem facts_FnHubs:joinedFacts Tryz.prog 3 Tryz.f3 Rows.fnHubsSpec Rows.fnHubsRow=true:=by
 unfold joinedFacts
 rw[seat_laid,seat_maps,seat_heard,seat_enter,inPlace_FnHubs,unfollowed_FnHubs,recurses_FnHubs,named_FnHubs]
 kernel_rfl
theorem fnHubs_holds:Rows.FnHubsSaid:=
 OpenClaim.holds_of_wide 3 Tryz.f3 rfl rfl rfl rfl rfl rfl rfl ⟨rfl,rfl,rfl,rfl,rfl⟩ rfl rfl rfl rfl rfl (by kernel_rfl) Tryz.func3 facts_FnHubs (of_decide_eq_true (by kernel_rfl))
  (by unfold Func.isWrapper;first | (rw[if_pos (by decide +kernel)];kernel_rfl) | (rw[if_neg (by decide +kernel)];exact⟨rfl,rfl⟩)) (fun os started H enc _=>lifted_FnHubs os started H enc)
#print axioms fnHubs_holds
end Go.Proofs.YtnfllchbpechlaaGreat
