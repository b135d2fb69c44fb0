import Derived.Test.YtnfllchbpechlaaGreatEngC
import Derived.Shelf.Spec.SlicesInsertGrow
import Derived.Shelf.Spec.SlicesGrow
/- An interpreter of the program's code over plain values is sound: what it answers is what the call answers (part D). Conditions: none beyond each theorem's own. -/
set_option linter.unusedVariables false
section
namespace Go.Eng
def Ty.nmd:Ty→Ty
 | .ols _ _=>.nm | .olq _ t=>.list (.list t) | .pair a b=>.pair a.nmd b.nmd
 | .int k=>.int k | .bool=>.bool | .str=>.str | .list t=>.list t | .unit=>.unit | .nm=>.nm
def Ty.nf:Ty→Bool
 | .nm=>false | .pair a b=>a.nf&&b.nf | .list t=>t.nf | .ols _ t=>t.nf | .olq _ _=>false
 | _=>true
def Pat.nf:Pat→Bool
 | .nm=>false
 | .il _ t | .own _ _ t | .mut _ _ t=>t.nf
 | .ptr _ p | .agg p | .mag p | .tup p | .fn _ p=>p.nf
 | .cons a b=>a.nf&&b.nf
 | _=>true
def Ty.enc:(t:Ty)→t.den→Nat→t.nmd.den
 | .ols _ _,_,n=>n
 | .olq _ _,x,_=>x.toList
 | .pair a b,x,n=>(a.enc x.1 n,b.enc x.2 (n+a.w))
 | .int _,x,_=>x | .bool,x,_=>x | .str,x,_=>x | .list _,x,_=>x | .unit,x,_=>x | .nm,x,_=>x
def Ty.encs(t:Ty)(xs:List t.den):List t.nmd.den:=xs.mapIdx fun i x=>t.enc x (i*t.w+1)
def Ty.lookN(t:Ty)(xs:List t.den):Nat→Option OL
 | 0=>none
 | m+1=>match xs[m / t.w]? with
  | some x=>t.getO x (m % t.w)
  | none=>none
def decN(lk:Nat→Option OL)(e:Nat)(u:Ty):Nat→Option (List u.den)
 | 0=>some []
 | m+1=>match lk (m+1) with
  | some o=>if h:o.e=e∧o.u=u then some (h.2 ▸ o.ys) else none
  | none=>none
def Ty.dec(lk:Nat→Option OL):(t:Ty)→t.nmd.den→Option t.den
 | .ols e u,n=>decN lk e u n
 | .olq _ _,l=>match l with
  | []=>some none
  | x::_=>some (some x)
 | .pair a b,x=>match a.dec lk x.1,b.dec lk x.2 with
  | some y,some z=>some (y,z)
  | _,_=>none
 | .int _,x=>some x | .bool,x=>some x | .str,x=>some x | .list _,x=>some x | .unit,x=>some x | .nm,x=>some x
def Ty.decs(lk:Nat→Option OL)(t:Ty):List t.nmd.den→Option (List t.den)
 | []=>some []
 | y::ys=>match t.dec lk y,Ty.decs lk t ys with
  | some x,some xs=>some (x::xs)
  | _,_=>none
def nmsN:Nat→List Nat
 | 0=>[]
 | m+1=>[m+1]
def Ty.nms:(t:Ty)→t.nmd.den→List Nat
 | .ols _ _,n=>nmsN n
 | .olq _ _,_=>[]
 | .pair a b,x=>a.nms x.1++b.nms x.2
 | .int _,_=>[] | .bool,_=>[] | .str,_=>[] | .list _,_=>[] | .unit,_=>[] | .nm,_=>[]
def treeF(t:Ty){Y O:Type}(G:List t.nmd.den×Y→Option (List t.nmd.den×O))(x:List t.den×Y):Option (List t.den×O):=
 match G (t.encs x.1,x.2) with
 | none=>none
 | some (ys,o)=>match t.decs (t.lookN x.1) ys with
  | none=>none
  | some zs=>if(ys.flatMap t.nms).Nodup then some (zs,o) else none
theorem Ty.nmd_w:∀t:Ty,t.nmd.w=t.w
 | .ols _ _=>rfl
 | .olq _ _=>rfl
 | .pair a b=>by show a.nmd.w+b.nmd.w=a.w+b.w;rw[nmd_w a,nmd_w b]
 | .int _=>rfl | .bool=>rfl | .str=>rfl | .list _=>rfl | .unit=>rfl | .nm=>rfl
theorem Ty.nmd_hasO:∀t:Ty,t.nmd.hasO=false
 | .ols _ _=>rfl
 | .olq _ _=>rfl
 | .pair a b=>by show(a.nmd.hasO || b.nmd.hasO)=false;rw[nmd_hasO a,nmd_hasO b];rfl
 | .int _=>rfl | .bool=>rfl | .str=>rfl | .list _=>rfl | .unit=>rfl | .nm=>rfl
theorem IRep.nf{N N':Names}{F:Nat→Prop}{w:World}:∀{t:Ty} {x:t.den} {cs:List Value},t.nf=true→@IRep N F w t x cs→@IRep N' F w t x cs
 | .int _,_,_,_,h=>h
 | .bool,_,_,_,h=>h
 | .str,_,_,_,h=>h
 | .unit,_,_,_,h=>h
 | .nm,_,_,hn,_=>by cases hn
 | .ols _ _,_,_,_,h=>h.elim
 | .olq _ _,_,_,_,h=>h.elim
 | .list t,xs,_,hn,h=>by
  obtain⟨a,n,c,rfl,h1,h2,h3⟩:=h
  refine⟨a,n,c,rfl,h1,h2,fun h0=>?_⟩
  obtain⟨b,o,rfl,hb,hlt,hr⟩:=h3 h0
  refine⟨b,o,rfl,hb,hlt,fun i hi=>?_⟩
  obtain⟨rs,k1,k2,k3⟩:=hr i hi
  exact⟨rs,k1,k2,IRep.nf (t:=t) hn k3⟩
 | .pair a b,x,_,hn,h=>by
  simp only[Ty.nf,Bool.and_eq_true] at hn
  obtain⟨c,d,rfl,h1,h2⟩:=h
  exact⟨c,d,rfl,IRep.nf hn.1 h1,IRep.nf hn.2 h2⟩
theorem TRep.nf{N N':Names}{F:Nat→Prop}{w:World}:∀{t:Ty} {x:t.den} {cs:List Value} {S:List Nat},t.nf=true→@TRep N F w t x cs S→@TRep N' F w t x cs S
 | .int _,_,_,_,_,h=>h
 | .bool,_,_,_,_,h=>h
 | .str,_,_,_,_,h=>h
 | .unit,_,_,_,_,h=>h
 | .nm,_,_,_,hn,_=>by cases hn
 | .list t,xs,_,_,hn,h=>⟨IRep.nf (t:=.list t) hn h.1,h.2⟩
 | .olq _ _,_,_,_,hn,_=>by cases hn
 | .ols e t,xs,_,_,hn,h=>by
  obtain⟨l,rfl,rfl,h⟩:=h
  exact⟨l,rfl,rfl,h.mono (fun _ _=>rfl) fun x rs S _ k=>TRep.nf (t:=t) hn k⟩
 | .pair a b,x,_,_,hn,h=>by
  simp only[Ty.nf,Bool.and_eq_true] at hn
  obtain⟨c,d,S1,S2,rfl,rfl,h1,h2⟩:=h
  exact⟨c,d,S1,S2,rfl,rfl,TRep.nf hn.1 h1,TRep.nf hn.2 h2⟩
theorem qAY.nf{N N':Names}{F:Nat→Prop}{w:World}{l:LV}{z:Bool}{e:Nat}{t:Ty}{xs:List t.den}(hn:t.nf=true)(h:@qAY N F w l z e t xs):@qAY N' F w l z e t xs:=
 LstW.mono h (fun _ _=>rfl) fun _ _ _ _ k=>TRep.nf hn k
theorem Rep.nf{N N':Names}{F B:Nat→Prop}{w:World}:∀{p:Pat} {x:p.den} {vs:List Value} {Sx:List Nat},p.nf=true→@Rep N F B w p x vs Sx→@Rep N' F B w p x vs Sx
 | .any,_,_,_,_,h=>h
 | .int _,_,_,_,_,h=>h
 | .bool,_,_,_,_,h=>h
 | .str,_,_,_,_,h=>h
 | .nils,_,_,_,_,h=>h
 | .nm,_,_,_,hn,_=>by cases hn
 | .il b t,xs,_,_,hn,h=>⟨IRep.nf (t:=.list t) hn h.1,h.2⟩
 | .own z e t,xs,_,_,hn,h=>by
  obtain⟨l,rfl,rfl,h⟩:=h
  exact⟨l,rfl,rfl,h.nf hn⟩
 | .mut z e t,xs,_,_,hn,h=>by
  obtain⟨l,rfl,rfl,h⟩:=h
  exact⟨l,rfl,rfl,h.nf hn⟩
 | .ptr po p,x,_,_,hn,h=>by
  obtain⟨b,cs,e,fr,S',rfl,rfl,h1,h2,h3,h4⟩:=h
  exact⟨b,cs,e,fr,S',rfl,rfl,h1,h2,h3,Rep.nf (p:=p) hn h4⟩
 | .agg p,x,_,_,hn,h=>by
  obtain⟨cs,rfl,h3,h4⟩:=h
  exact⟨cs,rfl,h3,Rep.nf (p:=p) hn h4⟩
 | .mag p,x,_,_,hn,h=>by
  obtain⟨cs,rfl,h3,h4⟩:=h
  exact⟨cs,rfl,h3,Rep.nf (p:=p) hn h4⟩
 | .tup p,x,_,_,hn,h=>by
  obtain⟨cs,rfl,h4⟩:=h
  exact⟨cs,rfl,Rep.nf (p:=p) hn h4⟩
 | .fn f p,x,_,_,hn,h=>by
  obtain⟨cs,rfl,h3,h4⟩:=h
  exact⟨cs,rfl,h3,Rep.nf (p:=p) hn h4⟩
 | .nil,_,_,_,_,h=>h
 | .cons a b,x,_,_,hn,h=>by
  simp only[Pat.nf,Bool.and_eq_true] at hn
  obtain⟨v,vs',S1,S2,rfl,rfl,h1,h2⟩:=h
  exact⟨v,vs',S1,S2,rfl,rfl,Rep.nf hn.1 h1,Rep.nf hn.2 h2⟩
theorem qAz.nf{N N':Names}{F B:Nat→Prop}{w:World}:∀{p:Pat} {x:p.out} {vs:List Value} {Sx:List Nat},p.nf=true→@qAz N F B w p x vs Sx→@qAz N' F B w p x vs Sx
 | .any,_,_,_,_,h=>h
 | .int _,_,_,_,_,h=>h
 | .bool,_,_,_,_,h=>h
 | .str,_,_,_,_,h=>h
 | .nils,_,_,_,_,h=>h
 | .nm,_,_,_,hn,_=>by cases hn
 | .il b t,xs,_,_,_,h=>h
 | .own z e t,xs,_,_,_,h=>h
 | .mut z e t,xs,_,_,hn,h=>by
  obtain⟨l,rfl,rfl,h⟩:=h
  exact⟨l,rfl,rfl,h.nf hn⟩
 | .ptr po p,x,_,_,hn,h=>Rep.nf (p:=.ptr po p) hn h
 | .agg p,x,_,_,_,h=>h
 | .tup p,x,_,_,_,h=>h
 | .fn f p,x,_,_,hn,h=>by
  obtain⟨cs,rfl,h4⟩:=h
  exact⟨cs,rfl,qAz.nf (p:=p) hn h4⟩
 | .mag p,x,_,_,hn,h=>by
  obtain⟨cs,rfl,h4⟩:=h
  exact⟨cs,rfl,qAz.nf (p:=p) hn h4⟩
 | .nil,_,_,_,_,h=>h
 | .cons a b,x,_,_,hn,h=>by
  simp only[Pat.nf,Bool.and_eq_true] at hn
  obtain⟨v,vs',S1,S2,rfl,rfl,h1,h2⟩:=h
  exact⟨v,vs',S1,S2,rfl,rfl,qAz.nf hn.1 h1,qAz.nf hn.2 h2⟩
theorem TRep.enc{N N':Names}{F:Nat→Prop}{w:World}:∀{t:Ty} {x:t.den} {cs:List Value} {S:List Nat} (n:Nat),t.nf=true→@TRep N F w t x cs S→(∀j v,cs[j]?=some v→N'.nu (n+j)=v)→@TRep N' F w t.nmd (t.enc x n) cs []
 | .int _,_,_,_,_,_,h,_=>⟨h.1,rfl⟩
 | .bool,_,_,_,_,_,h,_=>⟨h.1,rfl⟩
 | .str,_,_,_,_,_,h,_=>⟨h.1,rfl⟩
 | .unit,_,_,_,_,_,h,_=>⟨h.1,rfl⟩
 | .nm,_,_,_,_,hn,_,_=>by cases hn
 | .list t,xs,_,_,_,hn,h,_=>⟨IRep.nf (t:=.list t) hn h.1,rfl⟩
 | .olq _ _,_,_,_,_,hn,_,_=>by cases hn
 | .ols e t,xs,_,_,n,hn,h,hc=>by
  obtain⟨l,rfl,rfl,h⟩:=h
  refine⟨?_,rfl⟩
  show [hdr l xs.length]=[N'.nu n]
  rw[←hc 0 _ rfl,Nat.add_zero]
 | .pair a b,x,_,_,n,hn,h,hc=>by
  simp only[Ty.nf,Bool.and_eq_true] at hn
  obtain⟨c,d,S1,S2,rfl,rfl,h1,h2⟩:=h
  have hl:=@TRep.len N _ _ _ _ _ _ h1
  refine⟨c,d,[],[],rfl,rfl,TRep.enc n hn.1 h1 fun j v hj=>hc j v ?_,TRep.enc (n+a.w) hn.2 h2 fun j v hj=>?_⟩
  ·rw[List.getElem?_append_left (List.getElem?_eq_some_iff.1 hj).1,hj]
  ·rw[Nat.add_assoc]
   refine hc (a.w+j) v ?_
   rw[List.getElem?_append_right (by omega),hl,Nat.add_sub_cancel_left]
   exact hj
theorem TRep.parts[Names]{F:Nat→Prop}{w:World}:∀{t:Ty} {x:t.den} {cs:List Value} {S:List Nat},TRep F w t x cs S→S.Nodup→∃f:Nat→List Nat,
  (∀off o,t.getO x off=some o→∃v,cs[off]?=some v∧TRep F w (.ols o.e o.u) o.ys [v] (f off))∧(∀off,(f off).Nodup∧∀b∈f off,b∈S)∧∀m n,m≠n→∀b∈f m,b∉f n
 | .int _,_,_,_,_,_=>⟨fun _=>[],fun off o h=>by simp[Ty.getO] at h,by simp,by simp⟩
 | .bool,_,_,_,_,_=>⟨fun _=>[],fun off o h=>by simp[Ty.getO] at h,by simp,by simp⟩
 | .str,_,_,_,_,_=>⟨fun _=>[],fun off o h=>by simp[Ty.getO] at h,by simp,by simp⟩
 | .unit,_,_,_,_,_=>⟨fun _=>[],fun off o h=>by simp[Ty.getO] at h,by simp,by simp⟩
 | .nm,_,_,_,_,_=>⟨fun _=>[],fun off o h=>by simp[Ty.getO] at h,by simp,by simp⟩
 | .list _,_,_,_,_,_=>⟨fun _=>[],fun off o h=>by simp[Ty.getO] at h,by simp,by simp⟩
 | .olq _ _,_,_,_,_,_=>⟨fun _=>[],fun off o h=>by simp[Ty.getO] at h,by simp,by simp⟩
 | .ols e t,xs,cs,S,h,hnd=>by
  refine⟨fun off=>if off=0 then S else [],fun off o ho=>?_,fun off=>?_,fun m n hmn b hb=>?_⟩
  ·cases off with
   | zero =>
    simp only[Ty.getO,Option.some.injEq] at ho
    subst ho
    obtain⟨l,rfl,rfl,h⟩:=h
    exact⟨_,rfl,l,rfl,rfl,h⟩
   | succ off=>simp[Ty.getO] at ho
  ·dsimp only
   split
   ·exact⟨hnd,fun b hb=>hb⟩
   ·simp
  ·dsimp only at hb ⊢
   split at hb
   ·rename_i e0
    subst e0
    rw[if_neg (Ne.symm hmn)]
    simp
   ·cases hb
 | .pair a b,x,_,_,h,hnd=>by
  obtain⟨c,d,S1,S2,rfl,rfl,h1,h2⟩:=h
  obtain⟨n1,n2,n3⟩:=List.nodup_append.1 hnd
  obtain⟨f,f1,f2,f3⟩:=TRep.parts h1 n1
  obtain⟨g,g1,g2,g3⟩:=TRep.parts h2 n2
  have hl:=h1.len
  refine⟨fun off=>if off<a.w then f off else g (off-a.w),fun off o ho=>?_,fun off=>?_,fun m n hmn b hb=>?_⟩
  ·simp only[Ty.getO] at ho
   split at ho
   ·rename_i hlt
    obtain⟨v,hv,k⟩:=f1 off o ho
    exact⟨v,by rw[List.getElem?_append_left (by omega),hv],by dsimp only;rw[if_pos hlt];exact k⟩
   ·rename_i hlt
    obtain⟨v,hv,k⟩:=g1 _ o ho
    exact⟨v,by rw[List.getElem?_append_right (by omega),hl,hv],by dsimp only;rw[if_neg hlt];exact k⟩
  ·dsimp only
   split
   ·exact⟨(f2 off).1,fun b hb=>List.mem_append.2 (.inl ((f2 off).2 b hb))⟩
   ·exact⟨(g2 _).1,fun b hb=>List.mem_append.2 (.inr ((g2 _).2 b hb))⟩
  ·dsimp only at hb ⊢
   split at hb
   ·split
    ·exact f3 m n hmn b hb
    ·exact fun hb'=>n3 b ((f2 m).2 b hb) b ((g2 _).2 b hb') rfl
   ·split
    ·exact fun hb'=>n3 b ((f2 n).2 b hb') b ((g2 _).2 b hb) rfl
    ·exact g3 _ _ (by omega) b hb
theorem TRep.dec{N N':Names}{F':Nat→Prop}{w':World}{lk:Nat→Option OL}{fS:Nat→List Nat}(h0:N'.nu 0=.slice none 0 0)(hlk:∀n o,lk n=some o→@TRep N F' w' (.ols o.e o.u) o.ys [N'.nu n] (fS n)) :
  ∀{t:Ty} {y:t.nmd.den} {x:t.den} {cs:List Value} {S:List Nat},t.nf=true→@TRep N' F' w' t.nmd y cs S→t.dec lk y=some x→@TRep N F' w' t x cs ((t.nms y).flatMap fS)
 | .int _,_,_,_,_,_,h,hd=>by cases hd;exact⟨h.1,rfl⟩
 | .bool,_,_,_,_,_,h,hd=>by cases hd;exact⟨h.1,rfl⟩
 | .str,_,_,_,_,_,h,hd=>by cases hd;exact⟨h.1,rfl⟩
 | .unit,_,_,_,_,_,h,hd=>by cases hd;exact⟨h.1,rfl⟩
 | .nm,_,_,_,_,hn,_,_=>by cases hn
 | .list t,xs,_,_,_,hn,h,hd=>by cases hd;exact⟨IRep.nf (t:=.list t) hn h.1,rfl⟩
 | .olq _ _,_,_,_,_,hn,_,_=>by cases hn
 | .ols e u,n,x,cs,S,hn,h,hd=>by
  have hc:cs=[N'.nu n]:=h.1
  subst hc
  cases n with
  | zero =>
   simp only[Ty.dec,decN,Option.some.injEq] at hd
   subst hd
   exact⟨LV.nil,by rw[h0];rfl,rfl,⟨rfl,rfl,rfl⟩⟩
  | succ m =>
   simp only[Ty.dec,decN] at hd
   split at hd
   case h_2=>cases hd
   rename_i o ho
   split at hd
   case isFalse=>cases hd
   rename_i he
   obtain⟨e',u',ys⟩:=o
   obtain⟨h1,h2⟩:=he
   dsimp only at h1 h2
   subst h1 h2
   simp only[Option.some.injEq] at hd
   subst hd
   have:=hlk _ _ ho
   simpa [Ty.nms,nmsN] using this
 | .pair a b,y,x,_,_,hn,h,hd=>by
  simp only[Ty.nf,Bool.and_eq_true] at hn
  obtain⟨c,d,S1,S2,rfl,rfl,h1,h2⟩:=h
  simp only[Ty.dec] at hd
  split at hd
  case h_2=>cases hd
  rename_i y1 z1 e1 e2
  simp only[Option.some.injEq] at hd
  subst hd
  refine⟨c,d,_,_,rfl,?_,TRep.dec h0 hlk hn.1 h1 e1,TRep.dec h0 hlk hn.2 h2 e2⟩
  simp[Ty.nms]
theorem decs_get{lk:Nat→Option OL}{t:Ty}:∀{ys:List t.nmd.den} {zs:List t.den},t.decs lk ys=some zs→zs.length=ys.length∧∀(i:Nat) y z,ys[i]?=some y→zs[i]?=some z→t.dec lk y=some z
 | [],zs,h=>by
  simp only[Ty.decs,Option.some.injEq] at h
  subst h
  simp
 | y::ys,zs,h=>by
  simp only[Ty.decs] at h
  split at h
  case h_2=>cases h
  rename_i x xs e1 e2
  simp only[Option.some.injEq] at h
  subst h
  obtain⟨k1,k2⟩:=decs_get e2
  refine⟨by simp[k1],fun i y' z' hy hz=>?_⟩
  cases i with
  | zero =>
   simp only[List.getElem?_cons_zero,Option.some.injEq] at hy hz
   subst hy hz
   exact e1
  | succ i=>exact k2 i y' z' (by simpa using hy) (by simpa using hz)
end Go.Eng
end

section
namespace Go.Eng
theorem encs_len(t:Ty)(xs:List t.den):(t.encs xs).length=xs.length:=by simp[Ty.encs]
theorem encs_get{t:Ty}{xs:List t.den}{i:Nat}{y:t.nmd.den}(h:(t.encs xs)[i]?=some y):∃x,xs[i]?=some x∧y=t.enc x (i*t.w+1):=by
 unfold Ty.encs at h
 rw[List.getElem?_mapIdx] at h
 cases hx:xs[i]? with
 | none=>rw[hx] at h;cases h
 | some x=>rw[hx] at h;injection h with h;exact⟨x,rfl,h.symm⟩
theorem names_of[N:Names]{F:Nat→Prop}{w:World}{l:LV}{z:Bool}{e:Nat}{t:Ty}{xs:List t.den}(hn:t.nf=true)(h:qAY F w l z e t xs) :
  ∃(N':Names) (fS:Nat→List Nat),(N'.gb=N.gb∧N'.gen=N.gen)∧@qAY N' F w ⟨l.blk,l.off,l.cap,[]⟩ z e t.nmd (t.encs xs)∧N'.nu 0=.slice none 0 0 ∧
   (∀n o,t.lookN xs n=some o→@TRep N F w (.ols o.e o.u) o.ys [N'.nu n] (fS n))∧(∀n,(fS n).Nodup∧∀b∈fS n,b∈l.sub)∧∀m n,m≠n→∀b∈fS m,b∉fS n:=by
 unfold qAY LstW at h
 cases hb:l.blk with
 | none =>
  rw[hb] at h
  obtain⟨rfl,hc,hs⟩:=h
  refine⟨⟨fun _=>.slice none 0 0,fun _=>rfl,rfl,N.gb,N.gen,N.keep⟩,fun _=>[],⟨rfl,rfl⟩,⟨rfl,hc,rfl⟩,rfl,fun n o ho=>?_,by simp,by simp⟩
  cases n <;> simp[Ty.lookN] at ho
 | some b =>
  rw[hb] at h
  obtain⟨vs,fr,Ss,hh,hzf,hth,hnc,hcm,hvs,hsub,hnd,hlenS,hrows⟩:=h
  have hndS:Ss.flatten.Nodup:=by rw[←hsub];exact(List.nodup_cons.1 hnd).2
  obtain⟨hn1,hn2⟩:=List.pairwise_flatten.1 hndS
  let c:=vs.toList.drop l.off
  let nu:Nat→Value:=fun n=>match n with
   | 0=>.slice none 0 0
   | m+1=>match c[m]? with
    | some v=>if v.oneCell'=true then v else .slice none 0 0
    | none=>.slice none 0 0
  have hnu1:∀n,(nu n).oneCell'=true:=by
   intro n
   cases n with
   | zero=>rfl
   | succ m =>
    show(match c[m]? with | some v=>if v.oneCell'=true then v else .slice none 0 0 | none=>.slice none 0 0:Value).oneCell'=true
    cases c[m]? with
    | none=>rfl
    | some v =>
     dsimp only
     split
     ·assumption
     ·rfl
  have hrow:∀i:Nat,∃f:Nat→List Nat,∀x S,xs[i]?=some x→Ss[i]?=some S→((∀off o,t.getO x off=some o→TRep F w (.ols o.e o.u) o.ys [nu (i*t.w+1+off)] (f off))∧(∀off,(f off).Nodup∧∀b∈f off,b∈S)∧∀m n,m≠n→∀b∈f m,b∉f n):=by
   intro i
   cases hx:xs[i]? with
   | none=>exact⟨fun _=>[],fun x S h=>by cases h⟩
   | some x =>
    cases hS:Ss[i]? with
    | none=>exact⟨fun _=>[],fun x S _ h=>by cases h⟩
    | some S =>
     obtain⟨rs,p1,p2,p3⟩:=hrows i x S hx hS
     obtain⟨f,f1,f2,f3⟩:=TRep.parts p3 (hn1 S (List.mem_of_getElem? hS))
     refine⟨f,fun x' S' h1 h2=>?_⟩
     injection h1 with h1
     injection h2 with h2
     subst h1 h2
     refine⟨fun off o ho=>?_,f2,f3⟩
     obtain⟨v,hv,k⟩:=f1 off o ho
     have hlt:off<t.w:=by rw[←p1];exact(List.getElem?_eq_some_iff.1 hv).1
     have hcell:c[i*t.w+off]?=some v:=by rw[←hv];exact p2 off hlt
     have hone:v.oneCell'=true:=p3.one v (List.mem_of_getElem? hv)
     have:nu (i*t.w+1+off)=v:=by
      rw[show i*t.w+1+off=(i*t.w+off)+1 by omega]
      show(match c[i*t.w+off]? with | some v=>if v.oneCell'=true then v else .slice none 0 0 | none=>.slice none 0 0:Value)=v
      rw[hcell]
      simp[hone]
     rw[this]
     exact k
  let fr':Nat→Nat→List Nat:=fun i=>Classical.choose (hrow i)
  have hfr:∀i x S,xs[i]?=some x→Ss[i]?=some S→_:=fun i=>Classical.choose_spec (hrow i)
  let fS:Nat→List Nat:=fun n=>match n with
   | 0=>[]
   | m+1=>if m / t.w<xs.length then fr' (m / t.w) (m % t.w) else []
  have hrowS:∀i,i<xs.length→∃x S,xs[i]?=some x∧Ss[i]?=some S:=fun i hi=>⟨xs[i],Ss[i]'(by omega),List.getElem?_eq_getElem hi,List.getElem?_eq_getElem (by omega)⟩
  have hin:∀n,∀b∈fS n,∃m S,n=m+1∧Ss[m / t.w]?=some S∧b∈S∧b∈fr' (m / t.w) (m % t.w):=by
   intro n b hbm
   cases n with
   | zero=>cases hbm
   | succ m =>
    have hbm:b∈(if m / t.w<xs.length then fr' (m / t.w) (m % t.w) else []):=hbm
    split at hbm
    ·rename_i hi
     obtain⟨x,S,hx,hS⟩:=hrowS _ hi
     exact⟨m,S,rfl,hS,((hfr _ x S hx hS).2.1 _).2 b hbm,hbm⟩
    ·cases hbm
  refine⟨⟨nu,hnu1,rfl,N.gb,N.gen,N.keep⟩,fS,⟨rfl,rfl⟩,?_,rfl,?_,?_,?_⟩
  ·show ∃vs fr Ss,_
   refine⟨vs,fr,(t.encs xs).map fun _=>[],hh,hzf,hth,by rw[encs_len];exact hnc,hcm,by rw[Ty.nmd_w];exact hvs,(qER _).symm,by simp,by simp,fun i y S hy hS=>?_⟩
   obtain⟨x,hx,rfl⟩:=encs_get hy
   have hS0:S=[]:=by
    rw[List.getElem?_map,hy] at hS
    simpa using hS.symm
   subst hS0
   obtain⟨x',S',hx',hS'⟩:=hrowS i (List.getElem?_eq_some_iff.1 hx).1
   rw[hx] at hx'
   injection hx' with hx'
   subst hx'
   obtain⟨rs,p1,p2,p3⟩:=hrows i x S' hx hS'
   refine⟨rs,by rw[p1,Ty.nmd_w],fun j hj=>by rw[Ty.nmd_w] at hj ⊢;exact p2 j hj,TRep.enc _ hn p3 fun j v hj=>?_⟩
   have hlt:j<t.w:=by rw[←p1];exact(List.getElem?_eq_some_iff.1 hj).1
   have hcell:c[i*t.w+j]?=some v:=by rw[←hj];exact p2 j hlt
   have hone:v.oneCell'=true:=p3.one v (List.mem_of_getElem? hj)
   rw[show i*t.w+1+j=(i*t.w+j)+1 by omega]
   show(match c[i*t.w+j]? with | some v=>if v.oneCell'=true then v else .slice none 0 0 | none=>.slice none 0 0:Value)=v
   rw[hcell]
   simp[hone]
  ·intro n o ho
   cases n with
   | zero=>cases ho
   | succ m =>
    simp only[Ty.lookN] at ho
    split at ho
    case h_2=>cases ho
    rename_i x hx
    obtain⟨x',S',hx',hS'⟩:=hrowS _ (List.getElem?_eq_some_iff.1 hx).1
    rw[hx] at hx'
    injection hx' with hx'
    subst hx'
    have k:=(hfr _ x S' hx hS').1 _ o ho
    have e1:m / t.w*t.w+1+m % t.w=m+1:=by have:=Nat.div_add_mod m t.w;rw[Nat.mul_comm] at this;omega
    rw[e1] at k
    show TRep F w (.ols o.e o.u) o.ys [nu (m+1)] (if m / t.w<xs.length then fr' (m / t.w) (m % t.w) else [])
    rw[if_pos (List.getElem?_eq_some_iff.1 hx).1]
    exact k
  ·intro n
   refine⟨?_,fun b hbm=>?_⟩
   ·cases n with
    | zero=>exact List.nodup_nil
    | succ m =>
     show(if m / t.w<xs.length then fr' (m / t.w) (m % t.w) else []).Nodup
     split
     ·rename_i hi
      obtain⟨x,S,hx,hS⟩:=hrowS _ hi
      exact((hfr _ x S hx hS).2.1 _).1
     ·exact List.nodup_nil
   ·obtain⟨m,S,_,hS,hbS,_⟩:=hin n b hbm
    rw[hsub]
    exact List.mem_flatten.2 ⟨S,List.mem_of_getElem? hS,hbS⟩
  ·intro m n hmn b hb1 hb2
   obtain⟨m',S1,rfl,hS1,hbS1,hf1⟩:=hin m b hb1
   obtain⟨n',S2,rfl,hS2,hbS2,hf2⟩:=hin n b hb2
   by_cases he:m' / t.w=n' / t.w
   ·have hi:=(List.getElem?_eq_some_iff.1 hS1).1
    obtain⟨x,S,hx,hS⟩:=hrowS (m' / t.w) (by omega)
    rw[←he] at hf2
    refine(hfr _ x S hx hS).2.2 (m' % t.w) (n' % t.w) (fun hmod=>hmn ?_) b hf1 hf2
    have d1:=Nat.div_add_mod m' t.w
    have d2:=Nat.div_add_mod n' t.w
    rw[he,hmod] at d1
    omega
   ·have hp:=List.pairwise_iff_getElem.1 hn2
    obtain⟨i1,g1⟩:=List.getElem?_eq_some_iff.1 hS1
    obtain⟨i2,g2⟩:=List.getElem?_eq_some_iff.1 hS2
    rcases Nat.lt_or_gt_of_ne he with hlt | hlt
    ·exact hp _ _ i1 i2 hlt b (by rw[g1];exact hbS1) b (by rw[g2];exact hbS2) rfl
    ·exact hp _ _ i2 i1 hlt b (by rw[g2];exact hbS2) b (by rw[g1];exact hbS1) rfl
theorem qFH{f:Nat→List Nat}(h1:∀n,(f n).Nodup)(h2:∀m n,m≠n→∀b∈f m,b∉f n):∀{l:List Nat},l.Nodup→(l.flatMap f).Nodup
 | [],_=>List.nodup_nil
 | n::l,h=>by
  obtain⟨k1,k2⟩:=List.nodup_cons.1 h
  rw[List.flatMap_cons]
  refine List.nodup_append.2 ⟨h1 n,qFH h1 h2 k2,fun a ha b hb e=>?_⟩
  subst e
  obtain⟨m,hm,hb⟩:=List.mem_flatMap.1 hb
  exact h2 n m (fun e=>k1 (e ▸ hm)) a ha hb
theorem names_entry{P:Program}{f key:Nat}{z z2:Bool}{e e2:Nat}{t:Ty}{rest:Pat}{G:List t.nmd.den×rest.den→Option (List t.nmd.den×(Unit×rest.out))}(hn:t.nf=true)(hr:rest.nf=true)(h:∀N:Names,@qAE N P ⟨f,key,.cons (.own z e t.nmd) rest,.own z2 e2 t.nmd,G⟩)(N:Names):@qAE N P ⟨f,key,.cons (.own z e t) rest,.own z2 e2 t,treeF t G⟩:=by
 refine⟨(h N).okp,(h N).okr,fun x r hx w args Sx F B hrep hnd hmine hF hB hgb hge=>?_⟩
 obtain⟨xs,y⟩:=x
 obtain⟨v,vs',S1,S2,hargs,rfl,⟨l,hv,rfl,hl⟩,hrest⟩:=hrep
 have hx':treeF t G (xs,y)=some r:=hx
 unfold treeF at hx'
 split at hx'
 case h_1=>cases hx'
 rename_i ys o hG
 split at hx'
 case h_1=>cases hx'
 rename_i zs hds
 split at hx'
 case isFalse=>cases hx'
 rename_i hndN
 injection hx' with hx'
 subst hx'
 have hl':qAY F w l z e t xs:=hl
 obtain⟨N',fS,⟨ng1,ng2⟩,g1,g2,g3,g4,g5⟩:=names_of hn hl'
 have hall:l.all=l.blk.toList++l.sub:=rfl
 rw[hall] at hnd hmine
 obtain⟨d1,d2,d3⟩:=List.nodup_append.1 hnd
 obtain⟨d4,d5,d6⟩:=List.nodup_append.1 d1
 have hsubS:∀b∈l.blk.toList++[]++S2,b∈l.all++S2:=fun b hb=>by
  rw[List.append_nil] at hb
  rw[hall]
  rcases List.mem_append.1 hb with hb | hb
  ·exact List.mem_append.2 (.inl (List.mem_append.2 (.inl hb)))
  ·exact List.mem_append.2 (.inr hb)
 have hout:∀b∈l.sub,b∉l.blk.toList++[]++S2:=fun b hb hb'=>by
  rw[List.append_nil] at hb'
  rcases List.mem_append.1 hb' with hb' | hb'
  ·exact d6 b hb' b hb rfl
  ·exact d3 b (List.mem_append.2 (.inr hb)) b hb' rfl
 have hsubm:∀b∈l.sub,¬F b∧¬B b∧b<w.heap.size:=fun b hb=>hmine b (List.mem_append.2 (.inl (List.mem_append.2 (.inr hb))))
 have key':=(h N').run (t.encs xs,y) (ys,o) hG w args (l.blk.toList++[]++S2) F B
  ⟨v,vs',_,S2,hargs,rfl,⟨⟨l.blk,l.off,l.cap,[]⟩,by rw[encs_len];exact hv,rfl,g1⟩,Rep.nf hr hrest⟩
  (by rw[List.append_nil];exact List.nodup_append.2 ⟨d4,d2,fun a ha b hb=>d3 a (List.mem_append.2 (.inl ha)) b hb⟩)
  (fun b hb=>hmine b (by rw[←hall];exact hsubS b hb)) hF hB (by rw[ng1];exact fun b hb=>⟨(hgb b hb).1,fun h=>(hgb b hb).2 (hsubS b h)⟩) (by rw[ng2];exact hge)
 refine key'.mono ?_
 rintro v' w' ⟨F',S1',S2',p⟩
 obtain⟨l',hv',hS',hl2⟩:=p.rep
 have hl2:@qAY N' F' w' l' z2 e2 t.nmd ys:=hl2
 have hold:l'.sub=[]:=(@qAY.old N' _ _ _ _ _ _ _ hl2 (Ty.nmd_hasO t)).1
 obtain⟨k1,k2⟩:=decs_get hds
 have hsameF:Same F w w':=fun b hb=>p.block b (hF b hb) fun hb'=>(hmine b (by rw[←hall];exact hsubS b hb')).1 hb
 have hlk:∀n o',t.lookN xs n=some o'→@TRep N F' w' (.ols o'.e o'.u) o'.ys [N'.nu n] (fS n):=fun n o' ho =>
  @TRep.mono N _ _ _ _ p.fro hsameF _ _ _ _ (fun b hb=>p.block b (hsubm b ((g4 n).2 b hb)).2.2 (hout b ((g4 n).2 b hb))) (g3 n o' ho)
 let sub':=(ys.flatMap t.nms).flatMap fS
 have hsub':∀b∈sub',b∈l.sub:=fun b hb=>by
  obtain⟨n,_,hb⟩:=List.mem_flatMap.1 hb
  exact(g4 n).2 b hb
 have hndsub:sub'.Nodup:=qFH (fun n=>(g4 n).1) g5 hndN
 have hmine':∀b∈S1'++S2',b∉l.sub:=fun b hb hb'=>by
  rcases (p.mine b hb).2.2.2 with h | h
  ·have:=(hsubm b hb').2.2;omega
  ·exact hout b hb' h
 have hblk:∀b,l'.blk=some b→b∉sub':=fun b hb hb'=>hmine' b (List.mem_append.2 (.inl (by rw[hS'];exact LV.mem_blk hb))) (hsub' b hb')
 have hlst:@qAY N F' w' ⟨l'.blk,l'.off,l'.cap,sub'⟩ z2 e2 t zs:=by
  unfold qAY LstW at hl2 ⊢
  cases hb:l'.blk with
  | none =>
   rw[hb] at hl2
   obtain⟨rfl,hc,_⟩:=hl2
   have:zs=[]:=List.eq_nil_of_length_eq_zero (by rw[k1];rfl)
   exact⟨this,hc,rfl⟩
  | some b =>
   rw[hb] at hl2
   obtain⟨vs,fr,Ss,hh,hzf,hth,hnc,hcm,hvs,hsub,hnd2,hlenS,hrows⟩:=hl2
   refine⟨vs,fr,ys.map fun y=>(t.nms y).flatMap fS,hh,hzf,hth,by rw[k1];exact hnc,hcm,by rw[Ty.nmd_w] at hvs;exact hvs,?_,List.nodup_cons.2 ⟨hblk b hb,hndsub⟩,by simp[k1],fun i x S hx hS=>?_⟩
   ·show(ys.flatMap t.nms).flatMap fS=_
    rw[List.flatMap_assoc,List.flatMap_def]
   ·have hi:i<ys.length:=by rw[←k1];exact(List.getElem?_eq_some_iff.1 hx).1
    have hy:ys[i]?=some ys[i]:=List.getElem?_eq_getElem hi
    rw[List.getElem?_map,hy] at hS
    simp only[Option.map_some,Option.some.injEq] at hS
    subst hS
    have hSs:Ss[i]?=some (Ss[i]'(by omega)):=List.getElem?_eq_getElem (by omega)
    obtain⟨rs,q1,q2,q3⟩:=hrows i _ _ hy hSs
    refine⟨rs,by rw[q1,Ty.nmd_w],fun j hj=>by rw[Ty.nmd_w] at q2;exact q2 j hj,TRep.dec g2 hlk hn q3 (k2 i _ _ hy hx)⟩
 have hrep':@Rep N F' B w' (.own z2 e2 t) zs [v'] (l'.blk.toList++sub'):=⟨⟨l'.blk,l'.off,l'.cap,sub'⟩,by rw[k1];exact hv',rfl,hlst⟩
 have hout':@qAz N F' B w' (.cons (.own z e t) rest) o args.toList S2':=by
  obtain⟨v3,vs3,S3,S4,e1,e2',o1,o2⟩:=p.out
  exact⟨v3,vs3,S3,S4,e1,e2',o1,qAz.nf hr o2⟩
 refine⟨F',l'.blk.toList++sub',S2',@Post.mk N _ _ _ _ _ _ _ _ _ _ _ _ _ p.os p.tape p.output p.size (fun b hb hb'=>p.block b hb fun h=>hb' (hsubS b h)) p.fro (fun b hb=>(p.more b hb).imp id fun h=>h.imp id fun h=>hsubS b h) p.lt hrep' hout' ?_ ?_⟩
 ·have hS'':S1'=l'.blk.toList:=by rw[hS'];exact LV.all_of hold
  obtain⟨n1,n2,n3⟩:=List.nodup_append.1 p.nodup
  refine List.nodup_append.2 ⟨List.nodup_append.2 ⟨by rw[←hS''];exact n1,hndsub,fun a ha b hb e'=>?_⟩,n2,fun a ha b hb e'=>?_⟩
  ·subst e'
   exact hmine' a (List.mem_append.2 (.inl (by rw[hS''];exact ha))) (hsub' a hb)
  ·subst e'
   rcases List.mem_append.1 ha with ha | ha
   ·exact n3 a (by rw[hS''];exact ha) a hb rfl
   ·exact hmine' a (List.mem_append.2 (.inr hb)) (hsub' a ha)
 ·intro b hb
  have hS'':S1'=l'.blk.toList:=by rw[hS'];exact LV.all_of hold
  rcases List.mem_append.1 hb with hb | hb
  ·rcases List.mem_append.1 hb with hb | hb
   ·obtain⟨q1,q2,q3,q4⟩:=p.mine b (List.mem_append.2 (.inl (by rw[hS''];exact hb)))
    exact⟨q1,q2,q3,q4.imp id fun h=>hsubS b h⟩
   ·have hb':=hsub' b hb
    obtain⟨q1,q2,q3⟩:=hsubm b hb'
    refine⟨fun hF'=>?_,q2,Nat.lt_of_lt_of_le q3 p.size,.inr (List.mem_append.2 (.inl (LV.mem_sub hb')))⟩
    rcases p.more b hF' with h | h | h
    ·exact q1 h
    ·omega
    ·exact hout b hb' h
  ·obtain⟨q1,q2,q3,q4⟩:=p.mine b (List.mem_append.2 (.inr hb))
   exact⟨q1,q2,q3,q4.imp id fun h=>hsubS b h⟩
end Go.Eng
end

section
set_option linter.unusedVariables false
set_option linter.unusedSimpArgs false
namespace Go.Eng
open Go.Shelf Go.RowKit Go.Lib Go.Proofs
structure InsL (P:Program) (ρ:Ren) (f s bytes:Nat) (z:Value):Prop where
 mixed:P.follows .mixedOrders=true
 f22:∃nm,P.funcs[f]?=some { Body2.n22 ρ with name:=nm }
 f29:∃fn,P.funcs[ρ.f 29]?=some fn∧(fn.name == "runtime.NumGoroutine")=false∧fn.body.isNone=true∧Extern.findNext fn=none∧Extern.find fn=some (Extern.SlicesOverlaps.overlaps #[(ρ.t 24),(ρ.t 24)] #[(ρ.t 4)])
 t0:P.underlying (ρ.t 0)=some (TypeDesc.tuple #[])
 a0:∀w,(isAgg (ρ.t 0)).run P w=.ok false w
 z0:∀w,(Go.sizeOf (ρ.t 0)).run P w=.ok 1 w
 v0:∀w,(zeroValue (ρ.t 0)).run P w=.ok (Value.tuple #[]) w
 t3:P.underlying (ρ.t 3)=some (TypeDesc.int IntKind.i64)
 a3:∀w,(isAgg (ρ.t 3)).run P w=.ok false w
 z3:∀w,(Go.sizeOf (ρ.t 3)).run P w=.ok 1 w
 v3:∀w,(zeroValue (ρ.t 3)).run P w=.ok (Value.int IntKind.i64 0) w
 t4:P.underlying (ρ.t 4)=some (TypeDesc.bool)
 a4:∀w,(isAgg (ρ.t 4)).run P w=.ok false w
 z4:∀w,(Go.sizeOf (ρ.t 4)).run P w=.ok 1 w
 v4:∀w,(zeroValue (ρ.t 4)).run P w=.ok (Value.bool false) w
 z9:∀w,(Go.sizeOf (ρ.t 9)).run P w=.ok s w
 t24:P.underlying (ρ.t 24)=some (TypeDesc.slice (ρ.t 9))
 a24:∀w,(isAgg (ρ.t 24)).run P w=.ok false w
 z24:∀w,(Go.sizeOf (ρ.t 24)).run P w=.ok 1 w
 v24:∀w,(zeroValue (ρ.t 24)).run P w=.ok (Value.slice none 0 0) w
 i9:(P.info? (ρ.t 9)).map (fun i=>(i.zero,i.size,i.bytes))=some (some z,s,bytes)
variable {P : Program} {ρ : Ren} {f s bytes : Nat} {z : Value}
theorem qDi(w:World)(dT sT ty elem:TypeId)(s b o dLen dCap:Nat)(a:Addr)(sLen sCap:Nat)(cs:List Value)(hu:P.underlying dT=some (.slice elem))(hs:(P.info? elem).map (·.size)=some s)(hn:cs.length=Nat.min sLen dLen*s)(hsrc:∀j v,cs[j]?=some v→w.cell? (a.add j)=some v)(hc:∀j,j<cs.length→(w.cell? ⟨b,o+j,none⟩).isSome=true)(hf:∀j,j<cs.length→w.frozen? ⟨b,o+j,none⟩=false)(h1:∀v∈cs,v.oneCell'=true) :
  (Builtin.copy_ #[dT,sT] ty #[.slice (some ⟨b,o,none⟩) dLen dCap,.slice (some a) sLen sCap]).run P w=.ok (goInt (Nat.min sLen dLen)) (w.setCells b o cs):=by
 have hl:=run_loadCells_list (P:=P) w a cs hsrc
 have hst:=run_storeCells_cells (P:=P) b o cs 0 w (by simpa using hc) (by simpa using hf) h1
 cases hq:P.info? elem with
 | none=>simp[hq] at hs
 | some i =>
  have hi:i.size=s:=by simpa [hq] using hs
  simp[Builtin.copy_,run_underlying hu,Builtin.lenOf,Builtin.firstCells,sizeOf,typeInfo,hq,hi,←hn,hl,hst]
set_option maxHeartbeats 4000000 in
set_option maxRecDepth 100000 in
theorem ins_shift(L:InsL P ρ f s bytes z)(b off n c i vb voff m vc:Nat)(cs vs:List Value)(w:World)(hi:i<n)(hm:0<m)(hroom:n+m≤c)(hc63:c≤9223372036854775807)(hvb:vb≠b)(hcl:cs.length=n*s)(hvl:vs.length=m*s)(hcs:∀j v,cs[j]?=some v→w.cell? ⟨b,off+j,none⟩=some v)(hsp:∀j,j<(n+m)*s→(w.cell? ⟨b,off+j,none⟩).isSome=true)(hfz:∀j,j<(n+m)*s→w.frozen? ⟨b,off+j,none⟩=false)(hvs:∀j v,vs[j]?=some v→w.cell? ⟨vb,voff+j,none⟩=some v)(h1c:∀v∈cs,v.oneCell'=true)(h1v:∀v∈vs,v.oneCell'=true)(tA tB:TypeId)(kA kB:Nat)(hsa:w.shape? vb=some (tA,kA))(hsb:w.shape? b=some (tB,kB))(hkB:kB≠0)(hfa:w.frozen? ⟨vb,voff,none⟩=false)(hfe:w.frozen? ⟨vb,kA,none⟩=false) :
  Calls P f #[.slice (some ⟨b,off,none⟩) n c,.int .i64 i,.slice (some ⟨vb,voff,none⟩) m vc] w fun e w' =>
   e=.returned (.slice (some ⟨b,off,none⟩) (n+m) c)∧w'=(w.drew.setCells b (off+(i+m)*s) (cs.drop (i*s))).setCells b (off+i*s) vs:=by
 have t0:=L.t0;have a0:=L.a0;have z0:=L.z0;have v0:=L.v0;have t3:=L.t3;have a3:=L.a3;have z3:=L.z3;have v3:=L.v3;have t4:=L.t4;have a4:=L.a4;have z4:=L.z4;have v4:=L.v4;have z9:=L.z9;have t24:=L.t24;have a24:=L.a24;have z24:=L.z24;have v24:=L.v24
 have u0:=run_underlying L.t0;have u3:=run_underlying L.t3;have u4:=run_underlying L.t4;have u24:=run_underlying L.t24
 have hz1:¬((m:Int)=0):=by omega
 have hz2:¬((i:Int)=(n:Int)):=by omega
 have hsz:(P.info? (ρ.t 9)).map (·.size)=some s:=by
  obtain⟨i0,hi0,h0,h1,h2⟩:=info_parts L.i9
  rw[hi0];simp[h1]
 obtain⟨nm,f22⟩:=L.f22
 obtain⟨fn,f29,o1,o2,o3,o4⟩:=L.f29
 have hov:∀lb cb,(callFunc (ρ.f 29) #[.slice (some ⟨vb,voff,none⟩) m vc,.slice (some ⟨b,off+(i+m)*s,none⟩) lb cb]).run P w=.ok (.value (.bool false)) w:=fun lb cb=>by
  rw[run_callFunc_extern f29 o1 o2 o3 o4,
   Lib.run_overlaps_apart w (ρ.t 24) (ρ.t 4) (ρ.t 9) L.t24 s L.z9 ⟨vb,voff,none⟩ ⟨b,off+(i+m)*s,none⟩ m vc lb cb hvb tA tB kA kB hsa hsb hkB hfa hfe]
  rfl
 have hdl:(cs.drop (i*s)).length=(n-i)*s:=by rw[List.length_drop,hcl,Nat.sub_mul]
 have mixed:=L.mixed
 have hw1:IntKind.i64.wrap ((i:Int)+(m:Int))=(i:Int)+(m:Int):=by rw[IntKind.wrap_i64];omega
 have hb1:(0:Int)≤(i:Int)+(m:Int):=by omega
 have hin:i≤n:=by omega
 have htn:((i:Int)+(m:Int)).toNat=i+m:=by omega
 have hb2:¬(c=i+m):=by omega
 have hb3:(i:Int)≤(n:Int)+(m:Int):=by omega
 have hb4:¬(c=i):=by omega
 have hlt1:∀j,j<(n-i)*s→(i+m)*s+j<(n+m)*s:=fun j hj=>by
  have:(i+m)*s+(n-i)*s=(n+m)*s:=by rw[←Nat.add_mul];congr 1;omega
  omega
 have hlt2:∀j,j<m*s→i*s+j<(n+m)*s:=fun j hj=>by
  have h1:i*s+m*s=(i+m)*s:=by rw[←Nat.add_mul]
  have h2:(i+m)*s≤(n+m)*s:=Nat.mul_le_mul_right _ (by omega)
  omega
 have hmin1:Nat.min (n+m-i) (n+m-(i+m))=n-i:=by simp only[Nat.min_def];split <;> omega
 have hmin2:Nat.min m (n+m-i)=m:=by simp only[Nat.min_def];split <;> omega
 have hcp1:∀ty dc sc,(Builtin.copy_ #[(ρ.t 24),(ρ.t 24)] ty #[.slice (some ⟨b,off+(i+m)*s,none⟩) (n+m-(i+m)) dc,.slice (some ⟨b,off+i*s,none⟩) (n+m-i) sc]).run P w.drew=.ok (goInt (Nat.min (n+m-i) (n+m-(i+m)))) (w.drew.setCells b (off+(i+m)*s) (cs.drop (i*s))):=fun ty dc sc =>
  qDi w.drew _ _ ty (ρ.t 9) s b (off+(i+m)*s) (n+m-(i+m)) dc ⟨b,off+i*s,none⟩ (n+m-i) sc (cs.drop (i*s)) L.t24 hsz (by rw[hdl,hmin1])
   (fun j v hj=>by rw[Addr.add_lit,Nat.add_assoc];exact hcs (i*s+j) v (by rwa [List.getElem?_drop] at hj))
   (fun j hj=>by rw[Nat.add_assoc];exact hsp _ (hlt1 j (hdl ▸ hj))) (fun j hj=>by rw[Nat.add_assoc];exact hfz _ (hlt1 j (hdl ▸ hj))) (fun v hv=>h1c v (List.mem_of_mem_drop hv))
 obtain⟨W1,hW1⟩:∃W1,W1=w.drew.setCells b (off+(i+m)*s) (cs.drop (i*s)):=⟨_,rfl⟩
 have hsp1:∀k,k<(n+m)*s→(W1.cell? ⟨b,off+k,none⟩).isSome=true:=fun k hk=>by
  rw[hW1]
  exact isSome_setCells b _ _ _ (fun j hj=>by rw[Nat.add_assoc];exact hsp _ (hlt1 j (hdl ▸ hj))) _ (hsp k hk)
 have hcp2:∀(W:World),(∀x,W.cell? x=W1.cell? x)→(∀x,W.frozen? x=W1.frozen? x)→∀ty dc,(Builtin.copy_ #[(ρ.t 24),(ρ.t 24)] ty #[.slice (some ⟨b,off+i*s,none⟩) (n+m-i) dc,.slice (some ⟨vb,voff,none⟩) m vc]).run P W=.ok (goInt (Nat.min m (n+m-i))) (W.setCells b (off+i*s) vs):=fun W hWc hWf ty dc =>
  qDi W _ _ ty (ρ.t 9) s b (off+i*s) (n+m-i) dc ⟨vb,voff,none⟩ m vc vs L.t24 hsz (by rw[hvl,hmin2])
   (fun j v hj=>by
    rw[Addr.add_lit,hWc,hW1,World.cell?_setCells_out b _ _ _ _ (fun h _=>absurd h hvb)]
    exact hvs j v hj)
   (fun j hj=>by rw[hWc,Nat.add_assoc];exact hsp1 _ (hlt2 j (hvl ▸ hj))) (fun j hj=>by rw[hWf,hW1,World.frozen?_setCells,Nat.add_assoc];exact hfz _ (hlt2 j (hvl ▸ hj))) h1v
 rw[←hW1] at hcp1
 clear hlt1 hlt2 hmin1 hmin2 hdl
 go_enter f22,Body2.n22_ntmps ρ
 go_wp2_with (simp only[hov])
 go_region_law_o (refine step_copy_runI rfl _ _ (ρ.t 24) (ρ.t 24) rfl _ _ (by simp[Act.eval,Act.put]) (by simp[Act.eval,Act.put]) (hcp1 _ _ _) ?_)
 go_wp2_with (at_builtin;refine wpList_copy_runI _ rfl _ _ (ρ.t 24) (ρ.t 24) rfl _ _ rfl rfl (hcp2 _ (fun _=>rfl) (fun _=>rfl) _ _) ?_)
 go_ret
 first | exact⟨rfl,rfl⟩ | exact⟨rfl,by rw[hW1]⟩
set_option maxHeartbeats 4000000 in
set_option maxRecDepth 100000 in
theorem ins_end_room(L:InsL P ρ f s bytes z)(b off n c vb voff m vc:Nat)(vs:List Value)(w:World)(hm:0<m)(hroom:n+m≤c)(hc63:c≤9223372036854775807)(hvl:vs.length=m*s)(hsp:∀j,j<m*s→(w.cell? ⟨b,off+n*s+j,none⟩).isSome=true)(hfz:∀j,j<m*s→w.frozen? ⟨b,off+n*s+j,none⟩=false)(hvs:∀j v,vs[j]?=some v→w.cell? ⟨vb,voff+j,none⟩=some v)(h1v:∀v∈vs,v.oneCell'=true) :
  Calls P f #[.slice (some ⟨b,off,none⟩) n c,.int .i64 n,.slice (some ⟨vb,voff,none⟩) m vc] w fun e w' =>
   e=.returned (.slice (some ⟨b,off,none⟩) (n+m) c)∧w'=w.setCells b (off+n*s) vs:=by
 have t0:=L.t0;have a0:=L.a0;have z0:=L.z0;have v0:=L.v0;have t3:=L.t3;have a3:=L.a3;have z3:=L.z3;have v3:=L.v3;have t4:=L.t4;have a4:=L.a4;have z4:=L.z4;have v4:=L.v4;have z9:=L.z9;have t24:=L.t24;have a24:=L.a24;have z24:=L.z24;have v24:=L.v24
 have u0:=run_underlying L.t0;have u3:=run_underlying L.t3;have u4:=run_underlying L.t4;have u24:=run_underlying L.t24
 have mixed:=L.mixed
 obtain⟨nm,f22⟩:=L.f22
 obtain⟨i0,hi0,hz0,hzs,hzb⟩:=info_parts L.i9
 have hz1:¬((m:Int)=0):=by omega
 have hsrc:Src P i0.size (ρ.t 24) (.slice (some ⟨vb,voff,none⟩) m vc) m vs w:=by
  rw[hzs]
  exact Src.ofSlice w L.t24 ⟨vb,voff,none⟩ m vc vs hvl (fun j u hj=>by rw[Addr.add_lit];exact hvs j u hj) h1v
 have hrun:∀ty,(Builtin.append_ #[(ρ.t 24),(ρ.t 24)] ty #[.slice (some ⟨b,off,none⟩) n c,.slice (some ⟨vb,voff,none⟩) m vc]).run P w=.ok (.slice (some ⟨b,off,none⟩) (n+m) c) (w.setCells b (off+n*s) vs):=fun ty=>by
  have h:=run_append_room_src (P:=P) w (ρ.t 24) (ρ.t 24) ty (ρ.t 9) i0 L.t24 hi0 b off n c _ m vs hsrc hroom (by rw[hvl,hzs];exact hsp) (by rw[hvl,hzs];exact hfz)
  rw[hzs] at h
  exact h
 clear hsrc hsp hfz hvs
 go_enter f22,Body2.n22_ntmps ρ
 go_wp2_with (at_builtin;refine Lib.wpList_append_run _ rfl _ _ _ _ rfl _ _ rfl rfl _ _ (hrun _) ?_)
 go_ret
 exact⟨rfl,rfl⟩
set_option maxHeartbeats 4000000 in
set_option maxRecDepth 100000 in
theorem ins_end_grow(L:InsL P ρ f s bytes z)(base:Option Addr)(n c vb voff m vc:Nat)(cs vs:List Value)(w:World)(hm:0<m)(hnc:n≤c)(hroom:c<n+m)(hbig:(n+m)*bytes≤140737488355328)(h63:((n+m:Nat):Int)≤9223372036854775807)(hcl:cs.length=n*s)(hvl:vs.length=m*s)(hnil:base=none→n=0∧c=0)(hcs:∀a,base=some a→∀j v,cs[j]?=some v→w.cell? (a.add j)=some v)(hvs:∀j v,vs[j]?=some v→w.cell? ⟨vb,voff+j,none⟩=some v)(h1v:∀v∈vs,v.oneCell'=true) :
  Calls P f #[.slice base n c,.int .i64 n,.slice (some ⟨vb,voff,none⟩) m vc] w fun e w' =>
   e=.returned (.slice (some ⟨w.heap.size,0,none⟩) (n+m) (grownCap w (n+m) c (ρ.t 9))) ∧
   w'=w.drew.alloc (.cells ((cs++vs).toArray++Builtin.zeroCells z.cells (grownCap w (n+m) c (ρ.t 9)-(n+m))) (ρ.t 9)):=by
 have t0:=L.t0;have a0:=L.a0;have z0:=L.z0;have v0:=L.v0;have t3:=L.t3;have a3:=L.a3;have z3:=L.z3;have v3:=L.v3;have t4:=L.t4;have a4:=L.a4;have z4:=L.z4;have v4:=L.v4;have z9:=L.z9;have t24:=L.t24;have a24:=L.a24;have z24:=L.z24;have v24:=L.v24
 have u0:=run_underlying L.t0;have u3:=run_underlying L.t3;have u4:=run_underlying L.t4;have u24:=run_underlying L.t24
 have mixed:=L.mixed
 obtain⟨nm,f22⟩:=L.f22
 obtain⟨i0,hi0,hz0,hzs,hzb⟩:=info_parts L.i9
 have hz1:¬((m:Int)=0):=by omega
 have hsrc:Src P i0.size (ρ.t 24) (.slice (some ⟨vb,voff,none⟩) m vc) m vs w:=by
  rw[hzs]
  exact Src.ofSlice w L.t24 ⟨vb,voff,none⟩ m vc vs hvl (fun j u hj=>by rw[Addr.add_lit];exact hvs j u hj) h1v
 have hold:(Builtin.firstCells i0.size n (.slice base n c)).run P w.drew=.ok cs.toArray w.drew:=by
  rw[hzs]
  cases base with
  | none =>
   obtain⟨h0,_⟩:=hnil rfl
   subst h0
   rw[List.length_eq_zero_iff.1 (hcl.trans (Nat.zero_mul s))]
   exact run_firstCells_none w.drew s 0 0 c
  | some a=>exact run_firstCells_some w.drew s n a n c cs hcl (fun j v hj=>hcs a rfl j v hj)
 have hrun:∀ty,(Builtin.append_ #[(ρ.t 24),(ρ.t 24)] ty #[.slice base n c,.slice (some ⟨vb,voff,none⟩) m vc]).run P w=_:=fun ty =>
  run_append_grow_src w (ρ.t 24) (ρ.t 24) ty (ρ.t 9) i0 _ L.t24 hi0 hz0 base n c cs hold _ m vs hsrc hroom h63 (by rw[hzb];exact growslice_fits hroom hbig)
 clear hold hsrc hcs hvs
 generalize w.drew.alloc (.cells ((cs++vs).toArray++Builtin.zeroCells z.cells (grownCap w (n+m) c (ρ.t 9)-(n+m))) (ρ.t 9))=W2 at hrun ⊢
 generalize hG:grownCap w (n+m) c (ρ.t 9)=G at hrun ⊢
 go_enter f22,Body2.n22_ntmps ρ
 cases base with
 | none =>
  obtain⟨h0,h1⟩:=hnil rfl
  subst h0 h1
  go_wp2_with (at_builtin;refine Lib.wpList_append_run _ rfl _ _ _ _ rfl _ _ rfl rfl _ _ (hrun _) ?_)
  go_ret
  exact⟨rfl,rfl⟩
 | some a =>
  obtain⟨ab,ao,asp⟩:=a
  go_wp2_with (at_builtin;refine Lib.wpList_append_run _ rfl _ _ _ _ rfl _ _ rfl rfl _ _ (hrun _) ?_)
  all_goals (go_ret;exact⟨rfl,rfl⟩)
theorem qCb(cs:Array Value)(n:Nat):(Builtin.zeroCells cs n).size=n*cs.size:=by
 unfold Builtin.zeroCells
 induction n with
 | zero=>simp
 | succ n ih=>simp_all [Nat.add_mul]
set_option maxHeartbeats 4000000 in
set_option maxRecDepth 100000 in
theorem ins_grow(L:InsL P ρ f s bytes z)(hs0:0<s)(hb0:0<bytes)(hzc:z.cells.size=s)(b off n c i vb voff m vc:Nat)(cs vs:List Value)(w:World)(hi:i<n)(hm:0<m)(hnc:n≤c)(hroom:c<n+m)(hbig:(n+m)*bytes≤140737488355328)(hcl:cs.length=n*s)(hvl:vs.length=m*s)(hcs:∀j v,cs[j]?=some v→w.cell? ⟨b,off+j,none⟩=some v)(hvs:∀j v,vs[j]?=some v→w.cell? ⟨vb,voff+j,none⟩=some v)(h1c:∀v∈cs,v.oneCell'=true)(h1v:∀v∈vs,v.oneCell'=true) :
  Calls P f #[.slice (some ⟨b,off,none⟩) n c,.int .i64 i,.slice (some ⟨vb,voff,none⟩) m vc] w fun e w' =>
   e=.returned (.slice (some ⟨w.heap.size,0,none⟩) (n+m) (grownCap w (n+m) c (ρ.t 9))) ∧
   w'=(((w.alloc (.cells ((cs.take (i*s)).toArray++Builtin.zeroCells z.cells (n+m-i)++Builtin.zeroCells z.cells (grownCap w (n+m) c (ρ.t 9)-(n+m))) (ρ.t 9))).drew.setCells w.heap.size (i*s) vs).drew).setCells w.heap.size ((i+m)*s) (cs.drop (i*s)):=by
 have t0:=L.t0;have a0:=L.a0;have z0:=L.z0;have v0:=L.v0;have t3:=L.t3;have a3:=L.a3;have z3:=L.z3;have v3:=L.v3;have t4:=L.t4;have a4:=L.a4;have z4:=L.z4;have v4:=L.v4;have z9:=L.z9;have t24:=L.t24;have a24:=L.a24;have z24:=L.z24;have v24:=L.v24
 have u0:=run_underlying L.t0;have u3:=run_underlying L.t3;have u4:=run_underlying L.t4;have u24:=run_underlying L.t24
 have mixed:=L.mixed
 obtain⟨nm,f22⟩:=L.f22
 obtain⟨i0,hi0,hz0,hzs,hzb⟩:=info_parts L.i9
 have hz1:¬((m:Int)=0):=by omega
 have hz2:¬((i:Int)=(n:Int)):=by omega
 have hz3:(c:Int)<(n:Int)+(m:Int):=by omega
 have hsz:(P.info? (ρ.t 9)).map (·.size)=some s:=by rw[hi0];simp[hzs]
 have hnm:n+m≤140737488355328:=Nat.le_trans (Nat.le_mul_of_pos_right _ hb0) hbig
 have hns:0<n*s:=Nat.mul_pos (by omega) hs0
 have hms:0<m*s:=Nat.mul_pos (by omega) hs0
 have hbw:b<w.heap.size:=block_lt_of_cell (hcs 0 _ (List.getElem?_eq_getElem (by omega)))
 have hvw:vb<w.heap.size:=block_lt_of_cell (hvs 0 _ (List.getElem?_eq_getElem (by omega)))
 have hkk:(n:Int)+(m:Int)-(i:Int)=((n+m-i:Nat):Int):=by omega
 have hik:i+(n+m-i)=n+m:=by omega
 have hile:i*s≤n*s:=Nat.mul_le_mul_right _ (by omega)
 have hold:(Builtin.firstCells i0.size i (.slice (some ⟨b,off,none⟩) i c)).run P w.drew=.ok (cs.take (i*s)).toArray w.drew:=by
  rw[hzs]
  exact run_firstCells_some w.drew s i ⟨b,off,none⟩ i c (cs.take (i*s)) (by rw[List.length_take];omega) (fun j v hj=>by
   rw[Addr.add_lit]
   rw[List.getElem?_take] at hj
   split at hj
   ·exact hcs j v hj
   ·cases hj)
 have hrz:∀ty,(Builtin.append_ #[(ρ.t 24),(ρ.t 3)] ty #[.slice (some ⟨b,off,none⟩) i c,.int .i64 ((n:Int)+(m:Int)-(i:Int))]).run P w =
   .ok (.slice (some ⟨w.heap.size,0,none⟩) (n+m) (grownCap w (n+m) c (ρ.t 9))) (w.drew.alloc (.cells ((cs.take (i*s)).toArray++Builtin.zeroCells z.cells (n+m-i)++Builtin.zeroCells z.cells (grownCap w (n+m) c (ρ.t 9)-(n+m))) (ρ.t 9))):=fun ty=>by
  have hkb:(n+m-i)*i0.bytes≤281474976710656:=by
   rw[hzb]
   have:(n+m-i)*bytes≤(n+m)*bytes:=Nat.mul_le_mul_right _ (by omega)
   omega
  have h:=Lib.run_append_grow_zeros w (ρ.t 24) (ρ.t 3) ty (ρ.t 9) i0 _ .i64 .i64 L.t24 L.t3 hi0 hz0 (some ⟨b,off,none⟩) i c (cs.take (i*s)) hold (n+m-i) (by omega) (by omega) (by omega) (by omega) hkb (by rw[hzb,hik];exact growslice_fits hroom hbig)
  rw[hik] at h
  rw[hkk]
  exact h
 obtain⟨G,hG⟩:∃G,G=grownCap w (n+m) c (ρ.t 9):=⟨_,rfl⟩
 obtain⟨ROW,hROW⟩:∃ROW:Array Value,ROW=(cs.take (i*s)).toArray++Builtin.zeroCells z.cells (n+m-i)++Builtin.zeroCells z.cells (G-(n+m)):=⟨_,rfl⟩
 rw[←hG] at hrz ⊢
 rw[←hROW] at hrz ⊢
 have hRl:(n+m)*s≤ROW.size:=by
  rw[hROW]
  simp only[Array.size_append,qCb,hzc,List.size_toArray,List.length_take,hcl]
  have:i*s+(n+m-i)*s=(n+m)*s:=by rw[←Nat.add_mul,hik]
  omega
 obtain⟨W1,hW1⟩:∃W1,W1=w.drew.alloc (.cells ROW (ρ.t 9)):=⟨_,rfl⟩
 rw[←hW1] at hrz
 have hN:∀j,j<(n+m)*s→(W1.cell? ⟨w.heap.size,j,none⟩).isSome=true:=fun j hj=>by
  rw[hW1,World.cell?_alloc_at (w:=w.drew) ROW _ w.heap.size j rfl,Array.getElem?_eq_getElem (by omega)];rfl
 have hNf:∀j,W1.frozen? ⟨w.heap.size,j,none⟩=false:=fun j=>by rw[hW1];exact World.frozen?_alloc_at (w:=w.drew) ROW _ w.heap.size j rfl
 have hOb:∀j v,w.cell? ⟨b,j,none⟩=some v→W1.cell? ⟨b,j,none⟩=some v:=fun j v h=>by rw[hW1,World.cell?_alloc_past (w:=w.drew) _ b j hbw];exact h
 have hOv:∀j v,w.cell? ⟨vb,j,none⟩=some v→W1.cell? ⟨vb,j,none⟩=some v:=fun j v h=>by rw[hW1,World.cell?_alloc_past (w:=w.drew) _ vb j hvw];exact h
 have hlt1:∀j,j<(n-i)*s→(i+m)*s+j<(n+m)*s:=fun j hj=>by
  have:(i+m)*s+(n-i)*s=(n+m)*s:=by rw[←Nat.add_mul];congr 1;omega
  omega
 have hlt2:∀j,j<m*s→i*s+j<(n+m)*s:=fun j hj=>by
  have h1:i*s+m*s=(i+m)*s:=by rw[←Nat.add_mul]
  have h2:(i+m)*s≤(n+m)*s:=Nat.mul_le_mul_right _ (by omega)
  omega
 have hmin1:Nat.min (n-i) (n+m-(i+m))=n-i:=by simp only[Nat.min_def];split <;> omega
 have hmin2:Nat.min m (n+m-i)=m:=by simp only[Nat.min_def];split <;> omega
 have hcpA:∀(W:World),(∀x,W.cell? x=W1.cell? x)→(∀x,W.frozen? x=W1.frozen? x)→∀ty dc,(Builtin.copy_ #[(ρ.t 24),(ρ.t 24)] ty #[.slice (some ⟨w.heap.size,i*s,none⟩) (n+m-i) dc,.slice (some ⟨vb,voff,none⟩) m vc]).run P W=.ok (goInt (Nat.min m (n+m-i))) (W.setCells w.heap.size (i*s) vs):=fun W hWc hWf ty dc =>
  qDi W _ _ ty (ρ.t 9) s w.heap.size (i*s) (n+m-i) dc ⟨vb,voff,none⟩ m vc vs L.t24 hsz (by rw[hvl,hmin2])
   (fun j v hj=>by rw[Addr.add_lit,hWc];exact hOv _ v (hvs j v hj))
   (fun j hj=>by rw[hWc];exact hN _ (hlt2 j (hvl ▸ hj))) (fun j hj=>by rw[hWf];exact hNf _) h1v
 have hGn:n+m≤G:=by rw[hG];exact grownCap_ge w _ _ _
 have hG63:G≤9223372036854775807:=by
  have:=grownCap_le_maxLen w (n+m) c (ρ.t 9) (by unfold maxLen;omega)
  rw[←hG] at this
  unfold maxLen at this
  omega
 have hGi:¬(G=i):=by omega
 have hGim:¬(G=i+m):=by omega
 have hci:¬(c=i):=by omega
 have hbN:b≠w.heap.size:=by omega
 have hdl:(cs.drop (i*s)).length=(n-i)*s:=by rw[List.length_drop,hcl,Nat.sub_mul]
 have hcpB:∀(W:World),(∀x,W.cell? x=(W1.setCells w.heap.size (i*s) vs).cell? x)→(∀x,W.frozen? x=(W1.setCells w.heap.size (i*s) vs).frozen? x)→∀ty dc sc,(Builtin.copy_ #[(ρ.t 24),(ρ.t 24)] ty #[.slice (some ⟨w.heap.size,(i+m)*s,none⟩) (n+m-(i+m)) dc,.slice (some ⟨b,off+i*s,none⟩) (n-i) sc]).run P W=.ok (goInt (Nat.min (n-i) (n+m-(i+m)))) (W.setCells w.heap.size ((i+m)*s) (cs.drop (i*s))):=fun W hWc hWf ty dc sc =>
  qDi W _ _ ty (ρ.t 9) s w.heap.size ((i+m)*s) (n+m-(i+m)) dc ⟨b,off+i*s,none⟩ (n-i) sc (cs.drop (i*s)) L.t24 hsz (by rw[hdl,hmin1])
   (fun j v hj=>by
    rw[Addr.add_lit,hWc,World.cell?_setCells_out _ _ _ _ _ (fun h _=>absurd h hbN),Nat.add_assoc]
    exact hOb _ v (hcs (i*s+j) v (by rwa [List.getElem?_drop] at hj)))
   (fun j hj=>by rw[hWc];exact isSome_setCells _ _ _ _ (fun t ht=>hN _ (hlt2 t (hvl ▸ ht))) _ (hN _ (hlt1 j (hdl ▸ hj))))
   (fun j hj=>by rw[hWf,World.frozen?_setCells];exact hNf _) (fun v hv=>h1c v (List.mem_of_mem_drop hv))
 subst hW1
 have hE1:∀x,((w.alloc (.cells ROW (ρ.t 9))).drew).cell? x=(w.drew.alloc (.cells ROW (ρ.t 9))).cell? x:=fun x=>rfl
 have hE2:∀x,((w.alloc (.cells ROW (ρ.t 9))).drew).frozen? x=(w.drew.alloc (.cells ROW (ρ.t 9))).frozen? x:=fun x=>rfl
 have hF1:∀x,(((w.alloc (.cells ROW (ρ.t 9))).drew.setCells w.heap.size (i*s) vs).drew).cell? x=((w.drew.alloc (.cells ROW (ρ.t 9))).setCells w.heap.size (i*s) vs).cell? x:=fun x=>rfl
 have hF2:∀x,(((w.alloc (.cells ROW (ρ.t 9))).drew.setCells w.heap.size (i*s) vs).drew).frozen? x=((w.drew.alloc (.cells ROW (ρ.t 9))).setCells w.heap.size (i*s) vs).frozen? x:=fun x=>rfl
 have hw1:IntKind.i64.wrap ((i:Int)+(m:Int))=(i:Int)+(m:Int):=by rw[IntKind.wrap_i64];omega
 have hb1:(0:Int)≤(i:Int)+(m:Int):=by omega
 have hin:i≤n:=by omega
 have htn:((i:Int)+(m:Int)).toNat=i+m:=by omega
 have hb3:(i:Int)≤(n:Int):=by omega
 clear hkk hik hold hROW hG hRl hlt1 hlt2 hmin1 hmin2 hdl hbig hnm hns hms hile
 go_enter f22,Body2.n22_ntmps ρ
 go_wp2_with (first
  | (at_builtin;refine Lib.wpList_append_run _ rfl _ _ _ _ rfl _ _ rfl rfl _ _ (hrz _) ?_)
  | (at_builtin;refine wpList_copy_runI _ rfl _ _ (ρ.t 24) (ρ.t 24) rfl _ _ rfl rfl (hcpA _ hE1 hE2 _ _) ?_)
  | (at_builtin;refine wpList_copy_runI _ rfl _ _ (ρ.t 24) (ρ.t 24) rfl _ _ rfl rfl (hcpB _ (fun _=>rfl) (fun _=>rfl) _ _ _) ?_))
 go_region_law_o (refine step_copy_runI rfl _ _ (ρ.t 24) (ρ.t 24) rfl (.slice (some ⟨w.heap.size,(i+m)*s,none⟩) (n+m-(i+m)) (G-(i+m))) (.slice (some ⟨b,off+i*s,none⟩) (n-i) (c-i)) (by simp[Act.eval,Act.put]) (by simp[Act.eval,Act.put]) (hcpB _ hF1 hF2 (ρ.t 3) (G-(i+m)) (c-i)) ?_)
 go_wp2
 go_ret
 exact⟨rfl,rfl⟩
end Go.Eng
end

section
namespace Go.Eng
variable [Names]
open Go.Shelf Go.RowKit Go.Lib Go.Proofs
omit [Names] in
theorem qBT.take{α:Type}{R:α→List Value→List Nat→Prop}{width:Nat}{vs:List Value}{xs:List α}{Ss:List (List Nat)}(h:qBT R width vs xs Ss)(i:Nat):qBT R width (vs.take (i*width)) (xs.take i) (Ss.take i):=by
 refine⟨by simp[h.1],fun k x S hx hS=>?_⟩
 rw[List.getElem?_take] at hx hS
 split at hx
 ·rename_i hk
  rw[if_pos hk] at hS
  obtain⟨rs,h1,h2,h3⟩:=h.2 k x S hx hS
  refine⟨rs,h1,fun j hj=>?_,h3⟩
  rw[List.getElem?_take,if_pos,h2 j hj]
  calc k*width+j<k*width+width:=by omega
   _=(k+1)*width:=by rw[Nat.add_mul,Nat.one_mul]
   _≤i*width:=Nat.mul_le_mul_right _ hk
 ·cases hx
omit [Names] in
theorem qBT.drop{α:Type}{R:α→List Value→List Nat→Prop}{width:Nat}{vs:List Value}{xs:List α}{Ss:List (List Nat)}(h:qBT R width vs xs Ss)(i:Nat):qBT R width (vs.drop (i*width)) (xs.drop i) (Ss.drop i):=by
 refine⟨by simp[h.1],fun k x S hx hS=>?_⟩
 rw[List.getElem?_drop] at hx hS
 obtain⟨rs,h1,h2,h3⟩:=h.2 (i+k) x S hx hS
 refine⟨rs,h1,fun j hj=>?_,h3⟩
 rw[List.getElem?_drop,←h2 j hj,Nat.add_mul,Nat.add_assoc]
theorem qAY.open{F:Nat→Prop}{w:World}{l:LV}{z:Bool}{e:Nat}{t:Ty}{xs:List t.den}{b:Nat}(h:qAY F w l z e t xs)(hb:l.blk=some b) :
  ∃cur fr Ss cs,w.heap[b]?=some (.cells cur e fr)∧(z=false→fr=(0,0))∧Thaw fr cur.size∧xs.length≤l.cap∧l.cap≤maxLen∧(l.cap=0∨cur.size=l.off+l.cap*t.w)∧l.sub=Ss.flatten∧(b::l.sub).Nodup ∧
   cs.length=xs.length*t.w∧qBT (TRep F w t) t.w cs xs Ss∧(∀v∈cs,v.oneCell'=true)∧(∀j v,cs[j]?=some v→cur.toList[l.off+j]?=some v):=by
 unfold qAY LstW at h
 rw[hb] at h
 obtain⟨cur,fr,Ss,h1,h2,h3,h4,h5,h6,h7,h8,h9⟩:=h
 have hlen:xs.length*t.w≤(cur.toList.drop l.off).length:=by
  rw[List.length_drop]
  rcases h6 with h6 | h6
  ·have:xs.length=0:=by omega
   simp only[this,Nat.zero_mul,Nat.zero_le]
  ·have e0:cur.toList.length=cur.size:=Array.length_toList
   have:=Nat.mul_le_mul_right t.w h4
   omega
 have hcl:((cur.toList.drop l.off).take (xs.length*t.w)).length=xs.length*t.w:=by rw[List.length_take];omega
 have hr:qBT (TRep F w t) t.w ((cur.toList.drop l.off).take (xs.length*t.w)) xs Ss:=by
  have:=h9.take xs.length
  rwa [List.take_length,show Ss.take xs.length=Ss by rw[←h9.1,List.take_length]] at this
 refine⟨cur,fr,Ss,_,h1,h2,h3,h4,h5,h6,h7,h8,hcl,hr,fun v hv=>?_,fun j v hj=>?_⟩
 ·obtain⟨k,hk,rfl⟩:=List.getElem_of_mem hv
  have hk':k<xs.length*t.w:=by rw[hcl] at hk;exact hk
  have hw:0<t.w:=Nat.pos_of_ne_zero fun h0=>by rw[h0,Nat.mul_zero] at hk';omega
  have hi:k / t.w<xs.length:=(Nat.div_lt_iff_lt_mul hw).2 hk'
  obtain⟨rs,r1,r2,r3⟩:=hr.2 (k / t.w) _ _ (List.getElem?_eq_getElem hi) (List.getElem?_eq_getElem (by rw[hr.1];exact hi))
  have hm:k % t.w<t.w:=Nat.mod_lt _ hw
  have e:=r2 (k % t.w) hm
  rw[Nat.mul_comm (k / t.w),Nat.div_add_mod,List.getElem?_eq_getElem hk] at e
  have e':=e.symm
  exact r3.one _ (List.mem_of_getElem? e')
 ·rw[List.getElem?_take] at hj
  split at hj
  ·rwa [List.getElem?_drop] at hj
  ·cases hj
omit [Names] in
theorem cellAt{w:World}{b:Nat}{cur:Array Value}{e:TypeId}{fr:Nat×Nat}(h:w.heap[b]?=some (.cells cur e fr))(k:Nat):w.cell? ⟨b,k,none⟩=cur.toList[k]?:=by
 simp[World.cell?,h]
omit [Names] in
theorem thawAt{w:World}{b:Nat}{cur:Array Value}{e:TypeId}{fr:Nat×Nat}(h:w.heap[b]?=some (.cells cur e fr))(ht:Thaw fr cur.size)(k:Nat)(hk:k<cur.size):w.frozen? ⟨b,k,none⟩=false:=by
 simp only[World.frozen?,h]
 rcases ht with rfl | ht
 ·simp
 ·simp;omega
omit [Names] in
theorem ins_rows{α:Type}{R:α→List Value→List Nat→Prop}{width i:Nat}{cs vs:List Value}{xs ys:List α}{Ss Ys:List (List Nat)}(h:qBT R width cs xs Ss)(k:qBT R width vs ys Ys)(hcl:cs.length=xs.length*width)(hvl:vs.length=ys.length*width)(hi:i≤xs.length) :
  qBT R width (cs.take (i*width)++vs++cs.drop (i*width)) (xs.take i++ys++xs.drop i) (Ss.take i++Ys++Ss.drop i):=by
 have hiw:i*width≤xs.length*width:=Nat.mul_le_mul_right _ hi
 have e1:(cs.take (i*width)).length=(xs.take i).length*width:=by rw[List.length_take,List.length_take,hcl,Nat.min_eq_left hiw,Nat.min_eq_left hi]
 exact((h.take i).app k e1).app (h.drop i) (by simp only[List.length_append,e1,hvl,Nat.add_mul])
theorem ins_lst{F:Nat→Prop}{w w':World}{t:Ty}{z:Bool}{e b b' off cap i:Nat}{cs vs:List Value}{xs ys:List t.den}{Ss Ys:List (List Nat)}{cur:Array Value}{fr:Nat×Nat}(h:qBT (TRep F w t) t.w cs xs Ss)(k:qBT (TRep F w t) t.w vs ys Ys)(hcl:cs.length=xs.length*t.w)(hvl:vs.length=ys.length*t.w)(hi:i≤xs.length)(hb:w'.heap[b']?=some (.cells cur e fr))(hz:z=false→fr=(0,0))(hth:Thaw fr cur.size)(hcap:xs.length+ys.length≤cap)(hmax:cap≤maxLen)(hsz:cap=0∨cur.size=off+cap*t.w)(hnd:(b'::(Ss.flatten++Ys.flatten)).Nodup)(hsame:∀c,c≠b→c<w.heap.size→w'.heap[c]?=w.heap[c]?)(hbF:¬F b)(hbS:b∉Ss.flatten++Ys.flatten)(hFlt:∀c,F c→c<w.heap.size)(hSlt:∀c∈Ss.flatten++Ys.flatten,c<w.heap.size)(hcells:∀k,k<(xs.length+ys.length)*t.w→cur.toList[off+k]?=(cs.take (i*t.w)++vs++cs.drop (i*t.w))[k]?) :
  ∃sub,qAY F w' ⟨some b',off,cap,sub⟩ z e t (xs.take i++ys++xs.drop i)∧(b'::sub).Nodup∧∀c,c∈sub↔c∈Ss.flatten++Ys.flatten:=by
 have hperm:(Ss.take i++Ys++Ss.drop i).flatten.Perm (Ss.flatten++Ys.flatten):=by
  simp only[List.flatten_append]
  have e:(Ss.take i).flatten++(Ss.drop i).flatten=Ss.flatten:=by rw[←List.flatten_append,List.take_append_drop]
  refine(List.append_assoc _ _ _ ▸ List.Perm.refl _:List.Perm _ ((Ss.take i).flatten++(Ys.flatten++(Ss.drop i).flatten))).trans ?_
  refine(List.Perm.append_left _ List.perm_append_comm).trans ?_
  rw[←List.append_assoc,e]
 have hlen:(xs.take i++ys++xs.drop i).length=xs.length+ys.length:=by simp only[List.length_append,List.length_take,List.length_drop];omega
 have hnd':(b'::(Ss.take i++Ys++Ss.drop i).flatten).Nodup:=(List.Perm.cons b' hperm).nodup_iff.2 hnd
 refine⟨(Ss.take i++Ys++Ss.drop i).flatten,?_,hnd',fun c=>hperm.mem_iff⟩
 unfold qAY LstW
 refine⟨cur,fr,Ss.take i++Ys++Ss.drop i,hb,hz,hth,by rw[hlen];exact hcap,hmax,hsz,rfl,hnd',?_⟩
 have hr:=ins_rows h k hcl hvl hi
 have hr':qBT (TRep F w' t) t.w (cs.take (i*t.w)++vs++cs.drop (i*t.w)) (xs.take i++ys++xs.drop i) (Ss.take i++Ys++Ss.drop i):=hr.mono fun x rs S hS hR=>hR.mono (fun _ hc=>hc) (fun c hc=>hsame c (fun e=>hbF (e ▸ hc)) (hFlt c hc)) fun c hc=>by
  have hm:c∈Ss.flatten++Ys.flatten:=hperm.mem_iff.1 (List.mem_flatten.2 ⟨S,hS,hc⟩)
  exact hsame c (fun e=>hbS (e ▸ hm)) (hSlt c hm)
 refine hr'.cells fun k hk=>?_
 rw[List.getElem?_drop]
 exact hcells k (by rw[hlen] at hk;exact hk)
def insF(bytes:Nat)(t:Ty)(x:List t.den×Int×List t.den×Unit):Option (List t.den×Unit×Unit×Unit×Unit):=
 if 0≤x.2.1∧x.2.1≤(x.1.length:Int)∧0<x.2.2.1.length∧(x.1.length+x.2.2.1.length)*bytes≤140737488355328 then some (x.1.take x.2.1.toNat++x.2.2.1++x.1.drop x.2.1.toNat,(),(),(),()) else none
theorem ins_fin{F B:Nat→Prop}{w w':World}{t:Ty}{z:Bool}{e e':Nat}{l lv l':LV}{xs ys rows:List t.den}{i:Int}{Sx:List Nat}(hmine:∀b∈Sx,¬F b∧¬B b∧b<w.heap.size)(hF:∀b,F b→b<w.heap.size)(hB:∀b,B b→b<w.heap.size)(hos:w'.os=w.os∧w'.tape=w.tape∧w'.output=w.output)(hsize:w.heap.size≤w'.heap.size)(hblock:∀b,b<w.heap.size→b∉Sx→w'.heap[b]?=w.heap[b]?)(hok:qAY F w' l' z e t rows)(hnd:l'.all.Nodup)(hall:∀c∈l'.all,c<w'.heap.size∧(w.heap.size≤c∨c∈Sx)) :
  ∃F' S1 S2,Post (.own z e t) (.cons (.own z e t) (.cons (.int .i64) (.cons (.own false e' t) .nil))) (rows,(),(),(),()) [hdr l xs.length,.int .i64 i,hdr lv ys.length] Sx F B w F' S1 S2 (hdr l' rows.length) w':=by
 refine⟨F,l'.all,[],⟨hos.1,hos.2.1,hos.2.2,hsize,hblock,fun _ h=>h,fun _ h=>.inl h,fun b hb=>Nat.lt_of_lt_of_le (hF b hb) hsize,⟨l',rfl,rfl,hok⟩,?_,by rwa [List.append_nil],fun c hc=>?_⟩⟩
 ·exact⟨_,_,[],[],rfl,rfl,rfl,_,_,[],[],rfl,rfl,rfl,_,_,[],[],rfl,rfl,rfl,rfl⟩
 ·rw[List.append_nil] at hc
  obtain⟨h1,h2⟩:=hall c hc
  rcases h2 with h2 | h2
  ·exact⟨fun h=>by have:=hF c h;omega,fun h=>by have:=hB c h;omega,h1,.inl h2⟩
  ·exact⟨(hmine c h2).1,(hmine c h2).2.1,h1,.inr h2⟩
omit [Names] in
theorem ins_cells{C cs vs:List Value}{off A M D:Nat}(hc:cs.length=A+D)(hv:vs.length=M)(h1:∀k,k<A→C[off+k]?=cs[k]?)(h2:∀j,j<M→C[off+(A+j)]?=vs[j]?)(h3:∀j,j<D→C[off+(A+M+j)]?=cs[A+j]?)(k:Nat)(hk:k<A+M+D) :
  C[off+k]?=(cs.take A++vs++cs.drop A)[k]?:=by
 have e1:(cs.take A).length=A:=by rw[List.length_take];omega
 by_cases a:k<A
 ·rw[h1 k a,List.append_assoc,List.getElem?_append_left (by omega),List.getElem?_take,if_pos a]
 ·by_cases b:k<A+M
  ·have:=h2 (k-A) (by omega)
   rw[show A+(k-A)=k by omega] at this
   rw[this,List.append_assoc,List.getElem?_append_right (by omega),e1,List.getElem?_append_left (by omega)]
  ·have:=h3 (k-(A+M)) (by omega)
   rw[show A+M+(k-(A+M))=k by omega] at this
   rw[this,List.getElem?_append_right (by rw[List.length_append];omega),List.length_append,e1,hv,List.getElem?_drop]
omit [Names] in
theorem ins_sx{Sx:List Nat}{l lv:LV}{Ss Ys:List (List Nat)}(hS:Sx=l.all++([]++(lv.all++[])))(hnd:Sx.Nodup)(h7:l.sub=Ss.flatten)(v7:lv.sub=Ys.flatten) :
  (l.blk.toList++(Ss.flatten++Ys.flatten)).Nodup∧(∀c∈Ss.flatten++Ys.flatten,c∈Sx)∧∀b,l.blk=some b→b∈Sx:=by
 subst hS
 simp only[List.nil_append,List.append_nil] at hnd ⊢
 unfold LV.all at hnd ⊢
 rw[h7,v7] at hnd ⊢
 refine⟨hnd.sublist ?_,fun c hc=>?_,fun b hb=>?_⟩
 ·rw[List.append_assoc]
  exact List.Sublist.append_left (List.Sublist.append_left (List.sublist_append_right _ _) _) _
 ·rcases List.mem_append.1 hc with hc | hc
  ·exact List.mem_append.2 (.inl (List.mem_append.2 (.inr hc)))
  ·exact List.mem_append.2 (.inr (List.mem_append.2 (.inr hc)))
 ·rw[hb];simp
theorem ins_new{F B:Nat→Prop}{w w':World}{t:Ty}{z:Bool}{e e' vb G i:Nat}{l lv:LV}{cs vs:List Value}{xs ys:List t.den}{Ss Ys:List (List Nat)}{Sx:List Nat}{cur:Array Value}(hS:Sx=l.all++([]++(lv.all++[])))(hnd:Sx.Nodup)(hmine:∀b∈Sx,¬F b∧¬B b∧b<w.heap.size)(hF:∀b,F b→b<w.heap.size)(hB:∀b,B b→b<w.heap.size)(h:qBT (TRep F w t) t.w cs xs Ss)(k:qBT (TRep F w t) t.w vs ys Ys)(hcl:cs.length=xs.length*t.w)(hvl:vs.length=ys.length*t.w)(hi:i≤xs.length)(h7:l.sub=Ss.flatten)(v7:lv.sub=Ys.flatten)(hvb:lv.blk=some vb)(hos:w'.os=w.os∧w'.tape=w.tape∧w'.output=w.output)(hnew:w'.heap[w.heap.size]?=some (.cells cur e (0,0)))(hold:∀c,c<w.heap.size→w'.heap[c]?=w.heap[c]?)(hsize:w.heap.size<w'.heap.size)(hG:xs.length+ys.length≤G)(hGm:G≤maxLen)(hsz:cur.size=G*t.w)(hcells:∀k,k<(xs.length+ys.length)*t.w→cur.toList[k]?=(cs.take (i*t.w)++vs++cs.drop (i*t.w))[k]?) :
  ∃v,Ending.returned (.slice (some ⟨w.heap.size,0,none⟩) (xs.length+ys.length) G)=.returned v∧∃F' S1 S2,Post (.own z e t) (.cons (.own z e t) (.cons (.int .i64) (.cons (.own false e' t) .nil))) (xs.take i++ys++xs.drop i,(),(),(),()) [hdr l xs.length,.int .i64 (i:Int),hdr lv ys.length] Sx F B w F' S1 S2 v w':=by
 obtain⟨n1,n2,n3⟩:=ins_sx hS hnd h7 v7
 have hlt:∀c∈Ss.flatten++Ys.flatten,c<w.heap.size:=fun c hc=>(hmine c (n2 c hc)).2.2
 have hvm:vb∈Sx:=by rw[hS];simp[LV.mem_blk hvb]
 obtain⟨sub,k1,k2,k3⟩:=ins_lst (i:=i) (z:=z) (b:=w.heap.size) (e:=e) (b':=w.heap.size) (off:=0) (cap:=G) h k hcl hvl hi hnew (fun _=>rfl) (.inl rfl) hG hGm (.inr (by rw[hsz,Nat.zero_add]))
  (List.nodup_cons.2 ⟨fun h=>by have:=hlt _ h;omega,(List.nodup_append.1 n1).2.1⟩) (fun c _ hc=>hold c hc) (fun h=>by have:=hF _ h;omega) (fun h=>by have:=hlt _ h;omega) hF hlt (fun k hk=>by rw[Nat.zero_add];exact hcells k hk)
 have hlen:(xs.take i++ys++xs.drop i).length=xs.length+ys.length:=by simp only[List.length_append,List.length_take,List.length_drop];omega
 refine⟨_,rfl,?_⟩
 have fin:=ins_fin (l:=l) (lv:=lv) (l':=⟨some w.heap.size,0,G,sub⟩) (xs:=xs) (ys:=ys) (i:=(i:Int)) (e':=e') hmine hF hB hos (Nat.le_of_lt hsize) (fun c hc _=>hold c hc) k1 k2 (fun c hc=>by
  rcases LV.mem_all.1 hc with h | h
  ·injection h with h;subst h;exact⟨hsize,.inl (Nat.le_refl _)⟩
  ·have:=(k3 c).1 h
   exact⟨by have:=hlt c this;omega,.inr (n2 c this)⟩)
 rw[hlen] at fin
 exact fin
theorem ins_old{F B:Nat→Prop}{w w':World}{t:Ty}{z:Bool}{e e' b i:Nat}{l lv:LV}{cs vs:List Value}{xs ys:List t.den}{Ss Ys:List (List Nat)}{Sx:List Nat}{cur:Array Value}{fr:Nat×Nat}(hS:Sx=l.all++([]++(lv.all++[])))(hnd:Sx.Nodup)(hmine:∀b∈Sx,¬F b∧¬B b∧b<w.heap.size)(hF:∀b,F b→b<w.heap.size)(hB:∀b,B b→b<w.heap.size)(h:qBT (TRep F w t) t.w cs xs Ss)(k:qBT (TRep F w t) t.w vs ys Ys)(hcl:cs.length=xs.length*t.w)(hvl:vs.length=ys.length*t.w)(hi:i≤xs.length)(h7:l.sub=Ss.flatten)(v7:lv.sub=Ys.flatten)(hlb:l.blk=some b)(hos:w'.os=w.os∧w'.tape=w.tape∧w'.output=w.output)(hnew:w'.heap[b]?=some (.cells cur e fr))(hz:z=false→fr=(0,0))(hth:Thaw fr cur.size)(hold:∀c,c≠b→w'.heap[c]?=w.heap[c]?)(hsize:w'.heap.size=w.heap.size)(hG:xs.length+ys.length≤l.cap)(hGm:l.cap≤maxLen)(hsz:l.cap=0∨cur.size=l.off+l.cap*t.w)(hcells:∀k,k<(xs.length+ys.length)*t.w→cur.toList[l.off+k]?=(cs.take (i*t.w)++vs++cs.drop (i*t.w))[k]?) :
  ∃v,Ending.returned (.slice (some ⟨b,l.off,none⟩) (xs.length+ys.length) l.cap)=.returned v∧∃F' S1 S2,Post (.own z e t) (.cons (.own z e t) (.cons (.int .i64) (.cons (.own false e' t) .nil))) (xs.take i++ys++xs.drop i,(),(),(),()) [hdr l xs.length,.int .i64 (i:Int),hdr lv ys.length] Sx F B w F' S1 S2 v w':=by
 obtain⟨n1,n2,n3⟩:=ins_sx hS hnd h7 v7
 have hlt:∀c∈Ss.flatten++Ys.flatten,c<w.heap.size:=fun c hc=>(hmine c (n2 c hc)).2.2
 have hbm:=n3 b hlb
 rw[hlb] at n1
 have n1:(b::(Ss.flatten++Ys.flatten)).Nodup:=n1
 obtain⟨sub,k1,k2,k3⟩:=ins_lst (i:=i) (z:=z) (b:=b) (e:=e) (b':=b) (off:=l.off) (cap:=l.cap) h k hcl hvl hi hnew hz hth hG hGm hsz n1 (fun c hc _=>hold c hc) (hmine b hbm).1 (List.nodup_cons.1 n1).1 hF hlt hcells
 have hlen:(xs.take i++ys++xs.drop i).length=xs.length+ys.length:=by simp only[List.length_append,List.length_take,List.length_drop];omega
 refine⟨_,rfl,?_⟩
 have fin:=ins_fin (l:=l) (lv:=lv) (l':=⟨some b,l.off,l.cap,sub⟩) (xs:=xs) (ys:=ys) (i:=(i:Int)) (e':=e') hmine hF hB hos (by omega) (fun c _ hc=>hold c fun h=>hc (h ▸ hbm)) k1 k2 (fun c hc=>by
  rcases LV.mem_all.1 hc with h | h
  ·injection h with h;subst h;exact⟨by rw[hsize];exact(hmine b hbm).2.2,.inr hbm⟩
  ·have:=(k3 c).1 h
   exact⟨by have:=hlt c this;omega,.inr (n2 c this)⟩)
 rw[hlen] at fin
 exact fin
theorem entry_insert{P:Program}{ρ:Ren}{f bytes:Nat}{z0:Value}{t:Ty}{z:Bool}{e':Nat}(L:InsL P ρ f t.w bytes z0)(hw:0<t.w)(hb0:0<bytes)(hzc:z0.cells.size=t.w){fn:Func}(hf:P.funcs[f]?=some fn)(hen:enterB fn=true) :
  qAE P ⟨f,0,.cons (.own z (ρ.t 9) t) (.cons (.int .i64) (.cons (.own false e' t) .nil)),.own z (ρ.t 9) t,insF bytes t⟩:=by
 refine⟨rfl,rfl,fun x r hx w args Sx F B hrep hnd hmine hF hB _ _=>.inl ⟨f,args,enter_run hf hen args w,?_⟩⟩
 obtain⟨xs,i,ys,u⟩:=x
 obtain⟨v1,vs1,S1,S2,ha,hSx,hs,h2⟩:=hrep
 obtain⟨v2,vs2,S3,S4,rfl,rfl,hn,h3⟩:=h2
 obtain⟨v3,vs3,S5,S6,rfl,rfl,hv,h4⟩:=h3
 obtain⟨rfl,rfl⟩:=h4
 obtain⟨l,hl1,rfl,hok⟩:=hs
 obtain⟨hn1,rfl⟩:=hn
 obtain⟨lv,hv1,rfl,hvok⟩:=hv
 simp only[List.cons.injEq,and_true] at hl1 hn1 hv1
 subst hl1 hn1 hv1
 replace hok:qAY F w l z (ρ.t 9) t xs:=hok
 replace hvok:qAY F w lv false e' t ys:=hvok
 have hargs:args=#[hdr l xs.length,.int .i64 i,hdr lv ys.length]:=by
  rw[←Array.toList_inj,ha]
 have hx':insF bytes t (xs,i,ys,u)=some r:=hx
 unfold insF at hx'
 split at hx'
 case isFalse=>cases hx'
 rename_i hc
 obtain⟨c0,c1,c2,c3⟩:=hc
 dsimp only at c0 c1 c2 c3 hx'
 injection hx' with hx'
 subst hx'
 obtain⟨i,rfl⟩:=Int.eq_ofNat_of_zero_le c0
 rw[Int.toNat_natCast]
 have c1':i≤xs.length:=by omega
 rw[ha]
 subst hargs
 have hnm:xs.length+ys.length≤140737488355328:=Nat.le_trans (Nat.le_mul_of_pos_right _ hb0) c3
 -- the new rows
 cases hvb:lv.blk with
 | none =>
  have hvok':LstW (TRep F w t) t.w w lv false e' ys:=hvok
  unfold LstW at hvok'
  rw[hvb] at hvok'
  rw[show ys=[] from hvok'.1] at c2
  simp at c2
 | some vb =>
 obtain⟨vcur,vfr,Ys,vs,v1,v2,v3,v4,v5,v6,v7,v8,hvl,hvr,h1v,hvc⟩:=hvok.open hvb
 have hvfr:=v2 rfl
 subst hvfr
 have hvs:∀j v,vs[j]?=some v→w.cell? ⟨vb,lv.off+j,none⟩=some v:=fun j v hj=>by rw[cellAt v1];exact hvc j v hj
 have hvm:vb∈Sx:=by rw[hSx];simp[LV.mem_blk hvb]
 have hYm:∀c∈Ys.flatten,c∈Sx:=fun c hc=>by rw[hSx];rw[←v7] at hc;simp[LV.mem_sub hc]
 have hdv:hdr lv ys.length=.slice (some ⟨vb,lv.off,none⟩) ys.length lv.cap:=by simp[hdr,hvb]
 cases hlb:l.blk with
 | none =>
  have hok':LstW (TRep F w t) t.w w l z (ρ.t 9) xs:=hok
  unfold LstW at hok'
  rw[hlb] at hok'
  obtain⟨hxs,hcap,hsub⟩:=hok'
  subst hxs
  have hi0:i=0:=by simpa using c1'
  subst hi0
  have key:=ins_end_grow L none 0 0 vb lv.off ys.length lv.cap [] vs w c2 (Nat.le_refl _) (by omega) (by simpa using c3) (by omega) (by simp) hvl (fun _=>⟨rfl,rfl⟩) (fun a h=>by cases h) hvs h1v
  have hdl:hdr l 0=.slice none 0 0:=by simp[hdr,hlb,hcap]
  have hgoal:∀w':World,(w'=w.drew.alloc (.cells ((([]:List Value)++vs).toArray++Builtin.zeroCells z0.cells (grownCap w (0+ys.length) 0 (ρ.t 9)-(0+ys.length))) (ρ.t 9)))→_:=fun w' hw' =>
   ins_new (z:=z) (e:=ρ.t 9) (e':=e') (w':=w') (G:=grownCap w (0+ys.length) 0 (ρ.t 9)) (i:=0) (xs:=([]:List t.den)) (cs:=[]) (Ss:=[]) hSx hnd hmine hF hB ⟨rfl,fun i x S hx=>by simp at hx⟩ hvr (by simp) hvl (Nat.le_refl _) hsub v7 hvb
    (by subst hw';exact⟨rfl,rfl,rfl⟩) (cur:=(([]:List Value)++vs).toArray++Builtin.zeroCells z0.cells (grownCap w (0+ys.length) 0 (ρ.t 9)-(0+ys.length)))
    (by subst hw';exact qDR _ _) (fun c hc=>by subst hw';exact qCr _ _ c hc) (by subst hw';exact Nat.lt_of_lt_of_eq (Nat.lt_succ_self _) (qGn _ _).symm)
    (grownCap_ge w _ _ _) (grownCap_le_maxLen w _ _ _ (by unfold maxLen;omega))
    (by simp only[List.nil_append,Array.size_append,List.size_toArray,hvl,qCb,hzc];rw[←Nat.add_mul];congr 1;have:=grownCap_ge w (0+ys.length) 0 (ρ.t 9);omega)
    (fun k hk=>by simp only[List.nil_append,List.take_nil,List.drop_nil,List.append_nil];rw[Array.toList_append,List.getElem?_append_left (by simpa [hvl] using hk)])
  rw[show hdr l ([]:List t.den).length=.slice none 0 0 from hdl,hdv] at hgoal ⊢
  refine key.mono ?_
  rintro e w' ⟨rfl,hw'⟩
  simpa using hgoal w' hw'
 | some b =>
  obtain⟨cur,fr,Ss,cs,h1,h2,h3,h4,h5,h6,h7,h8,hcl,hcr,h1c,hcc⟩:=hok.open hlb
  have hcs:∀j v,cs[j]?=some v→w.cell? ⟨b,l.off+j,none⟩=some v:=fun j v hj=>by rw[cellAt h1];exact hcc j v hj
  have hcc':∀j,j<xs.length*t.w→cur.toList[l.off+j]?=cs[j]?:=fun j hj=>by
   rw[←hcl] at hj
   rw[List.getElem?_eq_getElem hj];exact hcc j _ (List.getElem?_eq_getElem hj)
  have hdl:hdr l xs.length=.slice (some ⟨b,l.off,none⟩) xs.length l.cap:=by simp[hdr,hlb]
  have hnw:i*t.w+(xs.length-i)*t.w=xs.length*t.w:=by rw[←Nat.add_mul];congr 1;omega
  have hnm2:i*t.w+ys.length*t.w+(xs.length-i)*t.w=(xs.length+ys.length)*t.w:=by rw[←Nat.add_mul,←Nat.add_mul];congr 1;omega
  have hmax:l.cap≤9223372036854775807:=by unfold maxLen at h5;omega
  have hbv:vb≠b:=by
   have hnd':=hnd
   rw[hSx] at hnd'
   intro e
   subst e
   exact(List.nodup_append.1 hnd').2.2 _ (LV.mem_blk hlb) _ (by simp[LV.mem_blk hvb]) rfl
  by_cases hroom:xs.length+ys.length≤l.cap
  ·have hsize:cur.size=l.off+l.cap*t.w:=h6.resolve_left (by omega)
   have hfit:(xs.length+ys.length)*t.w≤l.cap*t.w:=Nat.mul_le_mul_right _ hroom
   have hsz':cur.toList.length=l.off+l.cap*t.w:=by rw[Array.length_toList];exact hsize
   have hsp:∀j,j<(xs.length+ys.length)*t.w→(w.cell? ⟨b,l.off+j,none⟩).isSome=true:=fun j hj=>by
    rw[cellAt h1,List.getElem?_eq_getElem (by omega)];rfl
   have hfz:∀j,j<(xs.length+ys.length)*t.w→w.frozen? ⟨b,l.off+j,none⟩=false:=fun j hj=>thawAt h1 h3 _ (by omega)
   by_cases hend:i=xs.length
   ·subst hend
    have key:=ins_end_room L b l.off xs.length l.cap vb lv.off ys.length lv.cap vs w c2 hroom hmax hvl (fun j hj=>by rw[Nat.add_assoc];exact hsp _ (by rw[Nat.add_mul];omega)) (fun j hj=>by rw[Nat.add_assoc];exact hfz _ (by rw[Nat.add_mul];omega)) hvs h1v
    obtain⟨r1,r2,r3,r4,r5⟩:=qAu b vs (l.off+xs.length*t.w) w
    have hlen:l.off+xs.length*t.w+vs.length≤cur.toList.length:=by rw[hsz',hvl,Nat.add_assoc,←Nat.add_mul];omega
    have hgoal:=ins_old (z:=z) (e':=e') hSx hnd hmine hF hB hcr hvr hcl hvl c1' h7 v7 hlb ⟨r1,r2,r3⟩ (qAv b vs _ w cur h1) h2 (by rw[List.size_toArray,qAc];simpa using h3) r5 r4 hroom h5 (.inr (by rw[List.size_toArray,qAc];exact hsz'))
     (fun k hk=>by
      rw[List.toList_toArray]
      refine ins_cells (D:=0) (by rw[hcl,Nat.add_zero]) hvl (fun k hk=>?_) (fun j hj=>?_) (fun j hj=>by omega) k (by rw[Nat.add_zero,←Nat.add_mul];exact hk)
      ·rw[qA5 _ _ _ _ hlen,if_pos (by omega),hcc' k hk]
      ·rw[qA5 _ _ _ _ hlen,if_neg (by omega),if_pos (by omega)];congr 1;omega)
    rw[hdl,hdv] at hgoal ⊢
    refine key.mono ?_
    rintro e w' ⟨rfl,rfl⟩
    exact hgoal
   ·have hilt:i<xs.length:=by omega
    have hsA:w.shape? vb=some (e',vcur.size):=by simp[World.shape?,v1]
    have hsB:w.shape? b=some (ρ.t 9,cur.size):=by simp[World.shape?,h1]
    have hposw:0<xs.length*t.w:=Nat.mul_pos (by omega) hw
    have hposb:cur.size≠0:=by rw[Nat.add_mul] at hfit;omega
    have key:=ins_shift L b l.off xs.length l.cap i vb lv.off ys.length lv.cap cs vs w hilt c2 hroom hmax hbv hcl hvl hcs hsp hfz hvs h1c h1v e' (ρ.t 9) vcur.size cur.size hsA hsB hposb (by simp[World.frozen?,v1]) (by simp[World.frozen?,v1])
    obtain⟨r1,r2,r3,r4,r5⟩:=qAu b (cs.drop (i*t.w)) (l.off+(i+ys.length)*t.w) w.drew
    obtain⟨q1,q2,q3,q4,q5⟩:=qAu b vs (l.off+i*t.w) (w.drew.setCells b (l.off+(i+ys.length)*t.w) (cs.drop (i*t.w)))
    have hdlen:(cs.drop (i*t.w)).length=(xs.length-i)*t.w:=by rw[List.length_drop,hcl,Nat.sub_mul]
    have hlen1:l.off+(i+ys.length)*t.w+(cs.drop (i*t.w)).length≤cur.toList.length:=by rw[hsz',hdlen,Nat.add_assoc,Nat.add_mul];omega
    have hlen2:l.off+i*t.w+vs.length≤(qB9 cur.toList (l.off+(i+ys.length)*t.w) (cs.drop (i*t.w))).length:=by rw[qAc,hsz',hvl];omega
    have hheap:=qAv b vs (l.off+i*t.w) _ _ (qAv b (cs.drop (i*t.w)) (l.off+(i+ys.length)*t.w) w.drew cur h1)
    rw[List.toList_toArray] at hheap
    have hgoal:=ins_old (z:=z) (e':=e') hSx hnd hmine hF hB hcr hvr hcl hvl c1' h7 v7 hlb ⟨q1.trans r1,q2.trans r2,q3.trans r3⟩ hheap h2 (by rw[List.size_toArray,qAc,qAc];simpa using h3) (fun c hc=>(q5 c hc).trans (r5 c hc)) (q4.trans r4) hroom h5 (.inr (by rw[List.size_toArray,qAc,qAc];exact hsz'))
     (fun k hk=>by
      rw[List.toList_toArray]
      have e0:(i+ys.length)*t.w=i*t.w+ys.length*t.w:=Nat.add_mul _ _ _
      refine ins_cells (D:=(xs.length-i)*t.w) (by rw[hcl,hnw]) hvl (fun k hk=>?_) (fun j hj=>?_) (fun j hj=>?_) k (by rw[hnm2];exact hk)
      ·rw[qA5 _ _ _ _ hlen2,if_pos (by omega),qA5 _ _ _ _ hlen1,if_pos (by omega),hcc' k (by omega)]
      ·rw[qA5 _ _ _ _ hlen2,if_neg (by omega),if_pos (by omega)];congr 1;omega
      ·rw[qA5 _ _ _ _ hlen2,if_neg (by omega),if_neg (by omega),qA5 _ _ _ _ hlen1,if_neg (by omega),if_pos (by omega),List.getElem?_drop];congr 1;omega)
    rw[hdl,hdv] at hgoal ⊢
    refine key.mono ?_
    rintro e w' ⟨rfl,rfl⟩
    exact hgoal
  ·have hGn:=grownCap_ge w (xs.length+ys.length) l.cap (ρ.t 9)
   have hGm:grownCap w (xs.length+ys.length) l.cap (ρ.t 9)≤maxLen:=grownCap_le_maxLen w _ _ _ (by unfold maxLen;omega)
   by_cases hend:i=xs.length
   ·subst hend
    have key:=ins_end_grow L (some ⟨b,l.off,none⟩) xs.length l.cap vb lv.off ys.length lv.cap cs vs w c2 h4 (by omega) c3 (by omega) hcl hvl (fun h=>by cases h) (fun a ha j v hj=>by
     injection ha with ha;subst ha;rw[Addr.add_lit];exact hcs j v hj) hvs h1v
    have hgoal:∀w':World,(w'=w.drew.alloc (.cells ((cs++vs).toArray++Builtin.zeroCells z0.cells (grownCap w (xs.length+ys.length) l.cap (ρ.t 9)-(xs.length+ys.length))) (ρ.t 9)))→_:=fun w' hw' =>
     ins_new (z:=z) (e:=ρ.t 9) (e':=e') (w':=w') (G:=grownCap w (xs.length+ys.length) l.cap (ρ.t 9)) (i:=xs.length) hSx hnd hmine hF hB hcr hvr hcl hvl (Nat.le_refl _) h7 v7 hvb
      (by subst hw';exact⟨rfl,rfl,rfl⟩) (cur:=(cs++vs).toArray++Builtin.zeroCells z0.cells (grownCap w (xs.length+ys.length) l.cap (ρ.t 9)-(xs.length+ys.length)))
      (by subst hw';exact qDR _ _) (fun c hc=>by subst hw';exact qCr _ _ c hc) (by subst hw';exact Nat.lt_of_lt_of_eq (Nat.lt_succ_self _) (qGn _ _).symm)
      hGn hGm
      (by simp only[Array.size_append,List.size_toArray,List.length_append,hcl,hvl,qCb,hzc];rw[←Nat.add_mul,←Nat.add_mul];congr 1;omega)
      (fun k hk=>by
       rw[←hcl,List.take_length,List.drop_length,List.append_nil,Array.toList_append,List.toList_toArray,List.getElem?_append_left (by rw[List.length_append,hcl,hvl,←Nat.add_mul];exact hk)])
    rw[hdl,hdv] at hgoal ⊢
    refine key.mono ?_
    rintro e w' ⟨rfl,hw'⟩
    exact hgoal w' hw'
   ·have hilt:i<xs.length:=by omega
    have key:=ins_grow L hw hb0 hzc b l.off xs.length l.cap i vb lv.off ys.length lv.cap cs vs w hilt c2 h4 (by omega) c3 hcl hvl hcs hvs h1c h1v
    obtain⟨ROW,hROW⟩:∃ROW:Array Value,ROW=(cs.take (i*t.w)).toArray++Builtin.zeroCells z0.cells (xs.length+ys.length-i)++Builtin.zeroCells z0.cells (grownCap w (xs.length+ys.length) l.cap (ρ.t 9)-(xs.length+ys.length)):=⟨_,rfl⟩
    rw[←hROW] at key
    have hile:i*t.w≤xs.length*t.w:=Nat.mul_le_mul_right _ c1'
    have hRs:ROW.size=grownCap w (xs.length+ys.length) l.cap (ρ.t 9)*t.w:=by
     rw[hROW]
     simp only[Array.size_append,List.size_toArray,List.length_take,hcl,qCb,hzc]
     rw[Nat.min_eq_left hile,←Nat.add_mul,←Nat.add_mul];congr 1;omega
    have hRl:ROW.toList.length=grownCap w (xs.length+ys.length) l.cap (ρ.t 9)*t.w:=by rw[Array.length_toList];exact hRs
    have hRt:∀k,k<i*t.w→ROW.toList[k]?=cs[k]?:=fun k hk=>by
     rw[hROW,Array.toList_append,Array.toList_append,List.toList_toArray,List.append_assoc,List.getElem?_append_left (by rw[List.length_take];omega),List.getElem?_take,if_pos hk]
    have hfit:(xs.length+ys.length)*t.w≤grownCap w (xs.length+ys.length) l.cap (ρ.t 9)*t.w:=Nat.mul_le_mul_right _ hGn
    obtain⟨q1,q2,q3,q4,q5⟩:=qAu w.heap.size vs (i*t.w) (w.alloc (.cells ROW (ρ.t 9))).drew
    obtain⟨r1,r2,r3,r4,r5⟩:=qAu w.heap.size (cs.drop (i*t.w)) ((i+ys.length)*t.w) (((w.alloc (.cells ROW (ρ.t 9))).drew.setCells w.heap.size (i*t.w) vs).drew)
    have hdlen:(cs.drop (i*t.w)).length=(xs.length-i)*t.w:=by rw[List.length_drop,hcl,Nat.sub_mul]
    have e0:(i+ys.length)*t.w=i*t.w+ys.length*t.w:=Nat.add_mul _ _ _
    have hlen1:i*t.w+vs.length≤ROW.toList.length:=by rw[hRl,hvl];omega
    have hlen2:(i+ys.length)*t.w+(cs.drop (i*t.w)).length≤(qB9 ROW.toList (i*t.w) vs).length:=by rw[qAc,hRl,hdlen];omega
    have hA:(w.alloc (.cells ROW (ρ.t 9))).drew.heap[w.heap.size]?=some (.cells ROW (ρ.t 9) (0,0)):=qDR w _
    have hB1:=qAv w.heap.size vs (i*t.w) (w.alloc (.cells ROW (ρ.t 9))).drew ROW hA
    have hB2:=qAv w.heap.size (cs.drop (i*t.w)) ((i+ys.length)*t.w) (((w.alloc (.cells ROW (ρ.t 9))).drew.setCells w.heap.size (i*t.w) vs).drew) _ hB1
    rw[List.toList_toArray] at hB2
    have hgoal:=ins_new (z:=z) (e:=ρ.t 9) (e':=e') (G:=grownCap w (xs.length+ys.length) l.cap (ρ.t 9)) (i:=i) hSx hnd hmine hF hB hcr hvr hcl hvl c1' h7 v7 hvb
      ⟨r1.trans q1,r2.trans q2,r3.trans q3⟩ hB2 (fun c hc=>(r5 c (by omega)).trans ((q5 c (by omega)).trans (qCr w _ c hc)))
      (by
        have e3:(w.alloc (.cells ROW (ρ.t 9))).drew.heap.size=w.heap.size+1:=qGn w _
        have e4:((w.alloc (.cells ROW (ρ.t 9))).drew.setCells w.heap.size (i*t.w) vs).drew.heap.size=w.heap.size+1:=q4.trans e3
        rw[r4,e4];omega)
      hGn hGm (by rw[List.size_toArray,qAc,qAc];exact hRl)
      (fun k hk=>by
       rw[List.toList_toArray]
       have:=ins_cells (off:=0) (C:=qB9 (qB9 ROW.toList (i*t.w) vs) ((i+ys.length)*t.w) (cs.drop (i*t.w))) (D:=(xs.length-i)*t.w) (A:=i*t.w) (by rw[hcl,hnw]) hvl (fun k hk=>?_) (fun j hj=>?_) (fun j hj=>?_) k (by rw[hnm2];exact hk)
       ·rwa [Nat.zero_add] at this
       ·rw[Nat.zero_add,qA5 _ _ _ _ hlen2,if_pos (by omega),qA5 _ _ _ _ hlen1,if_pos (by omega),hRt k hk]
       ·rw[Nat.zero_add,qA5 _ _ _ _ hlen2,if_pos (by omega),qA5 _ _ _ _ hlen1,if_neg (by omega),if_pos (by omega)];congr 1;omega
       ·rw[Nat.zero_add,qA5 _ _ _ _ hlen2,if_neg (by omega),if_pos (by omega),List.getElem?_drop];congr 1;omega)
    rw[hdl,hdv] at hgoal ⊢
    refine key.mono ?_
    rintro e w' ⟨rfl,rfl⟩
    exact hgoal
end Go.Eng
end

section
namespace Go.Eng
def Pat.row:Pat→Pat
 | .own _ _ _=>.nm | .cons a b=>.cons a.row b.row
 | .any=>.any | .int k=>.int k | .bool=>.bool | .str=>.str | .nils=>.nils | .il b t=>.il b t | .mut z e t=>.mut z e t | .nm=>.nm
 | .ptr o p=>.ptr o p | .agg p=>.agg p | .mag p=>.mag p | .tup p=>.tup p | .fn f p=>.fn f p | .nil=>.nil
def Pat.nmd:Pat→Pat
 | .own z e t=>.own z e t.nmd | .cons a b=>.cons a.nmd b.nmd | .ptr o p=>.ptr o p.nmd | .agg p=>.agg p.row | .tup p=>.tup p.nmd
 | .any=>.any | .int k=>.int k | .bool=>.bool | .str=>.str | .nils=>.nils | .il b t=>.il b t | .mut z e t=>.mut z e t | .nm=>.nm
 | .mag p=>.mag p | .fn f p=>.fn f p | .nil=>.nil
def Pat.rN:Pat→Nat
 | .own _ _ _=>1 | .cons a b=>a.rN+b.rN | _=>0
def Pat.nN:(p:Pat)→p.den→Nat
 | .own _ _ t,xs=>xs.length*t.w | .cons a b,x=>a.nN x.1+b.nN x.2 | .ptr _ p,x=>p.nN x | .agg p,_=>p.rN | .tup p,x=>p.nN x
 | .any,_=>0 | .int _,_=>0 | .bool,_=>0 | .str,_=>0 | .nils,_=>0 | .il _ _,_=>0 | .mut _ _ _,_=>0 | .nm,_=>0 | .mag _,_=>0 | .fn _ _,_=>0 | .nil,_=>0
def Pat.rEnc:(p:Pat)→p.den→Nat→p.row.den
 | .own _ _ _,_,n=>n+1 | .cons a b,x,n=>(a.rEnc x.1 n,b.rEnc x.2 (n+a.rN))
 | .any,x,_=>x | .int _,x,_=>x | .bool,x,_=>x | .str,x,_=>x | .nils,x,_=>x | .il _ _,x,_=>x | .mut _ _ _,x,_=>x | .nm,x,_=>x
 | .ptr _ _,x,_=>x | .agg _,x,_=>x | .mag _,x,_=>x | .tup _,x,_=>x | .fn _ _,x,_=>x | .nil,x,_=>x
def Ty.encn(t:Ty)(xs:List t.den)(n:Nat):List t.nmd.den:=xs.mapIdx fun i x=>t.enc x (n+i*t.w+1)
def Pat.enc:(p:Pat)→p.den→Nat→p.nmd.den
 | .own _ _ t,xs,n=>t.encn xs n | .cons a b,x,n=>(a.enc x.1 n,b.enc x.2 (n+a.nN x.1)) | .ptr _ p,x,n=>p.enc x n | .agg p,x,n=>p.rEnc x n | .tup p,x,n=>p.enc x n
 | .any,x,_=>x | .int _,x,_=>x | .bool,x,_=>x | .str,x,_=>x | .nils,x,_=>x | .il _ _,x,_=>x | .mut _ _ _,x,_=>x | .nm,x,_=>x
 | .mag _,x,_=>x | .fn _ _,x,_=>x | .nil,x,_=>x
def Pat.rLook:(p:Pat)→p.den→Nat→Option OL
 | .own _ e t,xs,0=>some ⟨e,t,xs⟩
 | .cons a b,x,m=>if m<a.rN then a.rLook x.1 m else b.rLook x.2 (m-a.rN)
 | _,_,_=>none
def Ty.lookn(t:Ty)(xs:List t.den)(m:Nat):Option OL:=
 match xs[m / t.w]? with
 | some x=>t.getO x (m % t.w)
 | none=>none
def Pat.lookP:(p:Pat)→p.den→Nat→Option OL
 | .own _ _ t,xs,m=>t.lookn xs m
 | .cons a b,x,m=>if m<a.nN x.1 then a.lookP x.1 m else b.lookP x.2 (m-a.nN x.1)
 | .ptr _ p,x,m=>p.lookP x m | .agg p,x,m=>p.rLook x m | .tup p,x,m=>p.lookP x m
 | _,_,_=>none
def lookS(f:Nat→Option OL):Nat→Option OL
 | 0=>none
 | m+1=>f m
def Pat.rDec(lk:Nat→Option OL):(p:Pat)→p.row.den→Option p.den
 | .own _ e t,n=>decN lk e t n
 | .cons a b,x=>match a.rDec lk x.1,b.rDec lk x.2 with
  | some y,some z=>some (y,z)
  | _,_=>none
 | .any,x=>some x | .int _,x=>some x | .bool,x=>some x | .str,x=>some x | .nils,x=>some x | .il _ _,x=>some x | .mut _ _ _,x=>some x | .nm,x=>some x
 | .ptr _ _,x=>some x | .agg _,x=>some x | .mag _,x=>some x | .tup _,x=>some x | .fn _ _,x=>some x | .nil,x=>some x
def Pat.dec(lk:Nat→Option OL):(p:Pat)→p.nmd.den→Option p.den
 | .own _ _ t,ys=>t.decs lk ys
 | .cons a b,x=>match a.dec lk x.1,b.dec lk x.2 with
  | some y,some z=>some (y,z)
  | _,_=>none
 | .ptr _ p,x=>p.dec lk x | .agg p,x=>p.rDec lk x | .tup p,x=>p.dec lk x
 | .any,x=>some x | .int _,x=>some x | .bool,x=>some x | .str,x=>some x | .nils,x=>some x | .il _ _,x=>some x | .mut _ _ _,x=>some x | .nm,x=>some x
 | .mag _,x=>some x | .fn _ _,x=>some x | .nil,x=>some x
def Pat.rNms:(p:Pat)→p.row.den→List Nat
 | .own _ _ _,n=>nmsN n
 | .cons a b,x=>a.rNms x.1++b.rNms x.2
 | _,_=>[]
def Pat.nms:(p:Pat)→p.nmd.den→List Nat
 | .own _ _ t,ys=>ys.flatMap t.nms
 | .cons a b,x=>a.nms x.1++b.nms x.2
 | .ptr _ p,x=>p.nms x | .agg p,x=>p.rNms x | .tup p,x=>p.nms x
 | _,_=>[]
def Pat.decO(lk:Nat→Option OL):(p:Pat)→p.nmd.out→Option p.out
 | .cons a b,x=>match a.decO lk x.1,b.decO lk x.2 with
  | some y,some z=>some (y,z)
  | _,_=>none
 | .ptr _ p,x=>p.dec lk x | .own _ _ _,_=>some () | .agg _,_=>some () | .tup _,_=>some ()
 | .any,x=>some x | .int _,x=>some x | .bool,x=>some x | .str,x=>some x | .nils,x=>some x | .il _ _,x=>some x | .mut _ _ _,x=>some x | .nm,x=>some x
 | .mag _,x=>some x | .fn _ _,x=>some x | .nil,x=>some x
def Pat.nmsO:(p:Pat)→p.nmd.out→List Nat
 | .cons a b,x=>a.nmsO x.1++b.nmsO x.2
 | .ptr _ p,x=>p.nms x
 | _,_=>[]
def Pat.rok:Pat→Bool
 | .own z _ _=>!z
 | .cons a b=>a.rok&&b.rok
 | .ptr _ _ | .agg _ | .mag _ | .tup _ | .fn _ _=>false
 | _=>true
def Pat.nok:Pat→Bool
 | .cons a b=>a.nok&&b.nok
 | .ptr _ p | .tup p=>p.nok
 | .agg p=>p.rok
 | .mag _ | .fn _ _=>false
 | _=>true
def namesF(p q:Pat)(G:p.nmd.den→Option (q.nmd.den×p.nmd.out))(x:p.den):Option (q.den×p.out):=
 match G (p.enc x 0) with
 | none=>none
 | some (y,o)=>match q.dec (lookS (p.lookP x)) y,p.decO (lookS (p.lookP x)) o with
  | some y',some o'=>if(q.nms y++p.nmsO o).Nodup then some (y',o') else none
  | _,_=>none
theorem encn_len(t:Ty)(xs:List t.den)(n:Nat):(t.encn xs n).length=xs.length:=by simp[Ty.encn]
theorem encn_get{t:Ty}{xs:List t.den}{n i:Nat}{y:t.nmd.den}(h:(t.encn xs n)[i]?=some y):∃x,xs[i]?=some x∧y=t.enc x (n+i*t.w+1):=by
 unfold Ty.encn at h
 rw[List.getElem?_mapIdx] at h
 cases hx:xs[i]? with
 | none=>rw[hx] at h;cases h
 | some x=>rw[hx] at h;injection h with h;exact⟨x,rfl,h.symm⟩
structure qDe (N:Names) (F:Nat→Prop) (w:World) (n:Nat) (lk:Nat→Option OL) (own:List Nat) (c:Nat→Value) (f:Nat→List Nat):Prop where
 one:∀m,(c m).oneCell'=true
 rep:∀m o,lk m=some o→@TRep N F w (.ols o.e o.u) o.ys [c m] (f m)
 nd:∀m,(f m).Nodup
 sub:∀m,∀b∈f m,b∈own
 dis:∀m m',m≠m'→∀b∈f m,b∉f m'
 past:∀m,n≤m→f m=[]
theorem qAY.named[N:Names]{F:Nat→Prop}{w:World}{l:LV}{z:Bool}{e:Nat}{t:Ty}{xs:List t.den}(hn:t.nf=true)(h:qAY F w l z e t xs) :
  ∃c f,qDe N F w (xs.length*t.w) (t.lookn xs) l.sub c f∧∀(N':Names) (n:Nat),(∀m,m<xs.length*t.w→N'.nu (n+m+1)=c m)→@qAY N' F w ⟨l.blk,l.off,l.cap,[]⟩ z e t.nmd (t.encn xs n):=by
 unfold qAY LstW at h
 cases hb:l.blk with
 | none =>
  rw[hb] at h
  obtain⟨rfl,hc,hs⟩:=h
  exact⟨fun _=>.slice none 0 0,fun _=>[],⟨fun _=>rfl,fun m o ho=>by simp[Ty.lookn] at ho,by simp,by simp,by simp,by simp⟩,fun N' n _=>⟨rfl,hc,rfl⟩⟩
 | some b =>
  rw[hb] at h
  obtain⟨vs,fr,Ss,hh,hzf,hth,hnc,hcm,hvs,hsub,hnd,hlenS,hrows⟩:=h
  have hndS:Ss.flatten.Nodup:=by rw[←hsub];exact(List.nodup_cons.1 hnd).2
  obtain⟨hn1,hn2⟩:=List.pairwise_flatten.1 hndS
  let cs:=vs.toList.drop l.off
  let c:Nat→Value:=fun m=>match cs[m]? with
    | some v=>if v.oneCell'=true then v else .slice none 0 0
    | none=>.slice none 0 0
  have hc1:∀m,(c m).oneCell'=true:=by
   intro m
   show(match cs[m]? with | some v=>if v.oneCell'=true then v else .slice none 0 0 | none=>.slice none 0 0:Value).oneCell'=true
   cases cs[m]? with
   | none=>rfl
   | some v =>
    dsimp only
    split
    ·assumption
    ·rfl
  have hcell:∀i x S,xs[i]?=some x→Ss[i]?=some S→∃rs:List Value,rs.length=t.w∧TRep F w t x rs S∧(∀off,off<t.w→cs[i*t.w+off]?=rs[off]?)∧∀off v,rs[off]?=some v→c (i*t.w+off)=v:=by
   intro i x S hx hS
   obtain⟨rs,p1,p2,p3⟩:=hrows i x S hx hS
   refine⟨rs,p1,p3,p2,fun off v hv=>?_⟩
   have hlt:off<t.w:=by rw[←p1];exact(List.getElem?_eq_some_iff.1 hv).1
   have e1:cs[i*t.w+off]?=some v:=by rw[←hv];exact p2 off hlt
   have hone:v.oneCell'=true:=p3.one v (List.mem_of_getElem? hv)
   show(match cs[i*t.w+off]? with | some v=>if v.oneCell'=true then v else .slice none 0 0 | none=>.slice none 0 0:Value)=v
   rw[e1]
   simp[hone]
  have hrow:∀i:Nat,∃f:Nat→List Nat,∀x S,xs[i]?=some x→Ss[i]?=some S→((∀off o,t.getO x off=some o→TRep F w (.ols o.e o.u) o.ys [c (i*t.w+off)] (f off))∧(∀off,(f off).Nodup∧∀b∈f off,b∈S)∧∀m n,m≠n→∀b∈f m,b∉f n):=by
   intro i
   cases hx:xs[i]? with
   | none=>exact⟨fun _=>[],fun x S h=>by cases h⟩
   | some x =>
    cases hS:Ss[i]? with
    | none=>exact⟨fun _=>[],fun x S _ h=>by cases h⟩
    | some S =>
     obtain⟨rs,p1,p3,_,p4⟩:=hcell i x S hx hS
     obtain⟨f,f1,f2,f3⟩:=TRep.parts p3 (hn1 S (List.mem_of_getElem? hS))
     refine⟨f,fun x' S' h1 h2=>?_⟩
     injection h1 with h1
     injection h2 with h2
     subst h1 h2
     refine⟨fun off o ho=>?_,f2,f3⟩
     obtain⟨v,hv,k⟩:=f1 off o ho
     rw[p4 off v hv]
     exact k
  let fr':Nat→Nat→List Nat:=fun i=>Classical.choose (hrow i)
  have hfr:∀i x S,xs[i]?=some x→Ss[i]?=some S→_:=fun i=>Classical.choose_spec (hrow i)
  let fS:Nat→List Nat:=fun m=>if m / t.w<xs.length∧m<xs.length*t.w then fr' (m / t.w) (m % t.w) else []
  have hrowS:∀i,i<xs.length→∃x S,xs[i]?=some x∧Ss[i]?=some S:=fun i hi=>⟨xs[i],Ss[i]'(by omega),List.getElem?_eq_getElem hi,List.getElem?_eq_getElem (by omega)⟩
  have hin:∀m,∀b∈fS m,∃S,Ss[m / t.w]?=some S∧b∈S∧b∈fr' (m / t.w) (m % t.w):=by
   intro m b hbm
   have hbm:b∈(if m / t.w<xs.length∧m<xs.length*t.w then fr' (m / t.w) (m % t.w) else []):=hbm
   split at hbm
   ·rename_i hi
    obtain⟨x,S,hx,hS⟩:=hrowS _ hi.1
    exact⟨S,hS,((hfr _ x S hx hS).2.1 _).2 b hbm,hbm⟩
   ·cases hbm
  refine⟨c,fS,⟨hc1,fun m o ho=>?_,fun m=>?_,fun m b hbm=>?_,fun m n hmn b hb1 hb2=>?_,fun m hm=>?_⟩,fun N' n hN=>?_⟩
  ·simp only[Ty.lookn] at ho
   split at ho
   case h_2=>cases ho
   rename_i x hx
   have hlt:=(List.getElem?_eq_some_iff.1 hx).1
   obtain⟨x',S',hx',hS'⟩:=hrowS _ hlt
   rw[hx] at hx'
   injection hx' with hx'
   subst hx'
   have k:=(hfr _ x S' hx hS').1 _ o ho
   have e1:m / t.w*t.w+m % t.w=m:=by have:=Nat.div_add_mod m t.w;rw[Nat.mul_comm] at this;exact this
   rw[e1] at k
   have hw:m<xs.length*t.w:=by
    cases hw0:t.w with
    | zero =>
     exfalso
     obtain⟨rs,p1,p3,_,_⟩:=hcell _ x S' hx hS'
     obtain⟨f,f1,_,_⟩:=TRep.parts p3 (hn1 S' (List.mem_of_getElem? hS'))
     obtain⟨v,hv,_⟩:=f1 _ o ho
     have:=(List.getElem?_eq_some_iff.1 hv).1
     omega
    | succ k =>
     have:0<t.w:=by omega
     rw[←hw0]
     exact(Nat.div_lt_iff_lt_mul this).1 hlt
   show TRep F w (.ols o.e o.u) o.ys [c m] (if m / t.w<xs.length∧m<xs.length*t.w then fr' (m / t.w) (m % t.w) else [])
   rw[if_pos ⟨hlt,hw⟩]
   exact k
  ·show(if m / t.w<xs.length∧m<xs.length*t.w then fr' (m / t.w) (m % t.w) else []).Nodup
   split
   ·rename_i hi
    obtain⟨x,S,hx,hS⟩:=hrowS _ hi.1
    exact((hfr _ x S hx hS).2.1 _).1
   ·exact List.nodup_nil
  ·obtain⟨S,hS,hbS,_⟩:=hin m b hbm
   rw[hsub]
   exact List.mem_flatten.2 ⟨S,List.mem_of_getElem? hS,hbS⟩
  ·obtain⟨S1,hS1,hbS1,hf1⟩:=hin m b hb1
   obtain⟨S2,hS2,hbS2,hf2⟩:=hin n b hb2
   by_cases he:m / t.w=n / t.w
   ·have hi:=(List.getElem?_eq_some_iff.1 hS1).1
    obtain⟨x,S,hx,hS⟩:=hrowS (m / t.w) (by omega)
    rw[←he] at hf2
    refine(hfr _ x S hx hS).2.2 (m % t.w) (n % t.w) (fun hmod=>hmn ?_) b hf1 hf2
    have d1:=Nat.div_add_mod m t.w
    have d2:=Nat.div_add_mod n t.w
    rw[he,hmod] at d1
    omega
   ·have hp:=List.pairwise_iff_getElem.1 hn2
    obtain⟨i1,g1⟩:=List.getElem?_eq_some_iff.1 hS1
    obtain⟨i2,g2⟩:=List.getElem?_eq_some_iff.1 hS2
    rcases Nat.lt_or_gt_of_ne he with hlt | hlt
    ·exact hp _ _ i1 i2 hlt b (by rw[g1];exact hbS1) b (by rw[g2];exact hbS2) rfl
    ·exact hp _ _ i2 i1 hlt b (by rw[g2];exact hbS2) b (by rw[g1];exact hbS1) rfl
  ·show(if m / t.w<xs.length∧m<xs.length*t.w then fr' (m / t.w) (m % t.w) else [])=[]
   rw[if_neg (fun h=>by omega)]
  ·show ∃vs fr Ss,_
   refine⟨vs,fr,(t.encn xs n).map fun _=>[],hh,hzf,hth,by rw[encn_len];exact hnc,hcm,by rw[Ty.nmd_w];exact hvs,(qER _).symm,by simp,by simp,fun i y S hy hS=>?_⟩
   obtain⟨x,hx,rfl⟩:=encn_get hy
   have hS0:S=[]:=by
    rw[List.getElem?_map,hy] at hS
    simpa using hS.symm
   subst hS0
   obtain⟨x',S',hx',hS'⟩:=hrowS i (List.getElem?_eq_some_iff.1 hx).1
   rw[hx] at hx'
   injection hx' with hx'
   subst hx'
   obtain⟨rs,p1,p3,p2,p4⟩:=hcell i x S' hx hS'
   refine⟨rs,by rw[p1,Ty.nmd_w],fun j hj=>by rw[Ty.nmd_w] at hj ⊢;exact p2 j hj,TRep.enc _ hn p3 fun j v hj=>?_⟩
   have hlt:j<t.w:=by rw[←p1];exact(List.getElem?_eq_some_iff.1 hj).1
   have hi:=(List.getElem?_eq_some_iff.1 hx).1
   have hm:i*t.w+j<xs.length*t.w:=by
    have:(i+1)*t.w≤xs.length*t.w:=Nat.mul_le_mul_right _ hi
    rw[Nat.add_mul,Nat.one_mul] at this
    omega
   rw[show n+i*t.w+1+j=n+(i*t.w+j)+1 by omega,hN _ hm]
   exact p4 j v hj
end Go.Eng
end

section
namespace Go.Eng
theorem qDe.none[N:Names]{F:Nat→Prop}{w:World}:qDe N F w 0 (fun _=>none) [] (fun _=>.slice none 0 0) (fun _=>[]):=
 ⟨fun _=>rfl,fun _ _ h=>(nomatch h),fun _=>List.nodup_nil,fun _ _ h=>(nomatch h),fun _ _ _ _ h=>(nomatch h),fun _ _=>rfl⟩
theorem qDe.and[N:Names]{F:Nat→Prop}{w:World}{na nb:Nat}{la lb:Nat→Option OL}{oa ob:List Nat}{ca cb:Nat→Value}{fa fb:Nat→List Nat}(h1:qDe N F w na la oa ca fa)(h2:qDe N F w nb lb ob cb fb)(hd:∀b∈oa,b∉ob) :
  qDe N F w (na+nb) (fun m=>if m<na then la m else lb (m-na)) (oa++ob) (fun m=>if m<na then ca m else cb (m-na)) (fun m=>if m<na then fa m else fb (m-na)):=by
 refine⟨fun m=>?_,fun m o ho=>?_,fun m=>?_,fun m b hb=>?_,fun m n hmn b hb=>?_,fun m hm=>?_⟩ <;> try dsimp only at *
 ·split
  ·exact h1.one m
  ·exact h2.one _
 ·split at ho <;> rename_i hlt
  ·rw[if_pos hlt,if_pos hlt];exact h1.rep m o ho
  ·rw[if_neg hlt,if_neg hlt];exact h2.rep _ o ho
 ·split
  ·exact h1.nd m
  ·exact h2.nd _
 ·split at hb
  ·exact List.mem_append.2 (.inl (h1.sub m b hb))
  ·exact List.mem_append.2 (.inr (h2.sub _ b hb))
 ·split at hb <;> split
  ·exact h1.dis m n hmn b hb
  ·exact fun hb'=>hd b (h1.sub m b hb) (h2.sub _ b hb')
  ·exact fun hb'=>hd b (h1.sub n b hb') (h2.sub _ b hb)
  ·exact h2.dis _ _ (by omega) b hb
 ·rw[if_neg (by omega)]
  exact h2.past _ (by omega)
theorem Rep.rnamed[N:Names]{F B:Nat→Prop}{w:World}:∀{p:Pat} {x:p.den} {vs:List Value} {Sx:List Nat},p.nf=true→p.rok=true→Sx.Nodup→Rep F B w p x vs Sx →
  ∃c f ow,qDe N F w p.rN (p.rLook x) ow c f∧(∀b∈ow,b∈Sx)∧∃top:List Nat,top.Sublist Sx∧(∀b∈ow,b∉top)∧∀(N':Names) (n:Nat),(∀m,m<p.rN→N'.nu (n+m+1)=c m)→@Rep N' F B w p.row (p.rEnc x n) vs top
 | .own z e t,xs,vs,Sx,hn,hk,hnd,h=>by
  have hz:z=false:=by simpa [Pat.rok] using hk
  subst hz
  obtain⟨l,rfl,rfl,hl⟩:=h
  refine⟨fun _=>hdr l xs.length,fun m=>if m=0 then l.all else [],l.all,⟨fun _=>rfl,fun m o ho=>?_,fun m=>?_,fun m b hb=>?_,fun m n hmn b hb=>?_,fun m hm=>?_⟩,fun b hb=>hb,[],List.nil_sublist _,fun b _ h=>(nomatch h),fun N' n hN=>⟨?_,rfl⟩⟩
  ·cases m with
   | zero =>
    simp only[Pat.rLook,Option.some.injEq] at ho
    subst ho
    exact⟨l,rfl,rfl,hl⟩
   | succ m=>simp[Pat.rLook] at ho
  ·split
   ·exact hnd
   ·exact List.nodup_nil
  ·split at hb
   ·exact hb
   ·cases hb
  ·split at hb
   ·rename_i h0
    subst h0
    rw[if_neg (Ne.symm hmn)]
    exact List.not_mem_nil
   ·cases hb
  ·have:1≤m:=hm
   show(if m=0 then l.all else [])=[]
   rw[if_neg (by omega)]
  ·show [hdr l xs.length]=[N'.nu (n+1)]
   exact congrArg (fun v=>[v]) (hN 0 (by show 0<1;omega)).symm
 | .cons a b,x,vs,Sx,hn,hk,hnd,h=>by
  simp only[Pat.nf,Pat.rok,Bool.and_eq_true] at hn hk
  obtain⟨v,vs',S1,S2,rfl,rfl,h1,h2⟩:=h
  obtain⟨n1,n2,n3⟩:=List.nodup_append.1 hnd
  obtain⟨ca,fa,oa,na,sa,ta,ka,da,ra⟩:=Rep.rnamed hn.1 hk.1 n1 h1
  obtain⟨cb,fb,ob,nb,sb,tb,kb,db,rb⟩:=Rep.rnamed hn.2 hk.2 n2 h2
  refine⟨_,_,_,na.and nb fun c hc hc'=>n3 c (sa c hc) c (sb c hc') rfl,fun c hc=>?_,ta++tb,ka.append kb,fun c hc hc'=>?_,fun N' n hN=>⟨v,vs',ta,tb,rfl,rfl,ra N' n fun m hm=>?_,rb N' (n+a.rN) fun m hm=>?_⟩⟩
  ·rcases List.mem_append.1 hc with hc | hc
   ·exact List.mem_append.2 (.inl (sa c hc))
   ·exact List.mem_append.2 (.inr (sb c hc))
  ·rcases List.mem_append.1 hc with hc | hc <;> rcases List.mem_append.1 hc' with hc' | hc'
   ·exact da c hc hc'
   ·exact n3 c (sa c hc) c (kb.subset hc') rfl
   ·exact n3 c (ka.subset hc') c (sb c hc) rfl
   ·exact db c hc hc'
  ·have:=hN m (by show m<a.rN+b.rN;omega)
   rw[if_pos hm] at this
   exact this
  ·have:=hN (a.rN+m) (by show a.rN+m<a.rN+b.rN;omega)
   rw[if_neg (by omega),Nat.add_sub_cancel_left] at this
   rw[←this,Nat.add_assoc n]
 | .any,x,vs,Sx,_,_,_,h=>⟨_,_,[],qDe.none,fun _ h=>(nomatch h),Sx,List.Sublist.refl _,fun _ h=>(nomatch h),fun _ _ _=>h⟩
 | .int k,x,vs,Sx,_,_,_,h=>⟨_,_,[],qDe.none,fun _ h=>(nomatch h),Sx,List.Sublist.refl _,fun _ h=>(nomatch h),fun _ _ _=>h⟩
 | .bool,x,vs,Sx,_,_,_,h=>⟨_,_,[],qDe.none,fun _ h=>(nomatch h),Sx,List.Sublist.refl _,fun _ h=>(nomatch h),fun _ _ _=>h⟩
 | .str,x,vs,Sx,_,_,_,h=>⟨_,_,[],qDe.none,fun _ h=>(nomatch h),Sx,List.Sublist.refl _,fun _ h=>(nomatch h),fun _ _ _=>h⟩
 | .nils,x,vs,Sx,_,_,_,h=>⟨_,_,[],qDe.none,fun _ h=>(nomatch h),Sx,List.Sublist.refl _,fun _ h=>(nomatch h),fun _ _ _=>h⟩
 | .il b t,x,vs,Sx,hn,_,_,h=>⟨_,_,[],qDe.none,fun _ h=>(nomatch h),Sx,List.Sublist.refl _,fun _ h=>(nomatch h),fun N' _ _=>@Rep.nf N N' F B w (.il b t) x vs Sx hn h⟩
 | .mut z e t,x,vs,Sx,hn,_,_,h=>⟨_,_,[],qDe.none,fun _ h=>(nomatch h),Sx,List.Sublist.refl _,fun _ h=>(nomatch h),fun N' _ _=>@Rep.nf N N' F B w (.mut z e t) x vs Sx hn h⟩
 | .nil,x,vs,Sx,_,_,_,h=>⟨_,_,[],qDe.none,fun _ h=>(nomatch h),Sx,List.Sublist.refl _,fun _ h=>(nomatch h),fun _ _ _=>h⟩
 | .nm,_,_,_,hn,_,_,_=>by cases hn
 | .ptr _ _,_,_,_,_,hk,_,_=>by cases hk
 | .agg _,_,_,_,_,hk,_,_=>by cases hk
 | .mag _,_,_,_,_,hk,_,_=>by cases hk
 | .tup _,_,_,_,_,hk,_,_=>by cases hk
 | .fn _ _,_,_,_,_,hk,_,_=>by cases hk
theorem Rep.named[N:Names]{F B:Nat→Prop}{w:World}:∀{p:Pat} {x:p.den} {vs:List Value} {Sx:List Nat},p.nf=true→p.nok=true→Sx.Nodup→Rep F B w p x vs Sx →
  ∃c f ow,qDe N F w (p.nN x) (p.lookP x) ow c f∧(∀b∈ow,b∈Sx)∧∃top:List Nat,top.Sublist Sx∧(∀b∈ow,b∉top)∧∀(N':Names) (n:Nat),(∀m,m<p.nN x→N'.nu (n+m+1)=c m)→@Rep N' F B w p.nmd (p.enc x n) vs top
 | .own z e t,xs,vs,Sx,hn,_,hnd,h=>by
  obtain⟨l,rfl,rfl,hl⟩:=h
  obtain⟨c,f,h1,h2⟩:=qAY.named hn hl
  have hall:l.all=l.blk.toList++l.sub:=rfl
  rw[hall] at hnd
  obtain⟨d1,d2,d3⟩:=List.nodup_append.1 hnd
  refine⟨c,f,l.sub,h1,fun b hb=>LV.mem_sub hb,l.blk.toList,by rw[hall];exact List.sublist_append_left _ _,fun b hb hb'=>d3 b hb' b hb rfl,fun N' n hN=>⟨⟨l.blk,l.off,l.cap,[]⟩,?_,(List.append_nil _).symm,h2 N' n hN⟩⟩
  show [hdr l xs.length]=[hdr ⟨l.blk,l.off,l.cap,[]⟩ (t.encn xs n).length]
  rw[encn_len]
  rfl
 | .cons a b,x,vs,Sx,hn,hk,hnd,h=>by
  simp only[Pat.nf,Pat.nok,Bool.and_eq_true] at hn hk
  obtain⟨v,vs',S1,S2,rfl,rfl,h1,h2⟩:=h
  obtain⟨n1,n2,n3⟩:=List.nodup_append.1 hnd
  obtain⟨ca,fa,oa,na,sa,ta,ka,da,ra⟩:=Rep.named hn.1 hk.1 n1 h1
  obtain⟨cb,fb,ob,nb,sb,tb,kb,db,rb⟩:=Rep.named hn.2 hk.2 n2 h2
  refine⟨_,_,_,na.and nb fun c hc hc'=>n3 c (sa c hc) c (sb c hc') rfl,fun c hc=>?_,ta++tb,ka.append kb,fun c hc hc'=>?_,fun N' n hN=>⟨v,vs',ta,tb,rfl,rfl,ra N' n fun m hm=>?_,rb N' (n+a.nN x.1) fun m hm=>?_⟩⟩
  ·rcases List.mem_append.1 hc with hc | hc
   ·exact List.mem_append.2 (.inl (sa c hc))
   ·exact List.mem_append.2 (.inr (sb c hc))
  ·rcases List.mem_append.1 hc with hc | hc <;> rcases List.mem_append.1 hc' with hc' | hc'
   ·exact da c hc hc'
   ·exact n3 c (sa c hc) c (kb.subset hc') rfl
   ·exact n3 c (ka.subset hc') c (sb c hc) rfl
   ·exact db c hc hc'
  ·have:=hN m (by show m<a.nN x.1+b.nN x.2;omega)
   rw[if_pos hm] at this
   exact this
  ·have:=hN (a.nN x.1+m) (by show a.nN x.1+m<a.nN x.1+b.nN x.2;omega)
   rw[if_neg (by omega),Nat.add_sub_cancel_left] at this
   rw[←this,Nat.add_assoc n]
 | .ptr o p,x,vs,Sx,hn,hk,hnd,h=>by
  obtain⟨b,cs,e,fr,S',rfl,rfl,k1,k2,k3,h⟩:=h
  obtain⟨d1,d2⟩:=List.nodup_cons.1 hnd
  obtain⟨c,f,ow,na,sa,ta,ka,da,ra⟩:=Rep.named (p:=p) hn hk d2 h
  refine⟨c,f,ow,na,fun b hb=>List.mem_cons_of_mem _ (sa b hb),b::ta,ka.cons_cons b,fun b' hb hb'=>?_,fun N' n hN=>⟨b,cs,e,fr,ta,rfl,rfl,k1,k2,k3,ra N' n hN⟩⟩
  rcases List.mem_cons.1 hb' with rfl | hb'
  ·exact d1 (sa _ hb)
  ·exact da b' hb hb'
 | .tup p,x,vs,Sx,hn,hk,hnd,h=>by
  obtain⟨cs,rfl,h⟩:=h
  obtain⟨c,f,ow,na,sa,ta,ka,da,ra⟩:=Rep.named (p:=p) hn hk hnd h
  exact⟨c,f,ow,na,sa,ta,ka,da,fun N' n hN=>⟨cs,rfl,ra N' n hN⟩⟩
 | .agg p,x,vs,Sx,hn,hk,hnd,h=>by
  obtain⟨cs,rfl,k,h⟩:=h
  obtain⟨c,f,ow,na,sa,ta,ka,da,ra⟩:=Rep.rnamed (p:=p) hn hk hnd h
  exact⟨c,f,ow,na,sa,ta,ka,da,fun N' n hN=>⟨cs,rfl,k,ra N' n hN⟩⟩
 | .any,x,vs,Sx,_,_,_,h=>⟨_,_,[],qDe.none,fun _ h=>(nomatch h),Sx,List.Sublist.refl _,fun _ h=>(nomatch h),fun _ _ _=>h⟩
 | .int k,x,vs,Sx,_,_,_,h=>⟨_,_,[],qDe.none,fun _ h=>(nomatch h),Sx,List.Sublist.refl _,fun _ h=>(nomatch h),fun _ _ _=>h⟩
 | .bool,x,vs,Sx,_,_,_,h=>⟨_,_,[],qDe.none,fun _ h=>(nomatch h),Sx,List.Sublist.refl _,fun _ h=>(nomatch h),fun _ _ _=>h⟩
 | .str,x,vs,Sx,_,_,_,h=>⟨_,_,[],qDe.none,fun _ h=>(nomatch h),Sx,List.Sublist.refl _,fun _ h=>(nomatch h),fun _ _ _=>h⟩
 | .nils,x,vs,Sx,_,_,_,h=>⟨_,_,[],qDe.none,fun _ h=>(nomatch h),Sx,List.Sublist.refl _,fun _ h=>(nomatch h),fun _ _ _=>h⟩
 | .il b t,x,vs,Sx,hn,_,_,h=>⟨_,_,[],qDe.none,fun _ h=>(nomatch h),Sx,List.Sublist.refl _,fun _ h=>(nomatch h),fun N' _ _=>@Rep.nf N N' F B w (.il b t) x vs Sx hn h⟩
 | .mut z e t,x,vs,Sx,hn,_,_,h=>⟨_,_,[],qDe.none,fun _ h=>(nomatch h),Sx,List.Sublist.refl _,fun _ h=>(nomatch h),fun N' _ _=>@Rep.nf N N' F B w (.mut z e t) x vs Sx hn h⟩
 | .nil,x,vs,Sx,_,_,_,h=>⟨_,_,[],qDe.none,fun _ h=>(nomatch h),Sx,List.Sublist.refl _,fun _ h=>(nomatch h),fun _ _ _=>h⟩
 | .nm,_,_,_,hn,_,_,_=>by cases hn
 | .mag _,_,_,_,_,hk,_,_=>by cases hk
 | .fn _ _,_,_,_,_,hk,_,_=>by cases hk
end Go.Eng
end

section
namespace Go.Eng
theorem qAY.anyz[N:Names]{F:Nat→Prop}{w:World}{l:LV}{z:Bool}{e:Nat}{t:Ty}{xs:List t.den}(h:qAY F w l false e t xs):qAY F w l z e t xs:=by
 unfold qAY LstW at h ⊢
 cases hb:l.blk with
 | none=>rw[hb] at h;exact h
 | some b =>
  rw[hb] at h
  obtain⟨vs,fr,Ss,hh,hzf,r⟩:=h
  exact⟨vs,fr,Ss,hh,fun _=>hzf rfl,r⟩
section
variable {N N' : Names} {F B : Nat → Prop} {w : World} {lk : Nat → Option OL} {fS : Nat → List Nat}
theorem qAY.unname(h0:N'.nu 0=.slice none 0 0)(hlk:∀n o,lk n=some o→@TRep N F w (.ols o.e o.u) o.ys [N'.nu n] (fS n)){l:LV}{z:Bool}{e:Nat}{t:Ty}{ys:List t.nmd.den}{zs:List t.den}(hn:t.nf=true)(h:@qAY N' F w l z e t.nmd ys)(hds:t.decs lk ys=some zs)(hnd:((ys.flatMap t.nms).flatMap fS).Nodup)(hd:∀b∈l.all,∀n,b∉fS n) :
  l.all=l.blk.toList∧zs.length=ys.length∧@qAY N F w ⟨l.blk,l.off,l.cap,(ys.flatMap t.nms).flatMap fS⟩ z e t zs:=by
 have hold:l.sub=[]:=(@qAY.old N' _ _ _ _ _ _ _ h (Ty.nmd_hasO t)).1
 obtain⟨k1,k2⟩:=decs_get hds
 have hblk:∀b,l.blk=some b→b∉(ys.flatMap t.nms).flatMap fS:=fun b hb hb'=>by
  obtain⟨n,_,hb'⟩:=List.mem_flatMap.1 hb'
  exact hd b (LV.mem_blk hb) n hb'
 refine⟨LV.all_of hold,k1,?_⟩
 unfold qAY LstW at h ⊢
 cases hb:l.blk with
 | none =>
  rw[hb] at h
  obtain⟨rfl,hc,_⟩:=h
  have:zs=[]:=List.eq_nil_of_length_eq_zero (by rw[k1];rfl)
  exact⟨this,hc,rfl⟩
 | some b =>
  rw[hb] at h
  obtain⟨vs,fr,Ss,hh,hzf,hth,hnc,hcm,hvs,hsub,hnd2,hlenS,hrows⟩:=h
  refine⟨vs,fr,ys.map fun y=>(t.nms y).flatMap fS,hh,hzf,hth,by rw[k1];exact hnc,hcm,by rw[Ty.nmd_w] at hvs;exact hvs,?_,List.nodup_cons.2 ⟨hblk b hb,hnd⟩,by simp[k1],fun i x S hx hS=>?_⟩
  ·show(ys.flatMap t.nms).flatMap fS=_
   rw[List.flatMap_assoc,List.flatMap_def]
  ·have hi:i<ys.length:=by rw[←k1];exact(List.getElem?_eq_some_iff.1 hx).1
   have hy:ys[i]?=some ys[i]:=List.getElem?_eq_getElem hi
   rw[List.getElem?_map,hy] at hS
   simp only[Option.map_some,Option.some.injEq] at hS
   subst hS
   have hSs:Ss[i]?=some (Ss[i]'(by omega)):=List.getElem?_eq_getElem (by omega)
   obtain⟨rs,q1,q2,q3⟩:=hrows i _ _ hy hSs
   refine⟨rs,by rw[q1,Ty.nmd_w],fun j hj=>by rw[Ty.nmd_w] at q2;exact q2 j hj,TRep.dec h0 hlk hn q3 (k2 i _ _ hy hx)⟩
theorem nodup_flat{a b:List Nat}(h:((a++b).flatMap fS).Nodup):(a.flatMap fS).Nodup∧(b.flatMap fS).Nodup:=by
 rw[List.flatMap_append] at h
 exact⟨(List.nodup_append.1 h).1,(List.nodup_append.1 h).2.1⟩
theorem perm_mix{s1 s2 a b A C:List Nat}(h1:A.Perm (s1++a))(h2:C.Perm (s2++b)):(A++C).Perm ((s1++s2)++(a++b)):=by
 refine(h1.append h2).trans ?_
 rw[List.append_assoc,List.append_assoc]
 refine List.Perm.append_left _ ?_
 rw[←List.append_assoc,←List.append_assoc]
 exact List.Perm.append_right _ List.perm_append_comm
theorem Rep.runname(h0:N'.nu 0=.slice none 0 0)(hlk:∀n o,lk n=some o→@TRep N F w (.ols o.e o.u) o.ys [N'.nu n] (fS n)):∀{p:Pat} {y:p.row.den} {vs:List Value} {S:List Nat} {x:p.den},
  p.nf=true→p.rok=true→@Rep N' F B w p.row y vs S→p.rDec lk y=some x→∃S',@Rep N F B w p x vs S'∧S'.Perm (S++(p.rNms y).flatMap fS)
 | .own z e t,n,vs,S,x,hn,_,h,hd=>by
  obtain⟨h,rfl⟩:vs=[N'.nu n]∧S=[]:=h
  subst h
  have hd:decN lk e t n=some x:=hd
  cases n with
  | zero =>
   simp only[decN,Option.some.injEq] at hd
   subst hd
   exact⟨[],⟨LV.nil,by rw[h0];rfl,rfl,⟨rfl,rfl,rfl⟩⟩,by simp[Pat.rNms,nmsN]⟩
  | succ m =>
   simp only[decN] at hd
   split at hd
   case h_2=>cases hd
   rename_i o ho
   split at hd
   case isFalse=>cases hd
   rename_i he
   obtain⟨e',u',ys⟩:=o
   obtain⟨h1,h2⟩:=he
   dsimp only at h1 h2
   subst h1 h2
   simp only[Option.some.injEq] at hd
   subst hd
   obtain⟨l,k1,k2,k3⟩:=hlk _ _ ho
   have k3:@qAY N F w l false e' u' ys:=k3
   exact⟨l.all,⟨l,k1,rfl,@qAY.anyz N _ _ _ _ _ _ _ k3⟩,by simp[Pat.rNms,nmsN,←k2]⟩
 | .cons a b,y,vs,S,x,hn,hk,h,hd=>by
  simp only[Pat.nf,Pat.rok,Bool.and_eq_true] at hn hk
  obtain⟨v,vs',S1,S2,rfl,rfl,h1,h2⟩:=h
  simp only[Pat.rDec] at hd
  split at hd
  case h_2=>cases hd
  rename_i y1 z1 e1 e2
  simp only[Option.some.injEq] at hd
  subst hd
  obtain⟨A,a1,a2⟩:=Rep.runname h0 hlk hn.1 hk.1 h1 e1
  obtain⟨C,b1,b2⟩:=Rep.runname h0 hlk hn.2 hk.2 h2 e2
  refine⟨A++C,⟨v,vs',A,C,rfl,rfl,a1,b1⟩,?_⟩
  rw[show(Pat.cons a b).rNms y=a.rNms y.1++b.rNms y.2 from rfl,List.flatMap_append]
  exact perm_mix a2 b2
 | .any,y,vs,S,x,_,_,h,hd=>by cases hd;exact⟨S,h,by simp[Pat.rNms]⟩
 | .int _,y,vs,S,x,_,_,h,hd=>by cases hd;exact⟨S,h,by simp[Pat.rNms]⟩
 | .bool,y,vs,S,x,_,_,h,hd=>by cases hd;exact⟨S,h,by simp[Pat.rNms]⟩
 | .str,y,vs,S,x,_,_,h,hd=>by cases hd;exact⟨S,h,by simp[Pat.rNms]⟩
 | .nils,y,vs,S,x,_,_,h,hd=>by cases hd;exact⟨S,h,by simp[Pat.rNms]⟩
 | .il b t,y,vs,S,x,hn,_,h,hd=>by cases hd;exact⟨S,@Rep.nf N' N F B w (.il b t) y vs S hn h,by simp[Pat.rNms]⟩
 | .mut z e t,y,vs,S,x,hn,_,h,hd=>by cases hd;exact⟨S,@Rep.nf N' N F B w (.mut z e t) y vs S hn h,by simp[Pat.rNms]⟩
 | .nil,y,vs,S,x,_,_,h,hd=>by cases hd;exact⟨S,h,by simp[Pat.rNms]⟩
 | .nm,_,_,_,_,hn,_,_,_=>by cases hn
 | .ptr _ _,_,_,_,_,_,hk,_,_=>by cases hk
 | .agg _,_,_,_,_,_,hk,_,_=>by cases hk
 | .mag _,_,_,_,_,_,hk,_,_=>by cases hk
 | .tup _,_,_,_,_,_,hk,_,_=>by cases hk
 | .fn _ _,_,_,_,_,_,hk,_,_=>by cases hk
theorem Rep.unname(h0:N'.nu 0=.slice none 0 0)(hlk:∀n o,lk n=some o→@TRep N F w (.ols o.e o.u) o.ys [N'.nu n] (fS n)):∀{p:Pat} {y:p.nmd.den} {vs:List Value} {S:List Nat} {x:p.den},
  p.nf=true→p.nok=true→@Rep N' F B w p.nmd y vs S→p.dec lk y=some x→((p.nms y).flatMap fS).Nodup→(∀b∈S,∀n,b∉fS n)→∃S',@Rep N F B w p x vs S'∧S'.Perm (S++(p.nms y).flatMap fS)
 | .own z e t,ys,vs,S,x,hn,_,h,hd,hnd,hdis=>by
  obtain⟨l,rfl,rfl,hl⟩:=h
  obtain⟨g1,g2,g3⟩:=qAY.unname h0 hlk hn hl hd hnd hdis
  refine⟨l.blk.toList++(ys.flatMap t.nms).flatMap fS,⟨⟨l.blk,l.off,l.cap,(ys.flatMap t.nms).flatMap fS⟩,?_,rfl,g3⟩,?_⟩
  ·show [hdr l ys.length]=[hdr _ (List.length x)]
   rw[g2]
   rfl
  ·rw[g1]
   exact List.Perm.refl _
 | .cons a b,y,vs,S,x,hn,hk,h,hd,hnd,hdis=>by
  simp only[Pat.nf,Pat.nok,Bool.and_eq_true] at hn hk
  obtain⟨v,vs',S1,S2,rfl,rfl,h1,h2⟩:=h
  simp only[Pat.dec] at hd
  split at hd
  case h_2=>cases hd
  rename_i y1 z1 e1 e2
  simp only[Option.some.injEq] at hd
  subst hd
  obtain⟨n1,n2⟩:=nodup_flat (a:=a.nms y.1) (b:=b.nms y.2) hnd
  obtain⟨A,a1,a2⟩:=Rep.unname h0 hlk hn.1 hk.1 h1 e1 n1 fun c hc=>hdis c (List.mem_append.2 (.inl hc))
  obtain⟨C,b1,b2⟩:=Rep.unname h0 hlk hn.2 hk.2 h2 e2 n2 fun c hc=>hdis c (List.mem_append.2 (.inr hc))
  refine⟨A++C,⟨v,vs',A,C,rfl,rfl,a1,b1⟩,?_⟩
  rw[show(Pat.cons a b).nms y=a.nms y.1++b.nms y.2 from rfl,List.flatMap_append]
  exact perm_mix a2 b2
 | .ptr o p,y,vs,S,x,hn,hk,h,hd,hnd,hdis=>by
  obtain⟨b,cs,e,fr,S',rfl,rfl,k1,k2,k3,h⟩:=h
  obtain⟨A,a1,a2⟩:=Rep.unname (p:=p) h0 hlk hn hk h hd hnd fun c hc=>hdis c (List.mem_cons_of_mem _ hc)
  exact⟨b::A,⟨b,cs,e,fr,A,rfl,rfl,k1,k2,k3,a1⟩,a2.cons b⟩
 | .tup p,y,vs,S,x,hn,hk,h,hd,hnd,hdis=>by
  obtain⟨cs,rfl,h⟩:=h
  obtain⟨A,a1,a2⟩:=Rep.unname (p:=p) h0 hlk hn hk h hd hnd hdis
  exact⟨A,⟨cs,rfl,a1⟩,a2⟩
 | .agg p,y,vs,S,x,hn,hk,h,hd,hnd,hdis=>by
  obtain⟨cs,rfl,k,h⟩:=h
  obtain⟨A,a1,a2⟩:=Rep.runname (p:=p) h0 hlk hn hk h hd
  exact⟨A,⟨cs,rfl,k,a1⟩,a2⟩
 | .any,y,vs,S,x,_,_,h,hd,_,_=>by cases hd;exact⟨S,h,by simp[Pat.nms]⟩
 | .int _,y,vs,S,x,_,_,h,hd,_,_=>by cases hd;exact⟨S,h,by simp[Pat.nms]⟩
 | .bool,y,vs,S,x,_,_,h,hd,_,_=>by cases hd;exact⟨S,h,by simp[Pat.nms]⟩
 | .str,y,vs,S,x,_,_,h,hd,_,_=>by cases hd;exact⟨S,h,by simp[Pat.nms]⟩
 | .nils,y,vs,S,x,_,_,h,hd,_,_=>by cases hd;exact⟨S,h,by simp[Pat.nms]⟩
 | .il b t,y,vs,S,x,hn,_,h,hd,_,_=>by cases hd;exact⟨S,@Rep.nf N' N F B w (.il b t) y vs S hn h,by simp[Pat.nms]⟩
 | .mut z e t,y,vs,S,x,hn,_,h,hd,_,_=>by cases hd;exact⟨S,@Rep.nf N' N F B w (.mut z e t) y vs S hn h,by simp[Pat.nms]⟩
 | .nil,y,vs,S,x,_,_,h,hd,_,_=>by cases hd;exact⟨S,h,by simp[Pat.nms]⟩
 | .nm,_,_,_,_,hn,_,_,_,_,_=>by cases hn
 | .mag _,_,_,_,_,_,hk,_,_,_,_=>by cases hk
 | .fn _ _,_,_,_,_,_,hk,_,_,_,_=>by cases hk
theorem qAz.unname(h0:N'.nu 0=.slice none 0 0)(hlk:∀n o,lk n=some o→@TRep N F w (.ols o.e o.u) o.ys [N'.nu n] (fS n)):∀{p:Pat} {y:p.nmd.out} {vs:List Value} {S:List Nat} {x:p.out},
  p.nf=true→p.nok=true→@qAz N' F B w p.nmd y vs S→p.decO lk y=some x→((p.nmsO y).flatMap fS).Nodup→(∀b∈S,∀n,b∉fS n)→∃S',@qAz N F B w p x vs S'∧S'.Perm (S++(p.nmsO y).flatMap fS)
 | .cons a b,y,vs,S,x,hn,hk,h,hd,hnd,hdis=>by
  simp only[Pat.nf,Pat.nok,Bool.and_eq_true] at hn hk
  obtain⟨v,vs',S1,S2,rfl,rfl,h1,h2⟩:=h
  simp only[Pat.decO] at hd
  split at hd
  case h_2=>cases hd
  rename_i y1 z1 e1 e2
  simp only[Option.some.injEq] at hd
  subst hd
  obtain⟨n1,n2⟩:=nodup_flat (a:=a.nmsO y.1) (b:=b.nmsO y.2) hnd
  obtain⟨A,a1,a2⟩:=qAz.unname h0 hlk hn.1 hk.1 h1 e1 n1 fun c hc=>hdis c (List.mem_append.2 (.inl hc))
  obtain⟨C,b1,b2⟩:=qAz.unname h0 hlk hn.2 hk.2 h2 e2 n2 fun c hc=>hdis c (List.mem_append.2 (.inr hc))
  refine⟨A++C,⟨v,vs',A,C,rfl,rfl,a1,b1⟩,?_⟩
  rw[show(Pat.cons a b).nmsO y=a.nmsO y.1++b.nmsO y.2 from rfl,List.flatMap_append]
  exact perm_mix a2 b2
 | .ptr o p,y,vs,S,x,hn,hk,h,hd,hnd,hdis=>Rep.unname (p:=.ptr o p) h0 hlk hn hk h hd hnd hdis
 | .own _ _ _,_,vs,S,x,_,_,h,hd,_,_=>⟨S,h,by simp[Pat.nmsO]⟩
 | .agg _,_,vs,S,x,_,_,h,hd,_,_=>⟨S,h,by simp[Pat.nmsO]⟩
 | .tup _,_,vs,S,x,_,_,h,hd,_,_=>⟨S,h,by simp[Pat.nmsO]⟩
 | .any,y,vs,S,x,_,_,h,hd,_,_=>⟨S,h,by simp[Pat.nmsO]⟩
 | .int _,y,vs,S,x,_,_,h,hd,_,_=>⟨S,h,by simp[Pat.nmsO]⟩
 | .bool,y,vs,S,x,_,_,h,hd,_,_=>⟨S,h,by simp[Pat.nmsO]⟩
 | .str,y,vs,S,x,_,_,h,hd,_,_=>⟨S,h,by simp[Pat.nmsO]⟩
 | .nils,y,vs,S,x,_,_,h,hd,_,_=>⟨S,h,by simp[Pat.nmsO]⟩
 | .il b t,y,vs,S,x,_,_,h,hd,_,_=>⟨S,h,by simp[Pat.nmsO]⟩
 | .mut z e t,y,vs,S,x,hn,_,h,hd,_,_=>by cases hd;exact⟨S,@qAz.nf N' N F B w (.mut z e t) y vs S hn h,by simp[Pat.nmsO]⟩
 | .nil,y,vs,S,x,_,_,h,hd,_,_=>⟨S,h,by simp[Pat.nmsO]⟩
 | .nm,_,_,_,_,hn,_,_,_,_,_=>by cases hn
 | .mag _,_,_,_,_,_,hk,_,_,_,_=>by cases hk
 | .fn _ _,_,_,_,_,_,hk,_,_,_,_=>by cases hk
end
theorem Pat.row_ok:∀{p:Pat},p.row.ok=true→p.rok=true→p.ok=true
 | .cons a b,h,hk=>by
  simp only[Pat.row,Pat.ok,Pat.rok,Bool.and_eq_true] at h hk ⊢
  exact⟨Pat.row_ok h.1 hk.1,Pat.row_ok h.2 hk.2⟩
 | .own _ _ _,_,_=>rfl | .any,h,_=>h | .int _,h,_=>h | .bool,h,_=>h | .str,h,_=>h | .nils,h,_=>h | .il _ _,h,_=>h | .mut _ _ _,h,_=>h | .nm,h,_=>h | .nil,h,_=>h
 | .ptr _ _,_,hk=>by cases hk
 | .agg _,_,hk=>by cases hk
 | .mag _,_,hk=>by cases hk
 | .tup _,_,hk=>by cases hk
 | .fn _ _,_,hk=>by cases hk
theorem namesF_entry{P:Program}{f key:Nat}{p q:Pat}{G:p.nmd.den→Option (q.nmd.den×p.nmd.out)}(hp:(p.nf&&p.nok&&p.ok)=true)(hq:(q.nf&&q.nok&&q.ok)=true)(h:∀N:Names,@qAE N P ⟨f,key,p.nmd,q.nmd,G⟩)(N:Names):@qAE N P ⟨f,key,p,q,namesF p q G⟩:=by
 simp only[Bool.and_eq_true] at hp hq
 refine⟨hp.2,hq.2,fun x r hx w args Sx F B hrep hnd hmine hF hB hgb hge=>?_⟩
 have hx':namesF p q G x=some r:=hx
 unfold namesF at hx'
 split at hx'
 case h_1=>cases hx'
 rename_i y o hG
 split at hx'
 case h_2=>cases hx'
 rename_i y' o' hdy hdo
 split at hx'
 case isFalse=>cases hx'
 rename_i hndN
 injection hx' with hx'
 subst hx'
 obtain⟨c,f',ow,hN,hsub,top,htop,hdis,hin⟩:=Rep.named hp.1.1 hp.1.2 hnd hrep
 let nu:Nat→Value:=fun n=>match n with | 0=>.slice none 0 0 | m+1=>c m
 let fS:Nat→List Nat:=fun n=>match n with | 0=>[] | m+1=>f' m
 have hone:∀n,(nu n).oneCell'=true:=fun n=>by
  cases n with
  | zero=>rfl
  | succ m=>exact hN.one m
 let N':Names:=⟨nu,hone,rfl,N.gb,N.gen,N.keep⟩
 have hfsub:∀n,∀b∈fS n,b∈ow:=fun n b hb=>by
  cases n with
  | zero=>cases hb
  | succ m=>exact hN.sub m b hb
 have hfnd:∀n,(fS n).Nodup:=fun n=>by
  cases n with
  | zero=>exact List.nodup_nil
  | succ m=>exact hN.nd m
 have hfdis:∀m n,m≠n→∀b∈fS m,b∉fS n:=fun m n hmn b hb=>by
  cases m with
  | zero=>cases hb
  | succ m =>
   cases n with
   | zero=>exact List.not_mem_nil
   | succ n=>exact hN.dis m n (by omega) b hb
 have hrep':@Rep N' F B w p.nmd (p.enc x 0) args.toList top:=hin N' 0 fun m _=>by
  show nu (0+m+1)=c m
  rw[Nat.zero_add]
 have htopS:∀b∈top,b∈Sx:=fun b hb=>htop.subset hb
 have key':=(h N').run (p.enc x 0) (y,o) hG w args top F B hrep' (htop.nodup hnd) (fun b hb=>hmine b (htopS b hb)) hF hB (fun b hb=>⟨(hgb b hb).1,fun h=>(hgb b hb).2 (htopS b h)⟩) hge
 refine key'.mono ?_
 rintro v' w' ⟨F',S1,S2,P1⟩
 have hout:∀b∈ow,b∉top:=hdis
 have howm:∀b∈ow,¬F b∧¬B b∧b<w.heap.size:=fun b hb=>hmine b (hsub b hb)
 have hsameF:Same F w w':=fun b hb=>P1.block b (hF b hb) fun hb'=>(hmine b (htopS b hb')).1 hb
 have hlk:∀n o',lookS (p.lookP x) n=some o'→@TRep N F' w' (.ols o'.e o'.u) o'.ys [N'.nu n] (fS n):=fun n o' ho=>by
  cases n with
  | zero=>cases ho
  | succ m=>exact @TRep.mono N _ _ _ _ P1.fro hsameF _ _ _ _ (fun b hb=>P1.block b (howm b (hN.sub m b hb)).2.2 (hout b (hN.sub m b hb))) (hN.rep m o' ho)
 have hnew:∀b∈S1++S2,∀n,b∉fS n:=fun b hb n hb'=>by
  have ho:=hfsub n b hb'
  rcases (P1.mine b hb).2.2.2 with h | h
  ·have:=(howm b ho).2.2
   omega
  ·exact hout b ho h
 have hndf:((q.nms y++p.nmsO o).flatMap fS).Nodup:=qFH hfnd hfdis hndN
 obtain⟨nd1,nd2⟩:=nodup_flat hndf
 obtain⟨A,a1,a2⟩:=Rep.unname (N:=N) (N':=N') rfl hlk hq.1.1 hq.1.2 P1.rep hdy nd1 fun b hb=>hnew b (List.mem_append.2 (.inl hb))
 obtain⟨C,b1,b2⟩:=qAz.unname (N:=N) (N':=N') rfl hlk hp.1.1 hp.1.2 P1.out hdo nd2 fun b hb=>hnew b (List.mem_append.2 (.inr hb))
 have hperm:=perm_mix a2 b2
 have hmem:∀b,b∈A++C→b∈S1++S2∨b∈ow:=fun b hb=>by
  rcases List.mem_append.1 (hperm.mem_iff.1 hb) with h | h
  ·exact .inl h
  ·rw[←List.flatMap_append] at h
   obtain⟨n,_,h⟩:=List.mem_flatMap.1 h
   exact .inr (hfsub n b h)
 refine⟨F',A,C,@Post.mk N _ _ _ _ _ _ _ _ _ _ _ _ _ P1.os P1.tape P1.output P1.size (fun b hb hb'=>P1.block b hb fun h=>hb' (htopS b h)) P1.fro (fun b hb=>(P1.more b hb).imp id fun h=>h.imp id fun h=>htopS b h) P1.lt a1 b1 ?_ fun b hb=>?_⟩
 ·refine hperm.nodup_iff.2 (List.nodup_append.2 ⟨P1.nodup,by rw[←List.flatMap_append];exact hndf,fun a ha b hb e=>?_⟩)
  subst e
  rw[←List.flatMap_append] at hb
  obtain⟨n,_,hb⟩:=List.mem_flatMap.1 hb
  exact hnew a ha n hb
 ·rcases hmem b hb with h | h
  ·obtain⟨q1,q2,q3,q4⟩:=P1.mine b h
   exact⟨q1,q2,q3,q4.imp id fun h=>htopS b h⟩
  ·obtain⟨q1,q2,q3⟩:=howm b h
   refine⟨fun hF'=>?_,q2,Nat.lt_of_lt_of_le q3 P1.size,.inr (hsub b h)⟩
   rcases P1.more b hF' with h' | h' | h'
   ·exact q1 h'
   ·omega
   ·exact hout b h h'
end Go.Eng
end

section
namespace Go.Eng
open Go.Shelf Go.RowKit Go.Proofs
variable [Names]
def growF(bytes:Nat)(t:Ty)(x:Unit×Int×Unit):Option (List t.den×Unit×Unit×Unit):=
 if 0≤x.2.1∧x.2.1.toNat*bytes≤140737488355328∧x.2.1.toNat≤4611686018427387904 then some ([],(),(),()) else none
theorem entry_grow{P:Program}{ρ:Ren}{t:Ty}(L:Lays8.n4 P ρ){i0:TypeInfo}{z0:Value}(hi0:P.info? (ρ.t 25)=some i0)(hz0:i0.zero=some z0)(hs0:i0.size=t.w)(hw:0<t.w)(hzc:z0.cells.size=t.w){bytes:Nat}(hby:i0.bytes=bytes){fn:Func}(hf:P.funcs[ρ.f 4]?=some fn)(hen:enterB fn=true) :
  qAE P ⟨ρ.f 4,0,.cons .nils (.cons (.int .i64) .nil),.own false (ρ.t 25) t,growF bytes t⟩:=by
 refine⟨rfl,rfl,fun x r hx w args Sx F B hrep hnd hmine hF hB _ _=>.inl ⟨ρ.f 4,args,enter_run hf hen args w,?_⟩⟩
 obtain⟨⟨⟩,n,u⟩:=x
 obtain⟨v1,vs1,S1,S2,ha,hSx,hs,h2⟩:=hrep
 obtain⟨v2,vs2,S3,S4,rfl,rfl,hn,h3⟩:=h2
 obtain⟨rfl,rfl⟩:=h3
 obtain⟨hl1,rfl⟩:=hs
 obtain⟨hn1,rfl⟩:=hn
 simp only[List.cons.injEq,and_true] at hl1 hn1
 subst hl1 hn1
 have hargs:args=#[.slice none 0 0,.int .i64 n]:=by
  rw[←Array.toList_inj,ha]
 have hSx':Sx=[]:=by rw[hSx];rfl
 subst hSx'
 have hx':growF bytes t ((),n,u)=some r:=hx
 unfold growF at hx'
 split at hx'
 case isFalse=>cases hx'
 rename_i hc
 obtain⟨c0,c1,c2⟩:=hc
 dsimp only at c0 c1 c2
 injection hx' with hx'
 subst hx'
 obtain⟨n,rfl⟩:=Int.eq_ofNat_of_zero_le c0
 rw[Int.toNat_natCast] at c1 c2
 rw[ha]
 subst hargs
 have out:∀w':World,qAz F B w' (.cons .nils (.cons (.int .i64) .nil)) ((),(),()) [.slice none 0 0,.int .i64 (n:Int)] []:=fun w'=>⟨_,_,[],[],rfl,rfl,rfl,_,_,[],[],rfl,rfl,rfl,rfl⟩
 by_cases h0:n=0
 ·subst h0
  refine(Any8.slices_Grow_room L none 0 0 0 w (Nat.le_refl _) (by omega) (by omega) (by omega)).mono ?_
  rintro e w' ⟨rfl,rfl⟩
  refine⟨_,rfl,F,[],[],⟨rfl,rfl,rfl,Nat.le_refl _,fun _ _ _=>rfl,fun _ h=>h,fun _ h=>.inl h,hF,⟨⟨none,0,0,[]⟩,rfl,rfl,⟨rfl,rfl,rfl⟩⟩,out _,by simp,fun c hc=>by simp at hc⟩⟩
 ·have hbig:(0+n)*i0.bytes≤140737488355328:=by rw[Nat.zero_add,hby];exact c1
  refine(Any8.slices_Grow_grow L i0 z0 hi0 hz0 (by omega) none 0 0 n [] w (Nat.le_refl _) (by omega) hbig (by omega) (by simp) (fun _=>rfl) (fun a h=>by cases h)).mono ?_
  rintro e w' ⟨rfl,hw'⟩
  have hG:=grownCap_le_maxLen w (0+n) 0 (ρ.t 25) (by unfold maxLen;omega)
  have hGn:=grownCap_ge w (0+n) 0 (ρ.t 25)
  have hnew:w'.heap[w.heap.size]?=some (.cells (([]:List Value).toArray++Builtin.zeroCells z0.cells (0+n-0)++Builtin.zeroCells z0.cells (grownCap w (0+n) 0 (ρ.t 25)-(0+n))) (ρ.t 25) (0,0)):=by subst hw';exact qDR _ _
  have hsize:w.heap.size<w'.heap.size:=by subst hw';exact Nat.lt_of_lt_of_eq (Nat.lt_succ_self _) (qGn _ _).symm
  have hold:∀c,c<w.heap.size→w'.heap[c]?=w.heap[c]?:=fun c hc=>by subst hw';exact qCr _ _ c hc
  refine⟨_,rfl,F,[w.heap.size],[],⟨by subst hw';rfl,by subst hw';rfl,by subst hw';rfl,Nat.le_of_lt hsize,fun b hb _=>hold b hb,fun _ h=>h,fun _ h=>.inl h,fun b hb=>Nat.lt_trans (hF b hb) hsize,
   ⟨⟨some w.heap.size,0,grownCap w (0+n) 0 (ρ.t 25),[]⟩,rfl,rfl,⟨_,_,[],hnew,fun _=>rfl,.inl rfl,Nat.zero_le _,hG,.inr ?_,rfl,by simp,⟨rfl,fun i x S hx=>by simp at hx⟩⟩⟩,out _,by simp,fun c hc=>?_⟩⟩
  ·generalize grownCap w (0+n) 0 (ρ.t 25)=G at hGn ⊢
   simp only[Array.size_append,List.size_toArray,qCb,hzc,List.length_nil]
   rw[Nat.zero_add,Nat.zero_add,Nat.zero_add,←Nat.add_mul,Nat.sub_zero]
   congr 1
   omega
  ·simp only[List.append_nil,List.mem_singleton] at hc
   subst hc
   exact⟨fun h=>by have:=hF _ h;omega,fun h=>by have:=hB _ h;omega,hsize,.inl (Nat.le_refl _)⟩
end Go.Eng
end
