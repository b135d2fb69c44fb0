import Derived.Test.YtnfllchbpechlaaGreatRows
import Derived.Test.YtnfllchbpechlaaGreatFun3
import Derived.Test.YtnfllchbpechlaaGreatBase
import Derived.Test.YtnfllchbpechlaaGreatFacts
import Derived.WalkKit
import Derived.ProofKit
import Derived.OpenShut
import Derived.ShutString
import Derived.ChangeOld
import Derived.Below
import Derived.SizedLaws
/- Plain facts of what the program's functions compute (the first part). Conditions: none beyond each theorem's own. -/
set_option linter.unusedVariables false
set_option linter.unusedSimpArgs false
namespace Go.Proofs.YtnfllchbpechlaaGreat
open Go Go.Eng Go.Proofs
abbrev pars_FnHubs:List Par:=[(false,(.list (.int .u8)))]
theorem qCe(k:Nat)(a b c:Int):qBk k (a,(b,(c,())))=some (decide (b≤a∧a≤c),((),((),((),())))):=by
 unfold qBk
 by_cases h:b≤a <;> simp[h]
theorem qCx(k:Nat)(a b c:Int):qBh k (a,(b,(c,())))=some (decide (b≤a∧a≤c),((),((),((),())))):=qCe k a b c
theorem qFW(k:Nat)(a:Int):qFN k (a,())=some (decide (0≤a∧a≤4294967295),((),())):=by
 unfold qFN
 rw[qCe]
 rfl
theorem i_AddrOk_is(k:Nat)(a:Int):qIT k (a,())=some (decide (0≤a∧a≤4294967295),((),())):=qFW k a
theorem i_ReadNumber_is(k:Nat)(s:ByteArray):qDZ k (s,())=some ((if s.size=4 then(bt s 0*16777216+bt s 1*65536+bt s 2*256+bt s 3,(true,())) else(0,(false,()))),((),())):=by
 unfold qDZ
 by_cases h:s.size=4
 ·have h':(s.size:Int)=4:=by omega
  have a0:=bt_ge s 0;have a1:=bt_ge s 1;have a2:=bt_ge s 2;have a3:=bt_ge s 3
  have b0:=bt_le s 0;have b1:=bt_le s 1;have b2:=bt_le s 2;have b3:=bt_le s 3
  simp only[h]
  have p24:(2:Int)^(min (Int.toNat (24:Int)) (IntKind.bits .i64))=16777216:=by decide
  have p16:(2:Int)^(min (Int.toNat (16:Int)) (IntKind.bits .i64))=65536:=by decide
  have p8:(2:Int)^(min (Int.toNat (8:Int)) (IntKind.bits .i64))=256:=by decide
  have e0:wi64 (wi64 (bt s 0)*2^(min (Int.toNat (24:Int)) (IntKind.bits .i64)))=bt s 0*16777216:=by rw[p24];simp only[wi64,IntKind.wrap_i64];omega
  have e1:wi64 (wi64 (bt s 1)*2^(min (Int.toNat (16:Int)) (IntKind.bits .i64)))=bt s 1*65536:=by rw[p16];simp only[wi64,IntKind.wrap_i64];omega
  have e2:wi64 (wi64 (bt s 2)*2^(min (Int.toNat (8:Int)) (IntKind.bits .i64)))=bt s 2*256:=by rw[p8];simp only[wi64,IntKind.wrap_i64];omega
  have e3:wi64 (bt s 3)=bt s 3:=by simp only[wi64,IntKind.wrap_i64];omega
  have e:qAa .or .i64 (qAa .or .i64 (qAa .or .i64 (bt s 0*16777216) (bt s 1*65536)) (bt s 2*256)) (bt s 3)=bt s 0*16777216+bt s 1*65536+bt s 2*256+bt s 3:=by
   rw[or_join 24 (bt s 0*16777216) (bt s 1*65536),or_join 16 _ (bt s 2*256),or_join 8 _ (bt s 3)] <;> omega
  rw[e0,e1,e2,e3,e]
  simp
 ·have h':¬(s.size:Int)=4:=by omega
  simp[h,h']
/-- Bytes as whole numbers. -/
def isB(l:List Int):Prop:=∀x∈l,0≤x∧x<256
theorem qAt(s:ByteArray):(qAF s).length=s.size:=by
 unfold qAF
 rw[List.length_map,Array.length_toList]
 rfl
theorem qCS(l:List Int):(qAl l).size=l.length:=by simp[qAl,ByteArray.size]
theorem qEJ(s:ByteArray):isB (qAF s):=by
 intro x hx
 unfold qAF at hx
 obtain⟨b,_,rfl⟩:=List.mem_map.1 hx
 have:=b.toNat_lt
 exact⟨by omega,by omega⟩
theorem isB_nil:isB []:=by intro x hx;cases hx
theorem isB_cons{x:Int}{l:List Int}:isB (x::l)↔(0≤x∧x<256)∧isB l:=by simp[isB]
theorem isB_append{a b:List Int}:isB (a++b)↔isB a∧isB b:=by
 simp only[isB,List.mem_append]
 exact⟨fun h=>⟨fun x hx=>h x (.inl hx),fun x hx=>h x (.inr hx)⟩,fun h x hx=>hx.elim (h.1 x) (h.2 x)⟩
theorem isB_drop{l:List Int}(h:isB l)(n:Nat):isB (l.drop n):=fun x hx=>h x (List.mem_of_mem_drop hx)
theorem qCy{l:List Int}(h:isB l):qAF (qAl l)=l:=by
 unfold qAF qAl
 rw[List.map_map]
 have:∀m:List Int,isB m→m.map ((fun b:UInt8=>((b.toNat:Nat):Int)) ∘ fun x=>UInt8.ofNat x.toNat)=m:=by
  intro m
  induction m with
  | nil=>intro _;rfl
  | cons a m ih =>
   intro hm
   obtain⟨h1,h2⟩:=isB_cons.1 hm
   rw[List.map_cons,ih h2]
   congr 1
   simp only[Function.comp,UInt8.toNat_ofNat']
   omega
 simpa using this l h
theorem qDI(s:ByteArray):qAl (qAF s)=s:=by
 have e:(fun x:Int=>UInt8.ofNat x.toNat) ∘ (fun b:UInt8=>((b.toNat:Nat):Int))=id:=by
  funext b
  simp
 apply ByteArray.ext
 simp only[qAl,qAF,List.map_map,e,List.map_id]
theorem bytesOf_inj{s t:ByteArray}(h:qAF s=qAF t):s=t:=by rw[←qDI s,h,qDI]
theorem qHP(a b:ByteArray):qAF (a++b)=qAF a++qAF b:=by
 simp[qAF,ByteArray.data_append]
theorem strOf_append(a b:List Int):qAl (a++b)=qAl a++qAl b:=by
 apply ByteArray.ext
 simp[qAl,ByteArray.data_append]
theorem qEK(s:ByteArray)(a b:Nat):qAF (s.extract a b)=((qAF s).take b).drop a:=by
 simp[qAF,ByteArray.data_extract,List.map_drop,List.map_take,List.drop_take]
theorem bt_get(s:ByteArray)(i:Nat)(h:i<s.size):bt s (i:Int)=(qAF s)[i]'(by rw[qAt];exact h):=by
 unfold bt
 rw[dif_pos (by simpa using h)]
 simp[qAF,ByteArray.getElem_eq_getElem_data]
theorem qGb(n m:Nat)(h:n+m≤4194304):n+m≤capMax:=by
 have:capMax=274877906944:=rfl
 omega
theorem qGc(n m:Nat)(h:n+m≤4194304):n+m≤maxStr:=by
 have:maxStr=9223372036854775807:=rfl
 omega
/-- A loop that counts up to n and turns its state each round. -/
def iterN{A:Type}(g:Nat→A→A):Nat→Nat→A→A
 | 0,_,a=>a
 | m+1,i,a=>iterN g m (i+1) (g i a)
theorem qDQ{X R A:Type}{step:(X→Option R)→X→Option R}(st:Nat→A→X)(n:Nat)(g:Nat→A→A)(fin:A→Option R)(Inv:Nat→A→Prop)(hs:∀again i a,i<n→Inv i a→step again (st i a)=again (st (i+1) (g i a))∧Inv (i+1) (g i a))(he:∀again a,Inv n a→step again (st n a)=fin a) :
  ∀m i a k,i+m=n→Inv i a→m<k→qAG step k (st i a)=fin (iterN g m i a):=by
 intro m
 induction m with
 | zero =>
  intro i a k h hI hk
  obtain⟨k,rfl⟩:∃k',k=k'+1:=⟨k-1,by omega⟩
  have:i=n:=by omega
  subst this
  exact he _ _ hI
 | succ m ih =>
  intro i a k h hI hk
  obtain⟨k,rfl⟩:∃k',k=k'+1:=⟨k-1,by omega⟩
  obtain⟨h1,h2⟩:=hs (qAG step k) i a (by omega) hI
  show step _ _=_
  rw[h1]
  exact ih (i+1) _ k (by omega) h2 (by omega)
theorem iterN_inv{A:Type}(g:Nat→A→A)(Inv:Nat→A→Prop)(n:Nat)(hs:∀i a,i<n→Inv i a→Inv (i+1) (g i a)):∀m i a,i+m=n→Inv i a→Inv n (iterN g m i a):=by
 intro m
 induction m with
 | zero =>
  intro i a h hI
  have:i=n:=by omega
  subst this
  exact hI
 | succ m ih=>intro i a h hI;exact ih (i+1) _ (by omega) (hs i a (by omega) hI)
/-- Four bytes, the highest first. -/
def four(n:Int):List Int:=[n / 16777216 % 256,n / 65536 % 256,n / 256 % 256,n % 256]
theorem four_isB(n:Int):isB (four n):=by
 unfold four
 simp only[isB_cons]
 refine⟨by omega,by omega,by omega,by omega,isB_nil⟩
def W32(x:Int):Prop:=0≤x∧x<4294967296
def allW(l:List Int):Prop:=∀x∈l,W32 x
def xr(a b:Int):Int:=((a.toNat ^^^ b.toNat:Nat):Int)
def an(a b:Int):Int:=((a.toNat &&& b.toNat:Nat):Int)
theorem qDJ{a:Int}(h:W32 a):a.toNat<2^32:=by obtain⟨h1,h2⟩:=h;omega
theorem xr_W{a b:Int}(ha:W32 a)(hb:W32 b):W32 (xr a b):=by
 have:=Nat.xor_lt_two_pow (qDJ ha) (qDJ hb)
 unfold xr W32
 omega
theorem an_W{a b:Int}(ha:W32 a):W32 (an a b):=by
 have:=Nat.and_le_left (n:=a.toNat) (m:=b.toNat)
 have:=qDJ ha
 unfold an W32
 omega
theorem qCT{n:Nat}{a:Int}(hn:32≤n)(h:W32 a):(BitVec.ofInt n a).toNat=a.toNat:=by
 rw[BitVec.toNat_ofInt]
 obtain⟨h1,h2⟩:=h
 have hp:(2:Nat)^32≤2^n:=Nat.pow_le_pow_right (by omega) hn
 have:(2:Nat)^32=4294967296:=by decide
 rw[Int.emod_eq_of_lt h1 (by omega)]
theorem qFX{a b:Int}(ha:W32 a)(hb:W32 b):qAa .xor .u32 a b=xr a b:=by
 have h:=xr_W ha hb
 unfold qAa
 simp only[BitVec.toNat_xor,qCT (show 32≤IntKind.bits .u32 by decide) ha,qCT (show 32≤IntKind.bits .u32 by decide) hb]
 show IntKind.u32.wrap (xr a b)=xr a b
 obtain⟨h1,h2⟩:=h
 rw[IntKind.wrap_u32]
 omega
theorem qEd{a b:Int}(ha:W32 a)(hb:W32 b):qAa .xor .i64 a b=xr a b:=by
 have h:=xr_W ha hb
 unfold qAa
 simp only[BitVec.toNat_xor,qCT (show 32≤IntKind.bits .i64 by decide) ha,qCT (show 32≤IntKind.bits .i64 by decide) hb]
 obtain⟨h1,h2⟩:=h
 exact qAH (xr a b) (by omega)
theorem qIb{a b:Int}(ha:W32 a)(hb:W32 b):qAa .and .u32 a b=an a b:=by
 have h:=an_W (b:=b) ha
 unfold qAa
 simp only[BitVec.toNat_and,qCT (show 32≤IntKind.bits .u32 by decide) ha,qCT (show 32≤IntKind.bits .u32 by decide) hb]
 show IntKind.u32.wrap (an a b)=an a b
 obtain⟨h1,h2⟩:=h
 rw[IntKind.wrap_u32]
 omega
theorem qIc{a b:Int}(ha:W32 a)(hb:W32 b):qAa .and .i64 a b=an a b:=by
 have h:=an_W (b:=b) ha
 unfold qAa
 simp only[BitVec.toNat_and,qCT (show 32≤IntKind.bits .i64 by decide) ha,qCT (show 32≤IntKind.bits .i64 by decide) hb]
 obtain⟨h1,h2⟩:=h
 exact qAH (an a b) (by omega)
/-- All bits turned. -/
theorem flip_is{e:Int}(h:W32 e):xr 4294967295 e=4294967295-e:=by
 have hl:=qDJ h
 have:(4294967295 ^^^ e.toNat:Nat)=2^32-(e.toNat+1):=by
  apply Nat.eq_of_testBit_eq
  intro i
  rw[Nat.testBit_xor,Nat.testBit_two_pow_sub_succ hl,show(4294967295:Nat)=2^32-1 by decide,Nat.testBit_two_pow_sub_one]
  by_cases hi:i<32
  ·simp[hi]
  ·have:e.toNat.testBit i=false:=Nat.testBit_lt_two_pow (Nat.lt_of_lt_of_le hl (Nat.pow_le_pow_right (by omega) (by omega)))
   simp[hi,this]
 obtain⟨h1,h2⟩:=h
 unfold xr
 rw[show Int.toNat 4294967295=4294967295 by rfl,this]
 omega
/-- A word that is turned right. -/
def rt(x:Int)(n:Nat):Int:=x / 2^n+x % 2^n*2^(32-n)
theorem rt_nat{x n:Nat}(hn:n≤32)(hx:x<2^32):x / 2^n<2^(32-n)∧x / 2^n+x % 2^n*2^(32-n)<2^32:=by
 have hp:2^n*2^(32-n)=2^32:=by rw[←Nat.pow_add];congr 1;omega
 have h1:x / 2^n<2^(32-n):=Nat.div_lt_of_lt_mul (by rw[hp];exact hx)
 refine⟨h1,?_⟩
 have h2:x % 2^n+1≤2^n:=Nat.mod_lt _ (Nat.two_pow_pos n)
 have h3:(x % 2^n+1)*2^(32-n)≤2^32:=by rw[←hp];exact Nat.mul_le_mul_right _ h2
 rw[Nat.add_mul] at h3
 omega
theorem rt_cast(x n:Nat):rt (x:Int) n=((x / 2^n+x % 2^n*2^(32-n):Nat):Int):=by
 unfold rt
 push_cast
 rfl
theorem W32_nat{n:Nat}(h:n<2^32):W32 (n:Int):=by
 have p32:(2:Nat)^32=4294967296:=by decide
 exact⟨by omega,by omega⟩
theorem rt_W{x:Int}{n:Nat}(hn:n≤32)(h:W32 x):W32 (rt x n):=by
 obtain⟨m,rfl⟩:=Int.eq_ofNat_of_zero_le h.1
 have:=(rt_nat hn (qDJ h)).2
 simp only[Int.toNat_natCast] at this
 rw[rt_cast]
 exact W32_nat this
theorem rot_or{x n:Nat}(hn:n≤32)(hx:x<2^32):(x / 2^n ||| x*2^(32-n)) % 2^32=x / 2^n+x % 2^n*2^(32-n):=by
 have hp:2^n*2^(32-n)=2^32:=by rw[←Nat.pow_add];congr 1;omega
 obtain⟨h1,h2⟩:=rt_nat hn hx
 rw[Nat.or_mod_two_pow,Nat.mod_eq_of_lt (Nat.lt_of_le_of_lt (Nat.div_le_self _ _) hx)]
 have e:x*2^(32-n) % 2^32=2^(32-n)*(x % 2^n):=by rw[←hp,Nat.mul_mod_mul_right,Nat.mul_comm]
 rw[e,Nat.or_comm,←Nat.two_pow_add_eq_or_of_lt h1,Nat.mul_comm,Nat.add_comm]
theorem qBc(k:Nat){x:Int}{n:Nat}(hn:2≤n∧n≤31)(h:W32 x):qAf k (x,((n:Int),()))=some (rt x n,((),((),()))):=by
 obtain⟨m,rfl⟩:=Int.eq_ofNat_of_zero_le h.1
 have hm:m<2^32:=by have:=qDJ h;simpa using this
 unfold qAf
 have w:wi64 ((32:Int)-(n:Int))=((32-n:Nat):Int):=(qAH _ (by omega)).trans (by omega)
 have c1:¬(n:Int)<0:=by omega
 have c2:¬((32-n:Nat):Int)<0:=by omega
 have m1:min (Int.toNat (n:Int)) (IntKind.bits .i64)=n:=by show min n 64=n;omega
 have m2:min (Int.toNat ((32-n:Nat):Int)) (IntKind.bits .i64)=32-n:=by show min (32-n) 64=_;omega
 have hy:m*2^(32-n)<2^62:=by
  have a1:2^(32-n)≤2^30:=Nat.pow_le_pow_right (by omega) (by omega)
  calc m*2^(32-n)≤m*2^30:=Nat.mul_le_mul_left _ a1
   _<2^32*2^30:=Nat.mul_lt_mul_of_pos_right hm (by decide)
   _=2^62:=by decide
 have hz:m / 2^n<2^32:=Nat.lt_of_le_of_lt (Nat.div_le_self _ _) hm
 have p62:(2:Nat)^62=4611686018427387904:=by decide
 have p32:(2:Nat)^32=4294967296:=by decide
 have e1:Int.fdiv (m:Int) (2^n)=((m / 2^n:Nat):Int):=by
  have:((2:Int)^n)=((2^n:Nat):Int):=by push_cast;rfl
  rw[this,Int.fdiv_eq_ediv_of_nonneg _ (Int.natCast_nonneg _)]
  rfl
 have e2:wi64 ((m:Int)*2^(32-n))=((m*2^(32-n):Nat):Int):=by
  have:((m:Int)*2^(32-n))=((m*2^(32-n):Nat):Int):=by rw[Int.natCast_mul,Int.natCast_pow];rfl
  rw[this]
  exact qAH _ (by omega)
 have e3:qAa .or .i64 ((m / 2^n:Nat):Int) ((m*2^(32-n):Nat):Int)=((m / 2^n ||| m*2^(32-n):Nat):Int):=(bits_nat .i64 63 (by decide) wraps_i64 _ _ (by omega) (by omega)).2
 have ho:m / 2^n ||| m*2^(32-n)<2^62:=Nat.or_lt_two_pow (by omega) hy
 have e4:qAa .and .i64 ((m / 2^n ||| m*2^(32-n):Nat):Int) 4294967295=(((m / 2^n ||| m*2^(32-n)) % 2^32:Nat):Int):=by
  have:=and_mask 32 (by omega) ((m / 2^n ||| m*2^(32-n):Nat):Int) (by omega) (by omega)
  rw[show((2:Int)^32-1)=4294967295 by decide] at this
  rw[this]
  rfl
 simp only[w,c1,c2,m1,m2,e1,e2,e3,e4,if_false]
 rw[rot_or (by omega) hm,rt_cast]
theorem W32_four{n:Int}(h:W32 n):n / 16777216 % 256*16777216+n / 65536 % 256*65536+n / 256 % 256*256+n % 256=n:=by
 obtain⟨h1,h2⟩:=h
 omega
def wd:List Int→List Int
 | a::b::c::d::r=>(a*16777216+b*65536+c*256+d)::wd r
 | _=>[]
theorem wd_W:∀{l:List Int},isB l→allW (wd l)
 | a::b::c::d::r,h=>by
  simp only[isB_cons] at h
  obtain⟨h1,h2,h3,h4,h5⟩:=h
  intro x hx
  rw[wd,List.mem_cons] at hx
  rcases hx with rfl | hx
  ·unfold W32;omega
  ·exact wd_W h5 x hx
 | [],_=>by simp[wd,allW]
 | [_],_=>by simp[wd,allW]
 | [_,_],_=>by simp[wd,allW]
 | [_,_,_],_=>by simp[wd,allW]
theorem wd_len:∀(l:List Int),(wd l).length=l.length / 4
 | a::b::c::d::r=>by simp only[wd,List.length_cons,wd_len r];omega
 | []=>by simp[wd]
 | [_]=>by simp[wd]
 | [_,_]=>by simp[wd]
 | [_,_,_]=>by simp[wd]
theorem qId{x:Int}{l:List Int}:allW (x::l)↔W32 x∧allW l:=by simp[allW]
theorem allW_append{a b:List Int}:allW (a++b)↔allW a∧allW b:=by
 simp only[allW,List.mem_append]
 exact⟨fun h=>⟨fun x hx=>h x (.inl hx),fun x hx=>h x (.inr hx)⟩,fun h x hx=>hx.elim (h.1 x) (h.2 x)⟩
/-- A list's place. -/
def rdI(l:List Int)(i:Int):Int:=l.getD i.toNat 0
theorem qHQ(k:IntKind)(l:List Int)(i:Int):Ty.rd (t:=.int k) l i=rdI l i:=rfl
theorem qFY(l:List Int)(i:Nat)(h:i<l.length):rdI l (i:Int)=l[i]:=by simp[rdI,List.getD,h]
/-- The bytes of words. -/
def fl(l:List Int):List Int:=l.flatMap four
theorem fl_cons(x:Int)(l:List Int):fl (x::l)=four x++fl l:=List.flatMap_cons ..
theorem fl_isB(l:List Int):isB (fl l):=by
 induction l with
 | nil=>exact isB_nil
 | cons x l ih=>rw[fl_cons,isB_append];exact⟨four_isB x,ih⟩
theorem fl_len(l:List Int):(fl l).length=4*l.length:=by
 induction l with
 | nil=>rfl
 | cons x l ih=>rw[fl_cons,List.length_append,ih,List.length_cons];simp only[four,List.length_cons,List.length_nil];omega
theorem wd_fl:∀{l:List Int},allW l→wd (fl l)=l
 | [],_=>rfl
 | x::l,h=>by
  obtain⟨h1,h2⟩:=qId.1 h
  rw[fl_cons]
  unfold four
  simp only[List.cons_append,List.nil_append,wd,wd_fl h2,W32_four h1]
theorem drop_four(s:ByteArray)(i:Nat)(h:i+4≤s.size):(qAF s).drop i=bt s (i:Int)::bt s ((i+1:Nat):Int)::bt s ((i+2:Nat):Int)::bt s ((i+3:Nat):Int)::(qAF s).drop (i+4):=by
 have hl:=qAt s
 rw[List.drop_eq_getElem_cons (by omega),List.drop_eq_getElem_cons (by omega),List.drop_eq_getElem_cons (by omega),List.drop_eq_getElem_cons (by omega),bt_get s i (by omega),bt_get s (i+1) (by omega),bt_get s (i+2) (by omega),bt_get s (i+3) (by omega)]
/-- The loop over words. -/
theorem words_loop{R:Type}{step:(ByteArray×List Int×Int×Unit→Option R)→ByteArray×List Int×Int×Unit→Option R}(s:ByteArray)(fin:List Int→Option R)(hs:s.size≤2097152)(h1:∀again (out:List Int) (i:Nat),i+4≤s.size→out.length≤2097152→step again (s,(out,((i:Int),())))=again (s,(out++[bt s (i:Int)*16777216+bt s ((i+1:Nat):Int)*65536+bt s ((i+2:Nat):Int)*256+bt s ((i+3:Nat):Int)],(((i+4:Nat):Int),()))))(h2:∀again (out:List Int) (i:Nat),¬i+4≤s.size→i≤s.size→step again (s,(out,((i:Int),())))=fin out) :
  ∀(n i:Nat) (out:List Int) (k:Nat),i≤s.size→s.size-i=n→out.length≤i→n<k→qAG step k (s,(out,((i:Int),())))=fin (out++wd ((qAF s).drop i)):=by
 intro n
 induction n using Nat.strongRecOn with
 | ind n ih =>
  intro i out k hi hn ho hk
  obtain⟨k,rfl⟩:∃k',k=k'+1:=⟨k-1,by omega⟩
  show step _ _=_
  by_cases c:i+4≤s.size
  ·rw[h1 _ _ _ c (by omega),ih (s.size-(i+4)) (by omega) (i+4) _ k c rfl (by simp;omega) (by omega),drop_four s i c,wd,List.append_assoc]
   rfl
  ·rw[h2 _ _ _ c hi]
   have hl:((qAF s).drop i).length<4:=by rw[List.length_drop,qAt];omega
   have:wd ((qAF s).drop i)=[]:=List.eq_nil_of_length_eq_zero (by rw[wd_len];omega)
   rw[this,List.append_nil]
theorem qG7(s:ByteArray)(a b j:Nat)(h:b≤s.size)(hj:a+j<b):bt (s.extract a b) (j:Int)=bt s ((a+j:Nat):Int):=by
 have hsz:(s.extract a b).size=b-a:=by rw[ByteArray.size_extract];omega
 rw[bt_get _ j (by omega),bt_get s (a+j) (by omega)]
 have:(qAF (s.extract a b))[j]?=(qAF s)[a+j]?:=by
  rw[qEK,List.getElem?_drop,List.getElem?_take]
  simp[hj]
 rw[List.getElem?_eq_getElem (by rw[qAt];omega),List.getElem?_eq_getElem (by rw[qAt];omega)] at this
 exact Option.some.inj this
theorem i_wordsOf_is(k:Nat)(s:ByteArray)(hs:s.size≤2097152)(hk:s.size<k):qE5 k (s,())=some (wd (qAF s),((),())):=by
 unfold qE5
 refine(words_loop s (fun l=>(some (l,((),())):Option (List Int×Unit×Unit))) hs ?_ ?_ s.size 0 [] k (by omega) (by omega) (by simp) hk).trans ?_
 ·intro again out i hi ho
  have w:wi64 ((i:Int)+4)=((i+4:Nat):Int):=(qAH _ (by omega)).trans (by omega)
  have c1:((i+4:Nat):Int)≤(s.size:Int):=by omega
  have c2:(0:Int)≤((i+4:Nat):Int)∧((i+4:Nat):Int)≤(s.size:Int):=by omega
  have c3:(0:Int)≤(i:Int)∧(i:Int)≤((i+4:Nat):Int):=by omega
  have hsz:(s.extract i (i+4)).size=4:=by rw[ByteArray.size_extract];omega
  have hc:out.length+1≤capMax:=qGb _ _ (by omega)
  have b0:=qG7 s i (i+4) 0 (by omega) (by omega)
  have b1:=qG7 s i (i+4) 1 (by omega) (by omega)
  have b2:=qG7 s i (i+4) 2 (by omega) (by omega)
  have b3:=qG7 s i (i+4) 3 (by omega) (by omega)
  simp only[Nat.add_zero] at b0 b1 b2 b3
  have b0':bt (s.extract i (i+4)) 0=bt s (i:Int):=b0
  have b1':bt (s.extract i (i+4)) 1=bt s ((i+1:Nat):Int):=b1
  have b2':bt (s.extract i (i+4)) 2=bt s ((i+2:Nat):Int):=b2
  have b3':bt (s.extract i (i+4)) 3=bt s ((i+3:Nat):Int):=b3
  simp only[w,c1,c2,c3,Int.toNat_natCast,i_ReadNumber_is,hsz,hc,b0',b1',b2',b3',and_self,decide_true,if_true,Option.bind_some,List.length_singleton]
 ·intro again out i hi hi2
  have w:wi64 ((i:Int)+4)=((i+4:Nat):Int):=(qAH _ (by omega)).trans (by omega)
  have c1:¬((i+4:Nat):Int)≤(s.size:Int):=by omega
  simp only[w,c1,decide_false,Bool.false_eq_true,if_false]
 ·rfl
theorem l04Word_is(k:Nat)(s:ByteArray)(i:Nat)(hs:s.size≤2097152)(h:i+4≤s.size):qF3 k (s,((i:Int),()))=some (bt s (i:Int)*16777216+bt s ((i+1:Nat):Int)*65536+bt s ((i+2:Nat):Int)*256+bt s ((i+3:Nat):Int),((),((),()))):=by
 unfold qF3
 have w1:wi64 ((i:Int)+1)=((i+1:Nat):Int):=(qAH _ (by omega)).trans (by omega)
 have w2:wi64 ((i:Int)+2)=((i+2:Nat):Int):=(qAH _ (by omega)).trans (by omega)
 have w3:wi64 ((i:Int)+3)=((i+3:Nat):Int):=(qAH _ (by omega)).trans (by omega)
 have c0:(0:Int)≤(i:Int)∧(i:Int)<(s.size:Int):=by omega
 have c1:(0:Int)≤((i+1:Nat):Int)∧((i+1:Nat):Int)<(s.size:Int):=by omega
 have c2:(0:Int)≤((i+2:Nat):Int)∧((i+2:Nat):Int)<(s.size:Int):=by omega
 have c3:(0:Int)≤((i+3:Nat):Int)∧((i+3:Nat):Int)<(s.size:Int):=by omega
 simp only[w1,w2,w3,c0,c1,c2,c3,and_self,if_true]
 have a0:=bt_ge s (i:Int);have a1:=bt_ge s ((i+1:Nat):Int);have a2:=bt_ge s ((i+2:Nat):Int);have a3:=bt_ge s ((i+3:Nat):Int)
 have b0:=bt_le s (i:Int);have b1:=bt_le s ((i+1:Nat):Int);have b2:=bt_le s ((i+2:Nat):Int);have b3:=bt_le s ((i+3:Nat):Int)
 generalize bt s (i:Int)=q0 at *
 generalize bt s ((i+1:Nat):Int)=q1 at *
 generalize bt s ((i+2:Nat):Int)=q2 at *
 generalize bt s ((i+3:Nat):Int)=q3 at *
 congr 2
 simp only[wu32,IntKind.wrap_u32]
 omega
theorem qHq(k:Nat)(s:ByteArray)(hs:s.size≤2097152)(hk:s.size<k):qC4 k (s,())=some (wd (qAF s),((),())):=by
 unfold qC4
 refine(words_loop s (fun l=>(some (l,((),())):Option (List Int×Unit×Unit))) hs ?_ ?_ s.size 0 [] k (by omega) (by omega) (by simp) hk).trans ?_
 ·intro again out i hi ho
  have w:wi64 ((i:Int)+4)=((i+4:Nat):Int):=(qAH _ (by omega)).trans (by omega)
  have c1:((i+4:Nat):Int)≤(s.size:Int):=by omega
  have hc:out.length+1≤capMax:=qGb _ _ (by omega)
  simp only[w,c1,l04Word_is k s i hs hi,hc,decide_true,if_true,Option.bind_some,List.length_singleton]
 ·intro again out i hi hi2
  have w:wi64 ((i:Int)+4)=((i+4:Nat):Int):=(qAH _ (by omega)).trans (by omega)
  have c1:¬((i+4:Nat):Int)≤(s.size:Int):=by omega
  simp only[w,c1,decide_false,Bool.false_eq_true,if_false]
 ·rfl
/-- A word's bytes. -/
theorem qFZ(k:Nat){n:Int}(h:W32 n):qCO k (n,())=some (qAl (four n),((),())):=by
 obtain⟨h0,h1⟩:=h
 unfold qCO four
 have c:(0:Int)≤n∧n≤4294967295:=by omega
 have e24:Int.fdiv n (2^(min (Int.toNat (24:Int)) (IntKind.bits .i64)))=n / 16777216:=by rw[Int.fdiv_eq_ediv_of_nonneg _ (by decide)];rfl
 have e16:Int.fdiv n (2^(min (Int.toNat (16:Int)) (IntKind.bits .i64)))=n / 65536:=by rw[Int.fdiv_eq_ediv_of_nonneg _ (by decide)];rfl
 have e8:Int.fdiv n (2^(min (Int.toNat (8:Int)) (IntKind.bits .i64)))=n / 256:=by rw[Int.fdiv_eq_ediv_of_nonneg _ (by decide)];rfl
 have a8:∀m:Int,0≤m→m<4294967296→wu8 (qAa .and .i64 m 255)=m % 256:=fun m h0 h1=>by
  have:=and_mask 8 (by omega) m h0 (by omega)
  rw[show((2:Int)^8-1)=255 by decide,show((2:Int)^8)=256 by decide] at this
  rw[this]
  exact(w8_mod _).trans (by omega)
 simp only[qCx,c,e24,e16,e8,and_self,decide_true,Bool.not_true,Bool.false_eq_true,if_false,Option.bind_some]
 rw[a8 n (by omega) (by omega),a8 (n / 256) (by omega) (by omega),a8 (n / 65536) (by omega) (by omega),a8 (n / 16777216) (by omega) (by omega)]
theorem fl_append(a b:List Int):fl (a++b)=fl a++fl b:=by simp[fl]
theorem fl_take_succ(l:List Int)(i:Nat)(h:i<l.length):fl (l.take (i+1))=fl (l.take i)++four (rdI l (i:Int)):=by
 rw[List.take_succ_eq_append_getElem h,fl_append,qFY l i h]
 simp[fl]
theorem qHR(k:Nat)(l:List Int)(hl:l.length≤1000)(hw:allW l)(hk:l.length<k):qDH k (l,())=some (qAl (fl l),((),())):=by
 unfold qDH
 refine(qDQ (A:=Unit) (fun i _=>(qAl (fl (l.take i)),(l,((l.length:Int),((i:Int),()))))) l.length (fun _ _=>()) (fun _=>some (qAl (fl l),((),()))) (fun _ _=>True) ?_ ?_ l.length 0 () k (by omega) trivial hk).trans rfl
 ·intro again i _ hi _
  have c1:(i:Int)<(l.length:Int):=by omega
  have c2:(0:Int)≤(i:Int):=by omega
  have w1:wi64 ((i:Int)+1)=((i+1:Nat):Int):=(qAH _ (by omega)).trans (by omega)
  have hW:W32 (rdI l (i:Int)):=by rw[qFY l i hi];exact hw _ (List.getElem_mem _)
  have hsz:(qAl (fl (l.take i))).size+(qAl (four (rdI l (i:Int)))).size≤maxStr:=qGc _ _ (by rw[qCS,qCS,fl_len,List.length_take];simp only[four,List.length_cons,List.length_nil];omega)
  refine⟨?_,trivial⟩
  simp only[c1,c2,w1,qHQ,qFZ k hW,hsz,fl_take_succ l i hi,strOf_append,and_self,decide_true,if_true,Option.bind_some]
 ·intro again _ _
  simp[List.take_of_length_le]
theorem qHr(k:Nat)(l:List Int)(hl:l.length≤1000)(hw:allW l)(hk:l.length<k):qC6 k (l,())=some (qAl (fl l),((),())):=by
 unfold qC6
 refine(qDQ (A:=Unit) (fun i _=>(l,(fl (l.take i),((i:Int),())))) l.length (fun _ _=>()) (fun _=>some (qAl (fl l),((),()))) (fun _ _=>True) ?_ ?_ l.length 0 () k (by omega) trivial hk).trans rfl
 ·intro again i _ hi _
  have c1:(i:Int)<(l.length:Int):=by omega
  have c2:(0:Int)≤(i:Int):=by omega
  have w1:wi64 ((i:Int)+1)=((i+1:Nat):Int):=(qAH _ (by omega)).trans (by omega)
  have hW:W32 (rdI l (i:Int)):=by rw[qFY l i hi];exact hw _ (List.getElem_mem _)
  obtain⟨g0,g1⟩:=hW
  have e:[(wu8 ((wu32 (Int.tdiv (rdI l (i:Int)) (16777216:Int))))),(wu8 ((Int.tmod (wu32 (Int.tdiv (rdI l (i:Int)) (65536:Int))) (256:Int)))),(wu8 ((Int.tmod (wu32 (Int.tdiv (rdI l (i:Int)) (256:Int))) (256:Int)))),(wu8 ((Int.tmod (rdI l (i:Int)) (256:Int))))]=four (rdI l (i:Int)):=by
   have u:∀m:Int,0≤m→m<4294967296→wu32 m=m:=fun m a b=>by show IntKind.u32.wrap m=m;rw[IntKind.wrap_u32];omega
   rw[Int.tdiv_eq_ediv_of_nonneg g0,Int.tdiv_eq_ediv_of_nonneg g0,Int.tdiv_eq_ediv_of_nonneg g0,u _ (by omega) (by omega),u _ (by omega) (by omega),u _ (by omega) (by omega),Int.tmod_eq_emod_of_nonneg (by omega),Int.tmod_eq_emod_of_nonneg (by omega),Int.tmod_eq_emod_of_nonneg (by omega)]
   unfold four
   simp only[wu8,w8_mod,Int.emod_emod]
  have hsz:(fl (l.take i)).length+(four (rdI l (i:Int))).length≤capMax:=qGb _ _ (by rw[fl_len,List.length_take];simp only[four,List.length_cons,List.length_nil];omega)
  refine⟨?_,trivial⟩
  simp only[c1,c2,w1,qHQ,e,hsz,fl_take_succ l i hi,and_self,decide_true,if_true]
 ·intro again _ _
  simp[List.take_of_length_le]
def sg(a b:Nat)(c:Int)(x:Int):Int:=xr (xr (rt x a) (rt x b)) (x / c)
def bs(a b c:Nat)(x:Int):Int:=xr (xr (rt x a) (rt x b)) (rt x c)
def chI(e f g:Int):Int:=xr (an e f) (an (4294967295-e) g)
def mjI(a b c:Int):Int:=xr (xr (an a b) (an a c)) (an b c)
theorem div_W{x c:Int}(h:W32 x)(hc:0<c):W32 (x / c):=by
 obtain⟨h0,h1⟩:=h
 exact⟨Int.ediv_nonneg h0 (by omega),Int.lt_of_le_of_lt (Int.ediv_le_self _ h0) h1⟩
theorem sg_W{a b:Nat}{c x:Int}(ha:a≤32)(hb:b≤32)(hc:0<c)(h:W32 x):W32 (sg a b c x):=xr_W (xr_W (rt_W ha h) (rt_W hb h)) (div_W h hc)
theorem bs_W{a b c:Nat}{x:Int}(ha:a≤32)(hb:b≤32)(hc:c≤32)(h:W32 x):W32 (bs a b c x):=xr_W (xr_W (rt_W ha h) (rt_W hb h)) (rt_W hc h)
theorem flip_W{e:Int}(h:W32 e):W32 (4294967295-e):=by obtain⟨h0,h1⟩:=h;exact⟨by omega,by omega⟩
theorem ch_W{e f g:Int}(he:W32 e):W32 (chI e f g):=xr_W (an_W he) (an_W (flip_W he))
theorem mj_W{a b c:Int}(ha:W32 a)(hb:W32 b):W32 (mjI a b c):=xr_W (xr_W (an_W ha) (an_W ha)) (an_W hb)
theorem mod_W(x:Int):W32 (x % 4294967296):=⟨by omega,by omega⟩
theorem qIe(n:Int):wu32 n=n % 4294967296:=IntKind.wrap_u32 n
theorem mask_is{n:Int}(h0:0≤n)(h1:n<9223372036854775808):qAa .and .i64 n 4294967295=n % 4294967296:=by
 have:=and_mask 32 (by omega) n h0 (by omega)
 rw[show((2:Int)^32-1)=4294967295 by decide,show((2:Int)^32)=4294967296 by decide] at this
 exact this
theorem qEL(k:Nat){x lo hi:Int}{n:Nat}(hn:n≤32)(hlo:lo=2^n)(hhi:hi=2^(32-n))(h:W32 x):qC5 k (x,(lo,(hi,())))=some (rt x n,((),((),((),())))):=by
 have hW:=rt_W hn h
 obtain⟨m,rfl⟩:=Int.eq_ofNat_of_zero_le h.1
 have hm:m<2^32:=by have:=qDJ h;simpa using this
 obtain⟨q1,q2⟩:=rt_nat hn hm
 have p32:(2:Nat)^32=4294967296:=by decide
 have hlo':lo=((2^n:Nat):Int):=by rw[hlo,Int.natCast_pow];rfl
 have hhi':hi=((2^(32-n):Nat):Int):=by rw[hhi,Int.natCast_pow];rfl
 have hpos:=Nat.two_pow_pos n
 have c:¬lo=0:=by omega
 have e1:Int.tdiv (m:Int) lo=((m / 2^n:Nat):Int):=by rw[Int.tdiv_eq_ediv_of_nonneg (by omega),hlo'];rfl
 have e2:Int.tmod (m:Int) lo*hi=((m % 2^n*2^(32-n):Nat):Int):=by rw[Int.tmod_eq_emod_of_nonneg (by omega),hlo',hhi',Int.natCast_mul];rfl
 unfold qC5
 simp only[c,e1,e2,qIe,if_false]
 rw[rt_cast]
 generalize m / 2^n=A at *
 generalize m % 2^n*2^(32-n)=B at *
 congr 2
 omega
theorem sgS_is(k:Nat){x lo1 lo2 c:Int}{a b:Nat}(ha:a≤31∧1≤a)(hb:b≤31∧1≤b)(h1:lo1=2^a)(h2:lo2=2^b)(h3:wu32 (wu32 (Int.tdiv 2147483648 lo1)*2)=2^(32-a))(h4:wu32 (wu32 (Int.tdiv 2147483648 lo2)*2)=2^(32-b))(hc:0<c)(h:W32 x) :
  qHI k (x,(lo1,(lo2,(c,(true,())))))=some (sg a b c x,((),((),((),((),((),())))))):=by
 have p1:¬lo1=0:=by rw[h1];have:=Int.pow_pos (n:=2) (m:=a) (by decide);omega
 have p2:¬lo2=0:=by rw[h2];have:=Int.pow_pos (n:=2) (m:=b) (by decide);omega
 have p3:¬c=0:=by omega
 have e:wu32 (Int.tdiv x c)=x / c:=by
  have:=div_W h hc
  obtain⟨q1,q2⟩:=this
  rw[Int.tdiv_eq_ediv_of_nonneg h.1,qIe]
  omega
 unfold qHI
 simp only[p1,p2,p3,h3,h4,qEL k (by omega) h1 rfl h,qEL k (by omega) h2 rfl h,e,Bool.not_true,Bool.false_eq_true,if_false,Option.bind_some]
 rw[qFX (rt_W (by omega) h) (rt_W (by omega) h),qFX (xr_W (rt_W (by omega) h) (rt_W (by omega) h)) (div_W h hc)]
 rfl
theorem bsS_is(k:Nat){x lo1 lo2 lo3:Int}{a b c:Nat}(ha:a≤31∧1≤a)(hb:b≤31∧1≤b)(hc:c≤31∧1≤c)(h1:lo1=2^a)(h2:lo2=2^b)(h3:lo3=2^c)(h4:wu32 (wu32 (Int.tdiv 2147483648 lo1)*2)=2^(32-a))(h5:wu32 (wu32 (Int.tdiv 2147483648 lo2)*2)=2^(32-b))(h6:wu32 (wu32 (Int.tdiv 2147483648 lo3)*2)=2^(32-c))(h:W32 x) :
  qHI k (x,(lo1,(lo2,(lo3,(false,())))))=some (bs a b c x,((),((),((),((),((),())))))):=by
 have p1:¬lo1=0:=by rw[h1];have:=Int.pow_pos (n:=2) (m:=a) (by decide);omega
 have p2:¬lo2=0:=by rw[h2];have:=Int.pow_pos (n:=2) (m:=b) (by decide);omega
 have p3:¬lo3=0:=by rw[h3];have:=Int.pow_pos (n:=2) (m:=c) (by decide);omega
 unfold qHI
 simp only[p1,p2,p3,h4,h5,h6,qEL k (by omega) h1 rfl h,qEL k (by omega) h2 rfl h,qEL k (by omega) h3 rfl h,Bool.not_false,if_true,if_false,Option.bind_some]
 rw[qFX (rt_W (by omega) h) (rt_W (by omega) h),qFX (xr_W (rt_W (by omega) h) (rt_W (by omega) h)) (rt_W (by omega) h)]
 rfl
/-- The next word of a block. -/
def exW(w:List Int)(t:Nat):Int:=(sg 17 19 1024 (rdI w ((t-2:Nat):Int))+rdI w ((t-7:Nat):Int)+sg 7 18 8 (rdI w ((t-15:Nat):Int))+rdI w ((t-16:Nat):Int)) % 4294967296
def exG(t:Nat)(w:List Int):List Int:=w++[exW w t]
def exL(w:List Int):List Int:=iterN exG 48 16 w
theorem qHD{l:List Int}(h:allW l){i:Nat}(hi:i<l.length):W32 (rdI l (i:Int)):=by rw[qFY l i hi];exact h _ (List.getElem_mem _)
theorem exG_inv{t:Nat}{w:List Int}(h:w.length=t∧allW w):(exG t w).length=t+1∧allW (exG t w):=by
 refine⟨by simp[exG,h.1],?_⟩
 unfold exG
 rw[allW_append]
 exact⟨h.2,qId.2 ⟨mod_W _,by intro x hx;cases hx⟩⟩
theorem exL_inv{w:List Int}(h:w.length=16∧allW w):(exL w).length=64∧allW (exL w):=
 iterN_inv exG (fun t w=>w.length=t∧allW w) 64 (fun _ _ _ h=>exG_inv h) 48 16 w (by omega) h
theorem ex_step{w:List Int}{t:Nat}(ht:16≤t∧t<64)(h:w.length=t∧allW w):W32 (rdI w ((t-2:Nat):Int))∧W32 (rdI w ((t-7:Nat):Int))∧W32 (rdI w ((t-15:Nat):Int))∧W32 (rdI w ((t-16:Nat):Int)) ∧
  wi64 ((t:Int)-2)=((t-2:Nat):Int)∧wi64 ((t:Int)-7)=((t-7:Nat):Int)∧wi64 ((t:Int)-15)=((t-15:Nat):Int)∧wi64 ((t:Int)-16)=((t-16:Nat):Int)∧wi64 ((t:Int)+1)=((t+1:Nat):Int) ∧
  (((t-2:Nat):Int)<(w.length:Int)∧((t-7:Nat):Int)<(w.length:Int)∧((t-15:Nat):Int)<(w.length:Int)∧((t-16:Nat):Int)<(w.length:Int)):=
 ⟨qHD h.2 (by omega),qHD h.2 (by omega),qHD h.2 (by omega),qHD h.2 (by omega),(qAH _ (by omega)).trans (by omega),(qAH _ (by omega)).trans (by omega),(qAH _ (by omega)).trans (by omega),(qAH _ (by omega)).trans (by omega),(qAH _ (by omega)).trans (by omega),by omega,by omega,by omega,by omega⟩
theorem sgI_is{a b:Nat}{c x:Int}(ha:a≤32)(hb:b≤32)(hc:0<c)(h:W32 x):qAa .xor .i64 (qAa .xor .i64 (rt x a) (rt x b)) (x / c)=sg a b c x:=by
 rw[qEd (rt_W ha h) (rt_W hb h),qEd (xr_W (rt_W ha h) (rt_W hb h)) (div_W h hc)]
 rfl
theorem bsI_is{a b c:Nat}{x:Int}(ha:a≤32)(hb:b≤32)(hc:c≤32)(h:W32 x):qAa .xor .i64 (qAa .xor .i64 (rt x a) (rt x b)) (rt x c)=bs a b c x:=by
 rw[qEd (rt_W ha h) (rt_W hb h),qEd (xr_W (rt_W ha h) (rt_W hb h)) (rt_W hc h)]
 rfl
theorem expanded_is(k:Nat)(s:ByteArray)(hs:s.size=64)(hk:1048576<k):qE6 k (s,())=some (exL (wd (qAF s)),((),())):=by
 unfold qE6
 simp only[i_wordsOf_is k s (by omega) (by omega),Option.bind_some]
 have h0:(wd (qAF s)).length=16∧allW (wd (qAF s)):=⟨by rw[wd_len,qAt,hs],wd_W (qEJ s)⟩
 refine(qDQ (A:=List Int) (fun i w=>(w,((i:Int),()))) 64 exG (fun w=>some (w,((),()))) (fun t w=>16≤t∧w.length=t∧allW w) ?_ ?_ 48 16 _ k (by omega) ⟨by omega,h0⟩ (by omega)).trans rfl
 ·intro again t w ht hw
  obtain⟨g2,g7,g15,g16,e2,e7,e15,e16,e1,c2,c7,c15,c16⟩:=ex_step ⟨hw.1,ht⟩ hw.2
  have c:(t:Int)<64:=by omega
  refine⟨?_,by omega,exG_inv hw.2⟩
  have hc:w.length+1≤capMax:=qGb _ _ (by omega)
  have nn:∀m:Nat,(0:Int)≤(m:Int):=fun m=>Int.natCast_nonneg m
  have t7:qAf k (rdI w ((t-15:Nat):Int),((7:Int),()))=_:=qBc k (n:=7) (by omega) g15
  have t18:qAf k (rdI w ((t-15:Nat):Int),((18:Int),()))=_:=qBc k (n:=18) (by omega) g15
  have t17:qAf k (rdI w ((t-2:Nat):Int),((17:Int),()))=_:=qBc k (n:=17) (by omega) g2
  have t19:qAf k (rdI w ((t-2:Nat):Int),((19:Int),()))=_:=qBc k (n:=19) (by omega) g2
  have f3:∀x:Int,Int.fdiv x (2^(min (Int.toNat (3:Int)) (IntKind.bits .i64)))=x / 8:=fun x=>by rw[Int.fdiv_eq_ediv_of_nonneg _ (by decide)];rfl
  have f10:∀x:Int,Int.fdiv x (2^(min (Int.toNat (10:Int)) (IntKind.bits .i64)))=x / 1024:=fun x=>by rw[Int.fdiv_eq_ediv_of_nonneg _ (by decide)];rfl
  have s0:=sgI_is (a:=7) (b:=18) (c:=8) (by omega) (by omega) (by omega) g15
  have s1:=sgI_is (a:=17) (b:=19) (c:=1024) (by omega) (by omega) (by omega) g2
  obtain⟨x0,x1⟩:=sg_W (a:=7) (b:=18) (c:=8) (by omega) (by omega) (by omega) g15
  obtain⟨y0,y1⟩:=sg_W (a:=17) (b:=19) (c:=1024) (by omega) (by omega) (by omega) g2
  obtain⟨u0,u1⟩:=g7
  obtain⟨v0,v1⟩:=g16
  have hm:qAa .and .i64 (wi64 (wi64 (wi64 (sg 17 19 1024 (rdI w ((t-2:Nat):Int))+rdI w ((t-7:Nat):Int))+sg 7 18 8 (rdI w ((t-15:Nat):Int)))+rdI w ((t-16:Nat):Int))) 4294967295=exW w t:=by
   rw[show wi64 (sg 17 19 1024 (rdI w ((t-2:Nat):Int))+rdI w ((t-7:Nat):Int))=_ from qAH _ (by omega),show wi64 (sg 17 19 1024 (rdI w ((t-2:Nat):Int))+rdI w ((t-7:Nat):Int)+sg 7 18 8 (rdI w ((t-15:Nat):Int)))=_ from qAH _ (by omega),
    show wi64 (sg 17 19 1024 (rdI w ((t-2:Nat):Int))+rdI w ((t-7:Nat):Int)+sg 7 18 8 (rdI w ((t-15:Nat):Int))+rdI w ((t-16:Nat):Int))=_ from qAH _ (by omega),mask_is (by omega) (by omega)]
   rfl
  simp only[c,e1,e2,e7,e15,e16,c2,c7,c15,c16,nn,qHQ,t7,t18,t17,t19,f3,f10,s0,s1,hm,hc,and_self,decide_true,if_true,Option.bind_some,List.length_singleton]
  rfl
 ·intro again w hw
  simp
/-- The state in the rounds. -/
abbrev St8:=Int×Int×Int×Int×Int×Int×Int×Int
def allS(s:St8):Prop:=W32 s.1∧W32 s.2.1∧W32 s.2.2.1∧W32 s.2.2.2.1∧W32 s.2.2.2.2.1∧W32 s.2.2.2.2.2.1∧W32 s.2.2.2.2.2.2.1∧W32 s.2.2.2.2.2.2.2
def T1(kt wt:Int)(s:St8):Int:=s.2.2.2.2.2.2.2+bs 6 11 25 s.2.2.2.2.1+chI s.2.2.2.2.1 s.2.2.2.2.2.1 s.2.2.2.2.2.2.1+kt+wt
def T2(s:St8):Int:=bs 2 13 22 s.1+mjI s.1 s.2.1 s.2.2.1
def rdG(kl wl:List Int)(t:Nat)(s:St8):St8:=
 ((T1 (rdI kl (t:Int)) (rdI wl (t:Int)) s+T2 s) % 4294967296,s.1,s.2.1,s.2.2.1,(s.2.2.2.1+T1 (rdI kl (t:Int)) (rdI wl (t:Int)) s) % 4294967296,s.2.2.2.2.1,s.2.2.2.2.2.1,s.2.2.2.2.2.2.1)
theorem rdG_W{kl wl:List Int}{t:Nat}{s:St8}(h:allS s):allS (rdG kl wl t s):=by
 obtain⟨h1,h2,h3,h4,h5,h6,h7,h8⟩:=h
 exact⟨mod_W _,h1,h2,h3,mod_W _,h5,h6,h7⟩
def KL:List Int:=[1116352408,1899447441,3049323471,3921009573,961987163,1508970993,2453635748,2870763221,3624381080,310598401,607225278,1426881987,1925078388,2162078206,2614888103,3248222580,3835390401,4022224774,264347078,604807628,770255983,1249150122,1555081692,1996064986,2554220882,2821834349,2952996808,3210313671,3336571891,3584528711,113926993,338241895,666307205,773529912,1294757372,1396182291,1695183700,1986661051,2177026350,2456956037,2730485921,2820302411,3259730800,3345764771,3516065817,3600352804,4094571909,275423344,430227734,506948616,659060556,883997877,958139571,1322822218,1537002063,1747873779,1955562222,2024104815,2227730452,2361852424,2428436474,2756734187,3204031479,3329325298]
theorem KL_len:KL.length=64:=rfl
theorem KL_W:allW KL:=by
 have:KL.all (fun x=>decide (0≤x∧x<4294967296))=true:=by decide
 intro x hx
 have:=List.all_eq_true.1 this x hx
 simpa [W32] using this
theorem l04K_is(k:Nat):s_l04K k ()=some (KL,()):=rfl
def rds(kl wl:List Int)(s:St8):St8:=iterN (rdG kl wl) 64 0 s
def toL(s:St8):List Int:=[s.1,s.2.1,s.2.2.1,s.2.2.2.1,s.2.2.2.2.1,s.2.2.2.2.2.1,s.2.2.2.2.2.2.1,s.2.2.2.2.2.2.2]
def ofL(l:List Int):St8:=(rdI l 0,rdI l 1,rdI l 2,rdI l 3,rdI l 4,rdI l 5,rdI l 6,rdI l 7)
/-- What a block makes of a state. -/
def blk(st:List Int)(b:ByteArray):List Int:=List.zipWith (fun x y=>(x+y) % 4294967296) st (toL (rds KL (exL (wd (qAF b))) (ofL st)))
theorem blk_inv{st:List Int}{b:ByteArray}(h:st.length=8):(blk st b).length=8∧allW (blk st b):=by
 refine⟨by simp[blk,h,toL],?_⟩
 intro x hx
 unfold blk at hx
 obtain⟨i,hi,rfl⟩:=List.mem_iff_getElem.1 hx
 rw[List.getElem_zipWith]
 exact mod_W _
theorem chI64{e f g:Int}(he:W32 e)(hf:W32 f)(hg:W32 g):qAa .xor .i64 (qAa .and .i64 e f) (qAa .and .i64 (qAa .xor .i64 4294967295 e) g)=chI e f g:=by
 have hm:W32 4294967295:=⟨by decide,by decide⟩
 rw[qEd hm he,flip_is he,qIc he hf,qIc (flip_W he) hg,qEd (an_W he) (an_W (flip_W he))]
 rfl
theorem mjI64{a b c:Int}(ha:W32 a)(hb:W32 b)(hc:W32 c):qAa .xor .i64 (qAa .xor .i64 (qAa .and .i64 a b) (qAa .and .i64 a c)) (qAa .and .i64 b c)=mjI a b c:=by
 rw[qIc ha hb,qIc ha hc,qIc hb hc,qEd (an_W ha) (an_W ha),qEd (xr_W (an_W ha) (an_W ha)) (an_W hb)]
 rfl
theorem chI32{e f g:Int}(he:W32 e)(hf:W32 f)(hg:W32 g):qAa .xor .u32 (qAa .and .u32 e f) (qAa .and .u32 (wu32 (4294967295-e)) g)=chI e f g:=by
 have:wu32 (4294967295-e)=4294967295-e:=by obtain⟨h0,h1⟩:=he;rw[qIe];omega
 rw[this,qIb he hf,qIb (flip_W he) hg,qFX (an_W he) (an_W (flip_W he))]
 rfl
theorem mjI32{a b c:Int}(ha:W32 a)(hb:W32 b)(hc:W32 c):qAa .xor .u32 (qAa .xor .u32 (qAa .and .u32 a b) (qAa .and .u32 a c)) (qAa .and .u32 b c)=mjI a b c:=by
 rw[qIb ha hb,qIb ha hc,qIb hb hc,qFX (an_W ha) (an_W ha),qFX (xr_W (an_W ha) (an_W ha)) (an_W hb)]
 rfl
/-- A list is turned place by place, by another one of its length. -/
theorem loop_zip{R:Type}{step:(List Int×List Int×Int×Int×Unit→Option R)→List Int×List Int×Int×Int×Unit→Option R}(g:Int→Int→Int)(V L:List Int)(n:Int)(fin:List Int→Option R)(hl:V.length=L.length)(hs:∀again (W:List Int) (i:Nat),i<L.length→W.length=L.length→rdI W (i:Int)=rdI V (i:Int)→step again (W,(L,(n,((i:Int),()))))=again (W.set i (g (rdI W (i:Int)) (rdI L (i:Int))),(L,(n,(((i+1:Nat):Int),())))))(he:∀again,step again (List.zipWith g V L,(L,(n,((L.length:Int),()))))=fin (List.zipWith g V L))(k:Nat)(hk:L.length<k):qAG step k (V,(L,(n,((0:Nat):Int),())))=fin (List.zipWith g V L):=by
 have key:∀m i k,i+m=L.length→m<k→qAG step k ((List.zipWith g V L).take i++V.drop i,(L,(n,((i:Int),()))))=fin (List.zipWith g V L):=by
  intro m
  induction m with
  | zero =>
   intro i k h hk
   obtain⟨k,rfl⟩:∃k',k=k'+1:=⟨k-1,by omega⟩
   have:i=L.length:=by omega
   subst this
   show step _ _=_
   rw[List.take_of_length_le (by rw[List.length_zipWith];omega),List.drop_eq_nil_of_le (by omega),List.append_nil,he]
  | succ m ih =>
   intro i k h hk
   obtain⟨k,rfl⟩:∃k',k=k'+1:=⟨k-1,by omega⟩
   have hz:(List.zipWith g V L).length=L.length:=by rw[List.length_zipWith];omega
   have ht:((List.zipWith g V L).take i).length=i:=by rw[List.length_take];omega
   show step _ _=_
   have hi:i<V.length:=by omega
   have e1:rdI ((List.zipWith g V L).take i++V.drop i) (i:Int)=V[i]:=by
    rw[qFY _ i (by rw[List.length_append,ht,List.length_drop];omega),List.getElem_append_right (by omega),List.getElem_drop]
    congr 1
    omega
   rw[hs _ _ i (by omega) (by rw[List.length_append,ht,List.length_drop];omega) (by rw[e1,qFY V i hi])]
   have e2:((List.zipWith g V L).take i++V.drop i).set i (g V[i] L[i])=(List.zipWith g V L).take (i+1)++V.drop (i+1):=by
    rw[List.set_append_right _ _ (by omega),ht,Nat.sub_self,List.drop_eq_getElem_cons hi,List.set_cons_zero,List.take_succ_eq_append_getElem (by omega),List.getElem_zipWith,List.append_assoc]
    rfl
   rw[e1,qFY L i (by omega),e2]
   exact ih (i+1) k (by omega) (by omega)
 have:=key L.length 0 k (by omega) hk
 simpa using this
theorem loop_outs{R:Type}{step:(List Int×List Int×List Int×Int×Unit→Option R)→List Int×List Int×List Int×Int×Unit→Option R}(g:Int→Int→Int)(V L:List Int)(fin:List Int→Option R)(hl:V.length=L.length)(hs:∀again (out:List Int) (i:Nat),i<L.length→out.length=i→step again (V,(L,(out,((i:Int),()))))=again (V,(L,(out++[g (rdI V (i:Int)) (rdI L (i:Int))],(((i+1:Nat):Int),())))))(he:∀again (W:List Int),step again (V,(L,(W,((L.length:Int),()))))=fin W)(k:Nat)(hk:L.length<k):qAG step k (V,(L,(([]:List Int),((0:Nat):Int),())))=fin (List.zipWith g V L):=by
 have key:∀m i k,i+m=L.length→m<k→qAG step k (V,(L,((List.zipWith g V L).take i,((i:Int),()))))=fin (List.zipWith g V L):=by
  intro m
  induction m with
  | zero =>
   intro i k h hk
   obtain⟨k,rfl⟩:∃k',k=k'+1:=⟨k-1,by omega⟩
   have:i=L.length:=by omega
   subst this
   show step _ _=_
   rw[he,List.take_of_length_le (by rw[List.length_zipWith];omega)]
  | succ m ih =>
   intro i k h hk
   obtain⟨k,rfl⟩:∃k',k=k'+1:=⟨k-1,by omega⟩
   have hz:(List.zipWith g V L).length=L.length:=by rw[List.length_zipWith];omega
   show step _ _=_
   rw[hs _ _ i (by omega) (by rw[List.length_take];omega)]
   rw[qFY V i (by omega),qFY L i (by omega),←List.getElem_zipWith (f:=g) (l:=V) (l':=L) (i:=i) (h:=by omega),←List.take_succ_eq_append_getElem (by omega)]
   exact ih (i+1) k (by omega) (by omega)
 have:=key L.length 0 k (by omega) hk
 simpa using this
theorem zip_W(V L:List Int):allW (List.zipWith (fun x y=>(x+y) % 4294967296) V L):=by
 intro x hx
 obtain⟨i,hi,rfl⟩:=List.mem_iff_getElem.1 hx
 rw[List.getElem_zipWith]
 exact mod_W _
theorem T_bd{kt wt:Int}{s:St8}(hk:W32 kt)(hw:W32 wt)(h:allS s):(0≤T1 kt wt s∧T1 kt wt s<21474836480)∧(0≤T2 s∧T2 s<8589934592):=by
 obtain⟨ha,hb,hc,hd,he,hf,hg,hh⟩:=h
 obtain⟨x0,x1⟩:=bs_W (a:=6) (b:=11) (c:=25) (by omega) (by omega) (by omega) he
 obtain⟨y0,y1⟩:=ch_W (f:=s.2.2.2.2.2.1) (g:=s.2.2.2.2.2.2.1) he
 obtain⟨z0,z1⟩:=bs_W (a:=2) (b:=13) (c:=22) (by omega) (by omega) (by omega) ha
 obtain⟨u0,u1⟩:=mj_W (c:=s.2.2.1) ha hb
 obtain⟨k0,k1⟩:=hk
 obtain⟨w0,w1⟩:=hw
 obtain⟨h0,h1⟩:=hh
 unfold T1 T2
 omega
theorem i_round_is(k:Nat)(st b:ByteArray)(hst:st.size=32)(hb:b.size=64)(hk:1048576<k):i_round k (st,(b,()))=some (qAl (fl (blk (wd (qAF st)) b)),((),((),()))):=by
 unfold i_round
 simp only[expanded_is k b hb hk,i_wordsOf_is k st (by omega) (by omega),Option.bind_some]
 have hV:(wd (qAF st)).length=8:=by rw[wd_len,qAt,hst]
 have hVW:=wd_W (qEJ st)
 have hw:=exL_inv (w:=wd (qAF b)) ⟨by rw[wd_len,qAt,hb],wd_W (qEJ b)⟩
 unfold blk
 generalize exL (wd (qAF b))=W at *
 generalize wd (qAF st)=V at *
 unfold qFU
 simp only[Option.bind_some]
 have g:∀i:Nat,i<8→((i:Nat):Int)<(V.length:Int):=fun i hi=>by omega
 have g0:(0:Int)<(V.length:Int):=by omega
 have g1:(1:Int)<(V.length:Int):=by omega
 have g2:(2:Int)<(V.length:Int):=by omega
 have g3:(3:Int)<(V.length:Int):=by omega
 have g4:(4:Int)<(V.length:Int):=by omega
 have g5:(5:Int)<(V.length:Int):=by omega
 have g6:(6:Int)<(V.length:Int):=by omega
 have g7:(7:Int)<(V.length:Int):=by omega
 rw[if_pos ⟨by decide,g0⟩,if_pos ⟨by decide,g1⟩,if_pos ⟨by decide,g2⟩,if_pos ⟨by decide,g3⟩,if_pos ⟨by decide,g4⟩,if_pos ⟨by decide,g5⟩,if_pos ⟨by decide,g6⟩,if_pos ⟨by decide,g7⟩]
 simp only[qHQ]
 have hS:allS (ofL V):=⟨qHD (i:=0) hVW (by omega),qHD (i:=1) hVW (by omega),qHD (i:=2) hVW (by omega),qHD (i:=3) hVW (by omega),qHD (i:=4) hVW (by omega),qHD (i:=5) hVW (by omega),qHD (i:=6) hVW (by omega),qHD (i:=7) hVW (by omega)⟩
 generalize hC:((1116352408:Int),((1899447441:Int),((3049323471:Int),((3921009573:Int),((961987163:Int),((1508970993:Int),((2453635748:Int),((2870763221:Int),((3624381080:Int),((310598401:Int),((607225278:Int),((1426881987:Int),((1925078388:Int),((2162078206:Int),((2614888103:Int),((3248222580:Int),((3835390401:Int),((4022224774:Int),((264347078:Int),((604807628:Int),((770255983:Int),((1249150122:Int),((1555081692:Int),((1996064986:Int),((2554220882:Int),((2821834349:Int),((2952996808:Int),((3210313671:Int),((3336571891:Int),((3584528711:Int),((113926993:Int),((338241895:Int),((666307205:Int),((773529912:Int),((1294757372:Int),((1396182291:Int),((1695183700:Int),((1986661051:Int),((2177026350:Int),((2456956037:Int),((2730485921:Int),((2820302411:Int),((3259730800:Int),((3345764771:Int),((3516065817:Int),((3600352804:Int),((4094571909:Int),((275423344:Int),((430227734:Int),((506948616:Int),((659060556:Int),((883997877:Int),((958139571:Int),((1322822218:Int),((1537002063:Int),((1747873779:Int),((1955562222:Int),((2024104815:Int),((2227730452:Int),((2361852424:Int),((2428436474:Int),((2756734187:Int),((3204031479:Int),((3329325298:Int),()))))))))))))))))))))))))))))))))))))))))))))))))))))))))))))))))=C
 have hKL:[C.1,C.2.1,C.2.2.1,C.2.2.2.1,C.2.2.2.2.1,C.2.2.2.2.2.1,C.2.2.2.2.2.2.1,C.2.2.2.2.2.2.2.1,C.2.2.2.2.2.2.2.2.1,C.2.2.2.2.2.2.2.2.2.1,C.2.2.2.2.2.2.2.2.2.2.1,C.2.2.2.2.2.2.2.2.2.2.2.1,C.2.2.2.2.2.2.2.2.2.2.2.2.1,C.2.2.2.2.2.2.2.2.2.2.2.2.2.1,C.2.2.2.2.2.2.2.2.2.2.2.2.2.2.1,C.2.2.2.2.2.2.2.2.2.2.2.2.2.2.2.1,C.2.2.2.2.2.2.2.2.2.2.2.2.2.2.2.2.1,C.2.2.2.2.2.2.2.2.2.2.2.2.2.2.2.2.2.1,C.2.2.2.2.2.2.2.2.2.2.2.2.2.2.2.2.2.2.1,C.2.2.2.2.2.2.2.2.2.2.2.2.2.2.2.2.2.2.2.1,C.2.2.2.2.2.2.2.2.2.2.2.2.2.2.2.2.2.2.2.2.1,C.2.2.2.2.2.2.2.2.2.2.2.2.2.2.2.2.2.2.2.2.2.1,C.2.2.2.2.2.2.2.2.2.2.2.2.2.2.2.2.2.2.2.2.2.2.1,C.2.2.2.2.2.2.2.2.2.2.2.2.2.2.2.2.2.2.2.2.2.2.2.1,C.2.2.2.2.2.2.2.2.2.2.2.2.2.2.2.2.2.2.2.2.2.2.2.2.1,C.2.2.2.2.2.2.2.2.2.2.2.2.2.2.2.2.2.2.2.2.2.2.2.2.2.1,C.2.2.2.2.2.2.2.2.2.2.2.2.2.2.2.2.2.2.2.2.2.2.2.2.2.2.1,C.2.2.2.2.2.2.2.2.2.2.2.2.2.2.2.2.2.2.2.2.2.2.2.2.2.2.2.1,C.2.2.2.2.2.2.2.2.2.2.2.2.2.2.2.2.2.2.2.2.2.2.2.2.2.2.2.2.1,C.2.2.2.2.2.2.2.2.2.2.2.2.2.2.2.2.2.2.2.2.2.2.2.2.2.2.2.2.2.1,C.2.2.2.2.2.2.2.2.2.2.2.2.2.2.2.2.2.2.2.2.2.2.2.2.2.2.2.2.2.2.1,C.2.2.2.2.2.2.2.2.2.2.2.2.2.2.2.2.2.2.2.2.2.2.2.2.2.2.2.2.2.2.2.1,C.2.2.2.2.2.2.2.2.2.2.2.2.2.2.2.2.2.2.2.2.2.2.2.2.2.2.2.2.2.2.2.2.1,C.2.2.2.2.2.2.2.2.2.2.2.2.2.2.2.2.2.2.2.2.2.2.2.2.2.2.2.2.2.2.2.2.2.1,C.2.2.2.2.2.2.2.2.2.2.2.2.2.2.2.2.2.2.2.2.2.2.2.2.2.2.2.2.2.2.2.2.2.2.1,C.2.2.2.2.2.2.2.2.2.2.2.2.2.2.2.2.2.2.2.2.2.2.2.2.2.2.2.2.2.2.2.2.2.2.2.1,C.2.2.2.2.2.2.2.2.2.2.2.2.2.2.2.2.2.2.2.2.2.2.2.2.2.2.2.2.2.2.2.2.2.2.2.2.1,C.2.2.2.2.2.2.2.2.2.2.2.2.2.2.2.2.2.2.2.2.2.2.2.2.2.2.2.2.2.2.2.2.2.2.2.2.2.1,C.2.2.2.2.2.2.2.2.2.2.2.2.2.2.2.2.2.2.2.2.2.2.2.2.2.2.2.2.2.2.2.2.2.2.2.2.2.2.1,C.2.2.2.2.2.2.2.2.2.2.2.2.2.2.2.2.2.2.2.2.2.2.2.2.2.2.2.2.2.2.2.2.2.2.2.2.2.2.2.1,C.2.2.2.2.2.2.2.2.2.2.2.2.2.2.2.2.2.2.2.2.2.2.2.2.2.2.2.2.2.2.2.2.2.2.2.2.2.2.2.2.1,C.2.2.2.2.2.2.2.2.2.2.2.2.2.2.2.2.2.2.2.2.2.2.2.2.2.2.2.2.2.2.2.2.2.2.2.2.2.2.2.2.2.1,C.2.2.2.2.2.2.2.2.2.2.2.2.2.2.2.2.2.2.2.2.2.2.2.2.2.2.2.2.2.2.2.2.2.2.2.2.2.2.2.2.2.2.1,C.2.2.2.2.2.2.2.2.2.2.2.2.2.2.2.2.2.2.2.2.2.2.2.2.2.2.2.2.2.2.2.2.2.2.2.2.2.2.2.2.2.2.2.1,C.2.2.2.2.2.2.2.2.2.2.2.2.2.2.2.2.2.2.2.2.2.2.2.2.2.2.2.2.2.2.2.2.2.2.2.2.2.2.2.2.2.2.2.2.1,C.2.2.2.2.2.2.2.2.2.2.2.2.2.2.2.2.2.2.2.2.2.2.2.2.2.2.2.2.2.2.2.2.2.2.2.2.2.2.2.2.2.2.2.2.2.1,C.2.2.2.2.2.2.2.2.2.2.2.2.2.2.2.2.2.2.2.2.2.2.2.2.2.2.2.2.2.2.2.2.2.2.2.2.2.2.2.2.2.2.2.2.2.2.1,C.2.2.2.2.2.2.2.2.2.2.2.2.2.2.2.2.2.2.2.2.2.2.2.2.2.2.2.2.2.2.2.2.2.2.2.2.2.2.2.2.2.2.2.2.2.2.2.1,C.2.2.2.2.2.2.2.2.2.2.2.2.2.2.2.2.2.2.2.2.2.2.2.2.2.2.2.2.2.2.2.2.2.2.2.2.2.2.2.2.2.2.2.2.2.2.2.2.1,C.2.2.2.2.2.2.2.2.2.2.2.2.2.2.2.2.2.2.2.2.2.2.2.2.2.2.2.2.2.2.2.2.2.2.2.2.2.2.2.2.2.2.2.2.2.2.2.2.2.1,C.2.2.2.2.2.2.2.2.2.2.2.2.2.2.2.2.2.2.2.2.2.2.2.2.2.2.2.2.2.2.2.2.2.2.2.2.2.2.2.2.2.2.2.2.2.2.2.2.2.2.1,C.2.2.2.2.2.2.2.2.2.2.2.2.2.2.2.2.2.2.2.2.2.2.2.2.2.2.2.2.2.2.2.2.2.2.2.2.2.2.2.2.2.2.2.2.2.2.2.2.2.2.2.1,C.2.2.2.2.2.2.2.2.2.2.2.2.2.2.2.2.2.2.2.2.2.2.2.2.2.2.2.2.2.2.2.2.2.2.2.2.2.2.2.2.2.2.2.2.2.2.2.2.2.2.2.2.1,C.2.2.2.2.2.2.2.2.2.2.2.2.2.2.2.2.2.2.2.2.2.2.2.2.2.2.2.2.2.2.2.2.2.2.2.2.2.2.2.2.2.2.2.2.2.2.2.2.2.2.2.2.2.1,C.2.2.2.2.2.2.2.2.2.2.2.2.2.2.2.2.2.2.2.2.2.2.2.2.2.2.2.2.2.2.2.2.2.2.2.2.2.2.2.2.2.2.2.2.2.2.2.2.2.2.2.2.2.2.1,C.2.2.2.2.2.2.2.2.2.2.2.2.2.2.2.2.2.2.2.2.2.2.2.2.2.2.2.2.2.2.2.2.2.2.2.2.2.2.2.2.2.2.2.2.2.2.2.2.2.2.2.2.2.2.2.1,C.2.2.2.2.2.2.2.2.2.2.2.2.2.2.2.2.2.2.2.2.2.2.2.2.2.2.2.2.2.2.2.2.2.2.2.2.2.2.2.2.2.2.2.2.2.2.2.2.2.2.2.2.2.2.2.2.1,C.2.2.2.2.2.2.2.2.2.2.2.2.2.2.2.2.2.2.2.2.2.2.2.2.2.2.2.2.2.2.2.2.2.2.2.2.2.2.2.2.2.2.2.2.2.2.2.2.2.2.2.2.2.2.2.2.2.1,C.2.2.2.2.2.2.2.2.2.2.2.2.2.2.2.2.2.2.2.2.2.2.2.2.2.2.2.2.2.2.2.2.2.2.2.2.2.2.2.2.2.2.2.2.2.2.2.2.2.2.2.2.2.2.2.2.2.2.1,C.2.2.2.2.2.2.2.2.2.2.2.2.2.2.2.2.2.2.2.2.2.2.2.2.2.2.2.2.2.2.2.2.2.2.2.2.2.2.2.2.2.2.2.2.2.2.2.2.2.2.2.2.2.2.2.2.2.2.2.1,C.2.2.2.2.2.2.2.2.2.2.2.2.2.2.2.2.2.2.2.2.2.2.2.2.2.2.2.2.2.2.2.2.2.2.2.2.2.2.2.2.2.2.2.2.2.2.2.2.2.2.2.2.2.2.2.2.2.2.2.2.1,C.2.2.2.2.2.2.2.2.2.2.2.2.2.2.2.2.2.2.2.2.2.2.2.2.2.2.2.2.2.2.2.2.2.2.2.2.2.2.2.2.2.2.2.2.2.2.2.2.2.2.2.2.2.2.2.2.2.2.2.2.2.1,C.2.2.2.2.2.2.2.2.2.2.2.2.2.2.2.2.2.2.2.2.2.2.2.2.2.2.2.2.2.2.2.2.2.2.2.2.2.2.2.2.2.2.2.2.2.2.2.2.2.2.2.2.2.2.2.2.2.2.2.2.2.2.1,C.2.2.2.2.2.2.2.2.2.2.2.2.2.2.2.2.2.2.2.2.2.2.2.2.2.2.2.2.2.2.2.2.2.2.2.2.2.2.2.2.2.2.2.2.2.2.2.2.2.2.2.2.2.2.2.2.2.2.2.2.2.2.2.1]=KL:=by subst hC;rfl
 clear hC
 refine(qDQ (A:=St8) (fun t s=>(C,(W,(V,(s.1,(s.2.1,(s.2.2.1,(s.2.2.2.1,(s.2.2.2.2.1,(s.2.2.2.2.2.1,(s.2.2.2.2.2.2.1,(s.2.2.2.2.2.2.2,((t:Int),()))))))))))))) 64 (rdG KL W) (fun s=>some (qAl (fl (List.zipWith (fun x y=>(x+y) % 4294967296) V (toL s))),((),((),())))) (fun _ s=>allS s) ?_ ?_ 64 0 (ofL V) k (by omega) hS (by omega)).trans rfl
 ·intro again t s ht hs
  refine⟨?_,rdG_W hs⟩
  obtain⟨a,b,c,d,e,f,g,h⟩:=s
  obtain⟨ha,hb,hc,hd,he,hf,hg,hh⟩:=hs
  simp only at ha hb hc hd he hf hg hh
  have c1:(t:Int)<64:=by omega
  have c2:(0:Int)≤(t:Int):=by omega
  have c3:(t:Int)<(KL.length:Int):=by rw[KL_len];omega
  have c4:(t:Int)<(W.length:Int):=by omega
  have w1:wi64 ((t:Int)+1)=((t+1:Nat):Int):=(qAH _ (by omega)).trans (by omega)
  have r6:qAf k (e,((6:Int),()))=_:=qBc k (n:=6) (by omega) he
  have r11:qAf k (e,((11:Int),()))=_:=qBc k (n:=11) (by omega) he
  have r25:qAf k (e,((25:Int),()))=_:=qBc k (n:=25) (by omega) he
  have r2:qAf k (a,((2:Int),()))=_:=qBc k (n:=2) (by omega) ha
  have r13:qAf k (a,((13:Int),()))=_:=qBc k (n:=13) (by omega) ha
  have r22:qAf k (a,((22:Int),()))=_:=qBc k (n:=22) (by omega) ha
  have hkt:W32 (rdI KL (t:Int)):=qHD KL_W (by rw[KL_len];omega)
  have hwt:W32 (rdI W (t:Int)):=qHD hw.2 (by omega)
  have b1:=bsI_is (a:=6) (b:=11) (c:=25) (by omega) (by omega) (by omega) he
  have b0:=bsI_is (a:=2) (b:=13) (c:=22) (by omega) (by omega) (by omega) ha
  obtain⟨⟨q0,q1⟩,⟨q2,q3⟩⟩:=T_bd (s:=(a,b,c,d,e,f,g,h)) hkt hwt ⟨ha,hb,hc,hd,he,hf,hg,hh⟩
  have hT1:wi64 (wi64 (wi64 (wi64 (h+bs 6 11 25 e)+chI e f g)+rdI KL (t:Int))+rdI W (t:Int))=T1 (rdI KL (t:Int)) (rdI W (t:Int)) (a,b,c,d,e,f,g,h):=by
   obtain⟨x0,x1⟩:=bs_W (a:=6) (b:=11) (c:=25) (by omega) (by omega) (by omega) he
   obtain⟨y0,y1⟩:=ch_W (f:=f) (g:=g) he
   obtain⟨k0,k1⟩:=hkt
   obtain⟨v0,v1⟩:=hwt
   obtain⟨h0,h1⟩:=hh
   rw[show wi64 (h+bs 6 11 25 e)=_ from qAH _ (by omega),show wi64 (h+bs 6 11 25 e+chI e f g)=_ from qAH _ (by omega),show wi64 (h+bs 6 11 25 e+chI e f g+rdI KL (t:Int))=_ from qAH _ (by omega)]
   exact qAH _ (by omega)
  have hT2:wi64 (bs 2 13 22 a+mjI a b c)=T2 (a,b,c,d,e,f,g,h):=qAH _ (by simp only[T2] at q2 q3;omega)
  have m1:qAa .and .i64 (wi64 (T1 (rdI KL (t:Int)) (rdI W (t:Int)) (a,b,c,d,e,f,g,h)+T2 (a,b,c,d,e,f,g,h))) 4294967295=(T1 (rdI KL (t:Int)) (rdI W (t:Int)) (a,b,c,d,e,f,g,h)+T2 (a,b,c,d,e,f,g,h)) % 4294967296:=by
   rw[show wi64 (T1 (rdI KL (t:Int)) (rdI W (t:Int)) (a,b,c,d,e,f,g,h)+T2 (a,b,c,d,e,f,g,h))=_ from qAH _ (by omega)]
   exact mask_is (by omega) (by omega)
  have m2:qAa .and .i64 (wi64 (d+T1 (rdI KL (t:Int)) (rdI W (t:Int)) (a,b,c,d,e,f,g,h))) 4294967295=(d+T1 (rdI KL (t:Int)) (rdI W (t:Int)) (a,b,c,d,e,f,g,h)) % 4294967296:=by
   obtain⟨d0,d1⟩:=hd
   rw[show wi64 (d+T1 (rdI KL (t:Int)) (rdI W (t:Int)) (a,b,c,d,e,f,g,h))=_ from qAH _ (by omega)]
   exact mask_is (by omega) (by omega)
  simp only[c1,c2,c4,hKL,c3,w1,r6,r11,r25,r2,r13,r22,b1,b0,chI64 he hf hg,mjI64 ha hb hc,hT1,hT2,m1,m2,and_self,decide_true,if_true,Option.bind_some]
  rfl
 ·intro again s hs
  obtain⟨a,b,c,d,e,f,g,h⟩:=s
  have c64:¬((64:Nat):Int)<64:=by decide
  simp only[c64,decide_false,Bool.false_eq_true,if_false]
  have hLW:allW [a,b,c,d,e,f,g,h]:=by
   obtain⟨ha,hb,hc,hd,he,hf,hg,hh⟩:=hs
   simp only[qId]
   exact⟨ha,hb,hc,hd,he,hf,hg,hh,by intro x hx;cases hx⟩
  have hL:[a,b,c,d,e,f,g,h].length=8:=rfl
  show _=some (qAl (fl (List.zipWith (fun x y=>(x+y) % 4294967296) V [a,b,c,d,e,f,g,h])),((),((),())))
  generalize [a,b,c,d,e,f,g,h]=L at *
  refine(loop_zip (fun x y=>(x+y) % 4294967296) V L (L.length:Int) (fun l=>some (qAl (fl l),((),((),())))) (by omega) ?_ ?_ k (by omega)).trans rfl
  ·intro again U i hi hU hUi
   have c1:(i:Int)<(L.length:Int):=by omega
   have c2:(0:Int)≤(i:Int):=by omega
   have c3:(i:Int)<(U.length:Int):=by omega
   have w1:wi64 ((i:Int)+1)=((i+1:Nat):Int):=(qAH _ (by omega)).trans (by omega)
   obtain⟨x0,x1⟩:=qHD hVW (i:=i) (by omega)
   obtain⟨y0,y1⟩:=qHD hLW (i:=i) (by omega)
   have m:qAa .and .i64 (wi64 (rdI U (i:Int)+rdI L (i:Int))) 4294967295=(rdI U (i:Int)+rdI L (i:Int)) % 4294967296:=by
    rw[hUi,show wi64 (rdI V (i:Int)+rdI L (i:Int))=_ from qAH _ (by omega)]
    exact mask_is (by omega) (by omega)
   simp only[c1,c2,c3,w1,qHQ,m,Int.toNat_natCast,and_self,decide_true,if_true]
  ·intro again
   have c:¬(L.length:Int)<(L.length:Int):=by omega
   simp only[c,decide_false,Bool.false_eq_true,if_false,qHR k _ (show(List.zipWith (fun x y=>(x+y) % 4294967296) V L).length≤1000 by rw[List.length_zipWith];omega) (zip_W V L) (by rw[List.length_zipWith];omega),Option.bind_some]
def shG(j:Nat)(v:List Int):List Int:=v.set (7-j) (rdI v ((7-j-1:Nat):Int))
theorem shG_len{j:Nat}{v:List Int}(h:v.length=8):(shG j v).length=8:=by simp[shG,h]
theorem s_round_is(k:Nat)(st:List Int)(b:ByteArray)(hst:st.length=8)(hsW:allW st)(hb:b.size=64)(hk:1048576<k):qDo k (st,(KL,(b,())))=some (blk st b,((),((),((),())))):=by
 unfold qDo
 simp only[qHq k b (by omega) (by omega),Option.bind_some]
 have h0:(wd (qAF b)).length=16∧allW (wd (qAF b)):=⟨by rw[wd_len,qAt,hb],wd_W (qEJ b)⟩
 have hw:=exL_inv h0
 refine(qDQ (A:=List Int) (fun i w=>(st,(KL,(w,((i:Int),()))))) 64 exG (fun w=>some (List.zipWith (fun x y=>(x+y) % 4294967296) st (toL (rds KL w (ofL st))),((),((),((),()))))) (fun t w=>16≤t∧w.length=t∧allW w) ?_ ?_ 48 16 (wd (qAF b)) k (by omega) ⟨by omega,h0⟩ (by omega)).trans rfl
 ·intro again t w ht hw
  obtain⟨g2,g7,g15,g16,e2,e7,e15,e16,e1,c2,c7,c15,c16⟩:=ex_step ⟨hw.1,ht⟩ hw.2
  have c:(t:Int)<64:=by omega
  refine⟨?_,by omega,exG_inv hw.2⟩
  have hc:w.length+1≤capMax:=qGb _ _ (by omega)
  have nn:∀m:Nat,(0:Int)≤(m:Int):=fun m=>Int.natCast_nonneg m
  have s1:=sgS_is k (lo1:=131072) (lo2:=524288) (c:=1024) (a:=17) (b:=19) (by omega) (by omega) (by decide) (by decide) (by decide) (by decide) (by decide) g2
  have s0:=sgS_is k (lo1:=128) (lo2:=262144) (c:=8) (a:=7) (b:=18) (by omega) (by omega) (by decide) (by decide) (by decide) (by decide) (by decide) g15
  have hm:wu32 (wu32 (wu32 (sg 17 19 1024 (rdI w ((t-2:Nat):Int))+rdI w ((t-7:Nat):Int))+sg 7 18 8 (rdI w ((t-15:Nat):Int)))+rdI w ((t-16:Nat):Int))=exW w t:=by
   simp only[qIe,exW]
   omega
  simp only[c,e1,e2,e7,e15,e16,c2,c7,c15,c16,nn,qHQ,s1,s0,hm,hc,and_self,decide_true,if_true,Option.bind_some,List.length_singleton]
  rfl
 ·intro again w hw
  obtain⟨_,hwl,hwW⟩:=hw
  have c64:¬((64:Nat):Int)<64:=by decide
  have hcap:([]:List Int).length+st.length≤capMax:=qGb _ _ (by rw[hst];simp)
  simp only[c64,hcap,decide_false,Bool.false_eq_true,if_false,if_true,List.nil_append]
  obtain⟨s8,hs8⟩:∃s8:St8,toL s8=st∧allS s8∧ofL st=s8:=by
   match st,hst,hsW with
   | [a,b,c,d,e,f,g,h],_,hW =>
    simp only[qId] at hW
    obtain⟨ha,hb,hc,hd,he,hf,hg,hh,_⟩:=hW
    exact⟨(a,b,c,d,e,f,g,h),rfl,⟨ha,hb,hc,hd,he,hf,hg,hh⟩,rfl⟩
  obtain⟨e8,hS,eo⟩:=hs8
  subst e8
  rw[eo]
  clear eo
  refine(qDQ (A:=St8) (fun t s=>(toL s8,(KL,(w,(toL s,((t:Int),())))))) 64 (rdG KL w) (fun s=>some (List.zipWith (fun x y=>(x+y) % 4294967296) (toL s8) (toL s),((),((),((),()))))) (fun _ s=>allS s) ?_ ?_ 64 0 s8 k (by omega) hS (by omega)).trans rfl
  ·intro again t s ht hs
   refine⟨?_,rdG_W hs⟩
   obtain⟨a,b,c,d,e,f,g,h⟩:=s
   obtain⟨ha,hb,hc,hd,he,hf,hg,hh⟩:=hs
   simp only at ha hb hc hd he hf hg hh
   have c1:(t:Int)<64:=by omega
   have c2:(0:Int)≤(t:Int):=by omega
   have c3:(t:Int)<(KL.length:Int):=by rw[KL_len];omega
   have c4:(t:Int)<(w.length:Int):=by omega
   have w1:wi64 ((t:Int)+1)=((t+1:Nat):Int):=(qAH _ (by omega)).trans (by omega)
   have b1:=bsS_is k (lo1:=64) (lo2:=2048) (lo3:=33554432) (a:=6) (b:=11) (c:=25) (by omega) (by omega) (by omega) (by decide) (by decide) (by decide) (by decide) (by decide) (by decide) he
   have b0:=bsS_is k (lo1:=4) (lo2:=8192) (lo3:=4194304) (a:=2) (b:=13) (c:=22) (by omega) (by omega) (by omega) (by decide) (by decide) (by decide) (by decide) (by decide) (by decide) ha
   have l8:(toL (a,b,c,d,e,f,g,h)).length=8:=rfl
   have i0:(0:Int)<((8:Nat):Int):=by decide
   have i1:(1:Int)<((8:Nat):Int):=by decide
   have i2:(2:Int)<((8:Nat):Int):=by decide
   have i4:(4:Int)<((8:Nat):Int):=by decide
   have i5:(5:Int)<((8:Nat):Int):=by decide
   have i6:(6:Int)<((8:Nat):Int):=by decide
   have i7:(7:Int)<((8:Nat):Int):=by decide
   have j0:(0:Int)≤0:=by decide
   have j1:(0:Int)≤1:=by decide
   have j2:(0:Int)≤2:=by decide
   have j4:(0:Int)≤4:=by decide
   have j5:(0:Int)≤5:=by decide
   have j6:(0:Int)≤6:=by decide
   have j7:(0:Int)≤7:=by decide
   have d0:rdI (toL (a,b,c,d,e,f,g,h)) 0=a:=rfl
   have d1:rdI (toL (a,b,c,d,e,f,g,h)) 1=b:=rfl
   have d2:rdI (toL (a,b,c,d,e,f,g,h)) 2=c:=rfl
   have d4:rdI (toL (a,b,c,d,e,f,g,h)) 4=e:=rfl
   have d5:rdI (toL (a,b,c,d,e,f,g,h)) 5=f:=rfl
   have d6:rdI (toL (a,b,c,d,e,f,g,h)) 6=g:=rfl
   have d7:rdI (toL (a,b,c,d,e,f,g,h)) 7=h:=rfl
   simp only[c1,c2,c3,c4,l8,i0,i1,i2,i4,i5,i6,i7,j0,j1,j2,j4,j5,j6,j7,qHQ,d0,d1,d2,d4,d5,d6,d7,b1,b0,chI32 he hf hg,mjI32 ha hb hc,and_self,decide_true,if_true,Option.bind_some]
   have hT1:wu32 (wu32 (wu32 (wu32 (h+bs 6 11 25 e)+chI e f g)+rdI KL (t:Int))+rdI w (t:Int))=T1 (rdI KL (t:Int)) (rdI w (t:Int)) (a,b,c,d,e,f,g,h) % 4294967296:=by
    simp only[qIe,T1]
    omega
   have hT2:wu32 (bs 2 13 22 a+mjI a b c)=T2 (a,b,c,d,e,f,g,h) % 4294967296:=by
    simp only[qIe,T2]
   rw[hT1,hT2]
   generalize hA:T1 (rdI KL (t:Int)) (rdI w (t:Int)) (a,b,c,d,e,f,g,h)=A1
   generalize hB:T2 (a,b,c,d,e,f,g,h)=A2
   refine(qDQ (A:=List Int) (fun j v=>(toL s8,(KL,(w,(v,((t:Int),(A1 % 4294967296,(A2 % 4294967296,(((7-j:Nat):Int),()))))))))) 7 shG (fun v=>again (toL s8,(KL,(w,((v.set 4 (wu32 (rdI v 4+A1 % 4294967296))).set 0 (wu32 (A1 % 4294967296+A2 % 4294967296)),(((t+1:Nat):Int),())))))) (fun _ v=>v.length=8) ?_ ?_ 7 0 _ k (by omega) l8 (by omega)).trans ?_
   ·intro again2 j v hj hv
    refine⟨?_,shG_len hv⟩
    have q1:(0:Int)<((7-j:Nat):Int):=by omega
    have q2:wi64 (((7-j:Nat):Int)-1)=((7-(j+1):Nat):Int):=(qAH _ (by omega)).trans (by omega)
    have q3:(0:Int)≤((7-(j+1):Nat):Int)∧((7-(j+1):Nat):Int)<(v.length:Int):=by omega
    have q4:(0:Int)≤((7-j:Nat):Int)∧((7-j:Nat):Int)<(v.length:Int):=by omega
    simp only[q1,q2,q3,q4,qHQ,Int.toNat_natCast,and_self,decide_true,if_true]
    rfl
   ·intro again2 v hv
    have q1:¬(0:Int)<((7-7:Nat):Int):=by decide
    have q2:(0:Int)≤4∧(4:Int)<(v.length:Int):=by omega
    have q3:(0:Int)≤0∧(0:Int)<(((v.set (Int.toNat 4) (wu32 (rdI v 4+A1 % 4294967296))).length:Nat):Int):=by rw[List.length_set];omega
    simp only[q1,q2,q3,w1,qHQ,and_self,decide_false,Bool.false_eq_true,if_true,if_false]
    rfl
   ·have e1:wu32 (d+A1 % 4294967296)=(d+A1) % 4294967296:=by rw[qIe];omega
    have e2:wu32 (A1 % 4294967296+A2 % 4294967296)=(A1+A2) % 4294967296:=by rw[qIe];omega
    show again (toL s8,(KL,(w,([wu32 (A1 % 4294967296+A2 % 4294967296),a,b,c,wu32 (d+A1 % 4294967296),e,f,g],(((t+1:Nat):Int),())))))=again (toL s8,(KL,(w,(toL (rdG KL w t (a,b,c,d,e,f,g,h)),(((t+1:Nat):Int),())))))
    rw[e1,e2]
    unfold rdG
    simp only[hA,hB]
    rfl
  ·intro again s hs
   have c64':¬((64:Nat):Int)<64:=by decide
   simp only[c64',decide_false,Bool.false_eq_true,if_false]
   have l1:(toL s8).length=8:=rfl
   have l2:(toL s).length=8:=rfl
   generalize toL s8=V at *
   generalize toL s=L at *
   refine(loop_outs (fun x y=>(x+y) % 4294967296) V L (fun l=>some (l,((),((),((),()))))) (by omega) ?_ ?_ k (by omega)).trans rfl
   ·intro again2 out i hi ho
    have c1:(i:Int)<8:=by omega
    have c2:(0:Int)≤(i:Int):=by omega
    have c3:(i:Int)<(V.length:Int):=by omega
    have c4:(i:Int)<(L.length:Int):=by omega
    have w1:wi64 ((i:Int)+1)=((i+1:Nat):Int):=(qAH _ (by omega)).trans (by omega)
    have hc:out.length+1≤capMax:=qGb _ _ (by omega)
    simp only[c1,c2,c3,c4,w1,qHQ,qIe,hc,and_self,decide_true,if_true,List.length_singleton]
   ·intro again2 U
    have c:¬(L.length:Int)<8:=by omega
    simp only[c,decide_false,Bool.false_eq_true,if_false]
def runD:Nat→List Int→List Int→List Int×List Int
 | 0,st,l=>(st,l)
 | n+1,st,l=>if 64≤l.length then runD n (blk st (qAl (l.take 64))) (l.drop 64) else(st,l)
theorem qDK{n:Nat}{st l:List Int}(h:l.length<64):runD n st l=(st,l):=by
 cases n with
 | zero=>rfl
 | succ n=>rw[runD,if_neg (by omega)]
theorem runD_fuel:∀{n m:Nat} {st l:List Int},l.length / 64≤n→l.length / 64≤m→runD n st l=runD m st l
 | 0,m,st,l,h,_=>by rw[qDK (by omega),qDK (by omega)]
 | n+1,0,st,l,_,h=>by rw[qDK (by omega),qDK (by omega)]
 | n+1,m+1,st,l,h,h'=>by
  rw[runD,runD]
  split
  ·exact runD_fuel (by rw[List.length_drop];omega) (by rw[List.length_drop];omega)
  ·rfl
theorem runD_inv:∀{n:Nat} {st l:List Int},st.length=8→allW st→l.length / 64≤n→(runD n st l).1.length=8∧allW (runD n st l).1∧(runD n st l).2.length=l.length % 64
 | 0,st,l,h,hw,hn=>by rw[qDK (by omega)];exact⟨h,hw,by show l.length=_;omega⟩
 | n+1,st,l,h,hw,hn=>by
  rw[runD]
  split
  ·obtain⟨b1,b2⟩:=blk_inv (b:=qAl (l.take 64)) h
   obtain⟨c1,c2,c3⟩:=runD_inv (n:=n) (l:=l.drop 64) b1 b2 (by rw[List.length_drop];omega)
   refine⟨c1,c2,?_⟩
   rw[c3,List.length_drop]
   omega
  ·exact⟨h,hw,by show l.length=_;omega⟩
theorem runD_isB:∀{n:Nat} {st l:List Int},isB l→isB (runD n st l).2
 | 0,st,l,h=>h
 | n+1,st,l,h=>by
  rw[runD]
  split
  ·exact runD_isB (isB_drop h 64)
  ·exact h
theorem runD_append:∀{n m:Nat} {st a b:List Int},a.length / 64≤n→(a++b).length / 64≤m→runD m st (a++b)=runD m (runD n st a).1 ((runD n st a).2++b)
 | 0,m,st,a,b,h,_=>rfl
 | n+1,m,st,a,b,h,hm=>by
  rw[show runD (n+1) st a=if 64≤a.length then runD n (blk st (qAl (a.take 64))) (a.drop 64) else(st,a) from rfl]
  split
  ·rename_i h64
   rw[List.length_append] at hm
   obtain⟨m,rfl⟩:∃m',m=m'+1:=⟨m-1,by omega⟩
   rw[show runD (m+1) st (a++b)=if 64≤(a++b).length then runD m (blk st (qAl ((a++b).take 64))) ((a++b).drop 64) else(st,a++b) from rfl,if_pos (by rw[List.length_append];omega),List.take_append_of_le_length h64,List.drop_append_of_le_length h64]
   have:=runD_append (n:=n) (m:=m) (st:=blk st (qAl (a.take 64))) (a:=a.drop 64) (b:=b) (by rw[List.length_drop];omega) (by rw[List.length_append,List.length_drop];omega)
   rw[this]
   have hl:(runD n (blk st (qAl (a.take 64))) (a.drop 64)).2.length≤a.length-64:=by
    have:∀{n:Nat} {st l:List Int},(runD n st l).2.length≤l.length:=by
     intro n
     induction n with
     | zero=>intro st l;exact Nat.le_refl _
     | succ n ih =>
      intro st l
      rw[runD]
      split
      ·exact Nat.le_trans ih (by rw[List.length_drop];omega)
      ·exact Nat.le_refl _
    exact Nat.le_trans this (by rw[List.length_drop];omega)
   exact runD_fuel (by rw[List.length_append];omega) (by rw[List.length_append];omega)
  ·rfl
def H0:List Int:=[1779033703,3144134277,1013904242,2773480762,1359893119,2600822924,528734635,1541459225]
theorem H0_W:allW H0:=by
 have:H0.all (fun x=>decide (0≤x∧x<4294967296))=true:=by decide
 intro x hx
 have:=List.all_eq_true.1 this x hx
 simpa [W32] using this
def padL(n:Nat):List Int:=128::(List.replicate ((119-n % 64) % 64) 0++(four ((8*n / 4294967296:Nat):Int)++four ((8*n % 4294967296:Nat):Int)))
theorem padL_len(n:Nat):(padL n).length=(119-n % 64) % 64+9:=by simp only[padL,List.length_cons,List.length_append,List.length_replicate,four,List.length_nil]
theorem padL_isB(n:Nat):isB (padL n):=by
 unfold padL
 rw[isB_cons,isB_append,isB_append]
 refine⟨by omega,?_,four_isB _,four_isB _⟩
 intro x hx
 have:=List.eq_of_mem_replicate hx
 omega
def digL(l:List Int):List Int:=(runD (l.length+200) H0 (l++padL l.length)).1
def dg(s:ByteArray):ByteArray:=qAl (fl (digL (qAF s)))
theorem digL_inv(l:List Int):(digL l).length=8∧allW (digL l):=by
 have:=runD_inv (n:=l.length+200) (st:=H0) (l:=l++padL l.length) rfl H0_W (by rw[List.length_append,padL_len];omega)
 exact⟨this.1,this.2.1⟩
theorem qEk(s:ByteArray):(dg s).size=32:=by rw[dg,qCS,fl_len,(digL_inv _).1]
theorem bytesOf_repeat(c:Nat):qAF (⟨(Lib.repeatL (⟨#[0]⟩:ByteArray).data.toList c).toArray⟩:ByteArray)=List.replicate c 0:=by
 show(Lib.repeatL [0] c).map _=_
 induction c with
 | zero=>rfl
 | succ c ih=>rw[Lib.repeatL,List.map_append,ih,List.replicate_succ];rfl
theorem padding_is(k c:Nat)(hc:c≤1073741824):qGX k ((c:Int),())=some (qAl (padL c),((),())):=by
 unfold qGX qDf repF
 have e1:Int.tmod (wi64 ((119:Int)-(Int.tmod (c:Int) (64:Int)))) (64:Int)=(((119-c % 64) % 64:Nat):Int):=by
  have i1:Int.tmod (c:Int) 64=(c:Int) % 64:=Int.tmod_eq_emod_of_nonneg (by omega)
  rw[i1,show wi64 ((119:Int)-(c:Int) % 64)=(119:Int)-(c:Int) % 64 from qAH _ (by omega),Int.tmod_eq_emod_of_nonneg (by omega)]
  omega
 have e2:wi64 ((8:Int)*(c:Int))=((8*c:Nat):Int):=(qAH _ (by omega)).trans (by omega)
 have e3:Int.fdiv ((8*c:Nat):Int) (2^(min (Int.toNat (32:Int)) (IntKind.bits .i64)))=((8*c / 4294967296:Nat):Int):=by rw[Int.fdiv_eq_ediv_of_nonneg _ (by decide)];rfl
 have e4:qAa .and .i64 ((8*c:Nat):Int) 4294967295=((8*c % 4294967296:Nat):Int):=by rw[mask_is (by omega) (by omega)];omega
 have hz:(119-c % 64) % 64<64:=Nat.mod_lt _ (by omega)
 have cond:(0:Int)≤(((119-c % 64) % 64:Nat):Int)∧(((119-c % 64) % 64:Nat):Int)≤9223372036854775807∧(⟨#[0]⟩:ByteArray).size*(((119-c % 64) % 64:Nat):Int).toNat≤140737488355328:=by
  refine⟨by omega,by omega,?_⟩
  rw[Int.toNat_natCast]
  show 1*_≤_
  omega
 have W1:W32 ((8*c / 4294967296:Nat):Int):=⟨by omega,by omega⟩
 have W2:W32 ((8*c % 4294967296:Nat):Int):=⟨by omega,by omega⟩
 simp only[e1,e2,e3,e4,qFZ k W1,qFZ k W2,Option.bind_some]
 rw[if_pos cond]
 simp only[Option.bind_some,Int.toNat_natCast]
 have hrep:(⟨(Lib.repeatL (⟨#[0]⟩:ByteArray).data.toList ((119-c % 64) % 64)).toArray⟩:ByteArray)=qAl (List.replicate ((119-c % 64) % 64) 0):=by rw[←bytesOf_repeat,qDI]
 have h1:(⟨#[128]⟩:ByteArray)=qAl [128]:=rfl
 rw[hrep,h1]
 have sz:∀l:List Int,(qAl l).size=l.length:=qCS
 simp only[←strOf_append,sz]
 have f4:∀n,(four n).length=4:=fun n=>rfl
 rw[if_pos (qGc _ _ (by simp;omega)),if_pos (qGc _ _ (by rw[f4];simp;omega)),if_pos (qGc _ _ (by rw[List.length_append,f4,f4];simp;omega))]
 simp[padL]
theorem firstState_is(k:Nat)(hk:1048576<k):qDa k ()=some (qAl (fl H0),()):=by
 unfold qDa
 have:=qHR k H0 (by decide) H0_W (by show 8<k;omega)
 unfold H0 at this
 simp only[this,Option.bind_some]
 rfl
theorem qFa(s:ByteArray)(a b:Nat):s.extract a b=qAl (((qAF s).take b).drop a):=by rw[←qEK,qDI]
theorem rounds_is(k:Nat)(hk:1048576<k):∀(n:Nat) (st:List Int) (s:ByteArray),st.length=8→allW st→s.size≤2097152→s.size / 64≤n→n<k →
  i_rounds k (qAl (fl st),(s,()))=some ((qAl (fl (runD n st (qAF s)).1),(qAl (runD n st (qAF s)).2,())),((),((),()))):=by
 have key:∀(n:Nat) (st:List Int) (s:ByteArray) (k2:Nat),st.length=8→allW st→s.size≤2097152→s.size / 64≤n→n<k2 →
  (qAG (fun(rec0:(ByteArray×ByteArray×Unit)→Option _) (y0:ByteArray×ByteArray×Unit) =>
(if(decide ((64:Int)≤(ByteArray.size y0.2.1:Int)))=true then
(if 0≤(64:Int)∧(64:Int)≤(ByteArray.size y0.2.1:Int) then
((i_round k (y0.1,((ByteArray.extract y0.2.1 (Int.toNat (0:Int)) (Int.toNat (64:Int))),()))).bind fun p1 =>
(if 0≤(64:Int)∧(64:Int)≤(ByteArray.size y0.2.1:Int) then
(rec0 (p1.1,((ByteArray.extract y0.2.1 (Int.toNat (64:Int)) (Int.toNat (ByteArray.size y0.2.1:Int))),())))
else none))
else none)
else
((fun(z1:ByteArray×ByteArray×Unit) =>
some ((z1.1,(z1.2.1,())),((),((),())))) (y0.1,(y0.2.1,()))))) k2 (qAl (fl st),(s,())))=some ((qAl (fl (runD n st (qAF s)).1),(qAl (runD n st (qAF s)).2,())),((),((),()))):=by
  intro n
  induction n with
  | zero =>
   intro st s k2 h8 hW hs hn hk2
   obtain⟨k2,rfl⟩:∃k',k2=k'+1:=⟨k2-1,by omega⟩
   have c:¬(64:Int)≤(s.size:Int):=by omega
   simp only[qAG,c,decide_false,Bool.false_eq_true,if_false,runD,qDI]
  | succ n ih =>
   intro st s k2 h8 hW hs hn hk2
   obtain⟨k2,rfl⟩:∃k',k2=k'+1:=⟨k2-1,by omega⟩
   by_cases c:(64:Int)≤(s.size:Int)
   ·have hsz:(qAl (fl st)).size=32:=by rw[qCS,fl_len,h8]
    have he:(s.extract (Int.toNat 0) (Int.toNat 64)).size=64:=by show(s.extract 0 64).size=64;rw[ByteArray.size_extract];omega
    have hr:=i_round_is k (qAl (fl st)) (s.extract (Int.toNat 0) (Int.toNat 64)) hsz he hk
    rw[qCy (fl_isB st),wd_fl hW] at hr
    have e1:s.extract (Int.toNat 0) (Int.toNat 64)=qAl ((qAF s).take 64):=by
     show s.extract 0 64=_
     rw[qFa,List.drop_zero]
    have e2:qAF (s.extract (Int.toNat 64) (Int.toNat (s.size:Int)))=(qAF s).drop 64:=by
     rw[Int.toNat_natCast]
     show qAF (s.extract 64 s.size)=_
     rw[qEK,List.take_of_length_le (by rw[qAt];exact Nat.le_refl _)]
    have hsz2:(s.extract (Int.toNat 64) (Int.toNat (s.size:Int))).size=s.size-64:=by
     rw[Int.toNat_natCast]
     show(s.extract 64 s.size).size=_
     rw[ByteArray.size_extract];omega
    obtain⟨b1,b2⟩:=blk_inv (b:=s.extract (Int.toNat 0) (Int.toNat 64)) h8
    have:=ih (blk st (s.extract (Int.toNat 0) (Int.toNat 64))) (s.extract (Int.toNat 64) (Int.toNat (s.size:Int))) k2 b1 b2 (by omega) (by omega) (by omega)
    have c2:(0:Int)≤64∧(64:Int)≤(s.size:Int):=⟨by decide,c⟩
    revert this
    rw[qAG]
    generalize qAG _ k2=G
    intro this
    simp only[c,c2,and_self,decide_true,if_true,hr,Option.bind_some]
    rw[this,e2]
    rw[show runD (n+1) st (qAF s)=if 64≤(qAF s).length then runD n (blk st (qAl ((qAF s).take 64))) ((qAF s).drop 64) else(st,qAF s) from rfl,if_pos (by rw[qAt];omega),e1]
   ·rw[qAG]
    simp only[c,decide_false,Bool.false_eq_true,if_false]
    rw[qDK (by rw[qAt];omega),qDI]
 intro n st s h8 hW hs hn hk2
 exact key n st s k h8 hW hs hn hk2
theorem qIf(k:Nat)(s:ByteArray)(hs:s.size≤1500000)(hk:2097152<k):qDv k (s,())=some (dg s,((),())):=by
 unfold qDv
 simp only[firstState_is k (by omega),padding_is k s.size (by omega),Option.bind_some]
 have hp:=padL_len s.size
 rw[if_pos (qGc _ _ (by rw[qCS];omega))]
 have hb:qAF (s++qAl (padL s.size))=qAF s++padL (qAF s).length:=by rw[qHP,qCy (padL_isB _),qAt]
 have hsz:(s++qAl (padL s.size)).size=s.size+(padL s.size).length:=by rw[ByteArray.size_append,qCS]
 have:=rounds_is k (by omega) ((qAF s).length+200) H0 (s++qAl (padL s.size)) rfl H0_W (by omega) (by rw[qAt];omega) (by rw[qAt];omega)
 rw[hb] at this
 simp only[this,Option.bind_some]
 rfl
theorem HasherOk_is(k:Nat)(S R:ByteArray)(c:Int)(hS:S.size=32)(hR:R.size<64)(hc:0≤c∧c≤1000000000)(hr:c % 64=R.size):qDn k ((S,(R,(c,()))),())=some (true,((),())):=by
 unfold qDn
 have c1:(S.size:Int)=32:=by omega
 have c2:(R.size:Int)<64:=by omega
 have c3:Int.tmod c 64=(R.size:Int):=by rw[Int.tmod_eq_emod_of_nonneg hc.1];exact hr
 simp only[c1,c2,c3,qCe,hc,and_self,decide_true,Bool.not_true,Bool.false_eq_true,if_true,if_false,Option.bind_some]
/-- A loop over blocks of 64 bytes. -/
theorem blocks_loop{X R:Type}{step:(X→Option R)→X→Option R}(mk:List Int→Nat→X)(l:List Int)(fin:List Int→List Int→Option R)(h1:∀again st (p:Nat),p % 64=0→st.length=8→allW st→p+64≤l.length→step again (mk st p)=again (mk (blk st (qAl ((l.drop p).take 64))) (p+64)))(h2:∀again st (p:Nat),p % 64=0→st.length=8→allW st→¬p+64≤l.length→p≤l.length→step again (mk st p)=fin st (l.drop p)) :
  ∀(n p:Nat) (st:List Int) (k:Nat),p % 64=0→st.length=8→allW st→p≤l.length→(l.length-p) / 64≤n→n<k→qAG step k (mk st p)=fin (runD n st (l.drop p)).1 (runD n st (l.drop p)).2:=by
 intro n
 induction n with
 | zero =>
  intro p st k hp64 h8 hW hp hn hk
  obtain⟨k,rfl⟩:∃k',k=k'+1:=⟨k-1,by omega⟩
  show step _ _=_
  rw[h2 _ _ _ hp64 h8 hW (by omega) hp]
  rfl
 | succ n ih =>
  intro p st k hp64 h8 hW hp hn hk
  obtain⟨k,rfl⟩:∃k',k=k'+1:=⟨k-1,by omega⟩
  show step _ _=_
  by_cases c:p+64≤l.length
  ·obtain⟨b1,b2⟩:=blk_inv (b:=qAl ((l.drop p).take 64)) h8
   rw[h1 _ _ _ hp64 h8 hW c,ih (p+64) _ k (by omega) b1 b2 c (by omega) (by omega)]
   rw[show runD (n+1) st (l.drop p)=if 64≤(l.drop p).length then runD n (blk st (qAl ((l.drop p).take 64))) ((l.drop p).drop 64) else(st,l.drop p) from rfl,if_pos (by rw[List.length_drop];omega),List.drop_drop]
  ·rw[h2 _ _ _ hp64 h8 hW c hp,qDK (by rw[List.length_drop];omega)]
theorem HashMore_is(k:Nat)(st0:List Int)(R s:ByteArray)(c:Nat)(h8:st0.length=8)(hW:allW st0)(hR:R.size<64)(hc:c % 64=R.size)(hcs:c+s.size≤1048576+100)(hsz:R.size+s.size≤2000000)(hk:2097152<k) :
  qDp k ((qAl (fl st0),(R,((c:Int),()))),(s,()))=some ((qAl (fl (runD (R.size+s.size) st0 (qAF (R++s))).1),(qAl (runD (R.size+s.size) st0 (qAF (R++s))).2,(((c+s.size:Nat):Int),()))),((),((),()))):=by
 unfold qDp
 have hS:(qAl (fl st0)).size=32:=by rw[qCS,fl_len,h8]
 have w0:wi64 ((c:Int)+(s.size:Int))=((c+s.size:Nat):Int):=(qAH _ (by omega)).trans (by omega)
 have c0:¬(1000000000:Int)<((c+s.size:Nat):Int):=by omega
 have hw:=qHq k (qAl (fl st0)) (by omega) (by omega)
 rw[qCy (fl_isB st0),wd_fl hW] at hw
 have hm:R.size+s.size≤maxStr:=qGc _ _ (by omega)
 simp only[HasherOk_is k _ R (c:Int) hS hR (by omega) (by omega),w0,c0,hw,l04K_is,hm,Bool.not_true,decide_false,Bool.false_eq_true,if_true,if_false,Option.bind_some]
 have hB:(R++s).size=R.size+s.size:=ByteArray.size_append
 generalize R++s=buf at *
 rw[←hB]
 have hl:(qAF buf).length=buf.size:=qAt buf
 refine(blocks_loop (fun st p=>(s,((qAl (fl st0),(R,((c:Int),()))),(((⟨#[]⟩:ByteArray),((⟨#[]⟩:ByteArray),((0:Int),()))),(st,(KL,(buf,((p:Int),())))))))) (qAF buf) (fun st r=>some ((qAl (fl st),(qAl r,(((c+s.size:Nat):Int),()))),((),((),())))) ?_ ?_ buf.size 0 st0 k rfl h8 hW (by omega) (by omega) (by omega)).trans rfl
 ·intro again st p _ h8 hW hp
  rw[hl] at hp
  have w1:wi64 ((p:Int)+64)=((p+64:Nat):Int):=(qAH _ (by omega)).trans (by omega)
  have c1:((p+64:Nat):Int)≤(buf.size:Int):=by omega
  have c2:(0:Int)≤((p+64:Nat):Int):=by omega
  have c3:(0:Int)≤(p:Int)∧(p:Int)≤((p+64:Nat):Int):=by omega
  have he:(buf.extract p (p+64)).size=64:=by rw[ByteArray.size_extract];omega
  have e1:buf.extract p (p+64)=qAl (((qAF buf).drop p).take 64):=by rw[qFa,List.drop_take];congr 2;omega
  have hr:=s_round_is k st _ h8 hW (show(qAl (((qAF buf).drop p).take 64)).size=64 by rw[←e1];exact he) (by omega)
  simp only[w1,c1,c2,c3,Int.toNat_natCast,e1,hr,and_self,decide_true,if_true,Option.bind_some]
 ·intro again st p _ h8 hW hp hp2
  rw[hl] at hp hp2
  have w1:wi64 ((p:Int)+64)=((p+64:Nat):Int):=(qAH _ (by omega)).trans (by omega)
  have c1:¬((p+64:Nat):Int)≤(buf.size:Int):=by omega
  have c2:(0:Int)≤(p:Int)∧(p:Int)≤(buf.size:Int):=by omega
  have e1:buf.extract p buf.size=qAl ((qAF buf).drop p):=by rw[qFa,List.take_of_length_le (by omega)]
  simp only[w1,c1,c2,w0,Int.toNat_natCast,qHr k st (by omega) hW (by omega),e1,and_self,decide_false,Bool.false_eq_true,if_false,if_true,Option.bind_some]
def dvG(_:Nat)(x:Int):Int:=wi64 (Int.tdiv x 256)
def byG(b:Int)(j:Nat)(l:List Int):List Int:=l++[wu8 (Int.tmod (iterN dvG (7-j) 0 b) 256)]
theorem dv_is(b:Nat)(h:b<9223372036854775808):dvG 0 (b:Int)=((b / 256:Nat):Int):=by
 unfold dvG
 rw[Int.tdiv_eq_ediv_of_nonneg (by omega)]
 have:wi64 ((b:Int) / 256)=(b:Int) / 256:=qAH _ (by omega)
 rw[this]
 omega
theorem iterdv(n i b:Nat)(h:b<9223372036854775808):iterN dvG n i (b:Int)=((b / 256^n:Nat):Int):=by
 induction n generalizing i b with
 | zero=>simp[iterN]
 | succ n ih =>
  rw[iterN,show dvG i (b:Int)=dvG 0 (b:Int) from rfl,dv_is b h,ih (i+1) (b / 256) (by omega),Nat.div_div_eq_div_mul,←Nat.pow_succ']
theorem byG_is(b j:Nat)(l:List Int)(h:b<9223372036854775808):byG (b:Int) j l=l++[((b / 256^(7-j) % 256:Nat):Int)]:=by
 unfold byG
 rw[iterdv _ _ _ h,Int.tmod_eq_emod_of_nonneg (Int.natCast_nonneg _)]
 generalize b / 256^(7-j)=q
 congr 2
 have:wu8 ((q:Int) % 256)=((q:Int) % 256) % 256:=w8_mod _
 rw[this]
 omega
theorem bits8(b:Nat)(l:List Int)(h:b<9223372036854775808):iterN (byG (b:Int)) 8 0 l=l++(four ((b / 4294967296:Nat):Int)++four ((b % 4294967296:Nat):Int)):=by
 simp only[iterN,byG_is _ _ _ h,List.append_assoc,four]
 congr 1
 simp only[List.cons_append,List.nil_append,List.cons.injEq,and_true]
 have p7:256^(7-0)=72057594037927936:=by decide
 have p6:256^(7-(0+1))=281474976710656:=by decide
 have p5:256^(7-(0+1+1))=1099511627776:=by decide
 have p4:256^(7-(0+1+1+1))=4294967296:=by decide
 have p3:256^(7-(0+1+1+1+1))=16777216:=by decide
 have p2:256^(7-(0+1+1+1+1+1))=65536:=by decide
 have p1:256^(7-(0+1+1+1+1+1+1))=256:=by decide
 have p0:256^(7-(0+1+1+1+1+1+1+1))=1:=by decide
 rw[p7,p6,p5,p4,p3,p2,p1,p0]
 omega
theorem HashEnd_is(k:Nat)(st0:List Int)(R:ByteArray)(c:Nat)(h8:st0.length=8)(hW:allW st0)(hR:R.size<64)(hc:c % 64=R.size)(hcs:c≤1048576+100)(hk:2097152<k) :
  qF7 k ((qAl (fl st0),(R,((c:Int),()))),())=some (qAl (fl (runD 2 st0 (qAF R++padL c)).1),((),())):=by
 unfold qF7
 have hS:(qAl (fl st0)).size=32:=by rw[qCS,fl_len,h8]
 have hm:R.size≤maxStr:=by have:=qGc R.size 0 (by omega);omega
 have hB:(qAF R).length=R.size:=qAt R
 have hcap:(qAF R).length+List.length ([128]:List Int)≤capMax:=qGb _ _ (by rw[hB];simp;omega)
 simp only[HasherOk_is k _ R (c:Int) hS hR (by omega) (by omega),hm,hcap,Bool.not_true,Bool.false_eq_true,if_true,if_false,Option.bind_some]
 have w8:wi64 ((8:Int)*(c:Int))=((8*c:Nat):Int):=(qAH _ (by omega)).trans (by omega)
 generalize hz:(119-c % 64) % 64=z
 have hpad:qAF R++padL c=iterN (byG ((8*c:Nat):Int)) 8 0 (qAF R++([128]++List.replicate z 0)):=by
  rw[bits8 _ _ (by omega),padL,hz]
  simp[List.append_assoc]
 have hpl:(qAF R++padL c).length=R.size+z+9:=by rw[List.length_append,hB,padL_len,hz];omega
 refine(qDQ (A:=Unit) (fun j _=>((qAl (fl st0),(R,((c:Int),()))),(qAF R++([128]++List.replicate j 0),()))) z (fun _ _=>()) (fun _=>some (qAl (fl (runD 2 st0 (qAF R++padL c)).1),((),()))) (fun _ _=>True) ?_ ?_ z 0 () k (by omega) trivial (by omega)).trans rfl
 ·intro again j _ hj _
  have hl:(qAF R++([128]++List.replicate j 0)).length=R.size+1+j:=by simp[hB];omega
  have g:¬Int.tmod (((qAF R++([128]++List.replicate j 0)).length:Nat):Int) 64=56:=by rw[hl,Int.tmod_eq_emod_of_nonneg (by omega)];omega
  have hc2:(qAF R++([128]++List.replicate j 0)).length+List.length ([0]:List Int)≤capMax:=qGb _ _ (by rw[hl];simp;omega)
  refine⟨?_,trivial⟩
  simp only[g,hc2,decide_false,Bool.not_false,if_true]
  rw[List.replicate_succ']
  simp[List.append_assoc]
 ·intro again _ _
  have hl:(qAF R++([128]++List.replicate z 0)).length=R.size+1+z:=by simp[hB];omega
  have g:Int.tmod (((qAF R++([128]++List.replicate z 0)).length:Nat):Int) 64=56:=by rw[hl,Int.tmod_eq_emod_of_nonneg (by omega)];omega
  simp only[g,w8,decide_true,Bool.not_true,Bool.false_eq_true,if_false]
  refine(qDQ (A:=List Int) (fun j l=>((qAl (fl st0),(R,((c:Int),()))),(l,(((8*c:Nat):Int),((7:Int)-(j:Int),()))))) 8 (byG ((8*c:Nat):Int)) (fun l=>some (qAl (fl (runD 2 st0 l).1),((),()))) (fun j l=>l.length=R.size+1+z+j) ?_ ?_ 8 0 (qAF R++([128]++List.replicate z 0)) k (by omega) (by rw[hl];rfl) (by omega)).trans ?_
  ·intro again j l hj hjl
   have g0:(0:Int)≤7-(j:Int):=by omega
   have w1:wi64 ((7:Int)-(j:Int)-1)=(7:Int)-((j+1:Nat):Int):=(qAH _ (by omega)).trans (by omega)
   refine⟨?_,by unfold byG;rw[List.length_append,hjl];rfl⟩
   simp only[g0,decide_true,if_true]
   refine(qDQ (A:=Int) (fun i x=>((qAl (fl st0),(R,((c:Int),()))),(l,(((8*c:Nat):Int),((7:Int)-(j:Int),(x,((i:Int),()))))))) (7-j) dvG (fun x=>again ((qAl (fl st0),(R,((c:Int),()))),(l++[wu8 (Int.tmod x 256)],(((8*c:Nat):Int),((7:Int)-((j+1:Nat):Int),()))))) (fun _ _=>True) ?_ ?_ (7-j) 0 _ k (by omega) trivial (by omega)).trans rfl
   ·intro again2 i x hi _
    have q1:(i:Int)<7-(j:Int):=by omega
    have q2:wi64 ((i:Int)+1)=((i+1:Nat):Int):=(qAH _ (by omega)).trans (by omega)
    refine⟨?_,trivial⟩
    simp only[q1,q2,decide_true,if_true]
    rfl
   ·intro again2 x _
    have q1:¬((7-j:Nat):Int)<7-(j:Int):=by omega
    have hc3:l.length+List.length ([wu8 (Int.tmod x 256)]:List Int)≤capMax:=qGb _ _ (by rw[hjl];simp;omega)
    simp only[q1,w1,hc3,decide_false,Bool.false_eq_true,if_true,if_false]
  ·intro again l hll
   have g0:¬(0:Int)≤7-((8:Nat):Int):=by decide
   have hw:=qHq k (qAl (fl st0)) (by omega) (by omega)
   rw[qCy (fl_isB st0),wd_fl hW] at hw
   simp only[g0,hw,l04K_is,decide_false,Bool.false_eq_true,if_false,Option.bind_some]
   refine(blocks_loop (fun st p=>(l,(st,(KL,((p:Int),()))))) l (fun st _=>some (qAl (fl st),((),()))) ?_ ?_ 2 0 st0 k rfl h8 hW (by omega) (by omega) (by omega)).trans rfl
   ·intro again2 st p _ h8 hW hp
    have w1:wi64 ((p:Int)+64)=((p+64:Nat):Int):=(qAH _ (by omega)).trans (by omega)
    have c0:(p:Int)<(l.length:Int):=by omega
    have c1:(0:Int)≤((p+64:Nat):Int)∧((p+64:Nat):Int)≤(l.length:Int):=by omega
    have c3:(0:Int)≤(p:Int)∧(p:Int)≤((p+64:Nat):Int):=by omega
    have e1:(l.take (p+64)).drop p=(l.drop p).take 64:=by rw[List.drop_take];congr 1;omega
    have hr:=s_round_is k st (qAl ((l.drop p).take 64)) h8 hW (by rw[qCS,List.length_take,List.length_drop];omega) (by omega)
    simp only[w1,c0,c1,c3,Int.toNat_natCast,e1,hr,and_self,decide_true,if_true,Option.bind_some]
   ·intro again2 st p hp64 h8 hW hp hp2
    have c0:¬(p:Int)<(l.length:Int):=by omega
    simp only[c0,qHr k st (by omega) hW (by omega),decide_false,Bool.false_eq_true,if_false,Option.bind_some]
  ·rw[←hpad]
theorem qIg(k:Nat)(s:ByteArray)(hs:s.size≤1048576+100)(hk:2097152<k):qDq k (s,())=some (dg s,((),())):=by
 unfold qDq qFI
 have hB:=qHr k H0 (by decide) H0_W (by show 8<k;omega)
 have h1:qGu k ()=some (H0,()):=rfl
 have hm:=HashMore_is k H0 (⟨#[]⟩:ByteArray) s 0 rfl H0_W (by decide) rfl (by omega) (by show 0+s.size≤_;omega) hk
 have he:(⟨#[]⟩:ByteArray)++s=s:=by apply bytesOf_inj;rw[qHP];rfl
 rw[he] at hm
 simp only[h1,hB,Option.bind_some]
 have hm':qDp k ((qAl (fl H0),((⟨#[]⟩:ByteArray),((0:Int),()))),(s,()))=_:=hm
 rw[hm']
 simp only[Option.bind_some]
 have hl:=qAt s
 obtain⟨i1,i2,i3⟩:=runD_inv (n:=(⟨#[]⟩:ByteArray).size+s.size) (st:=H0) (l:=qAF s) rfl H0_W (by rw[hl];show _≤0+s.size;omega)
 have hR:(qAl (runD ((⟨#[]⟩:ByteArray).size+s.size) H0 (qAF s)).2).size=s.size % 64:=by rw[qCS,i3,hl]
 have hE:=HashEnd_is k _ (qAl (runD ((⟨#[]⟩:ByteArray).size+s.size) H0 (qAF s)).2) (0+s.size) i1 i2 (by omega) (by omega) (by omega) hk
 rw[hE]
 simp only[Option.bind_some]
 rw[qCy (runD_isB (qEJ s))]
 unfold dg digL
 have hp:=padL_len (qAF s).length
 have key:=runD_append (n:=(⟨#[]⟩:ByteArray).size+s.size) (m:=(qAF s).length+200) (st:=H0) (a:=qAF s) (b:=padL (qAF s).length) (by rw[hl];show _≤0+s.size;omega) (by rw[List.length_append];omega)
 rw[key]
 have hz:0+s.size=(qAF s).length:=by omega
 rw[hz]
 rw[runD_fuel (n:=2) (m:=(qAF s).length+200) (by rw[List.length_append,hp,i3];omega) (by rw[List.length_append,hp,i3];omega)]
def gSeen(a:List Int)(i:Nat)(_:Unit):(Bool×Unit×Unit) ⊕ Unit:=
 if decide (1≤Ty.rd (t:=(.int .i64)) a i∧Ty.rd (t:=(.int .i64)) a i≤1000000000)&&!(decide (0<(i:Int))&&decide (Ty.rd (t:=(.int .i64)) a (wi64 ((i:Int)-1))≤Ty.rd (t:=(.int .i64)) a i))&&!decide (Ty.rd (t:=(.int .i64)) a i≤wi64 (Ty.rd (t:=(.int .i64)) a 0-6)) then .inr () else .inl (false,((),()))
def seenB(a:List Int):Bool:=(qDx (gSeen a) (fun _=>(decide ((a.length:Int)≤6),((),()))) a.length 0 ()).1
theorem s_SeenOk_is(k:Nat)(a:List Int)(hk:1048576<k)(hl:a.length≤1048576):qIE k (a,())=some (seenB a,((),())):=by
 unfold qIE
 refine(qFo (A:=Unit) (fun i _=>(a,(((i:Nat):Int),()))) a.length (gSeen a) (fun _=>(decide ((a.length:Int)≤6),((),()))) (fun _ _=>True) ?_ (fun _ _ _ _ _ _=>trivial) ?_ k () trivial (by omega)).trans rfl
 ·intro again i _ hi _
  have w2:wi64 ((i:Int)+1)=((i+1:Nat):Int):=(qAH _ (by omega)).trans (by omega)
  have w1:wi64 ((i:Int)-1)=(i:Int)-1:=qAH _ (by omega)
  have g1:(0:Int)≤(i:Int)∧(i:Int)<(a.length:Int):=by omega
  have g0:(0:Int)≤0∧(0:Int)<(a.length:Int):=by omega
  unfold gSeen
  simp only[g1,g0,qCe,w2,and_self,decide_true,if_true,Option.bind_some]
  by_cases h1:1≤Ty.rd (t:=(.int .i64)) a i∧Ty.rd (t:=(.int .i64)) a i≤1000000000
  ·by_cases h2:0<(i:Int)
   ·have g3:(0:Int)≤wi64 ((i:Int)-1)∧wi64 ((i:Int)-1)<(a.length:Int):=by rw[w1];omega
    simp only[h1,h2,g3,and_self,decide_true,Bool.not_true,if_true]
    by_cases h4:Ty.rd (t:=(.int .i64)) a (wi64 ((i:Int)-1))≤Ty.rd (t:=(.int .i64)) a i <;> by_cases h5:Ty.rd (t:=(.int .i64)) a i≤wi64 (Ty.rd (t:=(.int .i64)) a 0-6) <;> simp[h4,h5]
   ·simp only[h1,h2,and_self,decide_true,decide_false,Bool.not_true,if_true]
    by_cases h5:Ty.rd (t:=(.int .i64)) a i≤wi64 (Ty.rd (t:=(.int .i64)) a 0-6) <;> simp[h5]
  ·simp[h1]
 ·intro again _ _
  simp
theorem i_SeenOk_is(k:Nat)(a:List Int)(hk:1048576<k)(hl:a.length≤1048576):qIY k (a,())=some (seenB a,((),())):=by
 unfold qIY
 refine(qFo (A:=Unit) (fun i _=>(a,(a,((a.length:Int),(((i:Nat):Int),()))))) a.length (gSeen a) (fun _=>(decide ((a.length:Int)≤6),((),()))) (fun _ _=>True) ?_ (fun _ _ _ _ _ _=>trivial) ?_ k () trivial (by omega)).trans rfl
 ·intro again i _ hi _
  have w2:wi64 ((i:Int)+1)=((i+1:Nat):Int):=(qAH _ (by omega)).trans (by omega)
  have w1:wi64 ((i:Int)-1)=(i:Int)-1:=qAH _ (by omega)
  have g1:(0:Int)≤(i:Int)∧(i:Int)<(a.length:Int):=by omega
  have g0:(0:Int)≤0∧(0:Int)<(a.length:Int):=by omega
  unfold gSeen
  simp only[g1,g0,qCx,w2,and_self,decide_true,if_true,Option.bind_some]
  by_cases h1:1≤Ty.rd (t:=(.int .i64)) a i∧Ty.rd (t:=(.int .i64)) a i≤1000000000
  ·by_cases h2:0<(i:Int)
   ·have g3:(0:Int)≤wi64 ((i:Int)-1)∧wi64 ((i:Int)-1)<(a.length:Int):=by rw[w1];omega
    simp only[h1,h2,g3,and_self,decide_true,Bool.not_true,if_true]
    by_cases h4:Ty.rd (t:=(.int .i64)) a (wi64 ((i:Int)-1))≤Ty.rd (t:=(.int .i64)) a i <;> by_cases h5:Ty.rd (t:=(.int .i64)) a i≤wi64 (Ty.rd (t:=(.int .i64)) a 0-6) <;> simp[h4,h5]
   ·simp only[h1,h2,and_self,decide_true,decide_false,Bool.not_true,if_true]
    by_cases h5:Ty.rd (t:=(.int .i64)) a i≤wi64 (Ty.rd (t:=(.int .i64)) a 0-6) <;> simp[h5]
  ·simp[h1]
 ·intro again _ _
  simp
def noneB(x:Int×ByteArray×ByteArray×Int×List Int×Int×Unit):Bool:=decide (x.1=0∧x.2.1=(⟨#[]⟩:ByteArray)∧x.2.2.1=(⟨#[]⟩:ByteArray)∧x.2.2.2.1=0∧(x.2.2.2.2.1.length:Int)=0∧x.2.2.2.2.2.1=0)
theorem qG8(k:Nat)(x):qDT k (x,())=some (noneB x,((),())):=by
 obtain⟨e,s,o,c,q,u,w⟩:=x
 unfold qDT noneB
 simp only[]
 by_cases h1:e=0
 rotate_left
 ·simp[h1]
 by_cases h2:s=(⟨#[]⟩:ByteArray)
 rotate_left
 ·simp[h2]
 by_cases h3:o=(⟨#[]⟩:ByteArray)
 rotate_left
 ·simp[h3]
 by_cases h4:c=0
 rotate_left
 ·simp[h4]
 by_cases h5:(q.length:Int)=0
 rotate_left
 ·simp only[h1,h2,h3,h4,h5,decide_true,decide_false,if_true,true_and,false_and]
  rfl
 simp only[h1,h2,h3,h4,h5,decide_true,if_true,true_and]
def slotB(x:Int×ByteArray×ByteArray×Int×List Int×Int×Unit):Bool:=
 noneB x || (decide ((1≤x.1∧x.1≤1000000000)∧(x.2.1.size:Int)=32∧(x.2.2.1.size:Int)=32∧(0≤x.2.2.2.1∧x.2.2.2.1≤12))&&(seenB x.2.2.2.2.1&&decide (0≤x.2.2.2.2.2.1∧x.2.2.2.2.2.1≤1000000000)))
theorem s_SlotOk_is(k:Nat)(x:Int×ByteArray×ByteArray×Int×List Int×Int×Unit)(hk:1048576<k)(hl:x.2.2.2.2.1.length≤1048576):qGv k (x,())=some (slotB x,((),())):=by
 obtain⟨e,s,o,c,q,u,w⟩:=x
 have hl:q.length≤1048576:=hl
 unfold qGv slotB
 simp only[qG8,qCe,s_SeenOk_is k q hk hl,Option.bind_some]
 cases hn:noneB (e,(s,(o,(c,(q,(u,())))))) with
 | true=>simp
 | false =>
  by_cases h1:1≤e∧e≤1000000000
  rotate_left
  ·simp[h1]
  by_cases h2:(s.size:Int)=32
  rotate_left
  ·simp[h2]
  by_cases h3:(o.size:Int)=32
  rotate_left
  ·simp[h3]
  by_cases h4:0≤c∧c≤12
  rotate_left
  ·simp[h4]
  simp only[h1,h2,h3,h4,and_self,decide_true,if_true,Bool.false_or,Bool.true_and]
  cases seenB q <;> simp
theorem i_SlotOk_is(k:Nat)(x:Int×ByteArray×ByteArray×Int×List Int×Int×Unit)(hk:1048576<k)(hl:x.2.2.2.2.1.length≤1048576):qG4 k (x,())=some (slotB x,((),())):=by
 obtain⟨e,s,o,c,q,u,w⟩:=x
 have hl:q.length≤1048576:=hl
 have hn:=qG8 k (e,(s,(o,(c,(q,(u,()))))))
 unfold qDT at hn
 unfold qG4 slotB
 simp only[qCx,i_SeenOk_is k q hk hl,Option.bind_some] at hn ⊢
 by_cases h0:e=0
 ·subst h0
  simp only[decide_true,if_true] at hn ⊢
  rw[hn]
  simp
 ·have hnf:noneB (e,(s,(o,(c,(q,(u,()))))))=false:=by simp[noneB,h0]
  simp only[hnf,h0,decide_false,Bool.false_or,Bool.false_eq_true,if_false]
  by_cases h2:(s.size:Int)=32
  rotate_left
  ·simp[h2]
  by_cases h1:1≤e∧e≤1000000000
  rotate_left
  ·simp[h1,h2]
  by_cases h3:(o.size:Int)=32
  rotate_left
  ·simp[h1,h2,h3]
  by_cases h4:0≤c∧c≤12
  rotate_left
  ·simp[h1,h2,h3,h4]
  simp only[h1,h2,h3,h4,and_self,decide_true,if_true,Bool.true_and]
  cases seenB q <;> simp
abbrev qDc:Type:=Int×ByteArray×ByteArray×Int×List Int×Int×Int×ByteArray×ByteArray×Int×List Int×Int×Unit
def qGd(x:qDc):Int×ByteArray×ByteArray×Int×List Int×Int×Unit:=(x.1,(x.2.1,(x.2.2.1,(x.2.2.2.1,(x.2.2.2.2.1,(x.2.2.2.2.2.1,()))))))
def qIh(x:qDc):Int×ByteArray×ByteArray×Int×List Int×Int×Unit:=x.2.2.2.2.2.2
def qHS(x:qDc):Bool:=slotB (qGd x)&&slotB (qIh x)&&(decide (x.2.2.2.2.2.2.1=0) || decide (x.2.2.2.2.2.2.1<x.1))
theorem slot_zero{x:Int×ByteArray×ByteArray×Int×List Int×Int×Unit}(h:slotB x=true):noneB x=decide (x.1=0):=by
 cases hn:noneB x with
 | true =>
  have:x.1=0:=by
   unfold noneB at hn
   exact(of_decide_eq_true hn).1
  simp[this]
 | false =>
  unfold slotB at h
  rw[hn,Bool.false_or,Bool.and_eq_true] at h
  have:=(of_decide_eq_true h.1).1.1
  have:¬x.1=0:=by omega
  simp[this]
theorem s_SlotsOk_is(k:Nat)(x:qDc)(hk:1048576<k)(h1:x.2.2.2.2.1.length≤1048576)(h2:x.2.2.2.2.2.2.2.2.2.2.1.length≤1048576):qF9 k (x,())=some (qHS x,((),())):=by
 have e1:=s_SlotOk_is k (qGd x) hk h1
 have e2:=s_SlotOk_is k (qIh x) hk h2
 have e3:=qG8 k (qIh x)
 simp only[qGd,qIh] at e1 e2 e3
 unfold qF9 qHS
 simp only[e1,e2,e3,Option.bind_some,qGd,qIh]
 cases a:slotB (x.1,(x.2.1,(x.2.2.1,(x.2.2.2.1,(x.2.2.2.2.1,(x.2.2.2.2.2.1,())))))) with
 | false=>simp
 | true =>
  cases b:slotB x.2.2.2.2.2.2 with
  | false=>simp
  | true =>
   rw[slot_zero b]
   by_cases z:x.2.2.2.2.2.2.1=0 <;> simp[z]
theorem i_SlotsOk_is(k:Nat)(x:qDc)(hk:1048576<k)(h1:x.2.2.2.2.1.length≤1048576)(h2:x.2.2.2.2.2.2.2.2.2.2.1.length≤1048576):qGY k (x,())=some (qHS x,((),())):=by
 have e1:=i_SlotOk_is k (qGd x) hk h1
 have e2:=i_SlotOk_is k (qIh x) hk h2
 simp only[qGd,qIh] at e1 e2
 unfold qGY qHS
 simp only[e1,e2,Option.bind_some,qGd,qIh]
 cases a:slotB (x.1,(x.2.1,(x.2.2.1,(x.2.2.2.1,(x.2.2.2.2.1,(x.2.2.2.2.2.1,())))))) with
 | false=>simp
 | true =>
  cases b:slotB x.2.2.2.2.2.2 with
  | false=>simp
  | true=>by_cases z:x.2.2.2.2.2.2.1=0 <;> simp[z]
theorem qG9(n:Nat):((2^n:Nat):Int)=(2:Int)^n:=by simp
theorem qFA(k:Nat)(n:Int)(h:0≤n∧n≤32)(hk:40<k):qCw k (n,())=some ((2:Int)^(32-n.toNat),((),())):=by
 unfold qCw
 rw[whileK_run (fun y=>32-y.2.1.toNat) (fun y=>0≤y.2.1∧y.2.1≤32∧0≤y.1∧y.1*2^(32-y.2.1.toNat)≤4294967296) (fun y=>(y.1*2^(32-y.2.1.toNat),((),()))) ?_ k]
 ·simp
 ·refine⟨h.1,h.2,by simp,?_⟩
  show(1:Int)*2^(32-n.toNat)≤4294967296
  have:(2:Nat)^(32-n.toNat)≤2^32:=Nat.pow_le_pow_right (by decide) (by omega)
  have:((2^(32-n.toNat):Nat):Int)≤((2^32:Nat):Int):=Int.ofNat_le.2 this
  rw[Int.one_mul,←qG9]
  exact this
 ·show 32-n.toNat<k
  omega
 ·rintro⟨a,i,u⟩ ⟨h1,h2,h3,h4⟩ again hg
  simp only at h1 h2 h3 h4
  by_cases hi:i<32
  ·have e:32-i.toNat=(32-(i+1).toNat)+1:=by omega
   rw[e,Int.pow_succ] at h4
   have hp:(1:Int)≤2^(32-(i+1).toNat):=by
    have:0<(2:Nat)^(32-(i+1).toNat):=Nat.two_pow_pos _
    rw[←qG9]
    omega
   have ha:a≤a*2^(32-(i+1).toNat):=by
    have:=Int.mul_le_mul_of_nonneg_left hp h3
    omega
   have h4':a*2^(32-(i+1).toNat)*2≤4294967296:=by rw[Int.mul_assoc];exact h4
   have w1:wi64 (2*a)=2*a:=qAH _ (by omega)
   have w2:wi64 (i+1)=i+1:=qAH _ (by omega)
   have:=hg (2*a,(i+1,())) ⟨by simp only;omega,by simp only;omega,by simp only;omega,by
    show 2*a*2^(32-(i+1).toNat)≤_
    rw[Int.mul_assoc,Int.mul_comm]
    exact h4'⟩ (by simp only;omega)
   simp only[hi,decide_true,if_true,w1,w2,this]
   rw[e,Int.pow_succ]
   congr 2
   rw[Int.mul_comm 2 a,Int.mul_assoc,Int.mul_comm 2]
  ·have:i=32:=by omega
   subst this
   simp
theorem qHs(k:Nat)(n:Int)(h:0≤n∧n≤32):qDF k (n,())=some ((2:Int)^(32-n.toNat)-1,((),())):=by
 unfold qDF
 have w:wi64 (32-n)=32-n:=qAH _ (by omega)
 have hp:(2:Nat)^(32-n.toNat)≤2^32:=Nat.pow_le_pow_right (by decide) (by omega)
 have hp:((2^(32-n.toNat):Nat):Int)≤((2^32:Nat):Int):=Int.ofNat_le.2 hp
 have h32:((2^32:Nat):Int)=4294967296:=rfl
 have h0:0<(2:Nat)^(32-n.toNat):=Nat.two_pow_pos _
 have h0:(1:Int)≤((2^(32-n.toNat):Nat):Int):=by omega
 have e:(min (Int.toNat (32-n)) (IntKind.bits .i64))=32-n.toNat:=by show min (Int.toNat (32-n)) 64=_;omega
 rw[qG9] at hp h0
 simp only[w,e]
 rw[if_neg (by omega),Int.one_mul]
 have w2:wi64 ((2:Int)^(32-n.toNat))=(2:Int)^(32-n.toNat):=qAH _ (by omega)
 rw[w2]
 have w3:wi64 ((2:Int)^(32-n.toNat)-1)=(2:Int)^(32-n.toNat)-1:=qAH _ (by omega)
 rw[w3]
theorem qFb(k:Nat)(a n:Int)(hk:40<k):qC9 k ((a,(n,())),())=some (decide ((0≤a∧a≤4294967295)∧(0≤n∧n≤32)∧a % 2^(32-n.toNat)=0),((),())):=by
 unfold qC9
 simp only[qFW,qCe,Option.bind_some]
 by_cases h:0≤a∧a≤4294967295
 ·by_cases h':0≤n∧n≤32
  ·simp only[qFA k n h' hk,Option.bind_some]
   have h0:¬(2:Int)^(32-n.toNat)=0:=by
    have h0:0<(2:Nat)^(32-n.toNat):=Nat.two_pow_pos _
    rw[←qG9]
    omega
   rw[if_neg h0,Int.tmod_eq_emod_of_nonneg h.1]
   simp[h,h']
  ·simp[h,h']
 ·simp[h]
theorem qFc(k:Nat)(a n:Int):qDG k ((a,(n,())),())=some (decide ((0≤a∧a≤4294967295)∧(0≤n∧n≤32)∧a % 2^(32-n.toNat)=0),((),())):=by
 unfold qDG
 simp only[i_AddrOk_is,qCx,Option.bind_some]
 by_cases h:0≤a∧a≤4294967295
 ·by_cases h':0≤n∧n≤32
  ·simp only[qHs k n h',Option.bind_some]
   rw[and_mask _ (by omega) a h.1 (by omega)]
   simp[h,h']
  ·simp[h,h']
 ·simp[h]
abbrev qAC:Ty:=(.pair (.int .i64) (.pair (.int .i64) (.int .i64)))
def ag_Lease(r:qAC.den):Int×Int×Int×Unit:=(r.1,(r.2.1,(r.2.2,())))
def Bd_Lease(x:Int×Int×Int×Unit):Prop:=True
def Bd_LeaseS(a:List (Int×Int×Int)):Prop:=a.length≤1048576∧∀r∈a,Bd_Lease (ag_Lease r)
abbrev qAQ:Ty:=(.pair (.int .i64) (.int .i64))
def ag_Fixed(r:qAQ.den):Int×Int×Unit:=(r.1,(r.2,()))
def Bd_Fixed(x:Int×Int×Unit):Prop:=True
def Bd_FixedS(a:List (Int×Int)):Prop:=a.length≤1048576∧∀r∈a,Bd_Fixed (ag_Fixed r)
abbrev qAT:Ty:=(.pair (.pair (.int .i64) (.int .i64)) (.int .i64))
def ag_Route(r:qAT.den):Int×Int×Int×Unit:=(r.1.1,(r.1.2,(r.2,())))
def Bd_Route(x:Int×Int×Int×Unit):Prop:=True
def qEM(a:List ((Int×Int)×Int)):Prop:=a.length≤1048576∧∀r∈a,Bd_Route (ag_Route r)
abbrev qA1:Ty:=(.pair (.int .i64) (.pair (.int .i64) (.pair (.pair (.pair (.int .i64) (.pair .str (.pair .str (.pair (.int .i64) (.pair (.list (.int .i64)) (.int .i64)))))) (.pair (.int .i64) (.pair .str (.pair .str (.pair (.int .i64) (.pair (.list (.int .i64)) (.int .i64))))))) (.pair (.list (.pair (.int .i64) (.pair (.int .i64) (.pair (.int .i64) (.pair (.list .str) (.pair (.list .bool) (.int .i64))))))) (.int .i64)))))
def qHt(r:qA1.den):Int×Int×Int×ByteArray×ByteArray×Int×List (Int)×Int×Int×ByteArray×ByteArray×Int×List (Int)×Int×(List (Int×Int×Int×List (ByteArray)×List (Bool)×Int))×Int×Unit:=(r.1,(r.2.1,(r.2.2.1.1.1,(r.2.2.1.1.2.1,(r.2.2.1.1.2.2.1,(r.2.2.1.1.2.2.2.1,(r.2.2.1.1.2.2.2.2.1,(r.2.2.1.1.2.2.2.2.2,(r.2.2.1.2.1,(r.2.2.1.2.2.1,(r.2.2.1.2.2.2.1,(r.2.2.1.2.2.2.2.1,(r.2.2.1.2.2.2.2.2.1,(r.2.2.1.2.2.2.2.2.2,(r.2.2.2.1,(r.2.2.2.2,()))))))))))))))))
def Bd_IntS(a:List (Int)):Prop:=a.length≤1048576
abbrev RT_Held:Ty:=(.pair (.int .i64) (.pair (.int .i64) (.pair (.int .i64) (.pair (.list .str) (.pair (.list .bool) (.int .i64))))))
def ag_Held(r:RT_Held.den):Int×Int×Int×List (ByteArray)×List (Bool)×Int×Unit:=(r.1,(r.2.1,(r.2.2.1,(r.2.2.2.1,(r.2.2.2.2.1,(r.2.2.2.2.2,()))))))
def Bd_StringS(a:List (ByteArray)):Prop:=a.length≤1048576
def Bd_BoolS(a:List (Bool)):Prop:=a.length≤1048576
def Bd_Held(x:Int×Int×Int×List (ByteArray)×List (Bool)×Int×Unit):Prop:=Bd_StringS x.2.2.2.1∧Bd_BoolS x.2.2.2.2.1∧True
def qIi(a:List (Int×Int×Int×List (ByteArray)×List (Bool)×Int)):Prop:=a.length≤1048576∧∀r∈a,Bd_Held (ag_Held r)
def qEN(x:Int×Int×Int×ByteArray×ByteArray×Int×List (Int)×Int×Int×ByteArray×ByteArray×Int×List (Int)×Int×(List (Int×Int×Int×List (ByteArray)×List (Bool)×Int))×Int×Unit):Prop:=ByteArray.size x.2.2.2.1≤1048576∧ByteArray.size x.2.2.2.2.1≤1048576∧Bd_IntS x.2.2.2.2.2.2.1∧ByteArray.size x.2.2.2.2.2.2.2.2.2.1≤1048576∧ByteArray.size x.2.2.2.2.2.2.2.2.2.2.1≤1048576∧Bd_IntS x.2.2.2.2.2.2.2.2.2.2.2.2.1∧qIi x.2.2.2.2.2.2.2.2.2.2.2.2.2.2.1∧True
def qDj(a:List (Int×Int×((Int×ByteArray×ByteArray×Int×List (Int)×Int)×Int×ByteArray×ByteArray×Int×List (Int)×Int)×List (Int×Int×Int×List (ByteArray)×List (Bool)×Int)×Int)):Prop:=a.length≤1048576∧∀r∈a,qEN (qHt r)
def qCU(x:Int×Int×(List (Int×Int×Int))×(List (Int×Int))×(List ((Int×Int)×Int))×(List (Int×Int×((Int×ByteArray×ByteArray×Int×List (Int)×Int)×Int×ByteArray×ByteArray×Int×List (Int)×Int)×List (Int×Int×Int×List (ByteArray)×List (Bool)×Int)×Int))×Unit):Prop:=Bd_LeaseS x.2.2.1∧Bd_FixedS x.2.2.2.1∧qEM x.2.2.2.2.1∧qDj x.2.2.2.2.2.1∧True
def qEO(x:Int×Int×(List (Int×Int×Int))×(List (Int×Int))×Unit):Prop:=Bd_LeaseS x.2.2.1∧Bd_FixedS x.2.2.2.1∧True
def Bd_Slots(x:Int×ByteArray×ByteArray×Int×List (Int)×Int×Int×ByteArray×ByteArray×Int×List (Int)×Int×Unit):Prop:=ByteArray.size x.2.1≤1048576∧ByteArray.size x.2.2.1≤1048576∧Bd_IntS x.2.2.2.2.1∧ByteArray.size x.2.2.2.2.2.2.2.1≤1048576∧ByteArray.size x.2.2.2.2.2.2.2.2.1≤1048576∧Bd_IntS x.2.2.2.2.2.2.2.2.2.2.1∧True
theorem qIj(a:List Int)(hl:a.length≤1048576):([]:List Int).length+a.length≤capMax:=by
 have:capMax=274877906944:=rfl
 simp;omega
theorem s_l17Copy_is(k:Nat)(x:qDc)(h1:x.2.2.2.2.1.length≤1048576)(h2:x.2.2.2.2.2.2.2.2.2.2.1.length≤1048576):qEu k (x,())=some (x,((),())):=by
 unfold qEu qCu
 simp only[qIj _ h1,qIj _ h2,if_true,Option.bind_some,List.nil_append]
theorem qHT(k:Nat)(x:qDc)(h1:x.2.2.2.2.1.length≤1048576)(h2:x.2.2.2.2.2.2.2.2.2.2.1.length≤1048576):qDE k (x,())=some (x,((),())):=by
 unfold qDE qEz
 simp only[qIj _ h1,qIj _ h2,if_true,Option.bind_some,List.nil_append]
def instB(x:qDc)(send op:ByteArray)(now:Int):Bool:=qHS x&&(decide ((send.size:Int)=32)&&(decide ((op.size:Int)=32)&&(decide (0≤now∧now≤999999990)&&!decide (x.1=1000000000))))
def instR(x:qDc)(send op:ByteArray)(now:Int):qDc:=
 (wi64 (x.1+1),(send,(op,(0,([],(0,(x.1,(x.2.1,(x.2.2.1,(x.2.2.2.1,(x.2.2.2.2.1,((if x.1=0 then x.2.2.2.2.2.1 else wi64 (now+10)),()))))))))))))
theorem s_Install_is(k:Nat)(x:qDc)(send op:ByteArray)(now:Int)(hk:1048576<k)(h1:x.2.2.2.2.1.length≤1048576)(h2:x.2.2.2.2.2.2.2.2.2.2.1.length≤1048576) :
  qEv k (x,(send,(op,(now,()))))=some ((if instB x send op now then instR x send op now else x,(instB x send op now,())),((),((),((),((),()))))):=by
 have e1:=s_l17Copy_is k x h1 h2
 have e2:=s_SlotsOk_is k x hk h1 h2
 have e3:=qG8 k (qGd x)
 simp only[qGd] at e3
 unfold qEv instB instR
 simp only[e1,e2,e3,qCe,Option.bind_some]
 cases a:qHS x with
 | false=>simp
 | true =>
  have hz:noneB (x.1,(x.2.1,(x.2.2.1,(x.2.2.2.1,(x.2.2.2.2.1,(x.2.2.2.2.2.1,()))))))=decide (x.1=0):=slot_zero (x:=qGd x) (by
   unfold qHS at a
   simp only[Bool.and_eq_true] at a
   exact a.1.1)
  rw[hz]
  by_cases c1:(send.size:Int)=32
  rotate_left
  ·simp[c1]
  by_cases c2:(op.size:Int)=32
  rotate_left
  ·simp[c1,c2]
  by_cases c3:0≤now∧now≤999999990
  rotate_left
  ·simp[c1,c2,c3]
  by_cases c4:x.1=1000000000
  ·simp[c1,c2,c3,c4]
   rw[←c4]
  by_cases c5:x.1=0 <;> simp[c1,c2,c3,c4,c5]
theorem i_Install_is(k:Nat)(x:qDc)(send op:ByteArray)(now:Int)(hk:1048576<k)(h1:x.2.2.2.2.1.length≤1048576)(h2:x.2.2.2.2.2.2.2.2.2.2.1.length≤1048576) :
  qE7 k (x,(send,(op,(now,()))))=some ((if instB x send op now then instR x send op now else x,(instB x send op now,())),((),((),((),((),()))))):=by
 have e1:=qHT k x h1 h2
 have e2:=i_SlotsOk_is k x hk h1 h2
 unfold qE7 instB instR
 simp only[e1,e2,qCx,Option.bind_some]
 cases a:qHS x with
 | false=>simp
 | true =>
  by_cases c1:(send.size:Int)=32
  rotate_left
  ·simp[c1]
  by_cases c2:(op.size:Int)=32
  rotate_left
  ·simp[c1,c2]
  by_cases c3:0≤now∧now≤999999990
  rotate_left
  ·simp[c1,c2,c3]
  by_cases c4:x.1=1000000000
  ·simp[c1,c2,c3,c4]
   rw[←c4]
  by_cases c5:x.1=0 <;> simp[c1,c2,c3,c4,c5]
/-- The slots' lists are short. -/
def Short(x:qDc):Prop:=x.2.2.2.2.1.length≤1048576∧x.2.2.2.2.2.2.2.2.2.2.1.length≤1048576
theorem short_bd{x:qDc}(h:Bd_Slots x):Short x:=⟨h.2.2.1,h.2.2.2.2.2.1⟩
theorem qDk(s t:ByteArray):(s++t).size=s.size+t.size:=ByteArray.size_append
/-- Slots out of a seed: one end's. -/
def qHU:qDc:=(0,((⟨#[]⟩:ByteArray),((⟨#[]⟩:ByteArray),(0,([],(0,(0,((⟨#[]⟩:ByteArray),((⟨#[]⟩:ByteArray),(0,([],(0,()))))))))))))
def qFm(s a b:ByteArray):qDc:=(1,(dg (s++a),(dg (s++b),(0,([],(0,(0,((⟨#[]⟩:ByteArray),((⟨#[]⟩:ByteArray),(0,([],(0,()))))))))))))
theorem slotsB_0:qHS qHU=true:=by
 unfold qHS slotB qGd qIh qHU
 rfl
theorem inst0(a b:ByteArray)(ha:a.size=32)(hb:b.size=32):instB qHU a b 0=true∧instR qHU a b 0=(1,(a,(b,(0,([],(0,(0,((⟨#[]⟩:ByteArray),((⟨#[]⟩:ByteArray),(0,([],(0,())))))))))))):=by
 unfold instB
 rw[slotsB_0]
 have c1:(a.size:Int)=32:=by omega
 have c2:(b.size:Int)=32:=by omega
 refine⟨?_,rfl⟩
 simp only[c1,c2]
 rfl
theorem s_PairSlots_is(k:Nat)(s:ByteArray)(hs:s.size≤1048576)(hk:2097152<k):qC7 k (s,())=some ((qFm s (⟨#[97]⟩:ByteArray) (⟨#[98]⟩:ByteArray),(qFm s (⟨#[98]⟩:ByteArray) (⟨#[97]⟩:ByteArray),())),((),())):=by
 unfold qC7
 have za:(⟨#[97]⟩:ByteArray).size=1:=rfl
 have zb:(⟨#[98]⟩:ByteArray).size=1:=rfl
 have e1:=qIg k (s++(⟨#[97]⟩:ByteArray)) (by rw[qDk,za];omega) hk
 have e2:=qIg k (s++(⟨#[98]⟩:ByteArray)) (by rw[qDk,zb];omega) hk
 have h1:s.size+(⟨#[97]⟩:ByteArray).size≤maxStr:=qGc _ _ (by rw[za];omega)
 have h2:s.size+(⟨#[98]⟩:ByteArray).size≤maxStr:=qGc _ _ (by rw[zb];omega)
 have i1:=s_Install_is k qHU (dg (s++(⟨#[97]⟩:ByteArray))) (dg (s++(⟨#[98]⟩:ByteArray))) 0 (by omega) (by decide) (by decide)
 have i2:=s_Install_is k qHU (dg (s++(⟨#[98]⟩:ByteArray))) (dg (s++(⟨#[97]⟩:ByteArray))) 0 (by omega) (by decide) (by decide)
 obtain⟨a1,a2⟩:=inst0 (dg (s++(⟨#[97]⟩:ByteArray))) (dg (s++(⟨#[98]⟩:ByteArray))) (qEk _) (qEk _)
 obtain⟨b1,b2⟩:=inst0 (dg (s++(⟨#[98]⟩:ByteArray))) (dg (s++(⟨#[97]⟩:ByteArray))) (qEk _) (qEk _)
 rw[a1,if_pos rfl,a2] at i1
 rw[b1,if_pos rfl,b2] at i2
 unfold qHU at i1 i2
 simp only[h1,h2,e1,e2,i1,i2,if_true,Option.bind_some]
 rfl
theorem i_PairSlots_is(k:Nat)(s:ByteArray)(hs:s.size≤1048576)(hk:2097152<k):qEI k (s,())=some ((qFm s (⟨#[97]⟩:ByteArray) (⟨#[98]⟩:ByteArray),(qFm s (⟨#[98]⟩:ByteArray) (⟨#[97]⟩:ByteArray),())),((),())):=by
 unfold qEI
 have za:(⟨#[97]⟩:ByteArray).size=1:=rfl
 have zb:(⟨#[98]⟩:ByteArray).size=1:=rfl
 have e1:=qIf k (s++(⟨#[97]⟩:ByteArray)) (by rw[qDk,za];omega) hk
 have e2:=qIf k (s++(⟨#[98]⟩:ByteArray)) (by rw[qDk,zb];omega) hk
 have h1:s.size+(⟨#[97]⟩:ByteArray).size≤maxStr:=qGc _ _ (by rw[za];omega)
 have h2:s.size+(⟨#[98]⟩:ByteArray).size≤maxStr:=qGc _ _ (by rw[zb];omega)
 have i1:=i_Install_is k qHU (dg (s++(⟨#[97]⟩:ByteArray))) (dg (s++(⟨#[98]⟩:ByteArray))) 0 (by omega) (by decide) (by decide)
 have i2:=i_Install_is k qHU (dg (s++(⟨#[98]⟩:ByteArray))) (dg (s++(⟨#[97]⟩:ByteArray))) 0 (by omega) (by decide) (by decide)
 obtain⟨a1,a2⟩:=inst0 (dg (s++(⟨#[97]⟩:ByteArray))) (dg (s++(⟨#[98]⟩:ByteArray))) (qEk _) (qEk _)
 obtain⟨b1,b2⟩:=inst0 (dg (s++(⟨#[98]⟩:ByteArray))) (dg (s++(⟨#[97]⟩:ByteArray))) (qEk _) (qEk _)
 rw[a1,if_pos rfl,a2] at i1
 rw[b1,if_pos rfl,b2] at i2
 unfold qHU at i1 i2
 simp only[h1,h2,e1,e2,i1,i2,if_true,Option.bind_some]
 rfl
theorem pair_bd(s a b:ByteArray):Bd_Slots (qFm s a b):=by
 refine⟨?_,?_,?_,?_,?_,?_,trivial⟩
 ·show(dg (s++a)).size≤_;rw[qEk];decide
 ·show(dg (s++b)).size≤_;rw[qEk];decide
 ·show([]:List Int).length≤_;decide
 ·show(⟨#[]⟩:ByteArray).size≤_;decide
 ·show(⟨#[]⟩:ByteArray).size≤_;decide
 ·show([]:List Int).length≤_;decide
theorem andNot_mask(i:Nat)(hi:i≤62)(x:Int)(h0:0≤x)(h1:x<2^63):qAa .andNot .i64 x ((2:Int)^i-1)=x-x % (2:Int)^i:=by
 obtain⟨a,rfl⟩:=Int.eq_ofNat_of_zero_le h0
 have ha:a<2^63:=by exact_mod_cast h1
 have hpos:0<2^i:=Nat.two_pow_pos i
 have hle:2^i≤2^62:=Nat.pow_le_pow_right (by decide) hi
 have hc:((2:Int)^i-1)=((2^i-1:Nat):Int):=by
  rw[Int.natCast_sub hpos];simp
 have hb:(2^i-1) % 2^64=2^i-1:=Nat.mod_eq_of_lt (by omega)
 have ha':a % 2^64=a:=Nat.mod_eq_of_lt (by omega)
 have key:a &&& (2^64-1-(2^i-1))=a-a % 2^i:=by
  have e:a-a % 2^i=2^i*(a / 2^i):=by
   have:=Nat.div_add_mod a (2^i)
   omega
  rw[e]
  apply Nat.eq_of_testBit_eq
  intro j
  have e2:2^64-1-(2^i-1)=2^64-(2^i-1+1):=by omega
  rw[e2,Nat.testBit_and,Nat.testBit_two_pow_sub_succ (by omega),Nat.testBit_two_pow_sub_one,Nat.testBit_two_pow_mul,Nat.testBit_div_two_pow]
  by_cases hj:i≤j
  ·have hj':¬j<i:=by omega
   have hs:j-i+i=j:=by omega
   by_cases h64:j<64
   ·simp[hj,hj',h64,hs]
   ·have:a.testBit j=false:=Nat.testBit_lt_two_pow (Nat.lt_of_lt_of_le ha (Nat.pow_le_pow_right (by decide) (by omega)))
    simp[hj,h64,hs,this]
  ·have hj':j<i:=by omega
   simp[hj,hj']
 show IntKind.i64.wrap ((BitVec.ofInt 64 (a:Int) &&& ~~~(BitVec.ofInt 64 ((2:Int)^i-1))).toNat:Int)=_
 rw[hc,BitVec.toNat_and,BitVec.toNat_not,BitVec.ofInt_natCast,BitVec.ofInt_natCast,BitVec.toNat_ofNat,BitVec.toNat_ofNat,hb,ha',key]
 have hm:a % 2^i≤a:=Nat.mod_le _ _
 rw[Int.natCast_sub hm,qAH _ (by omega)]
 simp
theorem emod_le_self(a m:Int)(h:0≤a)(hm:0<m):0≤a % m∧a % m≤a:=by
 have h1:=Int.emod_nonneg a (by omega:m≠0)
 have h2:=Int.mul_ediv_add_emod a m
 have h3:0≤m*(a / m):=Int.mul_nonneg (by omega) (Int.ediv_nonneg h (by omega))
 omega
theorem qFd(n:Nat):0<(2:Int)^n:=by
 have h0:0<(2:Nat)^n:=Nat.two_pow_pos _
 rw[←qG9]
 omega
def inB(p n a:Int):Bool:=decide ((0≤p∧p≤4294967295)∧(0≤n∧n≤32)∧p % 2^(32-n.toNat)=0)&&(decide (0≤a∧a≤4294967295)&&decide (a-a % (2:Int)^(32-n.toNat)=p))
theorem s_InPrefix_is(k:Nat)(p n a:Int)(hk:40<k):qEw k ((p,(n,())),(a,()))=some (inB p n a,((),((),()))):=by
 unfold qEw inB
 simp only[qFb k p n hk,qFW,Option.bind_some]
 cases hd:decide ((0≤p∧p≤4294967295)∧(0≤n∧n≤32)∧p % 2^(32-n.toNat)=0) with
 | false=>simp
 | true =>
  have h':=(of_decide_eq_true hd).2.1
  by_cases h:0≤a∧a≤4294967295
  ·have hp:=qFd (32-n.toNat)
   have hm:=emod_le_self a _ h.1 hp
   have w:wi64 (a-a % (2:Int)^(32-n.toNat))=a-a % (2:Int)^(32-n.toNat):=qAH _ (by omega)
   simp only[qFA k n h' hk,Option.bind_some,h,and_self,decide_true,if_true,Bool.true_and]
   rw[if_neg (by omega),Int.tmod_eq_emod_of_nonneg h.1,w]
  ·simp[h]
theorem qIk(k:Nat)(p n a:Int):qDt k ((p,(n,())),(a,()))=some (inB p n a,((),((),()))):=by
 unfold qDt inB
 simp only[qFc,i_AddrOk_is,Option.bind_some]
 cases hd:decide ((0≤p∧p≤4294967295)∧(0≤n∧n≤32)∧p % 2^(32-n.toNat)=0) with
 | false=>simp
 | true =>
  have h':=(of_decide_eq_true hd).2.1
  by_cases h:0≤a∧a≤4294967295
  ·simp only[qHs k n h',Option.bind_some,h,and_self,decide_true,if_true,Bool.true_and]
   rw[andNot_mask _ (by omega) a h.1 (by omega)]
  ·simp[h]
theorem Compare_is(k:Nat)(a b:Int):qBe k (a,(b,()))=some ((if a<b then -1 else if b<a then 1 else 0),((),((),()))):=by
 unfold qBe qCL
 simp only[Option.bind_some,decide_true,Bool.not_true,Bool.false_eq_true,if_false]
 by_cases h:a<b
 ·simp[h]
 ·by_cases h':b<a <;> simp[h,h']
theorem Or_is(k:Nat)(a b:Int)(hk:3<k):qDY k ([a,b],())=some ((if a=0 then b else a),((),())):=by
 unfold qDY
 have r0:Ty.rd (t:=.int .i64) [a,b] 0=a:=rfl
 have r1:Ty.rd (t:=.int .i64) [a,b] 1=b:=rfl
 refine(qBq (R:=Int×Unit×Unit) (fun j=>((0:Int),([a,b],((2:Int),(((j:Nat):Int),()))))) 2 (fun j=>!decide (Ty.rd (t:=.int .i64) [a,b] (j:Nat)=0)) (fun j=>(Ty.rd (t:=.int .i64) [a,b] (j:Nat),((),()))) (0,((),())) ?_ ?_ k (by omega)).trans ?_
 ·intro ag j hj
  have q1:(0:Int)≤(j:Int)∧(j:Int)<(([a,b]:List Int).length:Int):=by simp;omega
  have q2:(j:Int)<2:=by omega
  have w3:wi64 ((j:Int)+1)=((j+1:Nat):Int):=(qAH _ (by omega)).trans (by omega)
  simp only[q1,q2,w3,and_self,decide_true,if_true]
 ·intro ag
  simp
 ·have e:List.range 2=[0,1]:=rfl
  rw[e]
  by_cases h:a=0
  ·subst h
   by_cases h1:b=0
   ·subst h1
    simp[Ty.rd]
   ·simp[Ty.rd,h1]
  ·simp[Ty.rd,h]
def qAh(p n q m:Int):Bool:=decide (p<q) || (decide (p=q)&&decide (n<m))
theorem Ahead_is(k:Nat)(p n q m:Int):qDB k ((p,(n,())),((q,(m,())),()))=some (qAh p n q m,((),((),()))):=by
 unfold qDB qAh
 by_cases h:p<q
 ·simp[h]
 ·by_cases h':p=q <;> simp[h,h']
theorem qEe(k:Nat)(p n q m:Int)(hk:3<k):∃c:Int,qBf k ((p,(n,())),((q,(m,())),()))=some (c,((),((),())))∧(0≤c↔qAh p n q m=false):=by
 unfold qBf qAh
 simp only[Compare_is,Or_is k _ _ hk,Option.bind_some]
 refine⟨_,rfl,?_⟩
 by_cases h:p<q
 ·simp[h]
 ·by_cases h':q<p
  ·have:¬p=q:=by omega
   simp[h,h',this]
  ·have:p=q:=by omega
   subst this
   by_cases h3:n<m
   ·simp[h3]
   ·by_cases h4:m<n <;> simp[h3,h4]
def qHV(a:List qAT.den)(i:Nat)(_:Unit):(Bool×Unit×Unit) ⊕ Unit:=
 let r:=Ty.rd (t:=qAT) a i
 let p:=Ty.rd (t:=qAT) a (wi64 ((i:Int)-1))
 if decide ((0≤r.1.1∧r.1.1≤4294967295)∧(0≤r.1.2∧r.1.2≤32)∧r.1.1 % 2^(32-r.1.2.toNat)=0)&&(decide (1≤r.2∧r.2≤99)&&(!decide (0<(i:Int)) || qAh p.1.1 p.1.2 r.1.1 r.1.2)) then .inr () else .inl (false,((),()))
def qCz(a:List qAT.den):Bool:=(qDx (qHV a) (fun _=>(decide ((a.length:Int)≤12),((),()))) a.length 0 ()).1
theorem qIl(k:Nat)(a:List qAT.den)(hk:1048576<k)(hl:a.length≤1048576):qDr k (a,())=some (qCz a,((),())):=by
 unfold qDr
 refine(qFo (A:=Unit) (fun i _=>(a,(((i:Nat):Int),()))) a.length (qHV a) (fun _=>(decide ((a.length:Int)≤12),((),()))) (fun _ _=>True) ?_ (fun _ _ _ _ _ _=>trivial) ?_ k () trivial (by omega)).trans rfl
 ·intro again i _ hi _
  have w2:wi64 ((i:Int)+1)=((i+1:Nat):Int):=(qAH _ (by omega)).trans (by omega)
  have w1:wi64 ((i:Int)-1)=(i:Int)-1:=qAH _ (by omega)
  have g1:(0:Int)≤(i:Int)∧(i:Int)<(a.length:Int):=by omega
  unfold qHV
  simp only[g1,qFb k _ _ (by omega:40<k),Ahead_is,qCe,w2,and_self,decide_true,if_true,Option.bind_some]
  generalize decide ((0≤(Ty.rd (t:=qAT) a i).1.1∧(Ty.rd (t:=qAT) a i).1.1≤4294967295)∧(0≤(Ty.rd (t:=qAT) a i).1.2∧(Ty.rd (t:=qAT) a i).1.2≤32)∧(Ty.rd (t:=qAT) a i).1.1 % 2^(32-(Ty.rd (t:=qAT) a i).1.2.toNat)=0)=b1
  generalize decide (1≤(Ty.rd (t:=qAT) a i).2∧(Ty.rd (t:=qAT) a i).2≤99)=b2
  cases b1 with
  | false=>simp
  | true =>
   cases b2 with
   | false=>simp
   | true =>
    by_cases h2:0<(i:Int)
    ·have g3:(0:Int)≤wi64 ((i:Int)-1)∧wi64 ((i:Int)-1)<(a.length:Int):=by rw[w1];omega
     simp only[h2,g3,and_self,decide_true,Bool.not_true,if_true,Bool.true_and,Bool.false_or]
     generalize qAh _ _ _ _=b3
     cases b3 <;> simp
    ·have:i=0:=by omega
     subst this
     simp
 ·intro again _ _
  simp
theorem isId_is(k:Nat)(a:Int):qIQ k (a,())=some (decide (1≤a∧a≤99),((),())):=by
 unfold qIQ
 rw[qCx]
 rfl
theorem qFe(k:Nat)(a:List qAT.den)(hk:1048576<k)(hl:a.length≤1048576):qCW k (a,())=some (qCz a,((),())):=by
 unfold qCW
 refine(qFo (A:=Unit) (fun i _=>(a,(a,((a.length:Int),(((i:Nat):Int),()))))) a.length (qHV a) (fun _=>(decide ((a.length:Int)≤12),((),()))) (fun _ _=>True) ?_ (fun _ _ _ _ _ _=>trivial) ?_ k () trivial (by omega)).trans rfl
 ·intro again i _ hi _
  have w2:wi64 ((i:Int)+1)=((i+1:Nat):Int):=(qAH _ (by omega)).trans (by omega)
  have w1:wi64 ((i:Int)-1)=(i:Int)-1:=qAH _ (by omega)
  have g1:(0:Int)≤(i:Int)∧(i:Int)<(a.length:Int):=by omega
  unfold qHV
  obtain⟨c,hc,hc'⟩:=qEe k (Ty.rd (t:=qAT) a (wi64 ((i:Int)-1))).1.1 (Ty.rd (t:=qAT) a (wi64 ((i:Int)-1))).1.2 (Ty.rd (t:=qAT) a i).1.1 (Ty.rd (t:=qAT) a i).1.2 (by omega)
  simp only[g1,qFc,hc,isId_is,w2,and_self,decide_true,if_true,Option.bind_some]
  generalize decide ((0≤(Ty.rd (t:=qAT) a i).1.1∧(Ty.rd (t:=qAT) a i).1.1≤4294967295)∧(0≤(Ty.rd (t:=qAT) a i).1.2∧(Ty.rd (t:=qAT) a i).1.2≤32)∧(Ty.rd (t:=qAT) a i).1.1 % 2^(32-(Ty.rd (t:=qAT) a i).1.2.toNat)=0)=b1
  generalize decide (1≤(Ty.rd (t:=qAT) a i).2∧(Ty.rd (t:=qAT) a i).2≤99)=b2
  generalize qAh _ _ _ _=b3 at hc'
  cases b1 with
  | false=>simp
  | true =>
   cases b2 with
   | false=>simp
   | true =>
    by_cases h2:0<(i:Int)
    ·have g3:(0:Int)≤wi64 ((i:Int)-1)∧wi64 ((i:Int)-1)<(a.length:Int):=by rw[w1];omega
     simp only[h2,g3,and_self,decide_true,Bool.not_true,if_true,Bool.true_and,Bool.false_or]
     cases b3 with
     | false=>have:=hc'.2 rfl;simp[this]
     | true =>
      have:¬0≤c:=fun h=>by have:=hc'.1 h;simp at this
      simp[this]
    ·have:i=0:=by omega
     subst this
     simp
 ·intro again _ _
  simp
abbrev qBn:Type:=Int×Int×List (Int×Int×Int)×List (Int×Int)×Unit
def qEl(p n a:Int):Bool:=inB p n a&&(!decide (a=p)&&!decide (a=p+((2:Int)^(32-n.toNat)-1)))
theorem inB_in{p n a:Int}(h:inB p n a=true):(0≤p∧p≤4294967295)∧(0≤n∧n≤32)∧p % 2^(32-n.toNat)=0:=by
 unfold inB at h
 rw[Bool.and_eq_true] at h
 exact of_decide_eq_true h.1
theorem pow_le_32(n:Int):(2:Int)^(32-n.toNat)≤4294967296:=by
 have h:(2:Nat)^(32-n.toNat)≤2^32:=Nat.pow_le_pow_right (by decide) (by omega)
 have h:((2^(32-n.toNat):Nat):Int)≤((2^32:Nat):Int):=Int.ofNat_le.2 h
 rw[qG9] at h
 exact h
theorem qIm(k:Nat)(p n a:Int):qEa k ((p,(n,())),(a,()))=some (qEl p n a,((),((),()))):=by
 unfold qEa qEl
 simp only[qIk,Option.bind_some]
 cases hb:inB p n a with
 | false=>simp
 | true =>
  obtain⟨h1,h2,h3⟩:=inB_in hb
  have hp:=qFd (32-n.toNat)
  have hq:=pow_le_32 n
  simp only[qHs k n h2,Option.bind_some,if_true,Bool.true_and]
  rw[or_join (32-n.toNat) p _ h1.1 h3 (by omega) (by omega) (by omega) (by omega)]
  by_cases e:a=p <;> simp[e]
theorem Inside_is(k:Nat)(x:qBn)(a:Int)(hk:40<k):qDA k (x,(a,()))=some (qEl x.1 x.2.1 a,((),((),()))):=by
 unfold qDA qEl
 simp only[s_InPrefix_is k _ _ _ hk,Option.bind_some]
 cases hb:inB x.1 x.2.1 a with
 | false=>simp
 | true =>
  obtain⟨h1,h2,h3⟩:=inB_in hb
  have hp:=qFd (32-x.2.1.toNat)
  have hq:=pow_le_32 x.2.1
  have w1:wi64 (x.1+(2:Int)^(32-x.2.1.toNat))=x.1+(2:Int)^(32-x.2.1.toNat):=qAH _ (by omega)
  have w2:wi64 (x.1+((2:Int)^(32-x.2.1.toNat)-1))=x.1+((2:Int)^(32-x.2.1.toNat)-1):=qAH _ (by omega)
  have e2:x.1+(2:Int)^(32-x.2.1.toNat)-1=x.1+((2:Int)^(32-x.2.1.toNat)-1):=by omega
  simp only[qFA k x.2.1 h2 hk,Option.bind_some,if_true,Bool.true_and,w1,e2,w2]
  by_cases e:a=x.1 <;> simp[e]
def qBo(q:List qAQ.den)(a:Int):Int:=match (List.range q.length).find? (fun j=>decide ((Ty.rd (t:=qAQ) q (j:Nat)).2=a)) with | some j=>(Ty.rd (t:=qAQ) q (j:Nat)).1 | none=>0
theorem qHu(k:Nat)(x:qBn)(a:Int)(hk:1048576<k)(hl:x.2.2.2.1.length≤1048576):qB8 k (x,(a,()))=some (qBo x.2.2.2.1 a,((),((),()))):=by
 unfold qB8 qBo
 refine(qBq (R:=Int×Unit×Unit×Unit) (fun j=>(a,(x.2.2.2.1,((x.2.2.2.1.length:Int),(((j:Nat):Int),()))))) x.2.2.2.1.length (fun j=>decide ((Ty.rd (t:=qAQ) x.2.2.2.1 (j:Nat)).2=a)) (fun j=>((Ty.rd (t:=qAQ) x.2.2.2.1 (j:Nat)).1,((),((),())))) (0,((),((),()))) ?_ ?_ k (by omega)).trans ?_
 ·intro ag j hj
  have q1:(0:Int)≤(j:Int)∧(j:Int)<(x.2.2.2.1.length:Int):=by omega
  have w3:wi64 ((j:Int)+1)=((j+1:Nat):Int):=(qAH _ (by omega)).trans (by omega)
  simp only[q1,w3,and_self,decide_true,if_true]
 ·intro ag
  simp only[Int.lt_irrefl,decide_false,Bool.false_eq_true,if_false]
 ·cases (List.range x.2.2.2.1.length).find? (fun j=>decide ((Ty.rd (t:=qAQ) x.2.2.2.1 (j:Nat)).2=a)) <;> rfl
theorem qEm(k:Nat)(x:qBn)(a:Int)(hk:1048576<k)(hl:x.2.2.2.1.length≤1048576):qBZ k (x,(a,()))=some (qBo x.2.2.2.1 a,((),((),()))):=by
 unfold qBZ qBo
 refine(qBq (R:=Int×Unit×Unit×Unit) (fun j=>(a,(x,(((j:Nat):Int),())))) x.2.2.2.1.length (fun j=>decide ((Ty.rd (t:=qAQ) x.2.2.2.1 (j:Nat)).2=a)) (fun j=>((Ty.rd (t:=qAQ) x.2.2.2.1 (j:Nat)).1,((),((),())))) (0,((),((),()))) ?_ ?_ k (by omega)).trans ?_
 ·intro ag j hj
  have q1:(0:Int)≤(j:Int)∧(j:Int)<(x.2.2.2.1.length:Int):=by omega
  have w3:wi64 ((j:Int)+1)=((j+1:Nat):Int):=(qAH _ (by omega)).trans (by omega)
  simp only[q1,w3,and_self,decide_true,if_true]
 ·intro ag
  simp only[Int.lt_irrefl,decide_false,Bool.false_eq_true,if_false]
 ·cases (List.range x.2.2.2.1.length).find? (fun j=>decide ((Ty.rd (t:=qAQ) x.2.2.2.1 (j:Nat)).2=a)) <;> rfl
def badF(x:qBn)(i:Nat):Bool:=!(decide (1≤(Ty.rd (t:=qAQ) x.2.2.2.1 i).1∧(Ty.rd (t:=qAQ) x.2.2.2.1 i).1≤99)&&(qEl x.1 x.2.1 (Ty.rd (t:=qAQ) x.2.2.2.1 i).2&&(!(decide (0<(i:Int))&&decide ((Ty.rd (t:=qAQ) x.2.2.2.1 i).1≤(Ty.rd (t:=qAQ) x.2.2.2.1 (wi64 ((i:Int)-1))).1))&&decide (qBo x.2.2.2.1 (Ty.rd (t:=qAQ) x.2.2.2.1 i).2=(Ty.rd (t:=qAQ) x.2.2.2.1 i).1))))
def qCD(q:List qAC.den)(w:Int):Int:=match (List.range q.length).find? (fun j=>decide ((Ty.rd (t:=qAC) q (j:Nat)).2.1=w)) with | some j=>((j:Nat):Int) | none=>-1
theorem leaseOf_is(k:Nat)(x:qBn)(w:Int)(hk:1048576<k)(hl:x.2.2.1.length≤1048576):qDX k (x,(w,()))=some (qCD x.2.2.1 w,((),((),()))):=by
 have h:qAM k (x.2.2.1,(((w,()),()),()))=some (qCD x.2.2.1 w,((),((((w,()),()),())))):=by
  unfold qAM qCD
  refine(qBq (R:=Int×Unit×((Int×Unit)×Unit)×Unit) (fun j=>(x.2.2.1,((((w,()),())),((x.2.2.1.length:Int),(((j:Nat):Int),()))))) x.2.2.1.length (fun j=>decide ((Ty.rd (t:=qAC) x.2.2.1 (j:Nat)).2.1=w)) (fun j=>(((j:Nat):Int),((),((((w,()),()),()))))) (-1,((),((((w,()),()),())))) ?_ ?_ k (by omega)).trans ?_
  ·intro ag j hj
   have q1:(0:Int)≤(j:Int)∧(j:Int)<(x.2.2.1.length:Int):=by omega
   have w3:wi64 ((j:Int)+1)=((j+1:Nat):Int):=(qAH _ (by omega)).trans (by omega)
   simp only[q1,w3,qFR,and_self,decide_true,if_true,Option.bind_some]
  ·intro ag
   simp only[Int.lt_irrefl,decide_false,Bool.false_eq_true,if_false]
  ·cases (List.range x.2.2.1.length).find? (fun j=>decide ((Ty.rd (t:=qAC) x.2.2.1 (j:Nat)).2.1=w)) <;> rfl
 unfold qDX
 rw[h]
 rfl
def badL(x:qBn)(i:Nat):Bool:=!(!(decide (0<(i:Int))&&decide ((Ty.rd (t:=qAC) x.2.2.1 i).1≤(Ty.rd (t:=qAC) x.2.2.1 (wi64 ((i:Int)-1))).1))&&(qEl x.1 x.2.1 (Ty.rd (t:=qAC) x.2.2.1 i).1&&(decide (1≤(Ty.rd (t:=qAC) x.2.2.1 i).2.1∧(Ty.rd (t:=qAC) x.2.2.1 i).2.1≤99)&&(decide (0≤(Ty.rd (t:=qAC) x.2.2.1 i).2.2∧(Ty.rd (t:=qAC) x.2.2.1 i).2.2≤1000000000)&&((List.range i).all (fun j=>!decide ((Ty.rd (t:=qAC) x.2.2.1 (j:Nat)).2.1=(Ty.rd (t:=qAC) x.2.2.1 i).2.1))&&(decide (qBo x.2.2.2.1 (Ty.rd (t:=qAC) x.2.2.1 i).1=0) || decide (qBo x.2.2.2.1 (Ty.rd (t:=qAC) x.2.2.1 i).1=(Ty.rd (t:=qAC) x.2.2.1 i).2.1)))))))
def prefB(p n:Int):Bool:=decide ((0≤p∧p≤4294967295)∧(0≤n∧n≤32)∧p % 2^(32-n.toNat)=0)
def qC1(x:qBn):Bool:=prefB x.1 x.2.1&&(decide (24≤x.2.1∧x.2.1≤30)&&(decide (x.2.2.1.length≤6)&&(decide (x.2.2.2.1.length≤4)&&((List.range x.2.2.2.1.length).all (fun j=>!badF x j)&&(List.range x.2.2.1.length).all (fun j=>!badL x j)))))
theorem fixesOk_is(k:Nat)(x:qBn)(hk:1048576<k)(hl:x.2.2.2.1.length≤1048576):qGU k (x,())=some (((List.range x.2.2.2.1.length).all (fun j=>!badF x j)&&decide (x.2.2.2.1.length≤4)),((),())):=by
 unfold qGU
 refine(qCV (fun i=>(x,(x.2.2.2.1,((x.2.2.2.1.length:Int),(((i:Nat):Int),()))))) x.2.2.2.1.length (badF x) (some (false,((),()))) (some (decide (x.2.2.2.1.length≤4),((),()))) ?_ ?_ k (by omega)).trans ?_
 ·intro again i hi
  have w2:wi64 ((i:Int)+1)=((i+1:Nat):Int):=(qAH _ (by omega)).trans (by omega)
  have w1:wi64 ((i:Int)-1)=(i:Int)-1:=qAH _ (by omega)
  have g1:(0:Int)≤(i:Int)∧(i:Int)<(x.2.2.2.1.length:Int):=by omega
  rw[show badF x i=(!(decide (1≤(Ty.rd (t:=qAQ) x.2.2.2.1 i).1∧(Ty.rd (t:=qAQ) x.2.2.2.1 i).1≤99)&&(qEl x.1 x.2.1 (Ty.rd (t:=qAQ) x.2.2.2.1 i).2&&(!(decide (0<(i:Int))&&decide ((Ty.rd (t:=qAQ) x.2.2.2.1 i).1≤(Ty.rd (t:=qAQ) x.2.2.2.1 (wi64 ((i:Int)-1))).1))&&decide (qBo x.2.2.2.1 (Ty.rd (t:=qAQ) x.2.2.2.1 i).2=(Ty.rd (t:=qAQ) x.2.2.2.1 i).1))))) from rfl]
  simp only[g1,isId_is,qIm,qHu k x _ hk hl,w2,and_self,decide_true,if_true,Option.bind_some]
  by_cases c1:1≤(Ty.rd (t:=qAQ) x.2.2.2.1 i).1∧(Ty.rd (t:=qAQ) x.2.2.2.1 i).1≤99
  rotate_left
  ·simp only[c1,decide_false,Bool.not_false,Bool.true_eq_false,if_false,Bool.false_and,if_true]
  cases c2:qEl x.1 x.2.1 (Ty.rd (t:=qAQ) x.2.2.2.1 i).2 with
  | false=>simp only[c1,and_self,decide_true,Bool.not_true,Bool.not_false,Bool.true_eq_false,if_true,if_false,Bool.false_and,Bool.true_and]
  | true =>
   by_cases h2:0<(i:Int)
   ·have g3:(0:Int)≤wi64 ((i:Int)-1)∧wi64 ((i:Int)-1)<(x.2.2.2.1.length:Int):=by rw[w1];omega
    by_cases c3:(Ty.rd (t:=qAQ) x.2.2.2.1 i).1≤(Ty.rd (t:=qAQ) x.2.2.2.1 (wi64 ((i:Int)-1))).1
    ·simp only[c1,c3,h2,g3,and_self,decide_true,Bool.not_true,Bool.not_false,Bool.true_eq_false,if_true,if_false,Bool.false_and,Bool.true_and]
    ·by_cases c4:qBo x.2.2.2.1 (Ty.rd (t:=qAQ) x.2.2.2.1 i).2=(Ty.rd (t:=qAQ) x.2.2.2.1 i).1 <;>
      simp only[c1,c3,c4,h2,g3,and_self,decide_true,decide_false,Bool.not_true,Bool.not_false,Bool.false_eq_true,if_true,if_false,Bool.and_false,Bool.true_and]
   ·by_cases c4:qBo x.2.2.2.1 (Ty.rd (t:=qAQ) x.2.2.2.1 i).2=(Ty.rd (t:=qAQ) x.2.2.2.1 i).1 <;>
     simp only[c1,c4,h2,and_self,decide_true,decide_false,Bool.not_true,Bool.not_false,Bool.false_eq_true,if_true,if_false,Bool.false_and,Bool.true_and]
 ·intro ag
  have e:decide ((x.2.2.2.1.length:Int)≤4)=decide (x.2.2.2.1.length≤4):=by rw[decide_eq_decide];omega
  simp only[Int.lt_irrefl,decide_false,Bool.false_eq_true,if_false,e]
 ·cases (List.range x.2.2.2.1.length).all (fun j=>!badF x j) <;> simp
theorem leaseB_at(q:List qAC.den)(i:Nat)(hi:i<q.length):(qCD q (Ty.rd (t:=qAC) q i).2.1=(i:Int))↔(List.range i).all (fun j=>!decide ((Ty.rd (t:=qAC) q (j:Nat)).2.1=(Ty.rd (t:=qAC) q i).2.1))=true:=by
 have hself:(fun j:Nat=>decide ((Ty.rd (t:=qAC) q (j:Nat)).2.1=(Ty.rd (t:=qAC) q i).2.1)) i=true:=by simp
 have hfa:=find_at (p:=fun j:Nat=>decide ((Ty.rd (t:=qAC) q (j:Nat)).2.1=(Ty.rd (t:=qAC) q i).2.1)) hi hself
 have hall:(List.range i).all (fun j=>!decide ((Ty.rd (t:=qAC) q (j:Nat)).2.1=(Ty.rd (t:=qAC) q i).2.1))=true↔∀j,j<i→decide ((Ty.rd (t:=qAC) q (j:Nat)).2.1=(Ty.rd (t:=qAC) q i).2.1)=false:=by simp
 rw[hall,←hfa]
 unfold qCD
 cases hf:(List.range q.length).find? (fun j=>decide ((Ty.rd (t:=qAC) q (j:Nat)).2.1=(Ty.rd (t:=qAC) q i).2.1)) with
 | none =>
  exfalso
  have:=List.find?_eq_none.1 hf i (by simpa using hi)
  exact this hself
 | some j =>
  simp only[Option.some.injEq]
  omega
theorem i_PoolOk_is(k:Nat)(x:qBn)(hk:1048576<k)(hl:x.2.2.1.length≤1048576)(hl':x.2.2.2.1.length≤1048576):qG3 k (x,())=some (qC1 x,((),())):=by
 unfold qG3 qC1
 simp only[qFc,qCx,fixesOk_is k x hk hl',Option.bind_some]
 rw[show decide ((0≤x.1∧x.1≤4294967295)∧(0≤x.2.1∧x.2.1≤32)∧x.1 % 2^(32-x.2.1.toNat)=0)=prefB x.1 x.2.1 from rfl]
 cases prefB x.1 x.2.1 with
 | false=>simp
 | true =>
  by_cases h1:24≤x.2.1∧x.2.1≤30
  rotate_left
  ·simp[h1]
  cases hF:(List.range x.2.2.2.1.length).all (fun j=>!badF x j) with
  | false=>simp[h1]
  | true =>
   by_cases h4:x.2.2.2.1.length≤4
   rotate_left
   ·simp[h1,h4]
   by_cases h6:x.2.2.1.length≤6
   rotate_left
   ·have h6':(6:Int)<(x.2.2.1.length:Int):=by omega
    simp[h1,h4,h6,h6']
   have h6':¬(6:Int)<(x.2.2.1.length:Int):=by omega
   simp only[h1,h4,h6,h6',and_self,decide_true,decide_false,Bool.not_true,Bool.and_self,Bool.true_and,Bool.false_eq_true,if_true,if_false]
   refine(qCV (fun i=>(x,(x.2.2.1,((x.2.2.1.length:Int),(((i:Nat):Int),()))))) x.2.2.1.length (badL x) (some (false,((),()))) (some (true,((),()))) ?_ ?_ k (by omega)).trans ?_
   ·intro again i hi
    have w2:wi64 ((i:Int)+1)=((i+1:Nat):Int):=(qAH _ (by omega)).trans (by omega)
    have w1:wi64 ((i:Int)-1)=(i:Int)-1:=qAH _ (by omega)
    have g1:(0:Int)≤(i:Int)∧(i:Int)<(x.2.2.1.length:Int):=by omega
    have hat:=leaseB_at x.2.2.1 i hi
    have hu:decide (qCD x.2.2.1 (Ty.rd (t:=qAC) x.2.2.1 i).2.1=(i:Int))=(List.range i).all (fun j=>!decide ((Ty.rd (t:=qAC) x.2.2.1 (j:Nat)).2.1=(Ty.rd (t:=qAC) x.2.2.1 i).2.1)):=by
     rw[Bool.eq_iff_iff,decide_eq_true_eq,hat]
    rw[show badL x i=(!(!(decide (0<(i:Int))&&decide ((Ty.rd (t:=qAC) x.2.2.1 i).1≤(Ty.rd (t:=qAC) x.2.2.1 (wi64 ((i:Int)-1))).1))&&(qEl x.1 x.2.1 (Ty.rd (t:=qAC) x.2.2.1 i).1&&(decide (1≤(Ty.rd (t:=qAC) x.2.2.1 i).2.1∧(Ty.rd (t:=qAC) x.2.2.1 i).2.1≤99)&&(decide (0≤(Ty.rd (t:=qAC) x.2.2.1 i).2.2∧(Ty.rd (t:=qAC) x.2.2.1 i).2.2≤1000000000)&&((List.range i).all (fun j=>!decide ((Ty.rd (t:=qAC) x.2.2.1 (j:Nat)).2.1=(Ty.rd (t:=qAC) x.2.2.1 i).2.1))&&(decide (qBo x.2.2.2.1 (Ty.rd (t:=qAC) x.2.2.1 i).1=0) || decide (qBo x.2.2.2.1 (Ty.rd (t:=qAC) x.2.2.1 i).1=(Ty.rd (t:=qAC) x.2.2.1 i).2.1)))))))) from rfl]
    simp only[g1,isId_is,qIm,qHu k x _ hk hl',leaseOf_is k x _ hk hl,hu,w2,and_self,decide_true,if_true,Option.bind_some]
    have rest:∀b1 b2 b3 b4 b5 b6:Bool,∀go:Option (Bool×Unit×Unit),(if(!b1)=false then
      if(!b2)=false then
       if(!b3)=true then some (false,((),()))
       else if(!b4)=false then
        if(!b5)=true then
         if(!b6)=true then some (false,((),())) else go
        else go
       else some (false,((),()))
      else some (false,((),()))
     else some (false,((),())))=if(!(b1&&(b2&&(b3&&(b4&&(b5 || b6))))))=true then some (false,((),())) else go:=by
     intro b1 b2 b3 b4 b5 b6 go
     cases b1 <;> cases b2 <;> cases b3 <;> cases b4 <;> cases b5 <;> cases b6 <;> rfl
    by_cases h2:0<(i:Int)
    ·have g3:(0:Int)≤wi64 ((i:Int)-1)∧wi64 ((i:Int)-1)<(x.2.2.1.length:Int):=by rw[w1];omega
     by_cases c3:(Ty.rd (t:=qAC) x.2.2.1 i).1≤(Ty.rd (t:=qAC) x.2.2.1 (wi64 ((i:Int)-1))).1
     ·simp only[c3,h2,g3,and_self,decide_true,Bool.not_true,Bool.not_false,Bool.true_eq_false,if_true,if_false,Bool.false_and,Bool.and_self]
     ·simp only[c3,h2,g3,and_self,decide_true,decide_false,if_true,Bool.and_false,Bool.not_false,Bool.true_and]
      exact rest _ _ _ _ _ _ _
    ·simp only[h2,decide_false,Bool.false_eq_true,if_false,Bool.false_and,Bool.not_false,Bool.true_and]
     exact rest _ _ _ _ _ _ _
   ·intro ag
    simp only[Int.lt_irrefl,decide_false,Bool.false_eq_true,if_false]
   ·cases (List.range x.2.2.1.length).all (fun j=>!badL x j) <;> simp
theorem qHv(k:Nat)(x:qBn)(hk:1048576<k)(hl:x.2.2.1.length≤1048576)(hl':x.2.2.2.1.length≤1048576):qFO k (x,())=some (qC1 x,((),())):=by
 unfold qFO qC1
 simp only[qFb k _ _ (by omega:40<k),qCe,Option.bind_some]
 rw[show decide ((0≤x.1∧x.1≤4294967295)∧(0≤x.2.1∧x.2.1≤32)∧x.1 % 2^(32-x.2.1.toNat)=0)=prefB x.1 x.2.1 from rfl]
 cases prefB x.1 x.2.1 with
 | false=>simp
 | true =>
  by_cases h1:24≤x.2.1∧x.2.1≤30
  rotate_left
  ·simp[h1]
  by_cases h6:x.2.2.1.length≤6
  rotate_left
  ·have h6':(6:Int)<(x.2.2.1.length:Int):=by omega
   simp[h1,h6,h6']
  by_cases h4:x.2.2.2.1.length≤4
  rotate_left
  ·have h6':¬(6:Int)<(x.2.2.1.length:Int):=by omega
   have h4':(4:Int)<(x.2.2.2.1.length:Int):=by omega
   simp[h1,h4,h6,h6',h4']
  have h6':¬(6:Int)<(x.2.2.1.length:Int):=by omega
  have h4':¬(4:Int)<(x.2.2.2.1.length:Int):=by omega
  simp only[h1,h4,h6,h6',h4',and_self,decide_true,decide_false,Bool.not_true,Bool.true_and,Bool.false_eq_true,if_true,if_false]
  refine(qCV (fun i=>(x,(((i:Nat):Int),()))) x.2.2.2.1.length (badF x) (some (false,((),()))) (some ((List.range x.2.2.1.length).all (fun j=>!badL x j),((),()))) ?_ ?_ k (by omega)).trans ?_
  ·intro again i hi
   have w2:wi64 ((i:Int)+1)=((i+1:Nat):Int):=(qAH _ (by omega)).trans (by omega)
   have w1:wi64 ((i:Int)-1)=(i:Int)-1:=qAH _ (by omega)
   have g1:(0:Int)≤(i:Int)∧(i:Int)<(x.2.2.2.1.length:Int):=by omega
   rw[show badF x i=(!(decide (1≤(Ty.rd (t:=qAQ) x.2.2.2.1 i).1∧(Ty.rd (t:=qAQ) x.2.2.2.1 i).1≤99)&&(qEl x.1 x.2.1 (Ty.rd (t:=qAQ) x.2.2.2.1 i).2&&(!(decide (0<(i:Int))&&decide ((Ty.rd (t:=qAQ) x.2.2.2.1 i).1≤(Ty.rd (t:=qAQ) x.2.2.2.1 (wi64 ((i:Int)-1))).1))&&decide (qBo x.2.2.2.1 (Ty.rd (t:=qAQ) x.2.2.2.1 i).2=(Ty.rd (t:=qAQ) x.2.2.2.1 i).1))))) from rfl]
   simp only[g1,Inside_is k x _ (by omega:40<k),qEm k x _ hk hl',w2,and_self,decide_true,if_true,Option.bind_some]
   have rest:∀b1 b2 b4:Bool,∀go:Option (Bool×Unit×Unit),(if(!b1)=false then
     if(!b2)=false then
      if(!b4)=true then some (false,((),())) else go
     else some (false,((),()))
    else some (false,((),())))=if(!(b1&&(b2&&b4)))=true then some (false,((),())) else go:=by
    intro b1 b2 b4 go
    cases b1 <;> cases b2 <;> cases b4 <;> rfl
   by_cases h2:0<(i:Int)
   ·have g3:(0:Int)≤wi64 ((i:Int)-1)∧wi64 ((i:Int)-1)<(x.2.2.2.1.length:Int):=by rw[w1];omega
    by_cases c3:(Ty.rd (t:=qAQ) x.2.2.2.1 i).1≤(Ty.rd (t:=qAQ) x.2.2.2.1 (wi64 ((i:Int)-1))).1
    ·simp only[c3,h2,g3,and_self,decide_true,Bool.true_eq_false,if_true,if_false]
     have q:∀b1 b2 b4:Bool,∀go:Option (Bool×Unit×Unit),(if(!b1)=false then(if(!b2)=false then some (false,((),())) else some (false,((),()))) else some (false,((),())))=if(!(b1&&(b2&&(!(true&&true)&&b4))))=true then some (false,((),())) else go:=by
      intro b1 b2 b4 go
      cases b1 <;> cases b2 <;> cases b4 <;> rfl
     exact q _ _ _ _
    ·simp only[c3,h2,g3,and_self,decide_true,decide_false,if_true,Bool.and_false,Bool.not_false,Bool.true_and]
     exact rest _ _ _ _
   ·simp only[h2,decide_false,Bool.false_eq_true,if_false,Bool.false_and,Bool.not_false,Bool.true_and]
    exact rest _ _ _ _
  ·intro ag
   simp only[Int.lt_irrefl,decide_false,Bool.false_eq_true,if_false]
   refine(qCV (fun i=>(x,(((i:Nat):Int),()))) x.2.2.1.length (badL x) (some (false,((),()))) (some (true,((),()))) ?_ ?_ k (by omega)).trans ?_
   ·intro again i hi
    have w2:wi64 ((i:Int)+1)=((i+1:Nat):Int):=(qAH _ (by omega)).trans (by omega)
    have w1:wi64 ((i:Int)-1)=(i:Int)-1:=qAH _ (by omega)
    have g1:(0:Int)≤(i:Int)∧(i:Int)<(x.2.2.1.length:Int):=by omega
    rw[show badL x i=(!(!(decide (0<(i:Int))&&decide ((Ty.rd (t:=qAC) x.2.2.1 i).1≤(Ty.rd (t:=qAC) x.2.2.1 (wi64 ((i:Int)-1))).1))&&(qEl x.1 x.2.1 (Ty.rd (t:=qAC) x.2.2.1 i).1&&(decide (1≤(Ty.rd (t:=qAC) x.2.2.1 i).2.1∧(Ty.rd (t:=qAC) x.2.2.1 i).2.1≤99)&&(decide (0≤(Ty.rd (t:=qAC) x.2.2.1 i).2.2∧(Ty.rd (t:=qAC) x.2.2.1 i).2.2≤1000000000)&&((List.range i).all (fun j=>!decide ((Ty.rd (t:=qAC) x.2.2.1 (j:Nat)).2.1=(Ty.rd (t:=qAC) x.2.2.1 i).2.1))&&(decide (qBo x.2.2.2.1 (Ty.rd (t:=qAC) x.2.2.1 i).1=0) || decide (qBo x.2.2.2.1 (Ty.rd (t:=qAC) x.2.2.1 i).1=(Ty.rd (t:=qAC) x.2.2.1 i).2.1)))))))) from rfl]
    simp only[g1,jn,Inside_is k x _ (by omega:40<k),qEm k x _ hk hl',and_self,decide_true,if_true,Option.bind_some]
    have rest:∀b1 b2 b3 b4 b5 b6:Bool,∀go W:Option (Bool×Unit×Unit),W=(if b4=true then go else some (false,((),())))→(if(!b1)=false then
      if(!b2)=false then
       if(!b3)=false then
        if(!b5)=true then
         if(!b6)=true then some (false,((),())) else W
        else W
       else some (false,((),()))
      else some (false,((),()))
     else some (false,((),())))=if(!(b1&&(b2&&(b3&&(b4&&(b5 || b6))))))=true then some (false,((),())) else go:=by
     intro b1 b2 b3 b4 b5 b6 go W hW
     subst hW
     cases b1 <;> cases b2 <;> cases b3 <;> cases b4 <;> cases b5 <;> cases b6 <;> rfl
    by_cases h2:0<(i:Int)
    ·have g3:(0:Int)≤wi64 ((i:Int)-1)∧wi64 ((i:Int)-1)<(x.2.2.1.length:Int):=by rw[w1];omega
     by_cases c3:(Ty.rd (t:=qAC) x.2.2.1 i).1≤(Ty.rd (t:=qAC) x.2.2.1 (wi64 ((i:Int)-1))).1
     ·simp only[c3,h2,g3,and_self,decide_true,if_true]
      have q:∀b1 b2 b3:Bool,(if(!b1)=false then(if(!b2)=false then(if(!b3)=false then some (false,((),())) else some (false,((),()))) else some (false,((),()))) else some (false,((),())))=(some (false,((),())):Option (Bool×Unit×Unit)):=by
       intro b1 b2 b3
       cases b1 <;> cases b2 <;> cases b3 <;> rfl
      exact q _ _ _
     ·simp only[c3,h2,g3,and_self,decide_true,decide_false,if_true,Bool.and_false,Bool.not_false,Bool.true_and,Bool.false_eq_true,if_false]
      refine rest _ _ _ _ _ _ _ _ (qCV (R:=Bool×Unit×Unit) (fun j=>(x,((i:Int),(((Ty.rd (t:=qAC) x.2.2.1 i).1,((Ty.rd (t:=qAC) x.2.2.1 i).2.1,((Ty.rd (t:=qAC) x.2.2.1 i).2.2,()))),(((j:Nat):Int),()))))) i (fun j=>decide ((Ty.rd (t:=qAC) x.2.2.1 (j:Nat)).2.1=(Ty.rd (t:=qAC) x.2.2.1 i).2.1)) (some (false,((),()))) (again (x,(((i+1:Nat):Int),()))) ?_ ?_ k (by omega))
      ·intro ag2 j hj
       have q1:(0:Int)≤(j:Int)∧(j:Int)<(x.2.2.1.length:Int):=by omega
       have q2:(j:Int)<(i:Int):=by omega
       have w3:wi64 ((j:Int)+1)=((j+1:Nat):Int):=(qAH _ (by omega)).trans (by omega)
       simp only[q1,q2,w3,and_self,decide_true,if_true]
      ·intro ag2
       simp only[Int.lt_irrefl,decide_false,Bool.false_eq_true,if_false,w2]
    ·simp only[h2,decide_false,Bool.false_eq_true,if_false,Bool.false_and,Bool.not_false,Bool.true_and]
     refine rest _ _ _ _ _ _ _ _ (qCV (R:=Bool×Unit×Unit) (fun j=>(x,((i:Int),(((Ty.rd (t:=qAC) x.2.2.1 i).1,((Ty.rd (t:=qAC) x.2.2.1 i).2.1,((Ty.rd (t:=qAC) x.2.2.1 i).2.2,()))),(((j:Nat):Int),()))))) i (fun j=>decide ((Ty.rd (t:=qAC) x.2.2.1 (j:Nat)).2.1=(Ty.rd (t:=qAC) x.2.2.1 i).2.1)) (some (false,((),()))) (again (x,(((i+1:Nat):Int),()))) ?_ ?_ k (by omega))
     ·intro ag2 j hj
      have q1:(0:Int)≤(j:Int)∧(j:Int)<(x.2.2.1.length:Int):=by omega
      have q2:(j:Int)<(i:Int):=by omega
      have w3:wi64 ((j:Int)+1)=((j+1:Nat):Int):=(qAH _ (by omega)).trans (by omega)
      simp only[q1,q2,w3,and_self,decide_true,if_true]
     ·intro ag2
      simp only[Int.lt_irrefl,decide_false,Bool.false_eq_true,if_false,w2]
   ·intro ag2
    simp only[Int.lt_irrefl,decide_false,Bool.false_eq_true,if_false]
   ·cases (List.range x.2.2.1.length).all (fun j=>!badL x j) <;> simp
  ·cases (List.range x.2.2.2.1.length).all (fun j=>!badF x j) <;> simp
def atB(q:List qA1.den)(id:Int):Int:=match (List.range q.length).find? (fun j=>decide ((Ty.rd (t:=qA1) q (j:Nat)).1=id)) with | some j=>((j:Nat):Int) | none=>-1
theorem l22At_is(k:Nat)(q:List qA1.den)(id:Int)(hk:1048576<k)(hl:q.length≤1048576):qGC k (q,(id,()))=some (atB q id,((),((),()))):=by
 unfold qGC atB
 refine(qBq (R:=Int×Unit×Unit×Unit) (fun j=>(q,(id,(((j:Nat):Int),())))) q.length (fun j=>decide ((Ty.rd (t:=qA1) q (j:Nat)).1=id)) (fun j=>(((j:Nat):Int),((),((),())))) (-1,((),((),()))) ?_ ?_ k (by omega)).trans ?_
 ·intro ag j hj
  have q1:(0:Int)≤(j:Int)∧(j:Int)<(q.length:Int):=by omega
  have w3:wi64 ((j:Int)+1)=((j+1:Nat):Int):=(qAH _ (by omega)).trans (by omega)
  simp only[q1,w3,and_self,decide_true,if_true]
 ·intro ag
  simp only[Int.lt_irrefl,decide_false,Bool.false_eq_true,if_false]
 ·cases (List.range q.length).find? (fun j=>decide ((Ty.rd (t:=qA1) q (j:Nat)).1=id)) <;> rfl
theorem userAt_is(k:Nat)(q:List qA1.den)(id:Int)(hk:1048576<k)(hl:q.length≤1048576):qG1 k (q,(id,()))=some (atB q id,((),((),()))):=by
 unfold qG1 atB
 have h:qAR k (q,(((id,()),()),()))=some ((match (List.range q.length).find? (fun j=>decide ((Ty.rd (t:=qA1) q (j:Nat)).1=id)) with | some j=>((j:Nat):Int) | none=>-1),((),((((id,()),()),())))):=by
  unfold qAR
  refine(qBq (R:=Int×Unit×((Int×Unit)×Unit)×Unit) (fun j=>(q,((((id,()),())),((q.length:Int),(((j:Nat):Int),()))))) q.length (fun j=>decide ((Ty.rd (t:=qA1) q (j:Nat)).1=id)) (fun j=>(((j:Nat):Int),((),((((id,()),()),()))))) (-1,((),((((id,()),()),())))) ?_ ?_ k (by omega)).trans ?_
  ·intro ag j hj
   have q1:(0:Int)≤(j:Int)∧(j:Int)<(q.length:Int):=by omega
   have w3:wi64 ((j:Int)+1)=((j+1:Nat):Int):=(qAH _ (by omega)).trans (by omega)
   simp only[q1,w3,qG0,and_self,decide_true,if_true,Option.bind_some]
  ·intro ag
   simp only[Int.lt_irrefl,decide_false,Bool.false_eq_true,if_false]
  ·cases (List.range q.length).find? (fun j=>decide ((Ty.rd (t:=qA1) q (j:Nat)).1=id)) <;> rfl
 rw[h]
 rfl
theorem qA9{A:Type}{l:List A}{n:Nat}{r d:A}(h:l[n]?=some r):l.getD n d=r:=by simp[List.getD,h]
theorem loop_app{X R A:Type}{step:(X→Option R)→X→Option R}(a:List A)(st:Nat→List A→X)(r:R)(hs:∀again i out x,out.length=i→i<a.length→a[i]?=some x→step again (st i out)=again (st (i+1) (out++[x])))(he:∀again,step again (st a.length a)=some r):∀k,a.length<k→qAG step k (st 0 [])=some r:=by
 have key:∀(s p:List A) k,p++s=a→s.length<k→qAG step k (st p.length p)=some r:=by
  intro s
  induction s with
  | nil =>
   intro p k h hk
   obtain⟨k,rfl⟩:∃k',k=k'+1:=⟨k-1,by omega⟩
   have:p=a:=by simpa using h
   subst this
   exact he _
  | cons x s ih =>
   intro p k h hk
   obtain⟨k,rfl⟩:∃k',k=k'+1:=⟨k-1,by omega⟩
   show step _ _=_
   subst h
   rw[hs _ _ _ x rfl (by simp) (by simp)]
   have:=ih (p++[x]) k (by simp) (by simpa using hk)
   simpa using this
 intro k hk
 exact key a [] k (by simp) hk
theorem held_lens{a:List (Int×Int×Int×List (ByteArray)×List (Bool)×Int)}(hb:qIi a){i:Nat}{x:Int×Int×Int×List (ByteArray)×List (Bool)×Int}(h:a[i]?=some x):x.2.2.2.1.length≤1048576∧x.2.2.2.2.1.length≤1048576:=by
 have:=hb.2 x (List.mem_of_getElem? h)
 exact⟨this.1,this.2.1⟩
theorem s_l20Copy_is(k:Nat)(a:List (Int×Int×Int×List (ByteArray)×List (Bool)×Int))(hk:1048576<k)(hb:qIi a):qGA k ((a,()),())=some ((a,()),((),())):=by
 unfold qGA
 have hl:a.length≤1048576:=hb.1
 have hcap:capMax=274877906944:=rfl
 refine loop_app (A:=Int×Int×Int×List (ByteArray)×List (Bool)×Int) a (fun i out=>((a,()),(([],()),((out,()),((i:Int),()))))) ((a,()),((),())) ?_ ?_ k (by omega)
 ·intro again i out x ho hi hx
  obtain⟨h1,h2⟩:=held_lens hb hx
  have w:wi64 ((i:Int)+1)=((i+1:Nat):Int):=by rw[show wi64 ((i:Int)+1)=(i:Int)+1 from qAH _ (by omega)];omega
  have p1:(i:Int)<(a.length:Int):=by omega
  have p2:0≤(i:Int):=by omega
  have c1:0+x.2.2.2.1.length≤capMax:=by omega
  have c2:0+x.2.2.2.2.1.length≤capMax:=by omega
  have c3:out.length+1≤capMax:=by omega
  obtain⟨x1,x2,x3,x4,x5,x6⟩:=x
  simp only at c1 c2
  simp only[Ty.rd,Int.toNat_natCast,qA9 hx,p1,p2,w,c1,c2,c3,List.length_nil,List.length_cons,decide_true,and_self,if_true,List.nil_append,Nat.zero_add]
  rw[if_pos (by omega),if_pos (by omega)]
 ·intro again
  have:¬(a.length:Int)<(a.length:Int):=by omega
  simp[this]
theorem i_copyShelf_is(k:Nat)(a:List (Int×Int×Int×List (ByteArray)×List (Bool)×Int))(hk:1048576<k)(hb:qIi a):qED k ((a,()),())=some ((a,()),((),())):=by
 unfold qED
 have hl:a.length≤1048576:=hb.1
 have hcap:capMax=274877906944:=rfl
 refine loop_app (A:=Int×Int×Int×List (ByteArray)×List (Bool)×Int) a (fun i out=>(([],()),((out,()),(a,((a.length:Int),((i:Int),())))))) ((a,()),((),())) ?_ ?_ k (by omega)
 ·intro again i out x ho hi hx
  obtain⟨h1,h2⟩:=held_lens hb hx
  have w:wi64 ((i:Int)+1)=((i+1:Nat):Int):=by rw[show wi64 ((i:Int)+1)=(i:Int)+1 from qAH _ (by omega)];omega
  have p1:(i:Int)<(a.length:Int):=by omega
  have p2:0≤(i:Int):=by omega
  have c3:out.length+1≤capMax:=by omega
  obtain⟨x1,x2,x3,x4,x5,x6⟩:=x
  simp only at h1 h2
  have e:qEC k (x4,())=some (x4,((),())):=by
   unfold qEC
   rw[if_pos (by simp;omega)]
   simp
  simp only[Ty.rd,Int.toNat_natCast,qA9 hx,p1,p2,w,c3,e,Option.bind_some,List.length_nil,List.length_cons,decide_true,and_self,if_true,List.nil_append,Nat.zero_add]
  rw[if_pos (by omega)]
 ·intro again
  have:¬(a.length:Int)<(a.length:Int):=by omega
  simp[this]
abbrev UserA:=Int×Int×Int×ByteArray×ByteArray×Int×List (Int)×Int×Int×ByteArray×ByteArray×Int×List (Int)×Int×(List (Int×Int×Int×List (ByteArray)×List (Bool)×Int))×Int×Unit
theorem bd_userSlots{a0 a1 a2:Int}{a3 a4:ByteArray}{a5:Int}{a6:List Int}{a7 a8:Int}{a9 a10:ByteArray}{a11:Int}{a12:List Int}{a13:Int}{a14:List (Int×Int×Int×List (ByteArray)×List (Bool)×Int)}{a15:Int}(hb:qEN (a0,(a1,(a2,(a3,(a4,(a5,(a6,(a7,(a8,(a9,(a10,(a11,(a12,(a13,(a14,(a15,()))))))))))))))))) :
  Bd_Slots (a2,(a3,(a4,(a5,(a6,(a7,(a8,(a9,(a10,(a11,(a12,(a13,()))))))))))))∧qIi a14:=by
 unfold qEN at hb
 obtain⟨b3,b4,b6,b9,b10,b12,b14,b⟩:=hb
 exact⟨⟨b3,b4,b6,b9,b10,b12,trivial⟩,b14⟩
theorem s_l22CopyUser_is(k:Nat)(x:UserA)(hk:1048576<k)(hb:qEN x):qCv k (x,())=some (x,((),())):=by
 obtain⟨a0,a1,a2,a3,a4,a5,a6,a7,a8,a9,a10,a11,a12,a13,a14,a15,⟨⟩⟩:=x
 obtain⟨h1,h2⟩:=bd_userSlots hb
 have e1:=s_l17Copy_is k (a2,(a3,(a4,(a5,(a6,(a7,(a8,(a9,(a10,(a11,(a12,(a13,())))))))))))) (short_bd h1).1 (short_bd h1).2
 have e2:=s_l20Copy_is k a14 hk h2
 unfold qCv
 simp only[e1,e2,Option.bind_some]
theorem i_copyUser_is(k:Nat)(x:UserA)(hk:1048576<k)(hb:qEN x):qE0 k (x,())=some (x,((),())):=by
 obtain⟨a0,a1,a2,a3,a4,a5,a6,a7,a8,a9,a10,a11,a12,a13,a14,a15,⟨⟩⟩:=x
 obtain⟨h1,h2⟩:=bd_userSlots hb
 have e1:=qHT k (a2,(a3,(a4,(a5,(a6,(a7,(a8,(a9,(a10,(a11,(a12,(a13,())))))))))))) (short_bd h1).1 (short_bd h1).2
 have e2:=i_copyShelf_is k a14 hk h2
 unfold qE0
 simp only[e1,e2,Option.bind_some]
theorem del_run{A R C:Type}{step:(List A×C×Int×Int×Unit→Option R)→List A×C×Int×Int×Unit→Option R}(D:A→Bool)(c:C)(fin:List A→R)(hs:∀again (p gs r:List A) (g v:A),p.length+gs.length+r.length≤1048576→step again (p++g::(gs++v::r),(c,((p.length:Int),(((p.length+gs.length+1:Nat):Int),())))) =
   if D v=true then again (p++g::(gs++v::r),(c,((p.length:Int),(((p.length+gs.length+2:Nat):Int),())))) else again (p++v::(gs++v::r),(c,(((p.length+1:Nat):Int),(((p.length+gs.length+2:Nat):Int),())))))(he:∀again (q t:List A),step again (q++t,(c,((q.length:Int),((((q++t).length:Nat):Int),()))))=some (fin q)) :
  ∀(r p gs:List A) (g:A) (k:Nat),p.length+gs.length+r.length≤1048576→r.length<k→qAG step k (p++g::(gs++r),(c,((p.length:Int),(((p.length+gs.length+1:Nat):Int),()))))=some (fin (p++r.filter (fun v=>!D v))):=by
 intro r
 induction r with
 | nil =>
  intro p gs g k hb hk
  obtain⟨k,rfl⟩:∃k',k=k'+1:=⟨k-1,by omega⟩
  have e1:((p.length+gs.length+1:Nat):Int)=(((p++(g::(gs++[]))).length:Nat):Int):=by simp;omega
  have:=he (qAG step k) p (g::(gs++[]))
  show step _ _=_
  rw[e1]
  simpa using this
 | cons v r ih =>
  intro p gs g k hb hk
  obtain⟨k,rfl⟩:∃k',k=k'+1:=⟨k-1,by omega⟩
  simp only[List.length_cons] at hb hk
  by_cases d:D v=true
  ·have ht:=ih p (gs++[v]) g k (by simp;omega) (by omega)
   show step _ _=_
   rw[hs _ p gs r g v (by omega),if_pos d,List.filter_cons_of_neg (by simp[d]),←ht]
   simp
   rfl
  ·have ht:qAG step k (p++v::(gs++v::r),(c,(((p.length+1:Nat):Int),(((p.length+gs.length+2:Nat):Int),()))))=some (fin (p++(v::r).filter (fun v=>!D v))):=by
    cases gs with
    | nil =>
     have ht:=ih (p++[v]) [] v k (by simp;omega) (by omega)
     rw[List.filter_cons_of_pos (by simp[d])]
     have e1:((p++[v]).length:Int)=((p.length+1:Nat):Int):=by simp
     have e2:(((p++[v]).length+([]:List A).length+1:Nat):Int)=((p.length+([]:List A).length+2:Nat):Int):=by simp;omega
     rw[e1,e2] at ht
     simpa using ht
    | cons g' gs' =>
     have ht:=ih (p++[v]) (gs'++[v]) g' k (by simp at hb ⊢;omega) (by omega)
     rw[List.filter_cons_of_pos (by simp[d])]
     have e1:((p++[v]).length:Int)=((p.length+1:Nat):Int):=by simp
     have e2:(((p++[v]).length+(gs'++[v]).length+1:Nat):Int)=((p.length+(g'::gs').length+2:Nat):Int):=by simp;omega
     rw[e1,e2] at ht
     simpa using ht
   show step _ _=_
   rw[hs _ p gs r g v (by omega),if_neg d]
   exact ht
/-- What is found first, and the rest that stays. -/
theorem qFf{A:Type}(d:A)(D:A→Bool)(L:List A):(match (List.range L.length).find? (fun i=>D (L.getD i d)) with
  | none=>L.filter (fun x=>!D x)=L
  | some i=>∃p g r,L=p++g::r∧p.length=i∧L.filter (fun x=>!D x)=p++r.filter (fun x=>!D x)):=by
 cases hq:(List.range L.length).find? (fun i=>D (L.getD i d)) with
 | none =>
  rw[List.find?_eq_none] at hq
  rw[List.filter_eq_self]
  intro x hx
  obtain⟨i,hi,rfl⟩:=List.mem_iff_getElem.1 hx
  have:=hq i (by simpa using hi)
  simp only[List.getD,List.getElem?_eq_getElem hi,Option.getD_some] at this
  simpa using this
 | some i =>
  have hi:i<L.length:=by
   have:=List.mem_of_find?_eq_some hq
   simpa using this
  have h1:=List.find?_some hq
  have h2:=(find_at hi h1).1 hq
  simp only[List.getD,List.getElem?_eq_getElem hi,Option.getD_some] at h1
  refine⟨L.take i,L[i],L.drop (i+1),?_,by simp;omega,?_⟩
  ·rw[←List.drop_eq_getElem_cons hi,List.take_append_drop]
  ·have hsplit:L=L.take i++L[i]::L.drop (i+1):=by rw[←List.drop_eq_getElem_cons hi,List.take_append_drop]
   conv=>lhs;rw[hsplit]
   rw[List.filter_append,List.filter_cons_of_neg (by simp[h1])]
   congr 1
   rw[List.filter_eq_self]
   intro x hx
   obtain⟨j,hj,rfl⟩:=List.mem_iff_getElem.1 hx
   have hj':j<i:=by simp at hj;omega
   have:=h2 j hj'
   simp only[List.getD,List.getElem?_eq_getElem (show j<L.length by omega),Option.getD_some] at this
   rw[List.getElem_take]
   simp[this]
theorem getO_lt:∀{t:Ty} {x:t.den} {off:Nat} {o:OL},t.getO x off=some o→off<t.w
 | .ols _ _,_,0,_,_=>Nat.zero_lt_one
 | .ols _ _,_,_+1,_,h=>by simp[Ty.getO] at h
 | .pair a b,x,off,o,h=>by
  simp only[Ty.getO] at h
  show off<a.w+b.w
  split at h
  ·omega
  ·have:=getO_lt h
   omega
 | .int _,_,_,_,h=>by simp[Ty.getO] at h
 | .bool,_,_,_,h=>by simp[Ty.getO] at h
 | .str,_,_,_,h=>by simp[Ty.getO] at h
 | .list _,_,_,_,h=>by simp[Ty.getO] at h
 | .unit,_,_,_,h=>by simp[Ty.getO] at h
 | .nm,_,_,_,h=>by simp[Ty.getO] at h
 | .olq _ _,_,_,_,h=>by simp[Ty.getO] at h
theorem dec_enc{lk:Nat→Option OL}:∀{t:Ty} {x:t.den} {n:Nat},0<n→(∀off o,t.getO x off=some o→lk (n+off)=some o)→t.dec lk (t.enc x n)=some x
 | .ols e u,x,n,hn,h=>by
  obtain⟨m,rfl⟩:∃m,n=m+1:=⟨n-1,by omega⟩
  have:=h 0 ⟨e,u,x⟩ rfl
  show decN lk e u (m+1)=some x
  rw[Nat.add_zero] at this
  simp[decN,this]
 | .pair a b,x,n,hn,h=>by
  have h1:=dec_enc (t:=a) (x:=x.1) (n:=n) hn fun off o ho=>h off o (by simp only[Ty.getO];rw[if_pos (getO_lt ho)];exact ho)
  have h2:=dec_enc (t:=b) (x:=x.2) (n:=n+a.w) (by omega) fun off o ho=>by
   rw[Nat.add_assoc]
   exact h (a.w+off) o (by simp only[Ty.getO];rw[if_neg (by omega),Nat.add_sub_cancel_left];exact ho)
  show(match a.dec lk (a.enc x.1 n),b.dec lk (b.enc x.2 (n+a.w)) with | some y,some z=>some (y,z) | _,_=>none)=_
  rw[h1,h2]
 | .int _,_,_,_,_=>rfl
 | .bool,_,_,_,_=>rfl
 | .str,_,_,_,_=>rfl
 | .list _,_,_,_,_=>rfl
 | .unit,_,_,_,_=>rfl
 | .nm,_,_,_,_=>rfl
 | .olq _ _,x,_,_,_=>by cases x <;> rfl
theorem nms_enc:∀{t:Ty} {x:t.den} {n:Nat},0<n→(t.nms (t.enc x n)).Pairwise (· < ·)∧∀m∈t.nms (t.enc x n),n≤m∧m<n+t.w
 | .ols e u,x,n,hn=>by
  obtain⟨m,rfl⟩:∃m,n=m+1:=⟨n-1,by omega⟩
  show(nmsN (m+1)).Pairwise _∧∀q∈nmsN (m+1),_
  have:(Ty.ols e u).w=1:=rfl
  simp[nmsN,this]
 | .pair a b,x,n,hn=>by
  obtain⟨h1,h2⟩:=nms_enc (t:=a) (x:=x.1) (n:=n) hn
  obtain⟨h3,h4⟩:=nms_enc (t:=b) (x:=x.2) (n:=n+a.w) (by omega)
  have hw:(Ty.pair a b).w=a.w+b.w:=rfl
  show(a.nms (a.enc x.1 n)++b.nms (b.enc x.2 (n+a.w))).Pairwise _∧∀m∈a.nms (a.enc x.1 n)++b.nms (b.enc x.2 (n+a.w)),_
  refine⟨List.pairwise_append.2 ⟨h1,h3,fun p hp q hq=>?_⟩,fun m hm=>?_⟩
  ·have:=h2 p hp
   have:=h4 q hq
   omega
  ·rcases List.mem_append.1 hm with hm | hm
   ·have:=h2 m hm;omega
   ·have:=h4 m hm;omega
 | .int _,_,_,_=>⟨List.Pairwise.nil,by simp[Ty.nms]⟩
 | .bool,_,_,_=>⟨List.Pairwise.nil,by simp[Ty.nms]⟩
 | .str,_,_,_=>⟨List.Pairwise.nil,by simp[Ty.nms]⟩
 | .list _,_,_,_=>⟨List.Pairwise.nil,by simp[Ty.nms]⟩
 | .unit,_,_,_=>⟨List.Pairwise.nil,by simp[Ty.nms]⟩
 | .nm,_,_,_=>⟨List.Pairwise.nil,by simp[Ty.nms]⟩
 | .olq _ _,_,_,_=>⟨List.Pairwise.nil,by simp[Ty.nms]⟩
def encP(t:Ty)(xs:List t.den):List (t.nmd.den×t.den):=xs.mapIdx fun i x=>(t.enc x (i*t.w+1),x)
theorem encP_fst(t:Ty)(xs:List t.den):(encP t xs).map Prod.fst=t.encs xs:=by
 apply List.ext_getElem?
 intro i
 simp only[encP,Ty.encs,List.getElem?_map,List.getElem?_mapIdx]
 cases xs[i]? <;> rfl
theorem encP_snd(t:Ty)(xs:List t.den):(encP t xs).map Prod.snd=xs:=by
 apply List.ext_getElem?
 intro i
 simp only[encP,List.getElem?_map,List.getElem?_mapIdx]
 cases xs[i]? <;> rfl
theorem encP_dec{t:Ty}{xs:List t.den}{y:t.nmd.den×t.den}(h:y∈encP t xs):t.dec (t.lookN xs) y.1=some y.2∧∃n,y.1=t.enc y.2 n:=by
 obtain⟨i,hi⟩:=List.getElem?_of_mem h
 unfold encP at hi
 rw[List.getElem?_mapIdx] at hi
 cases hx:xs[i]? with
 | none=>rw[hx] at hi;cases hi
 | some x =>
  rw[hx] at hi
  injection hi with hi
  subst hi
  refine⟨dec_enc (by omega) fun off o ho=>?_,_,rfl⟩
  have hlt:=getO_lt ho
  rw[show i*t.w+1+off=(i*t.w+off)+1 by omega]
  have e1:(i*t.w+off) / t.w=i:=by rw[Nat.mul_comm,Nat.mul_add_div (by omega),Nat.div_eq_of_lt hlt,Nat.add_zero]
  have e2:(i*t.w+off) % t.w=off:=by rw[Nat.mul_comm,Nat.mul_add_mod,Nat.mod_eq_of_lt hlt]
  simp only[Ty.lookN,e1,e2,hx,ho]
theorem decs_map{lk:Nat→Option OL}{t:Ty}:∀{Y:List (t.nmd.den×t.den)},(∀y∈Y,t.dec lk y.1=some y.2)→t.decs lk (Y.map Prod.fst)=some (Y.map Prod.snd)
 | [],_=>rfl
 | y::Y,h=>by
  have h1:=h y (by simp)
  have h2:=decs_map (Y:=Y) fun z hz=>h z (List.mem_cons_of_mem _ hz)
  show(match t.dec lk y.1,t.decs lk (Y.map Prod.fst) with | some x,some xs=>some (x::xs) | _,_=>none)=_
  rw[h1,h2]
  rfl
theorem flatMap_sub{A B:Type}{f:A→List B}{l l':List A}(h:l.Sublist l'):(l.flatMap f).Sublist (l'.flatMap f):=by
 induction h with
 | slnil=>exact List.Sublist.refl _
 | cons a _ ih=>rw[List.flatMap_cons];exact ih.trans (List.sublist_append_right _ _)
 | cons_cons a _ ih=>rw[List.flatMap_cons,List.flatMap_cons];exact List.Sublist.append_left ih _
theorem encs_nms(t:Ty)(xs:List t.den):((t.encs xs).flatMap t.nms).Nodup:=by
 have key:∀(xs:List t.den) (s:Nat),((xs.mapIdx fun i x=>t.enc x ((s+i)*t.w+1)).flatMap t.nms).Pairwise (· < ·)∧∀m∈(xs.mapIdx fun i x=>t.enc x ((s+i)*t.w+1)).flatMap t.nms,s*t.w+1≤m:=by
  intro xs
  induction xs with
  | nil=>intro s;simp
  | cons x xs ih =>
   intro s
   rw[List.mapIdx_cons,List.flatMap_cons]
   have e:(xs.mapIdx fun i x=>t.enc x ((s+(i+1))*t.w+1))=xs.mapIdx fun i x=>t.enc x ((s+1+i)*t.w+1):=by
    congr 1
    funext i x
    rw[show s+(i+1)=s+1+i by omega]
   rw[e]
   obtain⟨h1,h2⟩:=ih (s+1)
   obtain⟨h3,h4⟩:=nms_enc (t:=t) (x:=x) (n:=(s+0)*t.w+1) (by omega)
   have hw:(s+1)*t.w=s*t.w+t.w:=by rw[Nat.add_mul,Nat.one_mul]
   rw[hw] at h2
   simp only[Nat.add_zero] at h3 h4 ⊢
   refine⟨List.pairwise_append.2 ⟨h3,h1,fun p hp q hq=>?_⟩,fun m hm=>?_⟩
   ·have:=h4 p hp
    have:=h2 q hq
    omega
   ·rcases List.mem_append.1 hm with hm | hm
    ·exact(h4 m hm).1
    ·have:=h2 m hm;omega
 have:=(key xs 0).1
 have e:(xs.mapIdx fun i x=>t.enc x ((0+i)*t.w+1))=t.encs xs:=by
  unfold Ty.encs
  congr 1
  funext i x
  rw[Nat.zero_add]
 rw[e] at this
 exact this.imp fun h=>Nat.ne_of_lt h
/-- Rows that are picked under names are those rows. -/
theorem treeF_pick{t:Ty}{Y O:Type}{G:List t.nmd.den×Y→Option (List t.nmd.den×O)}{xs:List t.den}{y:Y}{o:O}{Z:List (t.nmd.den×t.den)}(hZ:Z.Sublist (encP t xs))(hG:G (t.encs xs,y)=some (Z.map Prod.fst,o)) :
  treeF t G (xs,y)=some (Z.map Prod.snd,o):=by
 unfold treeF
 simp only[hG]
 rw[decs_map fun z hz=>(encP_dec (hZ.subset hz)).1]
 have:((Z.map Prod.fst).flatMap t.nms).Nodup:=by
  refine(encs_nms t xs).sublist ?_
  rw[←encP_fst]
  exact flatMap_sub (hZ.map _)
 simp only[this,if_true]
theorem treeF_filter{t:Ty}{Y O:Type}{G:List t.nmd.den×Y→Option (List t.nmd.den×O)}{xs:List t.den}{y:Y}{o:O}(p:t.nmd.den→Bool)(q:t.den→Bool)(hpq:∀x n,p (t.enc x n)=q x)(hG:G (t.encs xs,y)=some ((t.encs xs).filter p,o)) :
  treeF t G (xs,y)=some (xs.filter q,o):=by
 have e1:((encP t xs).filter (fun z=>p z.1)).map Prod.fst=(t.encs xs).filter p:=by
  rw[←encP_fst,List.filter_map]
  rfl
 have e2:((encP t xs).filter (fun z=>p z.1)).map Prod.snd=xs.filter q:=by
  have:(encP t xs).filter (fun z=>p z.1)=(encP t xs).filter (q ∘ Prod.snd):=by
   refine List.filter_congr fun z hz=>?_
   obtain⟨_,n,hn⟩:=encP_dec hz
   rw[hn,hpq]
   rfl
  rw[this,←List.filter_map,encP_snd]
 have:=treeF_pick (Y:=Y) (O:=O) (G:=G) (y:=y) (o:=o) (List.filter_sublist (p:=fun z=>p z.1) (l:=encP t xs)) (by rw[e1];exact hG)
 rw[e2] at this
 exact this
abbrev qGe:=(Int×Int)×Int
abbrev DropToT:Ty:=(.pair (.pair (.int .i64) (.int .i64)) (.int .i64))
theorem idxDropTo_is(k:Nat)(a:List qGe)(f:Int)(hk:1048576<k)(hl:a.length≤1048576):qAO k (a,(((f,()),()),())) =
  some (match (List.range a.length).find? (fun i=>decide ((fun x:qGe=>x.2=f) (a.getD i (Ty.dflt DropToT)))) with | some i=>(((i:Nat):Int),((),(((f,()),()),()))) | none=>(-1,((),(((f,()),()),())))):=by
 unfold qAO
 refine qBq (fun i=>(a,(((f,()),()),((a.length:Int),(((i:Nat):Int),()))))) a.length (fun i=>decide ((fun x:qGe=>x.2=f) (a.getD i (Ty.dflt DropToT)))) (fun i=>(((i:Nat):Int),((),(((f,()),()),())))) (-1,((),(((f,()),()),()))) ?_ ?_ k (by omega)
 ·intro again i hi
  have g1:(0:Int)≤(i:Int)∧(i:Int)<(a.length:Int):=by omega
  have w2:wi64 ((i:Int)+1)=((i+1:Nat):Int):=(qAH _ (by omega)).trans (by omega)
  simp only[g1,w2,qDw,Ty.rd,Int.toNat_natCast,and_self,decide_true,if_true,Option.bind_some]
  rfl
 ·intro again
  simp
theorem delDropTo_is(k:Nat)(L:List qGe)(f:Int)(hk:1048576<k)(hl:L.length≤1048576):qAN k (L,(((f,()),()),())) =
  some (L.filter (fun x=>!decide (x.2=f)),((),(((f,()),()),()))):=by
 have e:=idxDropTo_is k L f hk hl
 have hsp:=qFf (Ty.dflt DropToT) (fun x:qGe=>decide (x.2=f)) L
 unfold qAN
 simp only[e,Option.bind_some]
 cases hq:(List.range L.length).find? (fun i=>decide ((fun x:qGe=>x.2=f) (L.getD i (Ty.dflt DropToT)))) with
 | none =>
  rw[hq] at hsp
  rw[hsp]
  simp
 | some i =>
  rw[hq] at hsp
  obtain⟨p,g,r,rfl,rfl,hfil⟩:=hsp
  have hne:¬((p.length:Nat):Int)=-1:=by omega
  have hl':p.length+r.length+1≤1048576:=by simpa [Nat.add_assoc] using hl
  have w2:wi64 ((p.length:Int)+1)=((p.length+([]:List qGe).length+1:Nat):Int):=(qAH _ (by omega)).trans (by simp)
  rw[hfil]
  simp only[hne,w2,decide_false,Bool.false_eq_true,if_false]
  refine(del_run (fun x:qGe=>decide (x.2=f)) ((f,()),()) (fun q=>(q,((),(((f,()),()),())))) ?_ ?_ r p [] g k (by simp;omega) (by omega))
  ·intro again p gs r g v hb
   have hlen:(p++g::(gs++v::r)).length=p.length+gs.length+r.length+2:=by simp;omega
   have g1:((p.length+gs.length+1:Nat):Int)<((p++g::(gs++v::r)).length:Int):=by rw[hlen];omega
   have g2:(0:Int)≤((p.length+gs.length+1:Nat):Int)∧((p.length+gs.length+1:Nat):Int)<((p++g::(gs++v::r)).length:Int):=by rw[hlen];omega
   have g3:(0:Int)≤(p.length:Int)∧(p.length:Int)<((p++g::(gs++v::r)).length:Int):=by rw[hlen];omega
   have r1:(p++g::(gs++v::r)).getD (p.length+gs.length+1) (Ty.dflt DropToT)=v:=by
    rw[show p++g::(gs++v::r)=(p++g::gs)++v::r by simp,show p.length+gs.length+1=(p++g::gs).length by simp;omega]
    simp[List.getD]
   have s1:List.set (p++g::(gs++v::r)) p.length v=p++v::(gs++v::r):=by simp
   have w1:wi64 ((p.length:Int)+1)=((p.length+1:Nat):Int):=(qAH _ (by omega)).trans (by omega)
   have w2:wi64 (((p.length+gs.length+1:Nat):Int)+1)=((p.length+gs.length+2:Nat):Int):=(qAH _ (by omega)).trans (by omega)
   obtain⟨⟨v1,v2⟩,v3⟩:=v
   simp only[jn,Ty.rd,Int.toNat_natCast,r1,g1,g2,g3,s1,w1,w2,qDw,decide_true,and_self,if_true,Option.bind_some]
   by_cases q:v3=f <;> simp[q]
  ·intro again q t
   have hd:¬(((q++t).length:Nat):Int)<((q++t).length:Int):=by omega
   have g1:(0:Int)≤(q.length:Int)∧(q.length:Int)≤((q++t).length:Int):=by simp only[List.length_append];omega
   simp only[hd,g1,decide_false,Bool.false_eq_true,if_false,and_self,if_true]
   simp
   omega
abbrev qFg:=Int×Int×((Int×ByteArray×ByteArray×Int×Nat×Int)×Int×ByteArray×ByteArray×Int×Nat×Int)×Nat×Int
abbrev LeaveUT:Ty:=(.pair (.int .i64) (.pair (.int .i64) (.pair (.pair (.pair (.int .i64) (.pair .str (.pair .str (.pair (.int .i64) (.pair .nm (.int .i64)))))) (.pair (.int .i64) (.pair .str (.pair .str (.pair (.int .i64) (.pair .nm (.int .i64))))))) (.pair .nm (.int .i64)))))
theorem idxLeaveU_is(k:Nat)(a:List qFg)(f:Int)(hk:1048576<k)(hl:a.length≤1048576):qAS k (a,(((f,()),()),())) =
  some (match (List.range a.length).find? (fun i=>decide ((fun x:qFg=>x.1=f) (a.getD i (Ty.dflt LeaveUT)))) with | some i=>(((i:Nat):Int),((),(((f,()),()),()))) | none=>(-1,((),(((f,()),()),())))):=by
 unfold qAS
 refine qBq (fun i=>(a,(((f,()),()),((a.length:Int),(((i:Nat):Int),()))))) a.length (fun i=>decide ((fun x:qFg=>x.1=f) (a.getD i (Ty.dflt LeaveUT)))) (fun i=>(((i:Nat):Int),((),(((f,()),()),())))) (-1,((),(((f,()),()),()))) ?_ ?_ k (by omega)
 ·intro again i hi
  have g1:(0:Int)≤(i:Int)∧(i:Int)<(a.length:Int):=by omega
  have w2:wi64 ((i:Int)+1)=((i+1:Nat):Int):=(qAH _ (by omega)).trans (by omega)
  simp only[g1,w2,qE8,Ty.rd,Int.toNat_natCast,and_self,decide_true,if_true,Option.bind_some]
  rfl
 ·intro again
  simp
theorem delLeaveU_is(k:Nat)(L:List qFg)(f:Int)(hk:1048576<k)(hl:L.length≤1048576):qAP k (L,(((f,()),()),())) =
  some (L.filter (fun x=>!decide (x.1=f)),((),(((f,()),()),()))):=by
 have e:=idxLeaveU_is k L f hk hl
 have hsp:=qFf (Ty.dflt LeaveUT) (fun x:qFg=>decide (x.1=f)) L
 unfold qAP
 simp only[e,Option.bind_some]
 cases hq:(List.range L.length).find? (fun i=>decide ((fun x:qFg=>x.1=f) (L.getD i (Ty.dflt LeaveUT)))) with
 | none =>
  rw[hq] at hsp
  rw[hsp]
  simp
 | some i =>
  rw[hq] at hsp
  obtain⟨p,g,r,rfl,rfl,hfil⟩:=hsp
  have hne:¬((p.length:Nat):Int)=-1:=by omega
  have hl':p.length+r.length+1≤1048576:=by simpa [Nat.add_assoc] using hl
  have w2:wi64 ((p.length:Int)+1)=((p.length+([]:List qFg).length+1:Nat):Int):=(qAH _ (by omega)).trans (by simp)
  rw[hfil]
  simp only[hne,w2,decide_false,Bool.false_eq_true,if_false]
  refine(del_run (fun x:qFg=>decide (x.1=f)) ((f,()),()) (fun q=>(q,((),(((f,()),()),())))) ?_ ?_ r p [] g k (by simp;omega) (by omega))
  ·intro again p gs r g v hb
   have hlen:(p++g::(gs++v::r)).length=p.length+gs.length+r.length+2:=by simp;omega
   have g1:((p.length+gs.length+1:Nat):Int)<((p++g::(gs++v::r)).length:Int):=by rw[hlen];omega
   have g2:(0:Int)≤((p.length+gs.length+1:Nat):Int)∧((p.length+gs.length+1:Nat):Int)<((p++g::(gs++v::r)).length:Int):=by rw[hlen];omega
   have g3:(0:Int)≤(p.length:Int)∧(p.length:Int)<((p++g::(gs++v::r)).length:Int):=by rw[hlen];omega
   have r1:(p++g::(gs++v::r)).getD (p.length+gs.length+1) (Ty.dflt LeaveUT)=v:=by
    rw[show p++g::(gs++v::r)=(p++g::gs)++v::r by simp,show p.length+gs.length+1=(p++g::gs).length by simp;omega]
    simp[List.getD]
   have s1:List.set (p++g::(gs++v::r)) p.length v=p++v::(gs++v::r):=by simp
   have w1:wi64 ((p.length:Int)+1)=((p.length+1:Nat):Int):=(qAH _ (by omega)).trans (by omega)
   have w2:wi64 (((p.length+gs.length+1:Nat):Int)+1)=((p.length+gs.length+2:Nat):Int):=(qAH _ (by omega)).trans (by omega)
   obtain⟨v1,v2,⟨⟨v3,v4,v5,v6,v7,v8⟩,v9,v10,v11,v12,v13,v14⟩,v15,v16⟩:=v
   simp only[jn,Ty.rd,Int.toNat_natCast,r1,g1,g2,g3,s1,w1,w2,qE8,decide_true,and_self,if_true,Option.bind_some]
   by_cases q:v1=f <;> simp[q]
  ·intro again q t
   have hd:¬(((q++t).length:Nat):Int)<((q++t).length:Int):=by omega
   have g1:(0:Int)≤(q.length:Int)∧(q.length:Int)≤((q++t).length:Int):=by simp only[List.length_append];omega
   simp only[hd,g1,decide_false,Bool.false_eq_true,if_false,and_self,if_true]
   simp
   omega
theorem loop_pick{X R A:Type}{step:(X→Option R)→X→Option R}(a:List A)(D:A→Bool)(st:Nat→List A→X)(R0:List A→Option R)(hs:∀again i out x,out.length≤i→i<a.length→a[i]?=some x→step again (st i out)=again (st (i+1) (if D x=true then out++[x] else out)))(he:∀again out,step again (st a.length out)=R0 out):∀k,a.length<k→qAG step k (st 0 [])=R0 (a.filter D):=by
 have key:∀(s p:List A) k,p++s=a→s.length<k→qAG step k (st p.length (p.filter D))=R0 (a.filter D):=by
  intro s
  induction s with
  | nil =>
   intro p k h hk
   obtain⟨k,rfl⟩:∃k',k=k'+1:=⟨k-1,by omega⟩
   have:p=a:=by simpa using h
   subst this
   exact he _ _
  | cons x s ih =>
   intro p k h hk
   obtain⟨k,rfl⟩:∃k',k=k'+1:=⟨k-1,by omega⟩
   show step _ _=_
   subst h
   rw[hs _ _ _ x (List.length_filter_le _ _) (by simp) (by simp)]
   have:=ih (p++[x]) k (by simp) (by simpa using hk)
   rw[List.filter_append] at this
   have e:p.filter D++[x].filter D=if D x=true then p.filter D++[x] else p.filter D:=by
    by_cases d:D x=true
    ·simp[d]
    ·simp[d]
   rw[e] at this
   simpa using this
 intro k hk
 exact key a [] k (by simp) hk
theorem i_copyUsers_is(k:Nat)(a:List qA1.den)(hk:1048576<k)(hb:qDj a):qEE k (a,())=some (a,((),())):=by
 unfold qEE
 have hl:a.length≤1048576:=hb.1
 have hcap:capMax=274877906944:=rfl
 refine loop_app (A:=qA1.den) a (fun i out=>(out,(a,((a.length:Int),((i:Int),()))))) (a,((),())) ?_ ?_ k (by omega)
 ·intro again i out x ho hi hx
  have hu:qEN (qHt x):=hb.2 x (List.mem_of_getElem? hx)
  have e:=i_copyUser_is k (qHt x) hk hu
  have w:wi64 ((i:Int)+1)=((i+1:Nat):Int):=by rw[show wi64 ((i:Int)+1)=(i:Int)+1 from qAH _ (by omega)];omega
  have p1:(i:Int)<(a.length:Int):=by omega
  have p2:0≤(i:Int):=by omega
  have c3:out.length+1≤capMax:=by omega
  obtain⟨x0,x1,⟨⟨x2,x3,x4,x5,x6,x7⟩,x8,x9,x10,x11,x12,x13⟩,x14,x15⟩:=x
  simp only[qHt] at e
  simp only[Ty.rd,Int.toNat_natCast,qA9 hx,p1,p2,w,c3,e,Option.bind_some,List.length_nil,List.length_cons,decide_true,and_self,if_true,Nat.zero_add]
 ·intro again
  have:¬(a.length:Int)<(a.length:Int):=by omega
  simp only[this,decide_false,Bool.false_eq_true,if_false]
theorem qDL(k:Nat)(a:List qA1.den)(hk:1048576<k)(hb:qDj a):qBE k (a,())=some (a,((),())):=by
 unfold qBE
 have hl:a.length≤1048576:=hb.1
 have hcap:capMax=274877906944:=rfl
 refine loop_app (A:=qA1.den) a (fun i out=>(a,(out,((i:Int),())))) (a,((),())) ?_ ?_ k (by omega)
 ·intro again i out x ho hi hx
  have hu:qEN (qHt x):=hb.2 x (List.mem_of_getElem? hx)
  have e:=s_l22CopyUser_is k (qHt x) hk hu
  have w:wi64 ((i:Int)+1)=((i+1:Nat):Int):=by rw[show wi64 ((i:Int)+1)=(i:Int)+1 from qAH _ (by omega)];omega
  have p1:(i:Int)<(a.length:Int):=by omega
  have p2:0≤(i:Int):=by omega
  have c3:out.length+1≤capMax:=by omega
  obtain⟨x0,x1,⟨⟨x2,x3,x4,x5,x6,x7⟩,x8,x9,x10,x11,x12,x13⟩,x14,x15⟩:=x
  simp only[qHt] at e
  simp only[Ty.rd,Int.toNat_natCast,qA9 hx,p1,p2,w,c3,e,Option.bind_some,List.length_nil,List.length_cons,decide_true,and_self,if_true,Nat.zero_add]
 ·intro again
  have:¬(a.length:Int)<(a.length:Int):=by omega
  simp only[this,decide_false,Bool.false_eq_true,if_false]
theorem qFh(k:Nat)(x:qBn)(hb:qEO x):qDD k (x,())=some (x,((),())):=by
 obtain⟨a0,a1,a2,a3,⟨⟩⟩:=x
 have h1:a2.length≤1048576:=hb.1.1
 have h2:a3.length≤1048576:=hb.2.1.1
 have hcap:capMax=274877906944:=rfl
 unfold qDD
 rw[if_pos (by simp only[List.length_nil];omega),if_pos (by simp only[List.length_nil];omega)]
 simp
theorem qGf(k:Nat)(x:qBn)(hb:qEO x):qD7 k (x,())=some (x,((),())):=by
 obtain⟨a0,a1,a2,a3,⟨⟩⟩:=x
 have h1:a2.length≤1048576:=hb.1.1
 have h2:a3.length≤1048576:=hb.2.1.1
 have hcap:capMax=274877906944:=rfl
 unfold qD7
 rw[if_pos (by simp only[List.length_nil];omega),if_pos (by simp only[List.length_nil];omega)]
 simp
theorem qC0(k:Nat)(a:List qAT.den)(hl:a.length≤1048576):qBF k (a,())=some (a,((),())):=by
 have hcap:capMax=274877906944:=rfl
 unfold qBF
 rw[if_pos (by simp only[List.length_nil];omega)]
 simp
abbrev HubA:=Int×Int×(List qAC.den)×(List qAQ.den)×(List qAT.den)×(List qA1.den)×Unit
theorem qBC{a0 a1:Int}{a2:List qAC.den}{a3:List qAQ.den}{a4:List qAT.den}{a5:List qA1.den}(hb:qCU (a0,(a1,(a2,(a3,(a4,(a5,()))))))):qEO (a0,(a1,(a2,(a3,()))))∧qEM a4∧qDj a5:=by
 unfold qCU at hb
 obtain⟨h1,h2,h3,h4,_⟩:=hb
 exact⟨⟨h1,h2,trivial⟩,h3,h4⟩
theorem bd_hubOf{a0 a1:Int}{a2:List qAC.den}{a3:List qAQ.den}{a4:List qAT.den}{a5:List qA1.den}(h1:Bd_LeaseS a2)(h2:Bd_FixedS a3)(h3:qEM a4)(h4:qDj a5):qCU (a0,(a1,(a2,(a3,(a4,(a5,())))))):=
 ⟨h1,h2,h3,h4,trivial⟩
theorem i_copyHub_is(k:Nat)(x:HubA)(hk:1048576<k)(hb:qCU x):qE1 k (x,())=some (x,((),())):=by
 obtain⟨a0,a1,a2,a3,a4,a5,⟨⟩⟩:=x
 obtain⟨h1,h2,h3⟩:=qBC hb
 unfold qE1
 simp only[qFh k (a0,(a1,(a2,(a3,())))) h1,qC0 k a4 h2.1,i_copyUsers_is k a5 hk h3,Option.bind_some]
theorem qGg(k:Nat)(x:HubA)(hk:1048576<k)(hb:qCU x):qDU k (x,())=some (x,((),())):=by
 obtain⟨a0,a1,a2,a3,a4,a5,⟨⟩⟩:=x
 obtain⟨h1,h2,h3⟩:=qBC hb
 have h2':a4.length≤1048576:=h2.1
 have hcap:capMax=274877906944:=rfl
 unfold qDU
 simp only[qGf k (a0,(a1,(a2,(a3,())))) h1,qDL k a5 hk h3,Option.bind_some]
 rw[if_pos (by simp only[List.length_nil];omega)]
 simp
theorem i_DropTo_is(k:Nat)(a:List qAT.den)(f:Int)(hk:1048576<k)(hl:a.length≤1048576):qIa k (a,(f,()))=some (a.filter (fun x=>!decide (x.2=f)),((),((),()))):=by
 unfold qIa
 simp only[qC0 k a hl,Option.bind_some,delDropTo_is k a f hk hl]
theorem s_DropTo_is(k:Nat)(a:List qAT.den)(f:Int)(hk:1048576<k)(hl:a.length≤1048576):qII k (a,(f,()))=some (a.filter (fun x=>!decide (x.2=f)),((),((),()))):=by
 unfold qII
 have hcap:capMax=274877906944:=rfl
 refine loop_pick (A:=qAT.den) a (fun x=>!decide (x.2=f)) (fun i out=>(a,(f,(out,((i:Int),()))))) (fun out=>some (out,((),((),())))) ?_ ?_ k (by omega)
 ·intro again i out x ho hi hx
  have w:wi64 ((i:Int)+1)=((i+1:Nat):Int):=(qAH _ (by omega)).trans (by omega)
  have p1:(i:Int)<(a.length:Int):=by omega
  have p2:0≤(i:Int):=by omega
  have c3:out.length+1≤capMax:=by omega
  obtain⟨⟨x1,x2⟩,x3⟩:=x
  by_cases q:x3=f
  ·simp only[Ty.rd,Int.toNat_natCast,qA9 hx,p1,p2,w,c3,q,decide_true,Bool.not_true,Bool.false_eq_true,if_false,and_self,if_true]
  ·simp only[Ty.rd,Int.toNat_natCast,qA9 hx,p1,p2,w,c3,q,List.length_nil,List.length_cons,decide_false,Bool.not_false,decide_true,and_self,if_true,Nat.zero_add]
 ·intro again out
  have:¬(a.length:Int)<(a.length:Int):=by omega
  simp only[this,decide_false,Bool.false_eq_true,if_false]
theorem del1_is(k:Nat)(p r:List qAC.den)(g:qAC.den)(hl:(p++g::r).length≤1048576):qAd k (p++g::r,(((p.length:Nat):Int),(((p.length:Nat):Int)+1,())))=some (p++r,((),((),((),())))):=by
 have hcap:capMax=274877906944:=rfl
 have hlen:(p++g::r).length=p.length+r.length+1:=by simp;omega
 rw[hlen] at hl
 unfold qAd
 have e1:(((p.length:Nat):Int)+1).toNat=p.length+1:=by omega
 have e2:List.take (p.length+r.length+1) (p++g::r)=p++g::r:=by rw[←hlen,List.take_length]
 have e3:List.drop (p.length+1) (p++g::r)=r:=by simp
 have e4:List.take p.length (p++g::r)=p:=by simp
 have e5:List.drop (p.length+r.length) (p++g::r)=(g::r).drop r.length:=by rw[List.drop_append];simp
 have hne:¬((p.length:Nat):Int)=((p.length:Nat):Int)+1:=by omega
 have e6:(((p.length:Nat):Int)+((r.length:Nat):Int)).toNat=p.length+r.length:=by omega
 have e7:(p++(r++(g::r).drop r.length)).length=p.length+r.length+1:=by simp;omega
 simp only[hlen,Int.toNat_natCast,e1,e2,e3,e4,e5,e6,e7,hne,decide_false,Bool.false_eq_true,if_false,Int.sub_zero,Int.zero_add]
 rw[if_pos (by omega),if_pos (by omega),if_pos (by omega),if_pos (by omega),if_pos (by omega),if_pos (by omega),if_pos (by omega),if_pos (by omega)]
 have e8:List.take (p.length+r.length) (p++(r++(g::r).drop r.length))=p++r:=by rw[←List.append_assoc,←List.length_append,List.take_left]
 have e9:List.take (p.length+r.length) ((p++r)++(List.replicate (Int.toNat ((p.length+r.length+1:Nat)-((p.length:Int)+(r.length:Int)))) ((0:Int),((0:Int),(0:Int)))++List.drop (p.length+r.length+1) (p++(r++(g::r).drop r.length))))=p++r:=by rw[←List.length_append,List.take_left]
 simp only[e8,e9,Int.toNat_zero,List.drop_zero]
def relF(q:List qAC.den)(w:Int):List qAC.den:=q.filter (fun x=>!decide (x.2.1=w))
def relB(x:qBn)(w:Int):qBn×Bool:=if qC1 x=true∧¬(relF x.2.2.1 w).length=x.2.2.1.length then((x.1,(x.2.1,(relF x.2.2.1 w,(x.2.2.2.1,())))),true) else(x,false)
theorem pool_once{x:qBn}(h:qC1 x=true){p r:List qAC.den}{g:qAC.den}(hq:x.2.2.1=p++g::r):r.filter (fun y=>!decide (y.2.1=g.2.1))=r:=by
 refine List.filter_eq_self.2 fun y hy=>?_
 obtain⟨j,hj,rfl⟩:=List.getElem_of_mem hy
 unfold qC1 at h
 simp only[Bool.and_eq_true,List.all_eq_true] at h
 have hb:=h.2.2.2.2.2 (p.length+1+j) (by rw[hq];simp;omega)
 unfold badL at hb
 simp only[Bool.not_not,Bool.and_eq_true,List.all_eq_true] at hb
 have hd:=hb.2.2.2.2.1 p.length (by simp;omega)
 have e1:(Ty.rd (t:=qAC) x.2.2.1 ((p.length:Nat):Int))=g:=by
  rw[hq];simp[Ty.rd,List.getD]
 have e2:(Ty.rd (t:=qAC) x.2.2.1 ((p.length+1+j:Nat):Int))=r[j]:=by
  rw[hq]
  show(p++g::r).getD (p.length+1+j) _=_
  rw[List.getD_eq_getElem?_getD,List.getElem?_append_right (by omega),show p.length+1+j-p.length=j+1 by omega]
  simp[hj]
 rw[e1,e2] at hd
 simp only[Bool.not_eq_true',decide_eq_false_iff_not] at hd ⊢
 exact fun e=>hd e.symm
theorem s_Release_is(k:Nat)(x:qBn)(w:Int)(hk:1048576<k)(hb:qEO x):qGK k (x,(w,()))=some (((relB x w).1,((relB x w).2,())),((),((),()))):=by
 obtain⟨a0,a1,a2,a3,⟨⟩⟩:=x
 have hl:a2.length≤1048576:=hb.1.1
 have hcap:capMax=274877906944:=rfl
 have e1:=qGf k (a0,(a1,(a2,(a3,())))) hb
 have e2:=qHv k (a0,(a1,(a2,(a3,())))) hk hl hb.2.1.1
 unfold qGK
 simp only[e1,Option.bind_some]
 refine Eq.trans (loop_pick (A:=qAC.den) a2 (fun y=>!decide (y.2.1=w)) (fun i out=>(w,((a0,(a1,(a2,(a3,())))),(((0:Int),((0:Int),([],([],())))),((a0,(a1,(a2,(a3,())))),(out,((i:Int),()))))))) (fun out=>if qC1 (a0,(a1,(a2,(a3,()))))=true∧¬out.length=a2.length then some (((a0,(a1,(out,(a3,())))),(true,())),((),((),()))) else some (((a0,(a1,(a2,(a3,())))),(false,())),((),((),())))) ?_ ?_ k (by omega)) ?_
 ·intro again i out y ho hi hy
  have w':wi64 ((i:Int)+1)=((i+1:Nat):Int):=(qAH _ (by omega)).trans (by omega)
  have p1:(i:Int)<(a2.length:Int):=by omega
  have p2:0≤(i:Int):=by omega
  have c3:out.length+1≤capMax:=by omega
  obtain⟨y1,y2,y3⟩:=y
  by_cases q:y2=w
  ·simp only[Ty.rd,Int.toNat_natCast,qA9 hy,p1,p2,w',c3,q,decide_true,Bool.not_true,Bool.false_eq_true,if_false,and_self,if_true]
  ·simp only[Ty.rd,Int.toNat_natCast,qA9 hy,p1,p2,w',c3,q,List.length_nil,List.length_cons,decide_false,Bool.not_false,decide_true,and_self,if_true,Nat.zero_add]
 ·intro again out
  have:¬(a2.length:Int)<(a2.length:Int):=by omega
  simp only[this,decide_false,Bool.false_eq_true,if_false,e2,Option.bind_some]
  cases hp:qC1 (a0,(a1,(a2,(a3,()))))
  ·simp
  ·by_cases q:out.length=a2.length
   ·simp[q]
   ·simp[q]
    omega
 ·unfold relB relF
  dsimp only
  split <;> rfl
end Go.Proofs.YtnfllchbpechlaaGreat
