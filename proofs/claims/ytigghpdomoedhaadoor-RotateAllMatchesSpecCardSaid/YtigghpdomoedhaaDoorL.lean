/- Lemmas: an abstract interpreter, and what the functions compute. -/
import Derived.Test.YtigghpdomoedhaaDoorE
import Derived.Test.YtigghpdomoedhaaDoorC
import Derived.Test.YtigghpdomoedhaaDoorT
set_option linter.unusedSimpArgs false
set_option linter.unusedVariables false
set_option linter.unusedSectionVars false
section
namespace Go.Abs
def kOk (k:z2d):Prop:=z1n k.id∧z1n k.ty∧k.val.length≤9223372036854775807∧z1n k.uses∧z1n k.beg∧z1n k.fin∧z1n k.ver∧z1n k.par
def z26 (l:List z2a):z2d:=⟨asI (nth l 0),asI (nth l 1),gS (nth l 2),asI (nth l 3),asI (nth l 4),asI (nth l 5),asI (nth l 6),asI (nth l 7),asB (nth l 8)⟩
@[simp] theorem z2H (k:z2d):z26 (z3j k)=k:=by simp[z26,z3j,nth]
@[simp] theorem z9Pa (k:z2d):(z3j k).length=9:=rfl
def z56:z4a:=⟨fun ds=>∃n lo hi:Int,ds=[i64 n,i64 lo,i64 hi],fun ds=>bo (inB (asI (nth ds 0)) (asI (nth ds 1)) (asI (nth ds 2)))⟩
@[simp] theorem z0xc (n lo hi:Int):z56.pre [i64 n,i64 lo,i64 hi]=True:=eq_true ⟨n,lo,hi,rfl⟩
@[simp] theorem z18b (n lo hi:Int):z56.post [i64 n,i64 lo,i64 hi]=bo (inB n lo hi):=rfl
def z8Ja:z4a:=⟨fun ds=>∃k,kOk k∧ds=[.agg (z3j k)],fun ds=>bo (okK (z26 (gCs (nth ds 0))))⟩
theorem z2ka {k:z2d} (h:kOk k):z8Ja.pre [.agg (z3j k)]=True:=eq_true ⟨k,h,rfl⟩
@[simp] theorem z9S (k:z2d):z8Ja.post [.agg (z3j k)]=bo (okK k):=by
 show bo (okK (z26 (z3j k)))=_
 rw[z2H]
def z4T (k:z2d) (now:Int):Bool:=decide (k.beg≤now)&&decide (now<k.fin)
def z14:z4a:=⟨fun ds=>∃k now,kOk k∧ds=[.agg (z3j k),i64 now],fun ds=>bo (z4T (z26 (gCs (nth ds 0))) (asI (nth ds 1)))⟩
theorem z7da {k:z2d} (now:Int) (h:kOk k):z14.pre [.agg (z3j k),i64 now]=True:=eq_true ⟨k,now,h,rfl⟩
@[simp] theorem z7R (k:z2d) (now:Int):z14.post [.agg (z3j k),i64 now]=bo (z4T k now):=by
 show bo (z4T (z26 (z3j k)) now)=_
 rw[z2H]
def z34:z4a:=⟨fun ds=>∃a b:Int,z1n a∧ds=[i64 a,i64 b],fun ds=>bo (z7ea (asI (nth ds 0)) (asI (nth ds 1)))⟩
theorem z4ca {a b:Int} (h:z1n a):z34.pre [i64 a,i64 b]=True:=eq_true ⟨a,b,h,rfl⟩
@[simp] theorem z6eb (a b:Int):z34.post [i64 a,i64 b]=bo (z7ea a b):=rfl
def z3Vb:z4a:=⟨fun ds=>∃a:Int,ds=[i64 a],fun _=>bo false⟩
@[simp] theorem z0Gc (a:Int):z3Vb.pre [i64 a]=True:=eq_true ⟨a,rfl⟩
@[simp] theorem z5tc (ds:List z2a):z3Vb.post ds=bo false:=rfl
def z9Ka (a b:Int):Int:=if a<b then-1 else if b<a then 1 else 0
def z0Lb:z4a:=⟨fun ds=>∃a b:Int,ds=[i64 a,i64 b],fun ds=>i64 (z9Ka (asI (nth ds 0)) (asI (nth ds 1)))⟩
@[simp] theorem z1Jc (a b:Int):z0Lb.pre [i64 a,i64 b]=True:=eq_true ⟨a,b,rfl⟩
@[simp] theorem z1wc (a b:Int):z0Lb.post [i64 a,i64 b]=i64 (z9Ka a b):=rfl
def z1Qb:z4a:=⟨fun ds=>∃(k:z2d) (b:Int),ds=[.agg (z3j k),i64 b],fun ds=>i64 (z9Ka (z26 (gCs (nth ds 0))).id (asI (nth ds 1)))⟩
@[simp] theorem z6Dc (k:z2d) (b:Int):z1Qb.pre [.agg (z3j k),i64 b]=True:=eq_true ⟨k,b,rfl⟩
@[simp] theorem z0eb (k:z2d) (b:Int):z1Qb.post [.agg (z3j k),i64 b]=i64 (z9Ka k.id b):=by
 show i64 (z9Ka (z26 (z3j k)).id b)=_
 rw[z2H]
/-! ### Lists of keys -/
@[simp] theorem z0db:∀l:List z2d,(z1k l).length=l.length*9
 |[]=>rfl
 |k::l=>by rw[z1k,List.flatMap_cons,List.length_append,z9Pa];have:=z0db l;rw[z1k] at this;rw[this,List.length_cons];omega
theorem z1z (k:z2d) (l:List z2d):z1k (k::l)=z3j k++z1k l:=rfl
theorem z9Aa (a b:List z2d):z1k (a++b)=z1k a++z1k b:=by simp[z1k]
theorem z2Y:∀(l:List z2d) (n:Nat),(z1k l).drop (n*9)=z1k (l.drop n)
 |[],n=>by simp[z1k]
 |k::l,0=>by simp
 |k::l,n+1=>by
  rw[z1z,List.drop_succ_cons,←z2Y l n,show(n+1)*9=(z3j k).length+n*9 by simp;omega,←List.drop_drop,List.drop_left]
theorem z38:∀(l:List z2d) (n:Nat),(z1k l).take (n*9)=z1k (l.take n)
 |[],n=>by simp[z1k]
 |k::l,0=>by simp[z1k]
 |k::l,n+1=>by
  rw[z1z,List.take_succ_cons,z1z,←z38 l n,show(n+1)*9=(z3j k).length+n*9 by simp;omega,List.take_length_add_append]
def z3g (l:List z2d) (i:Nat):z2d:=l.getD i z8Sb
theorem z2F {l:List z2d} {i:Nat} (h:i<l.length):((z1k l).drop (i*9)).take 9=z3j (z3g l i):=by
 rw[z2Y,List.drop_eq_getElem_cons h,z1z,←z9Pa l[i],List.take_left,z3g,List.getD,List.getElem?_eq_getElem h];rfl
theorem z5ea {l:List z2d} {i:Nat} (h:i<l.length):z3g l i∈l:=by
 rw[z3g,List.getD,List.getElem?_eq_getElem h];exact List.getElem_mem h
@[simp] theorem z28a (k:z2d):z4h (z3j k)=true:=rfl
@[simp] theorem z6mc (k:z2d):z2l (z3j k)=[]:=rfl
theorem z2za {l:List z2d} {c:z2a} (h:c∈z1k l):∃k,c∈z3j k:=by
 obtain⟨k,_,hk⟩:=List.mem_flatMap.1 h
 exact⟨k,hk⟩
@[simp] theorem z5Za (l:List z2d):z4h (z1k l)=true:=(z1i _).2 fun c hc=>by
 obtain⟨k,hk⟩:=z2za hc
 exact(z1i _).1 (z28a k) c hk
/-! ### Reading lists back -/
def gL {α:Type} (w:Nat) (g:List z2a→α) (n:Nat) (cs:List z2a):List α:=(List.range n).map fun i=>g (cs.drop (i*w))
theorem z1jb {α:Type} {w:Nat} {g:List z2a→α} {enc:α→List z2a} (h1:∀a,(enc a).length=w) (h2:∀a r,g (enc a++r)=a) (l:List α):gL w g l.length (l.flatMap enc)=l:=by
 have hd:∀(l:List α) (i:Nat),(l.flatMap enc).drop (i*w)=(l.drop i).flatMap enc:=by
  intro l
  induction l with
  |nil=>intro i;simp
  |cons a l ih=>
   intro i
   cases i with
   |zero=>simp
   |succ i=>
    rw[List.drop_succ_cons,←ih,List.flatMap_cons,show(i+1)*w=(enc a).length+i*w by rw[h1,Nat.succ_mul,Nat.add_comm],←List.drop_drop,List.drop_left]
 apply List.ext_getElem
 ·simp[gL]
 ·intro i a1 a2
  simp only[gL,List.getElem_map,List.getElem_range]
  rw[hd,List.drop_eq_getElem_cons a2,List.flatMap_cons,h2]
def z7ka (n:Nat) (cs:List z2a):List z2d:=gL 9 z26 n cs
@[simp] theorem z52 (l:List z2d):z7ka l.length (z1k l)=l:=z1jb (enc:=z3j) (fun _=>rfl) (fun k r=>by simp[z26,z3j,nth]) l
def gSn (d:z2a):Nat:=match d with| .sl _ _ n _=>n|_=>0
def z7D (l:List z2a):z2k:=⟨asI (nth l 0),z7ka (gSn (nth l 1)) (gCs (nth l 1))⟩
def z0d (nl:Option Bool) (t:z2k):List z2a:=[i64 t.next,.sl .plain nl t.keys.length (z1k t.keys)]
@[simp] theorem z0k (nl:Option Bool) (t:z2k):z7D (z0d nl t)=t:=by
 simp[z7D,z0d,nth,gSn,gCs]
/-! ### Policies -/
def z5aa (l:List z57a):List z2a:=l.flatMap z7sb
def z0P (l:List z5N):List z2a:=l.flatMap z3Z
def z2kb (l:List z86b):List z2a:=l.flatMap z31b
def z2Ec (l:List z2a):z57a:=⟨gS (nth l 0),asI (nth l 1),asI (nth l 2)⟩
def z5Rc (l:List z2a):z5N:=⟨asI (nth l 0),asI (nth l 1),asI (nth l 2)⟩
def z5Nc (l:List z2a):z86b:=⟨asI (nth l 0),asI (nth l 1),asI (nth l 2),asI (nth l 3),asI (nth l 4)⟩
def z4n (na nb nc:Option Bool) (p:z9n):List z2a:=[st p.name,.sl .plain na p.types.length (z5aa p.types),.sl .plain nb p.rules.length (z0P p.rules),.sl .plain nc p.quos.length (z2kb p.quos)]
def z69 (l:List z2a):z9n:=⟨gS (nth l 0),gL 3 z2Ec (gSn (nth l 1)) (gCs (nth l 1)),gL 3 z5Rc (gSn (nth l 2)) (gCs (nth l 2)),gL 5 z5Nc (gSn (nth l 3)) (gCs (nth l 3))⟩
@[simp] theorem z7t (na nb nc:Option Bool) (p:z9n):z69 (z4n na nb nc p)=p:=by
 have h1:gL 3 z2Ec p.types.length (z5aa p.types)=p.types:=z1jb (enc:=z7sb) (fun _=>rfl) (fun k r=>by simp[z2Ec,z7sb,nth]) _
 have h2:gL 3 z5Rc p.rules.length (z0P p.rules)=p.rules:=z1jb (enc:=z3Z) (fun _=>rfl) (fun k r=>by simp[z5Rc,z3Z,nth]) _
 have h3:gL 5 z5Nc p.quos.length (z2kb p.quos)=p.quos:=z1jb (enc:=z31b) (fun _=>rfl) (fun k r=>by simp[z5Nc,z31b,nth]) _
 simp[z69,z4n,nth,gSn,gCs,h1,h2,h3]
end Go.Abs
end

section
namespace Go.Abs
def z4Q (p:z9n):Prop:=p.types.length≤1000000000∧p.rules.length≤1000000000∧p.quos.length≤1000000000
@[simp] theorem z2cb:∀l:List z57a,(z5aa l).length=l.length*3
 |[]=>rfl
 |k::l=>by have:=z2cb l;rw[z5aa] at this⊢;rw[List.flatMap_cons,List.length_append,this,List.length_cons];show 3+_=_;omega
@[simp] theorem z05a:∀l:List z5N,(z0P l).length=l.length*3
 |[]=>rfl
 |k::l=>by have:=z05a l;rw[z0P] at this⊢;rw[List.flatMap_cons,List.length_append,this,List.length_cons];show 3+_=_;omega
@[simp] theorem z00b (l:List z57a):z4h (z5aa l)=true:=(z1i _).2 fun c hc=>by
 obtain⟨t,_,ht⟩:=List.mem_flatMap.1 hc
 exact(z1i _).1 (show z4h (z7sb t)=true from rfl) c ht
@[simp] theorem z73b (l:List z5N):z4h (z0P l)=true:=(z1i _).2 fun c hc=>by
 obtain⟨t,_,ht⟩:=List.mem_flatMap.1 hc
 exact(z1i _).1 (show z4h (z3Z t)=true from rfl) c ht
@[simp] theorem z55b (l:List z86b):z4h (z2kb l)=true:=(z1i _).2 fun c hc=>by
 obtain⟨t,_,ht⟩:=List.mem_flatMap.1 hc
 exact(z1i _).1 (show z4h (z31b t)=true from rfl) c ht
theorem z8W {α:Type} {w:Nat} {enc:α→List z2a} (h1:∀a,(enc a).length=w):∀(l:List α) (i:Nat),(l.flatMap enc).drop (i*w)=(l.drop i).flatMap enc
 |[],i=>by simp
 |a::l,0=>by simp
 |a::l,i+1=>by
  rw[List.drop_succ_cons,←z8W h1 l i,List.flatMap_cons,show(i+1)*w=(enc a).length+i*w by rw[h1,Nat.succ_mul,Nat.add_comm],←List.drop_drop,List.drop_left]
theorem z5ca {l:List z57a} {i:Nat} (h:i<l.length):hdA ((z5aa l).drop (i*3+1))=i64 (l.getD i ⟨[],0,0⟩).flags:=by
 rw[←List.drop_drop,z5aa,z8W (w:=3) (enc:=z7sb) (fun _=>rfl),List.drop_eq_getElem_cons h,List.flatMap_cons,List.getD,List.getElem?_eq_getElem h];rfl
theorem z4Sa {l:List z57a} {i:Nat} (h:i<l.length):hdA ((z5aa l).drop (i*3+2))=i64 (l.getD i ⟨[],0,0⟩).life:=by
 rw[←List.drop_drop,z5aa,z8W (w:=3) (enc:=z7sb) (fun _=>rfl),List.drop_eq_getElem_cons h,List.flatMap_cons,List.getD,List.getElem?_eq_getElem h];rfl
theorem z4sb {l:List z5N} {i:Nat} (h:i<l.length):((z0P l).drop (i*3)).take 3=z3Z (l.getD i ⟨0,0,0⟩):=by
 rw[z0P,z8W (w:=3) (enc:=z3Z) (fun _=>rfl),List.drop_eq_getElem_cons h,List.flatMap_cons,List.getD,List.getElem?_eq_getElem h];rfl
@[simp] theorem z2sc (na nb nc:Option Bool) (p:z9n):(z4n na nb nc p).length=4:=rfl
@[simp] theorem z0oc (na nb nc:Option Bool) (p:z9n):z4h (z4n na nb nc p)=true:=by simp[z4n]
@[simp] theorem z8jc (na nb nc:Option Bool) (p:z9n):z2l (z4n na nb nc p)=[]:=rfl
@[simp] theorem z5ac (na nb nc:Option Bool) (p:z9n):(z4n na nb nc p).take 4=z4n na nb nc p:=rfl
@[simp] theorem polL_1 (na nb nc:Option Bool) (p:z9n):hdA (z4n na nb nc p).tail= .sl .plain na p.types.length (z5aa p.types):=rfl
@[simp] theorem polL_2 (na nb nc:Option Bool) (p:z9n):hdA ((z4n na nb nc p).drop 2)= .sl .plain nb p.rules.length (z0P p.rules):=rfl
@[simp] theorem polL_3 (na nb nc:Option Bool) (p:z9n):hdA ((z4n na nb nc p).drop 3)= .sl .plain nc p.quos.length (z2kb p.quos):=rfl
@[simp] theorem z0gc (na nb nc:Option Bool) (p:z9n):(∀c∈z4n na nb nc p,z9c c)↔True:=by simp[z4n]
@[simp] theorem z4xc (na nb nc:Option Bool) (p:z9n):(∀c∈z4n na nb nc p,z6g c=false)↔True:=by simp[z4n]
def z8La:z4a:=⟨fun ds=>∃(na nb nc:Option Bool) (p:z9n) (t:Int),z4Q p∧z1n t∧ds=[.agg (z4n na nb nc p),i64 t],fun ds=>bo (z2W (z69 (gCs (nth ds 0))) (asI (nth ds 1)))⟩
theorem z1sa {na nb nc:Option Bool} {p:z9n} {t:Int} (h:z4Q p) (ht:z1n t):z8La.pre [.agg (z4n na nb nc p),i64 t]=True:=eq_true ⟨na,nb,nc,p,t,h,ht,rfl⟩
@[simp] theorem z6ca (na nb nc:Option Bool) (p:z9n) (t:Int):z8La.post [.agg (z4n na nb nc p),i64 t]=bo (z2W p t):=by
 show bo (z2W (z69 (z4n na nb nc p)) t)=_
 rw[z7t]
def z4Qa:z4a:=⟨fun ds=>∃(na nb nc:Option Bool) (p:z9n) (t f:Int),z4Q p∧z1n t∧z1n f∧ds=[.agg (z4n na nb nc p),i64 t,i64 f],fun ds=>bo (z0Ga (z69 (gCs (nth ds 0))) (asI (nth ds 1)) (asI (nth ds 2)))⟩
theorem z0va {na nb nc:Option Bool} {p:z9n} {t f:Int} (h:z4Q p) (ht:z1n t) (hf:z1n f):z4Qa.pre [.agg (z4n na nb nc p),i64 t,i64 f]=True:=eq_true ⟨na,nb,nc,p,t,f,h,ht,hf,rfl⟩
@[simp] theorem z3Oa (na nb nc:Option Bool) (p:z9n) (t f:Int):z4Qa.post [.agg (z4n na nb nc p),i64 t,i64 f]=bo (z0Ga p t f):=by
 show bo (z0Ga (z69 (z4n na nb nc p)) t f)=_
 rw[z7t]
end Go.Abs
end

section
namespace Go.Abs
def lbK (l:List z2d) (i:Int):Nat:=l.findIdx fun k=>decide (i≤k.id)
theorem z09a {l:List z2d} {i:Int} {n:Nat} (hn:n≤l.length) (h1:∀m<n,(z3g l m).id<i) (h2:∀m,n≤m→m<l.length→i≤(z3g l m).id):lbK l i=n:=by
 have at':∀m (h:m<l.length),l[m]=z3g l m:=fun m h=>by rw[z3g,List.getD,List.getElem?_eq_getElem h];rfl
 rcases Nat.lt_or_ge n l.length with h|h
 ·rw[lbK,List.findIdx_eq h]
  refine⟨by simp[at' n h,h2 n (Nat.le_refl _) h],fun j hj=> ?_⟩
  have:=h1 j hj
  simp only[at' j (by omega),decide_eq_false_iff_not]
  omega
 ·have hnl:n=l.length:=by omega
  subst hnl
  rw[lbK,List.findIdx_eq_length]
  intro k hk
  obtain⟨m,hm,rfl⟩:=List.getElem_of_mem hk
  have:=h1 m hm
  simp only[at' m hm,decide_eq_false_iff_not]
  omega
theorem z1oa {l:List z2d} (hs:srt l) {i j:Nat} (hij:i<j) (hj:j<l.length):(z3g l i).id<(z3g l j).id:=by
 have at':∀m (h:m<l.length),z3g l m=l[m]:=fun m h=>by rw[z3g,List.getD,List.getElem?_eq_getElem h];rfl
 rw[at' i (by omega),at' j hj]
 exact List.pairwise_iff_getElem.1 hs i j (by omega) hj hij
def z40 (l:List z2d) (i:Int):Bool:=decide (lbK l i<l.length)&&((z3g l (lbK l i)).id==i)
theorem z0Ma {l:List z2d} (hs:srt l) (i:Int):z80 l i=if z40 l i then some (z3g l (lbK l i)) else none:=by
 have at':∀m (h:m<l.length),z3g l m=l[m]:=fun m h=>by rw[z3g,List.getD,List.getElem?_eq_getElem h];rfl
 cases hb:z40 l i with
 |true=>
  simp only[z40,Bool.and_eq_true,decide_eq_true_eq,beq_iff_eq] at hb
  obtain⟨h1,h2⟩:=hb
  rw[if_pos rfl]
  have:=z8Ib hs h1
  rw[←at' _ h1,h2] at this
  exact this
 |false=>
  rw[if_neg (by simp)]
  refine z1gb fun k hk he=> ?_
  obtain⟨m,hm,rfl⟩:=List.getElem_of_mem hk
  have hlb:lbK l i=m:=z09a (Nat.le_of_lt hm) (fun j hj=>by have:=z1oa hs hj hm;rw[at' m hm] at this;omega) (fun j hj hjl=>by
   rcases Nat.lt_or_eq_of_le hj with h|h
   ·have:=z1oa hs h hjl;rw[at' m hm] at this;omega
   ·rw[←h,at' m hm];omega)
  have:z40 l i=true:=by
   simp only[z40,hlb,Bool.and_eq_true,decide_eq_true_eq,beq_iff_eq]
   exact⟨hm,by rw[at' m hm];exact he⟩
  rw[hb] at this;cases this
theorem z6Vb {l:List z2d} (hs:srt l) {i:Int} {n:Nat} (hn:n<l.length) (he:(z3g l n).id=i):z40 l i=true∧lbK l i=n:=by
 have hlb:lbK l i=n:=z09a (Nat.le_of_lt hn) (fun j hj=>by have:=z1oa hs hj hn;omega) (fun j hj hjl=>by
  rcases Nat.lt_or_eq_of_le hj with h|h
  ·have:=z1oa hs h hjl;omega
  ·rw[←h];omega)
 refine⟨?_,hlb⟩
 simp only[z40,hlb,Bool.and_eq_true,decide_eq_true_eq,beq_iff_eq]
 exact⟨hn,he⟩
theorem z3sb {l:List z2d} {i:Int} (h:∀m<l.length,(z3g l m).id≠i):z40 l i=false:=by
 refine Bool.eq_false_iff.2 fun hc=> ?_
 simp only[z40,Bool.and_eq_true,decide_eq_true_eq,beq_iff_eq] at hc
 exact h _ hc.1 hc.2
def z84 (nl:Option Bool) (l:List z2d):z2a:= .sl .plain nl l.length (z1k l)
def z90a (l:List z2d):Prop:=l.length≤100000000
def z8Pb:z4a:=⟨fun ds=>∃(nl:Option Bool) (l:List z2d) (i:Int),srt l∧z90a l∧ds=[z84 nl l,i64 i,.fn 253 [] []],
 fun ds=> .tup [i64 (lbK (z7ka (gSn (nth ds 0)) (gCs (nth ds 0))) (asI (nth ds 1))),bo (z40 (z7ka (gSn (nth ds 0)) (gCs (nth ds 0))) (asI (nth ds 1)))]⟩
theorem z4Tb {nl:Option Bool} {l:List z2d} (i:Int) (h:srt l) (hl:z90a l):z8Pb.pre [.sl .plain nl l.length (z1k l),i64 i,.fn 253 [] []]=True:=eq_true ⟨nl,l,i,h,hl,rfl⟩
@[simp] theorem z4Ra (nl:Option Bool) (l:List z2d) (i:Int) (x:z2a):z8Pb.post [.sl .plain nl l.length (z1k l),i64 i,x]= .tup [i64 (lbK l i),bo (z40 l i)]:=by
 show z2a.tup [i64 (lbK (z7ka l.length (z1k l)) i),bo (z40 (z7ka l.length (z1k l)) i)]=_
 rw[z52]
end Go.Abs
end

section
namespace Go.Abs
@[simp] theorem z3xc (nl:Option Bool) (t:z2k):(z0d nl t).length=2:=rfl
@[simp] theorem z9hc (nl:Option Bool) (t:z2k):z4h (z0d nl t)=true:=by simp[z0d]
@[simp] theorem z0wa (nl:Option Bool) (t:z2k):z2l (z0d nl t)=[]:=rfl
@[simp] theorem z0hc (nl:Option Bool) (t:z2k):(z0d nl t).take 2=z0d nl t:=rfl
@[simp] theorem tabL_0 (nl:Option Bool) (t:z2k):hdA (z0d nl t)=i64 t.next:=rfl
@[simp] theorem tabL_1 (nl:Option Bool) (t:z2k):hdA (z0d nl t).tail= .sl .plain nl t.keys.length (z1k t.keys):=rfl
@[simp] theorem z6Da (nl:Option Bool) (t:z2k):(∀c∈z0d nl t,z9c c)↔True:=by simp[z0d]
@[simp] theorem z2Qa (nl:Option Bool) (t:z2k):(∀c∈z0d nl t,z6g c=false)↔True:=by simp[z0d]
@[simp] theorem z2ac (k:z2d):(z3j k).take 9=z3j k:=rfl
@[simp] theorem z3eb (k:z2d):(∀c∈z3j k,z9c c)↔True:=by simp[z3j]
@[simp] theorem z9zc (k:z2d):(∀c∈z3j k,z6g c=false)↔True:=by simp[z3j]
@[simp] theorem z7Kc (k:z2d):hdA (z3j k)=i64 k.id:=rfl
@[simp] theorem z4Mc (k:z2d):hdA (z3j k).tail=i64 k.ty:=rfl
@[simp] theorem z6Nc (k:z2d):hdA ((z3j k).drop 2)=st k.val:=rfl
@[simp] theorem z9Gc (k:z2d):hdA ((z3j k).drop 3)=i64 k.uses:=rfl
@[simp] theorem z6Oc (k:z2d):hdA ((z3j k).drop 4)=i64 k.beg:=rfl
@[simp] theorem z5Qc (k:z2d):hdA ((z3j k).drop 5)=i64 k.fin:=rfl
@[simp] theorem z7Rc (k:z2d):hdA ((z3j k).drop 6)=i64 k.ver:=rfl
@[simp] theorem z1Sc (k:z2d):hdA ((z3j k).drop 7)=i64 k.par:=rfl
@[simp] theorem z4Rc (k:z2d):hdA ((z3j k).drop 8)=bo k.raw:=rfl
@[simp] theorem z3Rc (k:z2d):z1b (z3j k)=true:=rfl
theorem z6i (a b c d e f g h i:z2a) (k:z2d):splice [a,b,c,d,e,f,g,h,i] 0 (z3j k)=z3j k:=rfl
theorem z1r (a b:z2d):splice (z3j a) 0 (z3j b)=z3j b:=rfl
theorem z8k:[i64 0,i64 0,st [],i64 0,i64 0,i64 0,i64 0,i64 0,bo false]=z3j z8Sb:=rfl
theorem z0Oa {l:List z2d} {i:Nat} (h:i<l.length):hdA ((z1k l).drop (i*9))=i64 (z3g l i).id:=by
 rw[z2Y,List.drop_eq_getElem_cons h,z1z,z3g,List.getD,List.getElem?_eq_getElem h];rfl
def tOk (t:z2k):Prop:=srt t.keys∧z90a t.keys
def z80b (l:List z2d) (i:Int):z2a:= .tup [i64 (if z40 l i=true then lbK l i else 0:Nat),i64 (if z40 l i=true then 0 else 11)]
def z8hb:z4a:=⟨fun ds=>∃(nl:Option Bool) (t:z2k) (i:Int),tOk t∧ds=[.agg (z0d nl t),i64 i],fun ds=>z80b (z7D (gCs (nth ds 0))).keys (asI (nth ds 1))⟩
theorem z31a {nl:Option Bool} {t:z2k} (i:Int) (h:tOk t):z8hb.pre [.agg (z0d nl t),i64 i]=True:=eq_true ⟨nl,t,i,h,rfl⟩
@[simp] theorem z3va (nl:Option Bool) (t:z2k) (i:Int):z8hb.post [.agg (z0d nl t),i64 i]=z80b t.keys i:=by
 show z80b (z7D (z0d nl t)).keys i=_
 rw[z0k]
def z8va (o:Option z2d):z2a:=match o with|some k=> .tup [.agg (z3j k),i64 0]|none=> .tup [.agg (z3j z8Sb),i64 11]
def z0Fa:z4a:=⟨z8hb.pre,fun ds=>z8va (z80 (z7D (gCs (nth ds 0))).keys (asI (nth ds 1)))⟩
theorem z57 {nl:Option Bool} {t:z2k} (i:Int) (h:tOk t):z0Fa.pre [.agg (z0d nl t),i64 i]=True:=eq_true ⟨nl,t,i,h,rfl⟩
@[simp] theorem z7O (nl:Option Bool) (t:z2k) (i:Int):z0Fa.post [.agg (z0d nl t),i64 i]=z8va (z80 t.keys i):=by
 show z8va (z80 (z7D (z0d nl t)).keys i)=_
 rw[z0k]
def atC:z4a:=⟨z8hb.pre,fun ds=>i64 (if z40 (z7D (gCs (nth ds 0))).keys (asI (nth ds 1))=true then(lbK (z7D (gCs (nth ds 0))).keys (asI (nth ds 1)):Int) else-1)⟩
theorem z0Ab {nl:Option Bool} {t:z2k} (i:Int) (h:tOk t):atC.pre [.agg (z0d nl t),i64 i]=True:=eq_true ⟨nl,t,i,h,rfl⟩
@[simp] theorem z4Ha (nl:Option Bool) (t:z2k) (i:Int):atC.post [.agg (z0d nl t),i64 i]=i64 (if z40 t.keys i=true then(lbK t.keys i:Int) else-1):=by
 show i64 (if z40 (z7D (z0d nl t)).keys i=true then(lbK (z7D (z0d nl t)).keys i:Int) else-1)=_
 rw[z0k]
/-! ### Successors -/
def z9pa (t:z2k):Prop:=okT t=true
theorem z8q {t:z2k} (h:z9pa t):tOk t∧t.keys.length≤4096∧(1≤t.next∧t.next≤z7N)∧∀k∈t.keys,okK k=true∧0<k.id∧k.id<t.next∧k.par<t.next:=by
 simp only[z9pa,okT,Bool.and_eq_true,decide_eq_true_eq] at h
 obtain⟨⟨h1,h2⟩,h3⟩:=h
 obtain⟨h4,h5⟩:=z1ab h3
 exact⟨⟨h5,by show t.keys.length≤100000000;omega⟩,h1,h2,h4⟩
theorem z78a {k:z2d} (h:okK k=true):1≤k.ver∧k.ver≤z7N:=by
 simp only[okK,inB,Bool.and_eq_true,decide_eq_true_eq] at h
 exact h.1.2
def z2Sb:z4a:=⟨fun ds=>∃x k:z2d,-9223372036854775808≤k.ver∧k.ver≤z7N∧ds=[.agg (z3j x),.agg (z3j k)],fun ds=>bo (z5ia (z26 (gCs (nth ds 1))) (z26 (gCs (nth ds 0))))⟩
theorem z8Gb (x:z2d) {k:z2d} (h0: -9223372036854775808≤k.ver) (h:k.ver≤z7N):z2Sb.pre [.agg (z3j x),.agg (z3j k)]=True:=eq_true ⟨x,k,h0,h,rfl⟩
@[simp] theorem z4nb (x k:z2d):z2Sb.post [.agg (z3j x),.agg (z3j k)]=bo (z5ia k x):=by
 show bo (z5ia (z26 (z3j k)) (z26 (z3j x)))=_
 rw[z2H,z2H]
def z37 (o:Option Int):z2a:=match o with|some j=> .tup [i64 j,bo true]|none=> .tup [i64 0,bo false]
def z3U:z4a:=⟨fun ds=>∃(nl:Option Bool) (t:z2k) (i:Int),z9pa t∧ds=[.agg (z0d nl t),i64 i],fun ds=>z37 (z1R (z7D (gCs (nth ds 0))).keys (asI (nth ds 1)))⟩
theorem z1Z {nl:Option Bool} {t:z2k} (i:Int) (h:z9pa t):z3U.pre [.agg (z0d nl t),i64 i]=True:=eq_true ⟨nl,t,i,h,rfl⟩
@[simp] theorem z3I (nl:Option Bool) (t:z2k) (i:Int):z3U.post [.agg (z0d nl t),i64 i]=z37 (z1R t.keys i):=by
 show z37 (z1R (z7D (z0d nl t)).keys i)=_
 rw[z0k]
theorem z0Y {l:List z2d} {m:Nat} (h:m<l.length):z3g l m=l[m]:=by rw[z3g,List.getD,List.getElem?_eq_getElem h];rfl
theorem z8Aa {P:z2d→Bool} {l:List z2d} {n:Nat} (h:n<l.length) (hno:∀m,n<m→m<l.length→P (z3g l m)=false) (hp:P (z3g l n)=true):l.reverse.find? P=some (z3g l n):=by
 have e:l=l.take n++z3g l n::l.drop (n+1):=by
  rw[z0Y h,←List.drop_eq_getElem_cons h,List.take_append_drop]
 have hn:(l.drop (n+1)).reverse.find? P=none:=by
  rw[List.find?_eq_none]
  intro k hk
  obtain⟨m,hm,rfl⟩:=List.getElem_of_mem (List.mem_reverse.1 hk)
  rw[List.length_drop] at hm
  have:=hno (n+1+m) (by omega) (by omega)
  rw[z0Y (by omega)] at this
  rw[List.getElem_drop]
  simp[this]
 have e2:l.reverse=(l.drop (n+1)).reverse++z3g l n::(l.take n).reverse:=by
  have:=congrArg List.reverse e
  rw[List.reverse_append,List.reverse_cons,List.append_assoc] at this
  exact this
 rw[e2,List.find?_append,hn,List.find?_cons,hp]
 rfl
theorem z0oa {P:z2d→Bool} {l:List z2d} (h:∀m<l.length,P (z3g l m)=false):l.reverse.find? P=none:=by
 rw[List.find?_eq_none]
 intro k hk
 obtain⟨m,hm,rfl⟩:=List.getElem_of_mem (List.mem_reverse.1 hk)
 have:=h m hm
 rw[z0Y hm] at this
 simp[this]
end Go.Abs
end

section
namespace Go.Abs
theorem z4za {l:List z2d} {i:Nat} (k:z2d) (h:i<l.length):splice (z1k l) (i*9) (z3j k)=z1k (l.set i k):=by
 have h9:i*9+(z3j k).length=(i+1)*9:=by simp;omega
 rw[splice,h9,z38,z2Y,List.append_assoc,←z1z,←z9Aa]
 congr 1
 rw[List.set_eq_take_append_cons_drop,if_pos h]
def z7aa (t:z2k) (k:z2d):z2k×Int:=
 if okK k=true∧k.par<t.next then(if z40 t.keys k.id=true then(⟨t.next,t.keys.set (lbK t.keys k.id) k⟩,0) else(⟨0,[]⟩,11)) else(⟨0,[]⟩,1)
def z3ga (n':Option Bool) (t:z2k) (e:Int):z2a:= .agg (z0d (if e=0 then n' else none) t)
def z2Lc (n':Option Bool):z4a:=⟨fun ds=>∃(nl:Option Bool) (t:z2k) (k:z2d),tOk t∧kOk k∧ds=[.agg (z0d nl t),.agg (z3j k)],
 fun ds=>let r:=z7aa (z7D (gCs (nth ds 0))) (z26 (gCs (nth ds 1)));.tup [z3ga n' r.1 r.2,i64 r.2]⟩
theorem z83a (n':Option Bool) {nl:Option Bool} {t:z2k} {k:z2d} (h:tOk t) (hk:kOk k):(z2Lc n').pre [.agg (z0d nl t),.agg (z3j k)]=True:=eq_true ⟨nl,t,k,h,hk,rfl⟩
theorem z8ba (n' nl:Option Bool) (t:z2k) (k:z2d):(z2Lc n').post [.agg (z0d nl t),.agg (z3j k)]= .tup [z3ga n' (z7aa t k).1 (z7aa t k).2,i64 (z7aa t k).2]:=by
 show z2a.tup [z3ga n' (z7aa (z7D (z0d nl t)) (z26 (z3j k))).1 (z7aa (z7D (z0d nl t)) (z26 (z3j k))).2,i64 (z7aa (z7D (z0d nl t)) (z26 (z3j k))).2]=_
 rw[z0k,z2H]
/-! ### A key added -/
def z0S (t:z2k) (k:z2d):z2k×Int×Int:=
 if okK k=true∧k.par<t.next then(if t.keys.length<4096∧t.next<z7N then(⟨t.next+1,t.keys++[{k with id:=t.next}]⟩,t.next,0) else(⟨0,[]⟩,0,2)) else(⟨0,[]⟩,0,1)
def z5mb (n':Option Bool):z4a:=⟨fun ds=>∃(nl:Option Bool) (t:z2k) (k:z2d),tOk t∧z1n t.next∧kOk k∧ds=[.agg (z0d nl t),.agg (z3j k)],
 fun ds=>let r:=z0S (z7D (gCs (nth ds 0))) (z26 (gCs (nth ds 1)));.tup [z3ga n' r.1 r.2.2,i64 r.2.1,i64 r.2.2]⟩
theorem z1ub (n':Option Bool) {nl:Option Bool} {t:z2k} {k:z2d} (h:tOk t) (hn:z1n t.next) (hk:kOk k):(z5mb n').pre [.agg (z0d nl t),.agg (z3j k)]=True:=eq_true ⟨nl,t,k,h,hn,hk,rfl⟩
theorem z3Da (n' nl:Option Bool) (t:z2k) (k:z2d):(z5mb n').post [.agg (z0d nl t),.agg (z3j k)]= .tup [z3ga n' (z0S t k).1 (z0S t k).2.2,i64 (z0S t k).2.1,i64 (z0S t k).2.2]:=by
 show z2a.tup [z3ga n' (z0S (z7D (z0d nl t)) (z26 (z3j k))).1 (z0S (z7D (z0d nl t)) (z26 (z3j k))).2.2,i64 (z0S (z7D (z0d nl t)) (z26 (z3j k))).2.1,i64 (z0S (z7D (z0d nl t)) (z26 (z3j k))).2.2]=_
 rw[z0k,z2H]
def z2Pb (n':Option Bool):z4a:=⟨(z5mb n').pre,
 fun ds=>let r:=z0S (z7D (gCs (nth ds 0))) (z26 (gCs (nth ds 1)));.agg (z0d (if r.2.2=0 then n' else none) r.1++[i64 r.2.1,i64 r.2.2])⟩
theorem z3lb (n':Option Bool) {nl:Option Bool} {t:z2k} {k:z2d} (h:tOk t) (hn:z1n t.next) (hk:kOk k):(z2Pb n').pre [.agg (z0d nl t),.agg (z3j k)]=True:=eq_true ⟨nl,t,k,h,hn,hk,rfl⟩
theorem z7Da (n' nl:Option Bool) (t:z2k) (k:z2d):(z2Pb n').post [.agg (z0d nl t),.agg (z3j k)]= .agg (z0d (if(z0S t k).2.2=0 then n' else none) (z0S t k).1++[i64 (z0S t k).2.1,i64 (z0S t k).2.2]):=by
 show z2a.agg (z0d (if(z0S (z7D (z0d nl t)) (z26 (z3j k))).2.2=0 then n' else none) (z0S (z7D (z0d nl t)) (z26 (z3j k))).1++[i64 (z0S (z7D (z0d nl t)) (z26 (z3j k))).2.1,i64 (z0S (z7D (z0d nl t)) (z26 (z3j k))).2.2])=_
 rw[z0k,z2H]
end Go.Abs
end

section
namespace Go.Abs
set_option maxRecDepth 100000
theorem z37a (E:Env):∀ds,z56.pre ds→ds.length=z3n.n∧awp E z3n.body (z2q z3n.res (z56.post ds)) (z9b z3n.wr ds):=by
 rintro _ ⟨n,lo,hi,rfl⟩
 by_cases h:lo≤n
 ·simp(maxSteps:=1000000) (disch:=first|omega|(simp;done)|(simp;omega)) [z8a,z1a,z0a,z3n,h,inB,kT,kF,dT,dF]
 ·simp(maxSteps:=1000000) (disch:=first|omega|(simp;done)|(simp;omega)) [z8a,z1a,z0a,z3n,h,inB,kT,kF,dT,dF]
theorem z0Xa (E:Env):∀ds,z56.pre ds→ds.length=z6e.n∧awp E z6e.body (z2q z6e.res (z56.post ds)) (z9b z6e.wr ds):=by
 rintro _ ⟨n,lo,hi,rfl⟩
 by_cases h:lo≤n
 ·simp(maxSteps:=1000000) (disch:=first|omega|(simp;done)|(simp;omega)) [z8a,z1a,z0a,z6e,h,inB,kT,kF,dT,dF]
 ·simp(maxSteps:=1000000) (disch:=first|omega|(simp;done)|(simp;omega)) [z8a,z1a,z0a,z6e,h,inB,kT,kF,dT,dF]
theorem z2Vb (E:Env):∀ds,z14.pre ds→ds.length=z4s.n∧awp E z4s.body (z2q z4s.res (z14.post ds)) (z9b z4s.wr ds):=by
 rintro _ ⟨k,now,hk,rfl⟩
 rw[z7R]
 by_cases h:k.beg≤now
 ·simp(maxSteps:=1000000) (disch:=first|omega|(simp;done)|(simp;omega)) [z8a,z1a,z0a,z4s,h,z4T,kT,kF,dT,dF,z3j]
 ·simp(maxSteps:=1000000) (disch:=first|omega|(simp;done)|(simp;omega)) [z8a,z1a,z0a,z4s,h,z4T,kT,kF,dT,dF,z3j]
theorem z4rb (E:Env):∀ds,z14.pre ds→ds.length=z4g.n∧awp E z4g.body (z2q z4g.res (z14.post ds)) (z9b z4g.wr ds):=by
 rintro _ ⟨k,now,hk,rfl⟩
 rw[z7R]
 by_cases h:k.beg≤now
 ·simp(maxSteps:=1000000) (disch:=first|omega|(simp;done)|(simp;omega)) [z8a,z1a,z0a,z4g,h,z4T,kT,kF,dT,dF,z3j]
 ·simp(maxSteps:=1000000) (disch:=first|omega|(simp;done)|(simp;omega)) [z8a,z1a,z0a,z4g,h,z4T,kT,kF,dT,dF,z3j]
theorem z2eb (E:Env):∀ds,z34.pre ds→ds.length=z6p.n∧awp E z6p.body (z2q z6p.res (z34.post ds)) (z9b z6p.wr ds):=by
 rintro _ ⟨a,b,ha,rfl⟩
 simp(maxSteps:=1000000) (disch:=first|omega|(simp;done)|(simp;omega)) [z8a,z1a,z0a,z6p,z7ea]
theorem z2Va (E:Env):∀ds,z34.pre ds→ds.length=z6f.n∧awp E z6f.body (z2q z6f.res (z34.post ds)) (z9b z6f.wr ds):=by
 rintro _ ⟨a,b,ha,rfl⟩
 rw[z6eb,z3fb ha]
 simp(maxSteps:=1000000) (disch:=first|omega|(simp;done)|(simp;omega)) [z8a,z1a,z0a,z6f]
theorem z3cc (E:Env):∀ds,z3Vb.pre ds→ds.length=z4w.n∧awp E z4w.body (z2q z4w.res (z3Vb.post ds)) (z9b z4w.wr ds):=by
 rintro _ ⟨a,rfl⟩
 simp(maxSteps:=1000000) (disch:=first|omega|(simp;done)|(simp;omega)) [z8a,z1a,z0a,z4w]
theorem z6qc (E:Env) (h256:E.G 256=z3Vb):∀ds,z0Lb.pre ds→ds.length=z3m.n∧awp E z3m.body (z2q z3m.res (z0Lb.post ds)) (z9b z3m.wr ds):=by
 rintro _ ⟨a,b,rfl⟩
 by_cases h:a<b
 ·simp(maxSteps:=1000000) (disch:=first|omega|(simp;done)|(simp;omega)) [z8a,z1a,z0a,z3m,z0y,z7x,z9x,z8x,z1y,h256,h,z9Ka,kT,kF,dT,dF]
 ·by_cases h2:b<a
  ·simp(maxSteps:=1000000) (disch:=first|omega|(simp;done)|(simp;omega)) [z8a,z1a,z0a,z3m,z0y,z7x,z9x,z8x,z1y,h256,h,h2,z9Ka,kT,kF,dT,dF]
  ·simp(maxSteps:=1000000) (disch:=first|omega|(simp;done)|(simp;omega)) [z8a,z1a,z0a,z3m,z0y,z7x,z9x,z8x,z1y,h256,h,h2,z9Ka,kT,kF,dT,dF]
theorem z9Tb (E:Env) (h255:E.G 255=z0Lb):∀ds,z1Qb.pre ds→ds.length=z4p.n∧awp E z4p.body (z2q z4p.res (z1Qb.post ds)) (z9b z4p.wr ds):=by
 rintro _ ⟨k,b,rfl⟩
 rw[z0eb]
 simp(maxSteps:=1000000) (disch:=first|omega|(simp;done)|(simp;omega)) [z8a,z1a,z0a,z4p,h255,z3j]
end Go.Abs
end

section
namespace Go.Abs
set_option maxRecDepth 100000
set_option maxHeartbeats 8000000 in
theorem z5wb (E:Env) (h254:E.G 254=z56):∀ds,z8Ja.pre ds→ds.length=z1j.n∧awp E z1j.body (z2q z1j.res (z8Ja.post ds)) (z9b z1j.wr ds):=by
 rintro _ ⟨k,hk,rfl⟩
 rw[z9S,okK]
 have hv:=hk.2.2.1
 have e:((k.val.length:Int)==32)=(k.val.length==32):=by
  by_cases h:k.val.length=32
  ·rw[h];rfl
  ·rw[beq_false_of_ne h,beq_false_of_ne (by omega)]
 have es:(z5ha k.uses 956==0)=z7ea k.uses 956:=rfl
 generalize h1:inB k.ty 0 31=b1
 generalize h2:(k.val.length==32)=b2 at*
 generalize h3:z7ea k.uses 956=b3 at*
 generalize h4:inB k.beg 0 k.fin=b4
 generalize h5:inB k.fin 0 z30=b5
 generalize h6:inB k.ver 1 z7N=b6
 generalize h7:inB k.par 0 z7N=b7
 have h5':inB k.fin 0 1099511627776=b5:=h5
 have h6':inB k.ver 1 2147483647=b6:=h6
 have h7':inB k.par 0 2147483647=b7:=h7
 cases b1
 ·simp(maxSteps:=1000000) (disch:=first|omega|(simp;done)|(simp;omega)) [z8a,z1a,z0a,z1j,z3j,h254,h1,kT,kF,dT,dF]
 cases b2
 ·simp(maxSteps:=1000000) (disch:=first|omega|(simp;done)|(simp;omega)) [z8a,z1a,z0a,z1j,z3j,h254,h1,e,kT,kF,dT,dF]
 cases b3
 ·simp(maxSteps:=1000000) (disch:=first|omega|(simp;done)|(simp;omega)) [z8a,z1a,z0a,z1j,z3j,h254,h1,e,es,kT,kF,dT,dF]
 cases b4
 ·simp(maxSteps:=1000000) (disch:=first|omega|(simp;done)|(simp;omega)) [z8a,z1a,z0a,z1j,z3j,h254,h1,e,es,h4,kT,kF,dT,dF]
 cases b5
 ·simp(maxSteps:=1000000) (disch:=first|omega|(simp;done)|(simp;omega)) [z8a,z1a,z0a,z1j,z3j,h254,h1,e,es,h4,h5',kT,kF,dT,dF]
 cases b6
 ·simp(maxSteps:=1000000) (disch:=first|omega|(simp;done)|(simp;omega)) [z8a,z1a,z0a,z1j,z3j,h254,h1,e,es,h4,h5',h6',kT,kF,dT,dF]
 ·simp(maxSteps:=1000000) (disch:=first|omega|(simp;done)|(simp;omega)) [z8a,z1a,z0a,z1j,z3j,h254,h1,e,es,h4,h5',h6',h7',kT,kF,dT,dF]
theorem z1Pb (k:z2d):okK k=(inB k.ty 0 31&&(k.val.length==32)&&z7ea k.uses 956&&inB k.beg 0 z30&&inB k.fin k.beg z30&&inB k.ver 1 z7N&&inB k.par 0 z7N):=by
 have h:(inB k.beg 0 k.fin&&inB k.fin 0 z30)=(inB k.beg 0 z30&&inB k.fin k.beg z30):=by
  rw[Bool.eq_iff_iff]
  simp only[inB,Bool.and_eq_true,decide_eq_true_eq]
  omega
 rw[okK,Bool.and_assoc (inB k.ty 0 31&&(k.val.length==32)&&z7ea k.uses 956),h,←Bool.and_assoc (inB k.ty 0 31&&(k.val.length==32)&&z7ea k.uses 956)]
set_option maxHeartbeats 8000000 in
theorem z4bb (E:Env) (h272:E.G 272=z56):∀ds,z8Ja.pre ds→ds.length=z1c.n∧awp E z1c.body (z2q z1c.res (z8Ja.post ds)) (z9b z1c.wr ds):=by
 rintro _ ⟨k,hk,rfl⟩
 rw[z9S,z1Pb]
 have hv:=hk.2.2.1
 have e:((k.val.length:Int)==32)=(k.val.length==32):=by
  by_cases h:k.val.length=32
  ·rw[h];rfl
  ·rw[beq_false_of_ne h,beq_false_of_ne (by omega)]
 have es:(z9va k.uses 956==k.uses)=z7ea k.uses 956:=(z3fb hk.2.2.2.1).symm
 generalize h1:inB k.ty 0 31=b1
 generalize h2:(k.val.length==32)=b2 at*
 generalize h3:z7ea k.uses 956=b3 at*
 generalize h4:inB k.beg 0 z30=b4
 generalize h5:inB k.fin k.beg z30=b5
 generalize h6:inB k.ver 1 z7N=b6
 generalize h7:inB k.par 0 z7N=b7
 have h4':inB k.beg 0 1099511627776=b4:=h4
 have h5':inB k.fin k.beg 1099511627776=b5:=h5
 have h6':inB k.ver 1 2147483647=b6:=h6
 have h7':inB k.par 0 2147483647=b7:=h7
 cases b1
 ·simp(maxSteps:=1000000) (disch:=first|omega|(simp;done)|(simp;omega)) [z8a,z1a,z0a,z1c,z3j,h272,h1,kT,kF,dT,dF]
 cases b2
 ·simp(maxSteps:=1000000) (disch:=first|omega|(simp;done)|(simp;omega)) [z8a,z1a,z0a,z1c,z3j,h272,h1,e,kT,kF,dT,dF]
 cases b3
 ·simp(maxSteps:=1000000) (disch:=first|omega|(simp;done)|(simp;omega)) [z8a,z1a,z0a,z1c,z3j,h272,h1,e,es,kT,kF,dT,dF]
 cases b4
 ·simp(maxSteps:=1000000) (disch:=first|omega|(simp;done)|(simp;omega)) [z8a,z1a,z0a,z1c,z3j,h272,h1,e,es,h4',kT,kF,dT,dF]
 cases b5
 ·simp(maxSteps:=1000000) (disch:=first|omega|(simp;done)|(simp;omega)) [z8a,z1a,z0a,z1c,z3j,h272,h1,e,es,h4',h5',kT,kF,dT,dF]
 cases b6
 ·simp(maxSteps:=1000000) (disch:=first|omega|(simp;done)|(simp;omega)) [z8a,z1a,z0a,z1c,z3j,h272,h1,e,es,h4',h5',h6',kT,kF,dT,dF]
 ·simp(maxSteps:=1000000) (disch:=first|omega|(simp;done)|(simp;omega)) [z8a,z1a,z0a,z1c,z3j,h272,h1,e,es,h4',h5',h6',h7',kT,kF,dT,dF]
end Go.Abs
end

section
namespace Go.Abs
set_option maxRecDepth 100000
theorem z15a (E:Env):∀ds,z8La.pre ds→ds.length=z5m.n∧awp E z5m.body (z2q z5m.res (z8La.post ds)) (z9b z5m.wr ds):=by
 rintro _ ⟨na,nb,nc,p,t,hp,ht,rfl⟩
 rw[z6ca,z2W]
 have hl:=hp.1
 by_cases h:0≤t
 ·by_cases h2:t<p.types.length
  ·simp(maxSteps:=1000000) (disch:=first|omega|(simp;done)|(simp;omega)) [z8a,z1a,z0a,z5m,z4n,h,h2,kT,kF,dT,dF]
  ·simp(maxSteps:=1000000) (disch:=first|omega|(simp;done)|(simp;omega)) [z8a,z1a,z0a,z5m,z4n,h,h2,kT,kF,dT,dF]
 ·simp(maxSteps:=1000000) (disch:=first|omega|(simp;done)|(simp;omega)) [z8a,z1a,z0a,z5m,z4n,h,kT,kF,dT,dF]
theorem z9Hc (E:Env):∀ds,z8La.pre ds→ds.length=z8g.n∧awp E z8g.body (z2q z8g.res (z8La.post ds)) (z9b z8g.wr ds):=by
 rintro _ ⟨na,nb,nc,p,t,hp,ht,rfl⟩
 rw[z6ca,z2W]
 have hl:=hp.1
 by_cases h:0≤t
 ·by_cases h2:t<p.types.length
  ·simp(maxSteps:=1000000) (disch:=first|omega|(simp;done)|(simp;omega)) [z8a,z1a,z0a,z8g,z4n,h,h2,kT,kF,dT,dF]
  ·simp(maxSteps:=1000000) (disch:=first|omega|(simp;done)|(simp;omega)) [z8a,z1a,z0a,z8g,z4n,h,h2,kT,kF,dT,dF]
 ·simp(maxSteps:=1000000) (disch:=first|omega|(simp;done)|(simp;omega)) [z8a,z1a,z0a,z8g,z4n,h,kT,kF,dT,dF]
theorem z3fc (E:Env) (h251:E.G 251=z8La) (h245:E.G 245=z34):∀ds,z4Qa.pre ds→ds.length=z7w.n∧awp E z7w.body (z2q z7w.res (z4Qa.post ds)) (z9b z7w.wr ds):=by
 rintro _ ⟨na,nb,nc,p,t,f,hp,ht,hf,rfl⟩
 rw[z3Oa,z0Ga]
 have hl:=hp.1
 have e1:=z1sa (na:=na) (nb:=nb) (nc:=nc) hp ht
 have e2:=z6ca na nb nc p t
 cases hb:z2W p t with
 |false=>
  rw[hb] at e2
  simp(maxSteps:=1000000) (disch:=first|omega|(simp;done)|(simp;omega)) [z8a,z1a,z0a,z7w,h251,e1,e2,kT,kF,dT,dF]
 |true=>
  rw[hb] at e2
  have hr:0≤t∧t<p.types.length:=by simpa[z2W] using hb
  obtain⟨n,rfl⟩:=Int.eq_ofNat_of_zero_le hr.1
  have hn:n<p.types.length:=by omega
  have f1:=z5ca hn
  have es:z0la p n=p.types.getD n ⟨[],0,0⟩:=rfl
  rw[es]
  generalize(p.types.getD n ⟨[],0,0⟩).flags=fl at*
  simp(maxSteps:=1000000) (disch:=first|omega|(simp;done)|(simp;omega)) [z8a,z1a,z0a,z7w,h251,e1,e2,kT,kF,dT,dF,f1,h245,z4ca hf]
  omega
theorem z7Jb (E:Env) (h276:E.G 276=z8La) (h275:E.G 275=z34):∀ds,z4Qa.pre ds→ds.length=z5h.n∧awp E z5h.body (z2q z5h.res (z4Qa.post ds)) (z9b z5h.wr ds):=by
 rintro _ ⟨na,nb,nc,p,t,f,hp,ht,hf,rfl⟩
 rw[z3Oa,z0Ga]
 have hl:=hp.1
 have e1:=z1sa (na:=na) (nb:=nb) (nc:=nc) hp ht
 have e2:=z6ca na nb nc p t
 cases hb:z2W p t with
 |false=>
  rw[hb] at e2
  simp(maxSteps:=1000000) (disch:=first|omega|(simp;done)|(simp;omega)) [z8a,z1a,z0a,z5h,h276,e1,e2,kT,kF,dT,dF]
 |true=>
  rw[hb] at e2
  have hr:0≤t∧t<p.types.length:=by simpa[z2W] using hb
  obtain⟨n,rfl⟩:=Int.eq_ofNat_of_zero_le hr.1
  have hn:n<p.types.length:=by omega
  have f1:=z5ca hn
  have es:z0la p n=p.types.getD n ⟨[],0,0⟩:=rfl
  rw[es]
  generalize(p.types.getD n ⟨[],0,0⟩).flags=fl at*
  simp(maxSteps:=1000000) (disch:=first|omega|(simp;done)|(simp;omega)) [z8a,z1a,z0a,z5h,h276,e1,e2,kT,kF,dT,dF,f1,h275,z4ca hf]
  omega
end Go.Abs
end

section
namespace Go.Abs
set_option maxRecDepth 100000
theorem z9Eb {n:Nat} (h:n<18446744073709551616):(UInt64.ofInt (n:Int)).toNat=n:=by
 rw[z71];omega
theorem z1rb (x:UInt64) (k:Nat) (hk:k<64):(z1ba x k).toNat=x.toNat/2^k:=by
 simp[z1ba,Nat.shiftRight_eq_div_pow]
theorem z1dc {i j:Nat} (hi:i≤1000000000) (hj:j≤1000000000):W ((z1ba (UInt64.ofInt (i:Int)+UInt64.ofInt (j:Int)) 1).toNat:Int)=(((i+j)/2:Nat):Int):=by
 rw[z1rb _ _ (by decide),UInt64.toNat_add,z9Eb (by omega),z9Eb (by omega),Nat.mod_eq_of_lt (by omega)]
 exact z8a (by omega) (by omega)
set_option maxHeartbeats 4000000 in
theorem z09b (E:Env) (h253:E.G 253=z1Qb):∀ds,z8Pb.pre ds→ds.length=z3b.n∧awp E z3b.body (z2q z3b.res (z8Pb.post ds)) (z9b z3b.wr ds):=by
 rintro _ ⟨nl,l,t,hs,hl,rfl⟩
 rw[z84,z4Ra]
 have hlen:l.length≤100000000:=hl
 simp(maxSteps:=1000000) (disch:=first|omega|(simp;done)|(simp;omega)) [z8a,z1a,z0a,z3b]
 refine z7a fun Q0 hQ0=> ?_
 refine z4f (fun p:Nat×Nat=>⟨[(0,.sl .plain nl l.length (z1k l)),(1,i64 t),(2,.fn 253 [] [])],[(8,i64 l.length),(9,i64 p.1),(10,i64 p.2)],[]⟩) (fun p=>p.2-p.1) (fun p=>p.1≤p.2∧p.2≤l.length∧(∀m<p.1,(z3g l m).id<t)∧∀m,p.2≤m→m<l.length→t≤(z3g l m).id) (0,l.length) (by simp) ⟨by simp,by simp,fun m h=>by simp at h,fun m h h'=>by omega⟩ fun p hp=> ?_
 obtain⟨i,j⟩:=p
 obtain⟨h1,h2,h3,h4⟩:=hp
 simp only at h1 h2 h3 h4⊢
 refine z7a fun Q1 hQ1=> ?_
 by_cases h:i<j
 ·have lt:(i:Int)<j:=by omega
  have me:=z1dc (i:=i) (j:=j) (by omega) (by omega)
  obtain⟨m,hm⟩:∃m,m=(i+j)/2:=⟨_,rfl⟩
  rw[←hm] at me
  have m1:i≤m:=by omega
  have m2:m<j:=by omega
  clear hm
  have ka:=z2F (l:=l) (i:=m) (by omega)
  have hb:∀j',j'<m→(z3g l j').id<(z3g l m).id:=fun j' hj'=>z1oa hs hj' (by omega)
  have ha:∀j',m<j'→j'<l.length→(z3g l m).id<(z3g l j').id:=fun j' hj' hl'=>z1oa hs hj' hl'
  by_cases hc:(z3g l m).id<t
  ·have c1:z9Ka (z3g l m).id t<0:=by rw[z9Ka,if_pos hc];decide
   have h3':∀m'<m+1,(z3g l m').id<t:=fun m' hm'=>by
    rcases Nat.lt_or_eq_of_le (Nat.lt_succ_iff.1 hm') with e|e
    ·have:=hb m' e;omega
    ·rw[e];exact hc
   generalize z3g l m=k at*
   simp(maxSteps:=1000000) (disch:=first|omega|(simp;done)|(simp;omega)) [z8a,z1a,z0a,z6c,z6h,lt,kT,kF,dT,dF,me,ka,h253,c1,hQ1]
   exact⟨by omega,by omega,m+1,j,by omega,⟨by omega,h2,h3',h4⟩,by omega,rfl⟩
  ·have c1:¬z9Ka (z3g l m).id t<0:=by rw[z9Ka,if_neg hc];split<;>decide
   have h4':∀m',m≤m'→m'<l.length→t≤(z3g l m').id:=fun m' hm' hl'=>by
    rcases Nat.lt_or_eq_of_le hm' with e|e
    ·have:=ha m' e hl';omega
    ·rw[←e];omega
   generalize z3g l m=k at*
   simp(maxSteps:=1000000) (disch:=first|omega|(simp;done)|(simp;omega)) [z8a,z1a,z0a,z6c,z6h,lt,kT,kF,dT,dF,me,ka,h253,c1,hQ1]
   exact⟨by omega,by omega,i,m,by omega,⟨by omega,by omega,h3,h4'⟩,rfl,rfl⟩
 ·have lt:¬(i:Int)<j:=by omega
  have hij:i=j:=by omega
  subst hij
  have hlb:=z09a h2 h3 h4
  by_cases hn:i<l.length
  ·have ka:=z2F (l:=l) (i:=i) hn
   have hbs:z40 l t=(z9Ka (z3g l i).id t==0):=by
    rw[z40,hlb,decide_eq_true hn,Bool.true_and]
    by_cases he:(z3g l i).id=t
    ·rw[he];simp[z9Ka]
    ·rw[beq_false_of_ne he,z9Ka]
     split
     ·rfl
     ·split
      ·rfl
      ·omega
   generalize z3g l i=k at*
   simp(maxSteps:=1000000) (disch:=first|omega|(simp;done)|(simp;omega)) [z8a,z1a,z0a,z6c,z8h,lt,kT,kF,dT,dF,hQ1,hQ0,hn,ka,h253,hbs,hlb]
   omega
  ·have hbs:z40 l t=false:=by rw[z40,hlb,decide_eq_false hn];rfl
   simp(maxSteps:=1000000) (disch:=first|omega|(simp;done)|(simp;omega)) [z8a,z1a,z0a,z6c,z8h,lt,kT,kF,dT,dF,hQ1,hQ0,hn,h253,hbs,hlb]
   skip
end Go.Abs
end

section
namespace Go.Abs
set_option maxRecDepth 100000
theorem z3Rb (E:Env) (h252:E.G 252=z8Pb):∀ds,z8hb.pre ds→ds.length=z5s.n∧awp E z5s.body (z2q z5s.res (z8hb.post ds)) (z9b z5s.wr ds):=by
 rintro _ ⟨nl,t,i,⟨hs,hl⟩,rfl⟩
 rw[z3va,z80b]
 have e1:=z4Tb (nl:=nl) i hs hl
 have e2:=z4Ra nl t.keys i (.fn 253 [] [])
 cases hb:z40 t.keys i with
 |true=>
  rw[hb] at e2
  simp(maxSteps:=1000000) (disch:=first|omega|(simp;done)|(simp;omega)) [z8a,z1a,z0a,z5s,z2P,h252,e1,e2,kT,kF,dT,dF]
  exact⟨fun v h=>(by cases h),fun v h=>(by cases h)⟩
 |false=>
  rw[hb] at e2
  simp(maxSteps:=1000000) (disch:=first|omega|(simp;done)|(simp;omega)) [z8a,z1a,z0a,z5s,z2P,h252,e1,e2,kT,kF,dT,dF]
  exact⟨fun v h=>(by cases h),fun v h=>(by cases h)⟩
theorem z2lc (E:Env) (h242:E.G 242=z8hb):∀ds,z0Fa.pre ds→ds.length=z6w.n∧awp E z6w.body (z2q z6w.res (z0Fa.post ds)) (z9b z6w.wr ds):=by
 rintro _ ⟨nl,t,i,⟨hs,hl⟩,rfl⟩
 rw[z7O,z0Ma hs]
 have e1:=z31a (nl:=nl) (t:=t) i ⟨hs,hl⟩
 have e2:=z3va nl t i
 rw[z80b] at e2
 have hlen:t.keys.length≤100000000:=hl
 cases hb:z40 t.keys i with
 |true=>
  rw[hb] at e2
  have hn:lbK t.keys i<t.keys.length:=by
   simp only[z40,Bool.and_eq_true,decide_eq_true_eq] at hb;exact hb.1
  have ka:=z2F hn
  simp only[if_true] at e2⊢
  generalize lbK t.keys i=n at*
  generalize z3g t.keys n=k at*
  simp(maxSteps:=1000000) (disch:=first|omega|(simp;done)|(simp;omega)) [z8a,z1a,z0a,z6w,z3S,h242,e1,e2,kT,kF,dT,dF,z8va,ka,z6i]
  omega
 |false=>
  rw[hb] at e2
  simp only[Bool.false_eq_true,if_false] at e2⊢
  simp(maxSteps:=1000000) (disch:=first|omega|(simp;done)|(simp;omega)) [z8a,z1a,z0a,z6w,z3S,h242,e1,e2,kT,kF,dT,dF,z8va,z8k,z1r]
  skip
theorem z0Ic (E:Env):∀ds,atC.pre ds→ds.length=z5k.n∧awp E z5k.body (z2q z5k.res (atC.post ds)) (z9b z5k.wr ds):=by
 rintro _ ⟨nl,t,i,⟨hs,hl⟩,rfl⟩
 rw[z4Ha]
 have hlen:t.keys.length≤100000000:=hl
 simp(maxSteps:=1000000) (disch:=first|omega|(simp;done)|(simp;omega)) [z8a,z1a,z0a,z5k]
 refine z7a fun Q0 hQ0=> ?_
 refine z4f (fun n:Nat=>⟨[(0,.agg (z0d nl t)),(1,i64 i)],[(2,.bp 2 0),(5,i64 n)],[(2,some (z0d nl t))]⟩) (fun n=>t.keys.length-n) (fun n=>n≤t.keys.length∧∀m<n,(z3g t.keys m).id≠i) 0 (by simp) ⟨by omega,fun m h=>by omega⟩ fun n hn=> ?_
 obtain⟨hn,hno⟩:=hn
 by_cases h:n<t.keys.length
 ·have lt:(n:Int)<t.keys.length:=by omega
  have k0:=z0Oa h
  by_cases he:(z3g t.keys n).id=i
  ·obtain⟨b1,b2⟩:=z6Vb hs h he
   rw[he] at k0
   simp(maxSteps:=1000000) (disch:=first|omega|(simp;done)|(simp;omega)) [z8a,z1a,z0a,z3q,z2x,lt,kT,kF,dT,dF,k0,hQ0,b1,b2]
   omega
  ·have b1:((z3g t.keys n).id==i)=false:=beq_false_of_ne he
   have hno':∀m<n+1,(z3g t.keys m).id≠i:=fun m hm=>by
    rcases Nat.lt_or_eq_of_le (Nat.lt_succ_iff.1 hm) with e|e
    ·exact hno m e
    ·rw[e];exact he
   generalize z3g t.keys n=k at*
   simp(maxSteps:=1000000) (disch:=first|omega|(simp;done)|(simp;omega)) [z8a,z1a,z0a,z3q,z2x,lt,kT,kF,dT,dF,k0,b1]
   exact⟨by omega,n+1,by omega,⟨by omega,hno'⟩,by omega⟩
 ·have lt:¬(n:Int)<t.keys.length:=by omega
  have hm:=z3sb (l:=t.keys) (i:=i) (fun m hm=>hno m (by omega))
  simp(maxSteps:=1000000) (disch:=first|omega|(simp;done)|(simp;omega)) [z8a,z1a,z0a,z3q,z8J,lt,kT,kF,dT,dF,hQ0,hm]
  skip
theorem z1Ob (E:Env) (h279:E.G 279=atC):∀ds,z0Fa.pre ds→ds.length=z3h.n∧awp E z3h.body (z2q z3h.res (z0Fa.post ds)) (z9b z3h.wr ds):=by
 rintro _ ⟨nl,t,i,⟨hs,hl⟩,rfl⟩
 rw[z7O,z0Ma hs]
 have e1:=z0Ab (nl:=nl) (t:=t) i ⟨hs,hl⟩
 have e2:=z4Ha nl t i
 have hlen:t.keys.length≤100000000:=hl
 cases hb:z40 t.keys i with
 |true=>
  rw[hb] at e2
  have hn:lbK t.keys i<t.keys.length:=by
   simp only[z40,Bool.and_eq_true,decide_eq_true_eq] at hb;exact hb.1
  have ka:=z2F hn
  simp only[if_true] at e2⊢
  generalize lbK t.keys i=n at*
  generalize z3g t.keys n=k at*
  simp(maxSteps:=1000000) (disch:=first|omega|(simp;done)|(simp;omega)) [z8a,z1a,z0a,z3h,z5w,h279,e1,e2,kT,kF,dT,dF,z8va,ka,z6i]
  omega
 |false=>
  rw[hb] at e2
  simp only[Bool.false_eq_true,if_false] at e2⊢
  simp(maxSteps:=1000000) (disch:=first|omega|(simp;done)|(simp;omega)) [z8a,z1a,z0a,z3h,z5w,h279,e1,e2,kT,kF,dT,dF,z8va,z8k,z1r]
  skip
end Go.Abs
end
