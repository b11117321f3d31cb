/- Lemmas. -/
import Derived.Test.YtiehmnjjlbndlaaGreatDoorL
set_option linter.all false
namespace Go.Abs
set_option maxRecDepth 100000
theorem Lo{p:List (List UInt8)}(h:0<p.length):p=p.take (p.length-1)++[ul p (p.length-1)]:=by have:=List.take_append_getElem (l:=p) (i:=p.length-1) (h:=by omega);rw[show p.length-1+1=p.length by omega,List.take_length] at this;rw[ul,List.getD,List.getElem?_eq_getElem (by omega),Option.getD_some];exact this.symm
theorem z03{t:Int}{nl:Option Bool}{d:List UInt8}(h:d.length=16):v7.pre [i64 t,.sl .plain nl 1 [st d]]=True:=Eh (l:=[d]) rfl (by simp[Co,h])
theorem R1{t:Int}{nl:Option Bool}{a b:List UInt8}(h:a.length=16)(h':b.length=16):v7.pre [i64 t,.sl .plain nl 2 [st a,st b]]=True:=Eh (l:=[a,b]) rfl (by simp[Co,h,h'])
theorem z8o(t:Int)(nl:Option Bool)(d:List UInt8):v7.post [i64 t,.sl .plain nl 1 [st d]]= .sl (.own 1) (some false) (mY t [d]).length (bys (mY t [d])):=Hq t nl 1 [d]
theorem RP(t:Int)(nl:Option Bool)(a b:List UInt8):v7.post [i64 t,.sl .plain nl 2 [st a,st b]]= .sl (.own 1) (some false) (mY t [a,b]).length (bys (mY t [a,b])):=Hq t nl 2 [a,b]
def rQ:Nat->Nat->Bool->List UInt8->List (List UInt8)->List UInt8×List UInt8×Bool
 |m,n,w,old,[]=>if m=n∧w=true then(old,old,true) else(bF 16,bF 16,false)
 |m,n,w,old,x::q=>if m=n∧w=true then(old,old,false) else if m=n then(x,x,decide (q=[])) else if m<=spl n then((rQ m (spl n) w old q).1,bh 2 [(rQ m (spl n) w old q).2.1,x],(rQ m (spl n) w old q).2.2) else(bh 2 [x,(rQ (m-spl n) (n-spl n) false old q).1],bh 2 [x,(rQ (m-spl n) (n-spl n) false old q).2.1],(rQ (m-spl n) (n-spl n) false old q).2.2)
theorem GU(old:List UInt8)(ho:old.length=16):∀(q:List (List UInt8)) (m n:Nat) (w:Bool),qm q->(rQ m n w old q).1.length=16∧(rQ m n w old q).2.1.length=16
 |[],m,n,w,_=>by
  rw[rQ];split
  ·exact⟨ho,ho⟩
  exact⟨rfl,rfl⟩
 |x::q,m,n,w,h=>by
  obtain⟨hx,hq⟩:=pN.1 h;rw[rQ];split
  ·exact⟨ho,ho⟩
  split
  ·exact⟨hx,hx⟩
  split
  ·have ih:=(GU old ho q m (spl n) w hq).1;exact⟨ih,by simp only[pG]⟩
  simp only[pG,and_self]
def Bl(t:List UInt8×List UInt8×Bool):List oH:=bys (t.1++t.2.1)++[bo t.2.2]
def NS(t:List UInt8×List UInt8×Bool):oH:= .agg (Bl t)
def GS:aW:=⟨λds=>∃(old:List UInt8) (m n:Nat) (w:Bool) (nl:Option Bool) (p:List (List UInt8)),old.length=16∧1<=m∧m<=n∧n<=9223372036854775807∧qm p∧p.length<=1000∧ds=[.agg (bys old),i64 m,i64 n,bo w,ur nl p],
 λds=>NS (rQ (asI (nth ds 1)).toNat (asI (nth ds 2)).toNat (asB (nth ds 3)) (gBs (gCs (nth ds 0))) (gDs (nth ds 4)).reverse)⟩
theorem Es{old:List UInt8}{m n:Nat}{w:Bool}{nl:Option Bool}{p:List (List UInt8)}{b:List UInt8}{k:Nat}(ho:old.length=16)(h1:1<=m)(h2:m<=n)(hn:n<=9223372036854775807)(hp:qm p)(hl:p.length<=1000)(hk:k=p.length)(hb:b=dgs p):GS.pre [.agg (bys old),i64 m,i64 n,bo w,.sl .plain nl k (bys b)]=True:=eq_true ⟨old,m,n,w,nl,p,ho,h1,h2,hn,hp,hl,by rw[hk,hb];rfl⟩
theorem EW{old:List UInt8}{m n:Nat}{w:Bool}{md:cH}{nl:Option Bool}{p:List (List UInt8)}{b:List UInt8}{k:Nat}(hp:qm p)(hk:k=p.length)(hb:b=dgs p):GS.post [.agg (bys old),i64 m,i64 n,bo w,.sl md nl k (bys b)]=NS (rQ m n w old p.reverse):=by
 have e:gDs (nth [.agg (bys old),i64 m,i64 n,bo w,.sl md nl k (bys b)] 4)=p:=by rw[hk,hb];exact uv hp
 have e1:(asI (nth [.agg (bys old),i64 m,i64 n,bo w,.sl md nl k (bys b)] 1)).toNat=m:=Int.toNat_natCast m;have e2:(asI (nth [.agg (bys old),i64 m,i64 n,bo w,.sl md nl k (bys b)] 2)).toNat=n:=Int.toNat_natCast n;have e3:gBs (gCs (nth [.agg (bys old),i64 m,i64 n,bo w,.sl md nl k (bys b)] 0))=old:=by simp[nth,gCs]
 simp only[GS];rw[e,e1,e2,e3];rfl
def Bu(ds:List oH):Nat:=bc (nth ds 4)
def Cj:Nat->List (List UInt8)->List (List UInt8)
 |0,_=>[]
 |k+1,l=>if 2^k<=l.length then root (l.take (2^k))::Cj k (l.drop (2^k)) else Cj k l
theorem z7m{k m:Nat}(h:m<2^k):oN (2^k+m)=oN m+1:=by have:=WG k m 1 h;rw[Nat.mul_one,Nat.add_comm m] at this;rw[this,BX 1,show 1/2=0 from rfl,vk]
theorem BJ:∀k l,l.length<2^k->(Cj k l).length=oN l.length
 |0,l,h=>by
  have h0:l.length=0:=by simpa using h
  rw[h0,vk];rfl
 |k+1,l,h=>by
  rw[Nat.pow_succ] at h;rw[Cj];split
  ·rename_i hc;rw[List.length_cons,BJ k _ (by rw[List.length_drop];omega),List.length_drop,<-z7m (k:=k) (by omega)];congr 1;omega
  exact BJ k l (by omega)
theorem Iz:∀k,t1N (2^k-1)=k
 |0=>by rw[yJ (by decide)]
 |k+1=>by have hp:=Nat.two_pow_pos k;rw[Nat.pow_succ,Db (by omega),show(2^k*2-1)/2=2^k-1 by omega,Iz k]
theorem Po:∀k m,m+1<2^k->t1N (2^k+m)=t1N m
 |0,m,h=>by simp at h
 |k+1,m,h=>by
  rw[Nat.pow_succ] at h;by_cases ho:m% 2=1
  ·rw[Db ho,Db (by rw[Nat.pow_succ];omega),Nat.pow_succ,show(2^k*2+m)/2=2^k+m/2 by omega,Po k (m/2) (by omega)]
  rw[yJ (n:=m) (by omega),yJ (n:=2^(k+1)+m) (by rw[Nat.pow_succ];omega)]
theorem Dt(a:List UInt8)(q:List (List UInt8))(i:Nat)(h:i<q.length):ul (a::q) ((a::q).length-1-i)=ul q (q.length-1-i):=by simp only[ul,List.length_cons];rw[show q.length+1-1-i=(q.length-1-i)+1 by omega,List.getD_cons_succ]
theorem Km(a:List UInt8)(q:List (List UInt8))(d:List UInt8):∀i,i<=q.length->zY (a::q) d i=zY q d i
 |0,_=>rfl
 |i+1,h=>by rw[zY,zY,Km a q d i (by omega),Dt a q i (by omega)]
theorem z4f(a:List UInt8)(q:List (List UInt8))(d:List UInt8):zY (a::q) d (q.length+1)=bh 2 [a,zY q d q.length]:=by rw[zY,Km a q d _ (Nat.le_refl _)];simp[ul]
theorem Dc(a:List UInt8)(q:List (List UInt8))(hq:0<q.length):∀i,i<q.length->FZ (a::q) i=FZ q i
 |0,h=>by rw[FZ,FZ,List.length_cons];have:=Dt a q 0 hq;simpa using this
 |i+1,h=>by rw[FZ,FZ,Dc a q hq i (by omega)];have:=Dt a q (i+1) (by omega);rw[List.length_cons] at this⊢;rw[show q.length+1-2-i=q.length+1-1-(i+1) by omega,show q.length-2-i=q.length-1-(i+1) by omega,this]
theorem OJ(a:List UInt8)(q:List (List UInt8))(hq:0<q.length):FZ (a::q) ((a::q).length-1)=bh 2 [a,FZ q (q.length-1)]:=by rw[List.length_cons,show q.length+1-1=(q.length-1)+1 by omega,FZ,Dc a q hq _ (by omega),List.length_cons,show q.length+1-2-(q.length-1)=0 by omega];rfl
theorem JB{k n:Nat}(h1:2^k<n)(h2:n<=2*2^k):spl n=2^k:=by
 have hp:=Nat.two_pow_pos k;have a1:=kK (n:=n) (by omega);have a2:=AX (n:=n) (by omega);unfold spl at*
 rw[Rl a1 a2 h1 h2]
theorem z7i{k:Nat}{l:List (List UInt8)}(h:l.length<2^k)(h0:0<l.length):0<(Cj k l).length:=by rw[BJ k l h];exact Fx h0
theorem MQ:∀k l,l.length<2^k->0<l.length->FZ (Cj k l) ((Cj k l).length-1)=root l
 |0,l,h,h0=>absurd (show l.length<1 from h) (by omega)
 |k+1,l,h,h0=>by
  rw[Nat.pow_succ] at h;by_cases hc:2^k<=l.length
  ·rw[Cj,if_pos hc];by_cases he:l.length=2^k
   ·have hd:l.drop (2^k)=[]:=by rw[<-he];simp
    have ht:l.take (2^k)=l:=by rw[<-he];simp
    have hz:Cj k []=[]:=List.length_eq_zero_iff.1 (by rw[BJ k [] (Nat.two_pow_pos k)];exact vk);rw[hd,ht,hz];rfl
   have hr:0<(l.drop (2^k)).length:=by rw[List.length_drop];omega
   have hr2:(l.drop (2^k)).length<2^k:=by rw[List.length_drop];omega
   have hp:=Nat.two_pow_pos k;rw[OJ _ _ (z7i hr2 hr),MQ k _ hr2 hr,EP (l:=l) (by omega),JB (k:=k) (by omega) (by omega)]
  rw[Cj,if_neg hc];exact MQ k l (by omega) h0
theorem V6:∀k l (d:List UInt8),l.length+1=2^k->(Cj k l).length=k∧zY (Cj k l) d k=root (l++[d])
 |0,l,d,h=>by have h0:l=[]:=List.length_eq_zero_iff.1 (by simpa using h);subst h0;refine⟨rfl,?_⟩;rw[Ax (by simp)];rfl
 |k+1,l,d,h=>by
  have hp:=Nat.two_pow_pos k;rw[Nat.pow_succ] at h;have hc:2^k<=l.length:=by omega
  obtain⟨e1,e2⟩:=V6 k (l.drop (2^k)) d (by rw[List.length_drop];omega);rw[Cj,if_pos hc];refine⟨by rw[List.length_cons,e1],?_⟩;generalize hq:Cj k (l.drop (2^k))=q at*
  rw[<-e1,z4f,e1,e2,EP (l:=l++[d]) (by simp;omega)];have hs:spl (l++[d]).length=2^k:=JB (by simp;omega) (by simp;omega);rw[hs,List.take_append_of_le_length hc,List.drop_append_of_le_length hc]
theorem Vd(a:List UInt8)(q:List (List UInt8))(d:List UInt8)(t:Nat)(h:t<=q.length):xF (a::q) d t=a::xF q d t:=by rw[xF,xF,Km a q d t h,List.length_cons,show q.length+1-t=(q.length-t)+1 by omega,List.take_succ_cons];rfl
theorem M6:∀k l (d:List UInt8),l.length+1<2^k->xF (Cj k l) d (t1N l.length)=Cj k (l++[d])
 |0,l,d,h=>by simp at h
 |k+1,l,d,h=>by
  have hp:=Nat.two_pow_pos k;rw[Nat.pow_succ] at h;by_cases hc:2^k<=l.length
  ·have hr:(l.drop (2^k)).length=l.length-2^k:=List.length_drop;have hc2:2^k<=(l++[d]).length:=by simp;omega
   have ht:t1N l.length=t1N (l.drop (2^k)).length:=by rw[hr,<-Po k (l.length-2^k) (by omega)];congr 1;omega
   have hle:t1N (l.drop (2^k)).length<=(Cj k (l.drop (2^k))).length:=by rw[BJ k _ (by omega)];exact w5 _
   rw[Cj,if_pos hc,Cj,if_pos hc2,ht,Vd _ _ _ _ hle,M6 k _ d (by omega),List.take_append_of_le_length hc,List.drop_append_of_le_length hc]
  rw[Cj,if_neg hc];by_cases he:l.length+1=2^k
  ·obtain⟨e1,e2⟩:=V6 k l d he;have hl:(l++[d]).length=2^k:=by simp;omega
   have hz:Cj k []=[]:=List.length_eq_zero_iff.1 (by rw[BJ k [] hp];exact vk);rw[Cj,if_pos (by omega),show l.length=2^k-1 by omega,Iz k,xF,e1,e2,<-hl];rw[Nat.sub_self,List.take_zero,List.nil_append,List.take_length,List.drop_length,hz]
  have hc2:¬2^k<=(l++[d]).length:=by simp;omega
  rw[Cj,if_neg hc2];exact M6 k l d (by omega)
def yI:Nat->Nat->Bool->List UInt8->List (List UInt8)->List (List UInt8)×List UInt8×List UInt8
 |_,_,_,old,[]=>([],old,old)
 |m,n,w,old,x::q=>if m=n∧w=true then([],old,old) else if m=n then([],x,x) else if m<=spl n then((yI m (spl n) w old q).1++[mY 2 [(yI m (spl n) w old q).2.2,x]],(yI m (spl n) w old q).2.1,cT (mY 2 [(yI m (spl n) w old q).2.2,x])) else((yI (m-spl n) (n-spl n) false old q).1++[mY 2 [x,(yI (m-spl n) (n-spl n) false old q).2.1],mY 2 [x,(yI (m-spl n) (n-spl n) false old q).2.2]],cT (mY 2 [x,(yI (m-spl n) (n-spl n) false old q).2.1]),cT (mY 2 [x,(yI (m-spl n) (n-spl n) false old q).2.2]))
theorem BU{old:List UInt8}(ho:old.length=16):∀(q:List (List UInt8)) (m n:Nat) (w:Bool),qm q->(yI m n w old q).2.1.length=16∧(yI m n w old q).2.2.length=16
 |[],m,n,w,_=>⟨ho,ho⟩
 |x::q,m,n,w,h=>by
  obtain⟨hx,hq⟩:=pN.1 h;rw[yI];split
  ·exact⟨ho,ho⟩
  split
  ·exact⟨hx,hx⟩
  split
  ·have ih:=(BU ho q m (spl n) w hq).1;exact⟨ih,by simp only[iH]⟩
  simp only[iH,and_self]
theorem L0(old:List UInt8):∀(q:List (List UInt8)) (m n:Nat) (w:Bool),(rQ m n w old q).2.2=true->(yI m n w old q).2.1=(rQ m n w old q).1∧(yI m n w old q).2.2=(rQ m n w old q).2.1
 |[],m,n,w,h=>by
  rw[rQ] at h⊢;by_cases c:m=n∧w=true
  ·rw[if_pos c];exact⟨rfl,rfl⟩
  rw[if_neg c] at h;cases h
 |x::q,m,n,w,h=>by
  rw[rQ] at h⊢;rw[yI];by_cases c:m=n∧w=true
  ·rw[if_pos c] at h;cases h
  rw[if_neg c] at h⊢;rw[if_neg c];by_cases e:m=n
  ·rw[if_pos e,if_pos e];exact⟨rfl,rfl⟩
  rw[if_neg e] at h⊢;rw[if_neg e];by_cases k:m<=spl n
  ·rw[if_pos k] at h⊢;rw[if_pos k];obtain⟨e1,e2⟩:=L0 old q m (spl n) w h;exact⟨e1,by rw[e2];rfl⟩
  rw[if_neg k] at h⊢;rw[if_neg k];obtain⟨e1,e2⟩:=L0 old q (m-spl n) (n-spl n) false h;exact⟨by rw[e1];rfl,by rw[e2];rfl⟩
def Xm(C:List (List UInt8)):Prop:=∀u∈C,∀v∈C,cT u=cT v->u=v
def nd(a b:List UInt8):List UInt8:=cT (mY 2 [a,b])
@[simp] theorem K8(a b:List UInt8):(nd a b).length=16:=iH _
def dpd(m n:Nat):List Bool:=
 if h:1<=m∧m<n then(if m<=spl n then false::dpd m (spl n) else true::dpd (m-spl n) (n-spl n)) else []
termination_by n
decreasing_by
 ·exact kK (by omega)
 have:=yl n;omega
theorem MN{m n:Nat}(h:1<=m∧m<n):dpd m n=if m<=spl n then false::dpd m (spl n) else true::dpd (m-spl n) (n-spl n):=by rw[dpd,dif_pos h]
theorem Hs{m n:Nat}(h:¬(1<=m∧m<n)):dpd m n=[]:=by rw[dpd,dif_neg h]
theorem P7:∀(k m n:Nat),n<=2^k->(dpd m n).length<=k
 |0,m,n,h=>by rw[Hs (by simp at h;omega)];simp
 |k+1,m,n,h=>by
  by_cases h2:1<=m∧m<n
  ·have h0:n-1≠0:=by omega
   have hl:Nat.log2 (n-1)<k+1:=(Nat.log2_lt h0).2 (by omega);have hs:spl n<=2^k:=Nat.pow_le_pow_right (by decide) (by omega);have ht:=AX (n:=n) (by omega);rw[MN h2];split
   ·have:=P7 k m (spl n) hs;rw[List.length_cons];omega
   have:=P7 k (m-spl n) (n-spl n) (by omega);rw[List.length_cons];omega
  rw[Hs h2];simp
def uG:List (Bool×List UInt8)->List UInt8->List UInt8->List UInt8×List UInt8
 |[],x,y=>(x,y)
 |(b,p)::r,x,y=>if b then uG r (nd p x) (nd p y) else uG r x (nd y p)
theorem E3:∀(P:List (Bool×List UInt8)) (b:Bool) (p x y:List UInt8),uG (P++[(b,p)]) x y=if b then(nd p (uG P x y).1,nd p (uG P x y).2) else((uG P x y).1,nd (uG P x y).2 p)
 |[],b,p,x,y=>by cases b<;>rfl
 |(c,q)::P,b,p,x,y=>by rw[List.cons_append,uG,E3 P,E3 P,uG];cases c<;>simp
theorem JA:∀(P:List (Bool×List UInt8)) (x y:List UInt8),x.length=16->y.length=16->(uG P x y).1.length=16∧(uG P x y).2.length=16
 |[],x,y,hx,hy=>⟨hx,hy⟩
 |(c,q)::P,x,y,hx,hy=>by
  rw[uG];cases c
  ·exact JA P _ _ hx (K8 _ _)
  exact JA P _ _ (K8 _ _) (K8 _ _)
def vpS(D:List Bool)(old:List UInt8)(pr:List (List UInt8)):Option (List UInt8×List (List UInt8)):=
 if D.all (! ·) then some (old,pr) else match pr with|[]=>none|x::p=>some (x,p)
def vpE(old root:List UInt8)(D:List Bool)(x:List UInt8)(pr:List (List UInt8)):Bool:=
 if pr.length=D.length then decide ((uG (D.reverse.zip pr) x x).1=old)&&decide ((uG (D.reverse.zip pr) x x).2=root) else false
def vpN(old root:List UInt8)(m n:Int)(pr:List (List UInt8)):Bool:=
 if 1<=m∧m<=n then(match vpS (dpd m.toNat n.toNat) old pr with|none=>false|some (x,p)=>vpE old root (dpd m.toNat n.toNat) x p) else false
def RX:aW:=⟨λds=>∃(old root:List UInt8) (m n:Int) (nl:Option Bool) (p:List (List UInt8)),old.length=16∧root.length=16∧n<=9223372036854775807∧qm p∧p.length<=1000∧ds=[.agg (bys old),.agg (bys root),i64 m,i64 n,ur nl p],
 λds=>bo (vpN (gBs (gCs (nth ds 0))) (gBs (gCs (nth ds 1))) (asI (nth ds 2)) (asI (nth ds 3)) (gDs (nth ds 4)))⟩
theorem Sj{old root:List UInt8}{m n:Int}{nl:Option Bool}{p:List (List UInt8)}(ho:old.length=16)(hr:root.length=16)(hn:n<=9223372036854775807)(hp:qm p)(hl:p.length<=1000):RX.pre [.agg (bys old),.agg (bys root),i64 m,i64 n,.sl .plain nl p.length (bys (dgs p))]=True:=eq_true ⟨old,root,m,n,nl,p,ho,hr,hn,hp,hl,rfl⟩
theorem GQ{old root:List UInt8}{m n:Int}{nl:Option Bool}{p:List (List UInt8)}(hp:qm p):RX.post [.agg (bys old),.agg (bys root),i64 m,i64 n,.sl .plain nl p.length (bys (dgs p))]=bo (vpN old root m n p):=by show bo (vpN (gBs (gCs (.agg (bys old)))) (gBs (gCs (.agg (bys root)))) m n (gDs (.sl .plain nl p.length (bys (dgs p)))))=_;rw[uv hp];simp
set_option maxHeartbeats 8000000 in
theorem Um(E:Env)(h165:E.G 165=shM)(h169:E.G 169=EH)(o:List (Nat×oH))(old root x:List UInt8)(nl nx:Option Bool)(D:List Bool)(pr:List (List UInt8))(x11:oH)(ho:old.length=16)(hrt:root.length=16)(hx:x.length=16)(hp:qm pr)(hpl:pr.length<=1000)(hl:pr.length=D.length)
  (h11:dem x11= .sl .plain nx D.length (bos D.reverse)) (hr:aF x11=[]):
  awp E tv (qH [.t 10] (bo (decide ((uG (D.reverse.zip pr) x x).1=old)&&decide ((uG (D.reverse.zip pr) x x).2=root)))) ⟨[(0,.agg (bys old)),(1,.agg (bys root))],[(4,.sl .plain nl pr.length (bys (dgs pr))),(5,.bp 5 0),(6,.bp 6 0),(11,x11),(14,.bp 14 0)],[(5,some (bys old)),(6,some (bys root)),(14,some (bys x))]⟩:=by
 have hdp:=qL hp;have hb':=yx D.reverse;have hzl:(D.reverse.zip pr).length=pr.length:=by rw[List.length_zip,List.length_reverse,hl,Nat.min_self]
 simp(maxSteps:=999999) (disch:=first|omega|simp<;>omega|rfl) [fJ,oG,oF,tv,oM,pB,hx];refine oI λQ1 hQ1=> ?_;refine dH (λi:Nat=>⟨[(0,.agg (bys old)),(1,.agg (bys root))],[(5,.bp 5 0),(6,.bp 6 0),(11,x11),(14,.bp 14 0),(15,.bp 15 0),(65,.sl .plain nl pr.length (bys (dgs pr))),(66,i64 pr.length),(67,i64 i)],[(5,some (bys old)),(6,some (bys root)),(14,some (bys (uG ((D.reverse.zip pr).take i) x x).1)),(15,some (bys (uG ((D.reverse.zip pr).take i) x x).2))]⟩) (λi=>pr.length-i) (λi=>i<=pr.length) 0 (by simp[uG]) (by simp) λi hi=> ?_;obtain⟨hu,hv⟩:=JA ((D.reverse.zip pr).take i) x x hx hx;by_cases h:i<pr.length
 ·have lt:(i:Int)<pr.length:=by omega
  have x1:=zW hp h;have x2:=sG hp h;have y1:=UI (l:=D.reverse) (i:=i) (by rw[List.length_reverse];omega);have st:uG ((D.reverse.zip pr).take (i+1)) x x=if D.reverse.getD i false then(nd (ul pr i) (uG ((D.reverse.zip pr).take i) x x).1,nd (ul pr i) (uG ((D.reverse.zip pr).take i) x x).2) else((uG ((D.reverse.zip pr).take i) x x).1,nd (uG ((D.reverse.zip pr).take i) x x).2 (ul pr i)):=by
   rw[List.take_succ_eq_append_getElem (by omega),List.getElem_zip];rw[E3];have e1:D.reverse[i]'(by rw[List.length_reverse];omega)=D.reverse.getD i false:=by rw[List.getD,List.getElem?_eq_getElem (by rw[List.length_reverse];omega)];rfl
   have e2:pr[i]=ul pr i:=by rw[ul,List.getD,List.getElem?_eq_getElem h];rfl
   rw[e1,e2]
  generalize uG ((D.reverse.zip pr).take i) x x=R at*
  obtain⟨u,v⟩:=R;simp only at hu hv st⊢;generalize ul pr i=p at*
  have hil:=λu v (hu:List.length u=16) (hv:List.length v=16)=>zJ (t:=2) (De hu hv);have i1:(mY 2 [p,u]).length<=51:=by have:=hil p u x2 hu;simp only[List.length_cons,List.length_nil] at this;omega
  have i2:(mY 2 [p,v]).length<=51:=by have:=hil p v x2 hv;simp only[List.length_cons,List.length_nil] at this;omega
  have i3:(mY 2 [v,p]).length<=51:=by have:=hil v p hv x2;simp only[List.length_cons,List.length_nil] at this;omega
  have n1:cT (mY 2 [p,u])=nd p u:=rfl;have n2:cT (mY 2 [p,v])=nd p v:=rfl;have n3:cT (mY 2 [v,p])=nd v p:=rfl;have l1:=K8 p u;have l2:=K8 p v;have l3:=K8 v p;cases hf:D.reverse.getD i false with
  |true=>rw[hf] at y1 st;simp(maxSteps:=999999) (disch:=first|omega|simp<;>omega|rfl) [fJ,oG,oF,qV,tu,lt,kT,kF,dT,dF,x1,x2,y1,h11,hdp,hl,h165,zQ,h169,CX x2 hu,CX x2 hv,oM,hQ1,pB,n1,n2,n3,l1,l2,l3,hu,hv];exact⟨by omega,by omega,by omega,by rw[hb',List.length_reverse];omega,by rw[hr];simp,i+1,by omega,by omega,by simp,by simp[st],by simp[st]⟩
  |false=>rw[hf] at y1 st;simp(maxSteps:=999999) (disch:=first|omega|simp<;>omega|rfl) [fJ,oG,oF,qV,tu,lt,kT,kF,dT,dF,x1,x2,y1,h11,hdp,hl,h165,zQ,h169,CX hv x2,oM,hQ1,pB,n1,n2,n3,l1,l2,l3,hu,hv];exact⟨by omega,by omega,by omega,by rw[hb',List.length_reverse];omega,by rw[hr];simp,i+1,by omega,by omega,by simp,by simp[st],by simp[st]⟩
 have lt:¬((i:Int)<pr.length):=by omega
 have hip:(D.reverse.zip pr).take i=D.reverse.zip pr:=List.take_of_length_le (by omega);rw[hip] at hu hv⊢;generalize uG (D.reverse.zip pr) x x=R at*
 obtain⟨u,v⟩:=R;simp only at hu hv hQ1⊢;have e1:=vR hu ho;have e2:=vR hv hrt;by_cases huo:u=old
 ·have e3:decide (u=old)=true:=by simp[huo]
  rw[e3] at e1;simp(maxSteps:=999999) (disch:=first|omega|simp<;>omega|rfl) [fJ,oG,oF,qV,tE,lt,kT,kF,dT,dF,hQ1,e1,e2,e3,oM,hu,hv,ho,hrt]
 have e3:decide (u=old)=false:=by simp[huo]
 rw[e3] at e1;simp(maxSteps:=999999) (disch:=first|omega|simp<;>omega|rfl) [fJ,oG,oF,qV,tE,lt,kT,kF,dT,dF,hQ1,e1,e3,oM,hu,hv,ho,hrt]
def QF:av:=match qd with| .seq _ c=>c|c=>c
def z2q:av:=match qd with| .seq c _=>c|c=>c
theorem z6ta:qd= .seq z2q QF:=rfl
def vpO(D:List Bool)(old root:List UInt8)(pr:List (List UInt8)):Bool:=match vpS D old pr with|none=>false|some (x,p)=>vpE old root D x p
set_option maxHeartbeats 8000000 in
theorem z6ga(E:Env)(h165:E.G 165=shM)(h169:E.G 169=EH)(old root:List UInt8)(nl nx:Option Bool)(D:List Bool)(pr:List (List UInt8))(x11:oH)(ho:old.length=16)(hrt:root.length=16)(hp:qm pr)(hpl:pr.length<=1000)
  (h11:dem x11= .sl .plain nx D.length (bos D.reverse)) (hr:aF x11=[]):
  awp E QF (qH [.t 10] (bo (vpO D old root pr))) ⟨[(0,.agg (bys old)),(1,.agg (bys root)),(4,.sl .plain nl pr.length (bys (dgs pr)))],[(5,.bp 5 0),(6,.bp 6 0),(11,x11),(12,bo (D.all (! ·)))],[(5,some (bys old)),(6,some (bys root))]⟩:=by
 simp only[QF,qd];have hdp:=qL hp;have hb':=yx D.reverse;cases hw:D.all (! ·) with
 |true=>
  by_cases hl:pr.length=D.length
  ·have hl':((pr.length:Int)==D.length)=true:=by simp[hl]
   have e:vpO D old root pr=(decide ((uG (D.reverse.zip pr) old old).1=old)&&decide ((uG (D.reverse.zip pr) old old).2=root)):=by rw[vpO,vpS.eq_def,hw,if_pos rfl];simp only[vpE,if_pos hl]
   rw[e];have fin:=Um E h165 h169 [] old root old nl nx D pr x11 ho hrt ho hp hpl hl h11 hr;simp(maxSteps:=999999) (disch:=first|omega|simp<;>omega|rfl) [fJ,oG,oF,oM,pB,ho,kT,kF,dT,dF,qT,hl',h11];exact fin
  have hl':((pr.length:Int)==D.length)=false:=beq_false_of_ne (by omega);have e:vpO D old root pr=false:=by rw[vpO,vpS.eq_def,hw,if_pos rfl];simp only[vpE,if_neg hl]
  rw[e];simp(maxSteps:=999999) (disch:=first|omega|simp<;>omega|rfl) [fJ,oG,oF,oM,pB,ho,kT,kF,dT,dF,qT,hl',h11]
 |false=>
  cases pr with
  |nil=>
   have e:vpO D old root []=false:=by rw[vpO,vpS,hw,if_neg (by simp)]
   rw[e];simp(maxSteps:=999999) (disch:=first|omega|simp<;>omega|rfl) [fJ,oG,oF,oM,pB,ho,kT,kF,dT,dF]
  |cons x p=>
   obtain⟨hx,hp'⟩:=pN.1 hp;rw[List.length_cons] at hpl;have hdp':=qL hp';have hxd:(x++dgs p).take 16=x:=by rw[<-hx,List.take_left]
   have hxe:(x++dgs p).drop 16=dgs p:=by rw[<-hx,List.drop_left]
   have e0:¬((p.length:Int)+1=0):=by omega
   have htk:(dgs p).take (p.length*16)=dgs p:=List.take_of_length_le (by omega);by_cases hl:p.length=D.length
   ·have hl':((p.length:Int)==D.length)=true:=by simp[hl]
    have e:vpO D old root (x::p)=(decide ((uG (D.reverse.zip p) x x).1=old)&&decide ((uG (D.reverse.zip p) x x).2=root)):=by rw[vpO,vpS,hw,if_neg (by simp)];simp only[vpE,if_pos hl]
    rw[e];have fin:=Um E h165 h169 [] old root x nl nx D p x11 ho hrt hx hp' (by omega) hl h11 hr;simp(maxSteps:=999999) (disch:=first|omega|simp<;>omega|rfl) [fJ,oG,oF,oM,pB,ho,hx,kT,kF,dT,dF,tC,qT,hl',h11,hxd,hxe,e0,hdp',htk];exact⟨by omega,fin⟩
   have hl':((p.length:Int)==D.length)=false:=beq_false_of_ne (by omega);have e:vpO D old root (x::p)=false:=by rw[vpO,vpS,hw,if_neg (by simp)];simp only[vpE,if_neg hl]
   rw[e];simp(maxSteps:=999999) (disch:=first|omega|simp<;>omega|rfl) [fJ,oG,oF,oM,pB,ho,hx,kT,kF,dT,dF,tC,qT,hl',h11,hxd,hxe,e0,hdp'];omega
theorem UX{l:List (List UInt8)}{k i:Nat}(h:i<k):ul (l.take k) i=ul l i:=by simp only[ul,List.getD,List.getElem?_take,if_pos h]
theorem RC{α β:Type}:∀(a:List α) (b:List β) (x:α) (y:β),a.length=b.length->(a++[x]).zip (b++[y])=a.zip b++[(x,y)]
 |[],[],_,_,_=>rfl
 |[],_::_,_,_,h=>by simp at h
 |_::_,[],_,_,h=>by simp at h
 |a::l,b::m,x,y,h=>by simp only[List.cons_append,List.zip_cons_cons];rw[RC l m x y (by simpa using h)]
def sx:Nat->List (List UInt8)->List (List UInt8)->List (List UInt8)
 |_,q,[]=>q
 |n,q,d::l=>sx (n+1) (xF q d (t1N n)) l
theorem Mm:∀(a b:List (List UInt8)) (n:Nat) (q:List (List UInt8)),sx n q (a++b)=sx (n+a.length) (sx n q a) b
 |[],_,_,_=>rfl
 |d::a,b,n,q=>by rw[List.cons_append,sx,sx,Mm a b,List.length_cons,show n+1+a.length=n+(a.length+1) by omega]
theorem z8A(n:Nat):oN (n+1)+t1N n=oN n+1:=by
 induction n using Nat.strongRecOn with
 |ind n ih=>
  by_cases h:n% 2=1
  ·have:=ih (n/2) (by omega);rw[Db h,BX n,BX (n+1),show(n+1)/2=n/2+1 by omega];omega
  rw[yJ (by omega),BX n,BX (n+1),show(n+1)/2=n/2 by omega];omega
theorem RE{q:List (List UInt8)}{n:Nat}(d:List UInt8)(h:q.length=oN n):(xF q d (t1N n)).length=oN (n+1):=by have h1:=w5 n;have h2:=z8A n;rw[xF,List.length_append,List.length_take,List.length_singleton];omega
theorem yM:∀(l:List (List UInt8)) {q:List (List UInt8)} {n:Nat},q.length=oN n->(sx n q l).length=oN (n+l.length)
 |[],_,_,h=>h
 |d::l,q,n,h=>by rw[sx,yM l (RE d h),List.length_cons,show n+1+l.length=n+(l.length+1) by omega]
theorem Pj{q:List (List UInt8)}(d:List UInt8):∀t,(zY q d t).length=16
 |0=>pG _ _
 |_+1=>pG _ _
theorem Dg:∀{l q:List (List UInt8)} {n:Nat},qm q->qm (sx n q l)
 |[],_,_,h=>h
 |d::l,q,n,h=>Dg (l:=l) (by rw[xF];exact Mw.2 ⟨sD h _,pN.2 ⟨Pj d _,tg⟩⟩)
def Fa(q:List (List UInt8)):List UInt8:=FZ q (q.length-1)
theorem TM{a:List UInt8}{q:List (List UInt8)}(h:0<q.length):Fa (a::q)=nd a (Fa q):=OJ a q h
theorem z3b(a:List UInt8):Fa [a]=a:=rfl
theorem z8B(k:Nat):oN (2^k-1)=k:=by
 induction k with
 |zero=>exact vk
 |succ k ih=>have hp:=Nat.two_pow_pos k;rw[Nat.pow_succ,BX,show(2^k*2-1)/2=2^k-1 by omega,ih];omega
theorem RD(k:Nat):∀(b a:List (List UInt8)),(a++b).length<2^k->sx a.length (Cj k a) b=Cj k (a++b)
 |[],a,_=>by rw[List.append_nil];rfl
 |d::b,a,h=>by
  have e:a++d::b=(a++[d])++b:=by simp
  rw[sx,M6 k a d (by simp at h;omega),e,<-RD k b (a++[d]) (by rw[<-e];exact h)];simp
theorem LI:∀k,Cj k []=[]
 |0=>rfl
 |k+1=>by have hp:=Nat.two_pow_pos k;rw[Cj,if_neg (by rw[List.length_nil];omega),LI k]
def B9(l:List (List UInt8)):List (List UInt8):=
 if h:2<=l.length then mY 2 [root (l.take (spl l.length)),root (l.drop (spl l.length))]::(B9 (l.take (spl l.length))++B9 (l.drop (spl l.length))) else [mY 1 l]
termination_by l.length
decreasing_by
 ·have:=kK h;rw[List.length_take];omega
 have:=yl l.length;rw[List.length_drop];omega
theorem Ed{l:List (List UInt8)}(h:2<=l.length):B9 l=mY 2 [root (l.take (spl l.length)),root (l.drop (spl l.length))]::(B9 (l.take (spl l.length))++B9 (l.drop (spl l.length))):=by rw[B9,dif_pos h]
theorem Nz{l:List (List UInt8)}(h:¬2<=l.length):B9 l=[mY 1 l]:=by rw[B9,dif_neg h]
theorem M5{l:List (List UInt8)}(h:2<=l.length):root l=cT (mY 2 [root (l.take (spl l.length)),root (l.drop (spl l.length))]):=EP h
theorem M1{C:List (List UInt8)}(hf:Xm C){a b c e:List UInt8}(ha:a.length=16)(hb:b.length=16)(hc:c.length=16)(he:e.length=16)(h1:mY 2 [a,b]∈C)(h2:mY 2 [c,e]∈C)(h:cT (mY 2 [a,b])=cT (mY 2 [c,e])):a=c∧b=e:=YZ ha hb hc he (hf _ h1 _ h2 h)
theorem MM{C:List (List UInt8)}(hf:Xm C){old:List UInt8}(ho:old.length=16):∀(q:List (List UInt8)) (m n:Nat) (w:Bool) (d:List (List UInt8)),qm q->1<=m->m<=n->d.length=n->(rQ m n w old q).2.2=true->(∀i∈(yI m n w old q).1,i∈C)->(∀i∈B9 d,i∈C)->(yI m n w old q).2.2=root d->(yI m n w old q).2.1=root (d.take m)
 |[],m,n,w,d,hq,h1,h2,hd,hp,hi,ht,hr=>by
  rw[rQ] at hp;by_cases c:m=n∧w=true
  ·rw[yI] at hr⊢;rw[List.take_of_length_le (by omega)];exact hr
  rw[if_neg c] at hp;cases hp
 |x::q,m,n,w,d,hq,h1,h2,hd,hp,hi,ht,hr=>by
  obtain⟨hx,hq⟩:=pN.1 hq;rw[rQ] at hp;rw[yI] at hi hr⊢;by_cases c:m=n∧w=true
  ·rw[if_pos c] at hp;cases hp
  rw[if_neg c] at hp hi hr⊢;by_cases e:m=n
  ·rw[if_pos e] at hr⊢;rw[List.take_of_length_le (by omega)];exact hr
  rw[if_neg e] at hp hi hr⊢;have hn2:2<=n:=by omega
  have hsn:=kK hn2;have hsp:=yl n;have hst:=AX hn2;have hd2:2<=d.length:=by omega
  rw[Ed hd2,hd] at ht;have hroot:=M5 hd2;rw[hd] at hroot;have lt:(d.take (spl n)).length=spl n:=by rw[List.length_take];omega
  have ld:(d.drop (spl n)).length=n-spl n:=by rw[List.length_drop,hd]
  by_cases k:m<=spl n
  ·rw[if_pos k] at hp hi hr⊢;have hl:=BU ho q m (spl n) w hq;simp only at hp hi hr⊢;rw[hroot] at hr;obtain⟨e1,_⟩:=M1 hf hl.2 hx (sH _) (sH _) (hi _ (by simp)) (ht _ (by simp)) hr;have ih:=MM hf ho q m (spl n) w (d.take (spl n)) hq h1 k lt hp (λi h=>hi i (by simp[h])) (λi h=>ht i (by simp[h])) e1;rw[ih,List.take_take,Nat.min_eq_left k]
  rw[if_neg k] at hp hi hr⊢;have hl:=BU ho q (m-spl n) (n-spl n) false hq;simp only at hp hi hr⊢;rw[hroot] at hr;obtain⟨e1,e2⟩:=M1 hf hx hl.2 (sH _) (sH _) (hi _ (by simp)) (ht _ (by simp)) hr;have ih:=MM hf ho q (m-spl n) (n-spl n) false (d.drop (spl n)) hq (by omega) (by omega) ld hp (λi h=>hi i (by simp[h])) (λi h=>ht i (by simp[h])) e2;have lm:(d.take m).length=m:=by rw[List.length_take];omega
  rw[ih,e1];by_cases m1:m=1
  ·omega
  have hs:spl m=spl n:=JB (k:=Nat.log2 (n-1)) (show spl n<m by omega) (show m<=2*spl n by omega);have hr2:=M5 (l:=d.take m) (by omega);rw[lm,hs,List.take_take,Nat.min_eq_left (by omega),List.drop_take] at hr2;exact hr2.symm
def Zs:List (List UInt8)->List (List UInt8)
 |a::b::q=>mY 2 [a,Fa (b::q)]::Zs (b::q)
 |_=>[]
theorem ZX(a b:List UInt8)(q:List (List UInt8)):Fa (a::b::q)=cT (mY 2 [a,Fa (b::q)]):=TM (by simp)
theorem z28{q:List (List UInt8)}(h:2<=q.length):∃a b q',q=a::b::q':=by
 cases q with
 |nil=>simp at h
 |cons a q=>
  cases q with
  |nil=>simp at h
  |cons b q'=>exact⟨a,b,q',rfl⟩
theorem z3E{C:List (List UInt8)}(hf:Xm C)(K:Nat):∀(d q:List (List UInt8)),qm q->d.length<2^K->1<=d.length->q.length=oN d.length->(∀i∈Zs q,i∈C)->(∀i∈B9 d,i∈C)->Fa q=root d->q=Cj K d:=by
 induction K with
 |zero=>intro d q hq h1 h2 _ _ _ _;simp at h1;rw[h1] at h2;simp at h2
 |succ K ih0=>
  intro d q hq h1 h2 ho hi ht hr;rw[Nat.pow_succ] at h1;have hp:=Nat.two_pow_pos K;rw[Cj];by_cases c:2^K<=d.length
  ·rw[if_pos c];have ho2:oN d.length=oN (d.length-2^K)+1:=by
    have:=z7m (k:=K) (m:=d.length-2^K) (by omega);rwa[show 2^K+(d.length-2^K)=d.length by omega] at this
   by_cases e:d.length=2^K
   ·have h0:oN (d.length-2^K)=0:=by rw[e,Nat.sub_self];exact vk
    obtain⟨a,rfl⟩:∃a,q=[a]:=List.length_eq_one_iff.1 (by omega);have ed:d.drop (2^K)=[]:=List.drop_eq_nil_of_le (by omega);rw[ed,LI,List.take_of_length_le (by omega)];rw[z3b] at hr;rw[hr]
   have hm:0<oN (d.length-2^K):=Fx (by omega);obtain⟨a,b,q',rfl⟩:=z28 (q:=q) (by omega);have hs:spl d.length=2^K:=JB (by omega) (by omega);have h2':2<=d.length:=by omega
   rw[Ed h2',hs] at ht;have hroot:=M5 h2';rw[hs] at hroot;rw[ZX,hroot] at hr;obtain⟨ha,hb⟩:=pN.1 hq;have lt:(Fa (b::q')).length=16:=vC hb (by simp) _;obtain⟨e1,e2⟩:=M1 hf ha lt (sH _) (sH _) (hi _ (by simp[Zs])) (ht _ (by simp)) hr;have ld:(d.drop (2^K)).length=d.length-2^K:=List.length_drop;have ih:=ih0 (d.drop (2^K)) (b::q') hb (by omega) (by omega) (by rw[ld];simp at ho⊢;omega) (λi h=>hi i (by rw[Zs];exact List.mem_cons_of_mem _ h)) (λi h=>ht i (by simp[h])) e2;rw[ih,e1]
  rw[if_neg c];exact ih0 d q hq (by omega) h2 ho hi ht hr
def seg(d:List (List UInt8))(a n:Nat):List (List UInt8):=(d.drop a).take n
theorem V4{d:List (List UInt8)}{a n:Nat}(h:a+n<=d.length):(seg d a n).length=n:=by rw[seg,List.length_take,List.length_drop];omega
theorem z6L(d:List (List UInt8)):seg d 0 d.length=d:=by simp[seg]
theorem RU:∀(n:Nat) (d:List (List UInt8)),d.length=n->∀(t a:Nat),a% 2^t=0->a+2^t<=d.length->∀i∈B9 (seg d a (2^t)),i∈B9 d:=by
 intro n;induction n using Nat.strongRecOn with
 |ind n ih=>
  intro d hd t a ha hl i hi;have hp:=Nat.two_pow_pos t;by_cases e:2^t=d.length
  ·have h0:a=0:=by omega
   rw[h0,e,z6L] at hi;exact hi
  have h2:2<=d.length:=by omega
  have hs:=kK h2;have hsp:=yl d.length;have hw:=AX h2;rw[Ed h2];have hk:spl d.length=2^Nat.log2 (d.length-1):=rfl;obtain⟨s,hs'⟩:∃s,spl d.length=2^s:=⟨_,hk⟩;have hts:t<=s:=by
   have h1:2^t<2^(s+1):=by rw[Nat.pow_succ,<-hs'];omega
   have:=(Nat.pow_lt_pow_iff_right (a:=2) (by decide)).1 h1;omega
  obtain⟨r,hr⟩:∃r,s=t+r:=⟨s-t,by omega⟩;have hdiv:spl d.length=2^t*2^r:=by rw[hs',hr,Nat.pow_add]
  obtain⟨b,hb⟩:∃b,a=2^t*b:=⟨a/2^t,by have:=Nat.div_add_mod a (2^t);omega⟩;by_cases c:a+2^t<=spl d.length
  ·have lt:(d.take (spl d.length)).length=spl d.length:=by rw[List.length_take];omega
   have e2:seg (d.take (spl d.length)) a (2^t)=seg d a (2^t):=by rw[seg,seg,List.drop_take,List.take_take,Nat.min_eq_left (by omega)]
   have:=ih (spl d.length) (by omega) (d.take (spl d.length)) lt t a ha (by omega) i (by rw[e2];exact hi);simp[this]
  have hge:spl d.length<=a:=by
   rw[hdiv,hb];apply Nat.mul_le_mul_left;rw[hdiv,hb] at c;have h1:2^t*2^r<2^t*(b+1):=by rw[Nat.mul_add,Nat.mul_one];omega
   have:=Nat.lt_of_mul_lt_mul_left h1;omega
  have ld:(d.drop (spl d.length)).length=d.length-spl d.length:=List.length_drop;have e2:seg (d.drop (spl d.length)) (a-spl d.length) (2^t)=seg d a (2^t):=by rw[seg,seg,List.drop_drop];congr 2;omega
  have hmod:(a-spl d.length)% 2^t=0:=by rw[hdiv,hb,<-Nat.mul_sub];exact Nat.mul_mod_right _ _
  have:=ih (d.length-spl d.length) (by omega) (d.drop (spl d.length)) ld t (a-spl d.length) hmod (by omega) i (by rw[e2];exact hi);simp[this]
theorem z6r(n:Nat):(n+1)% 2^t1N n=0:=by
 induction n using Nat.strongRecOn with
 |ind n ih=>
  by_cases h:n% 2=1
  ·have h1:=ih (n/2) (by omega);rw[Db h,Nat.pow_succ];have e:n+1=2*(n/2+1):=by omega
   obtain⟨c,hc⟩:=Nat.dvd_of_mod_eq_zero h1;rw[e,hc,show 2*(2^t1N (n/2)*c)=2^t1N (n/2)*2*c by rw[Nat.mul_comm 2,Nat.mul_assoc,Nat.mul_comm c,<-Nat.mul_assoc]];exact Nat.mul_mod_right _ _
  rw[yJ (by omega)];exact Nat.mod_one _
theorem CA{n s:Nat}(h:s<=t1N n):(n+1)% 2^s=0∧2^s<=n+1:=by have h1:=Nat.dvd_of_mod_eq_zero (z6r n);have h2:2^s∣n+1:=Nat.dvd_trans (Nat.pow_dvd_pow 2 h) h1;exact⟨Nat.mod_eq_zero_of_dvd h2,Nat.le_of_dvd (by omega) h2⟩
theorem z2J{n s:Nat}(h:s<=t1N n):(n+1-2^s)% 2^s=0:=by obtain⟨h1,h2⟩:=CA h;rw[<-Nat.mod_eq_sub_mod h2];exact h1
theorem RG(K:Nat):∀(l:List (List UInt8)),l.length<2^K->∀s,s<t1N l.length->ul (Cj K l) ((Cj K l).length-1-s)=root (seg l (l.length+1-2^(s+1)) (2^s)):=by
 induction K with
 |zero=>intro l h s hs;simp at h;rw[h] at hs;simp[yJ] at hs
 |succ K ih=>
  intro l h s hs;have h0:=h;rw[Nat.pow_succ] at h;have hp:=Nat.two_pow_pos K;rw[Cj];by_cases c:2^K<=l.length
  ·rw[if_pos c];obtain⟨m,hm⟩:∃m,l.length=2^K+m:=⟨l.length-2^K,by omega⟩;have ld:(l.drop (2^K)).length=m:=by rw[List.length_drop];omega
   have hP:(Cj K (l.drop (2^K))).length=oN m:=by rw[BJ K _ (by omega),ld]
   have sub:s<t1N m->ul (root (l.take (2^K))::Cj K (l.drop (2^K))) ((root (l.take (2^K))::Cj K (l.drop (2^K))).length-1-s)=root (seg l (l.length+1-2^(s+1)) (2^s)):=λhs'=>by have h1:=w5 m;have h2:=(CA (n:=m) (s:=s+1) hs').2;rw[Dt _ _ _ (by omega),ih (l.drop (2^K)) (by omega) s (by rw[ld];exact hs'),seg,seg,List.drop_drop,ld];congr 3;omega
   by_cases e:m+1=2^K
   ·have hn:l.length=2^(K+1)-1:=by rw[Nat.pow_succ];omega
    rw[hn,Iz] at hs;have hm1:m=2^K-1:=by omega
    have ht:t1N m=K:=by rw[hm1,Iz]
    have ho:oN m=K:=by rw[hm1,z8B]
    by_cases hsK:s<K
    ·exact sub (by rw[ht];exact hsK)
    obtain rfl:s=K:=by omega
    have hl0:l.length+1-2^(s+1)=0:=by rw[Nat.pow_succ];omega
    rw[hl0,seg,List.drop_zero,List.length_cons,hP,ho,show s+1-1-s=0 by omega];rfl
   have ht:t1N l.length=t1N m:=by rw[hm,Po K m (by omega)]
   exact sub (by rw[<-ht];exact hs)
  rw[if_neg c];exact ih l (by omega) s hs
theorem Rd{l:List (List UInt8)}{s:Nat}(h:l.length=2^(s+1)):root l=cT (mY 2 [root (l.take (2^s)),root (l.drop (2^s))])∧B9 l=mY 2 [root (l.take (2^s)),root (l.drop (2^s))]::(B9 (l.take (2^s))++B9 (l.drop (2^s))):=by
 have hp:=Nat.two_pow_pos s;rw[Nat.pow_succ] at h;have h2:2<=l.length:=by omega
 have hs:spl l.length=2^s:=JB (by omega) (by omega);have h3:=M5 h2;have h4:=Ed h2;rw[hs] at h3 h4;exact⟨h3,h4⟩
def KN(q:List (List UInt8))(x:List UInt8):Nat->List (List UInt8)
 |0=>[mY 1 [x]]
 |s+1=>mY 2 [ul q (q.length-1-s),zY q x s]::KN q x s
theorem TL{d:List (List UInt8)}{a s:Nat}:(seg d a (2^(s+1))).take (2^s)=seg d a (2^s)∧(seg d a (2^(s+1))).drop (2^s)=seg d (a+2^s) (2^s):=by have hp:=Nat.two_pow_pos s;refine⟨by rw[seg,seg,List.take_take,Nat.min_eq_left (by rw[Nat.pow_succ];omega)],?_⟩;rw[seg,seg,List.drop_take,List.drop_drop,show 2^(s+1)-2^s=2^s by rw[Nat.pow_succ];omega]
theorem Z0{C:List (List UInt8)}(hf:Xm C){d q:List (List UInt8)}{x:List UInt8}{n:Nat}(hn:n+1<=d.length)(hd:qm d)(hq:qm q)(hx:x.length=16)(ht:∀i∈B9 d,i∈C)(hl:t1N n<=q.length)(s:Nat):s<=t1N n->(∀i∈KN q x s,i∈C)->zY q x s=root (seg d (n+1-2^s) (2^s))->x=ul d n∧∀i,i<s->ul q (q.length-1-i)=root (seg d (n+1-2^(i+1)) (2^i)):=by
 induction s with
 |zero=>
  intro hs hi he;refine⟨?_,λi h=>absurd h (Nat.not_lt_zero i)⟩;have e1:seg d (n+1-2^0) (2^0)=[ul d n]:=by rw[seg,Nat.pow_zero,Nat.add_sub_cancel,List.drop_eq_getElem_cons (by omega),List.take_succ_cons,List.take_zero,ul,List.getD,List.getElem?_eq_getElem (show n<d.length by omega)];rfl
  have hm:=ht (mY 1 [ul d n]) (RU _ d rfl 0 n (Nat.mod_one _) (by rw[Nat.pow_zero];exact hn) _ (by
   rw[show n=n+1-2^0 by simp,e1,Nz (by simp)];simp))
  rw[e1,Ax (by simp)] at he;exact ZV hx (sG hd (by omega)) (hf _ (hi _ (by simp[KN])) _ hm he)
 |succ s ih=>
  intro hs hi he;have h2:=CA hs;have hsl:(seg d (n+1-2^(s+1)) (2^(s+1))).length=2^(s+1):=V4 (by omega);obtain⟨r1,r2⟩:=Rd hsl;obtain⟨g1,g2⟩:=TL (d:=d) (a:=n+1-2^(s+1)) (s:=s);have hp:=Nat.two_pow_pos s;have e3:n+1-2^(s+1)+2^s=n+1-2^s:=by rw[Nat.pow_succ] at h2⊢;omega
  rw[e3] at g2;rw[g1,g2] at r1 r2;have hsub:=RU d.length d rfl (s+1) (n+1-2^(s+1)) (z2J hs) (by omega);rw[r1] at he;have lA:=sH (seg d (n+1-2^(s+1)) (2^s));have lB:=sH (seg d (n+1-2^s) (2^s));generalize hA:root (seg d (n+1-2^(s+1)) (2^s))=A at*
  generalize hB:root (seg d (n+1-2^s) (2^s))=B at*
  have hm:=ht _ (hsub (mY 2 [A,B]) (by rw[r2];exact List.mem_cons_self));have hI:mY 2 [ul q (q.length-1-s),zY q x s]∈C:=hi _ (by rw[KN];exact List.mem_cons_self);have hR:∀i∈KN q x s,i∈C:=λi h=>hi i (by rw[KN];exact List.mem_cons_of_mem _ h);have l1:=sG hq (show q.length-1-s<q.length by omega);have l2:=Pj (q:=q) x s;have he':cT (mY 2 [ul q (q.length-1-s),zY q x s])=cT (mY 2 [A,B]):=he;clear he hi;generalize hX:ul q (q.length-1-s)=X at*
  generalize hY:zY q x s=Y at*
  obtain⟨k1,k2⟩:=M1 hf l1 l2 lA lB hI hm he';obtain⟨j1,j2⟩:=ih (by omega) hR k2;refine⟨j1,λi h=> ?_⟩;by_cases hi':i<s
  ·exact j2 i hi'
  obtain rfl:i=s:=by omega
  rw[hX,k1,<-hA]
theorem RJ{d:List (List UInt8)}{n a k:Nat}(h:a+k<=n):seg (d.take n) a k=seg d a k:=by rw[seg,seg,List.drop_take,List.take_take,Nat.min_eq_left (by omega)]
theorem Xo{d:List (List UInt8)}{K n:Nat}(hK:d.length<2^K)(hn:n+1<=d.length)(s:Nat):s<=t1N n->zY (Cj K (d.take n)) (ul d n) s=root (seg d (n+1-2^s) (2^s)):=by
 have ln:(d.take n).length=n:=by rw[List.length_take];omega
 induction s with
 |zero=>
  intro _;have e1:seg d (n+1-2^0) (2^0)=[ul d n]:=by rw[seg,Nat.pow_zero,Nat.add_sub_cancel,List.drop_eq_getElem_cons (by omega),List.take_succ_cons,List.take_zero,ul,List.getD,List.getElem?_eq_getElem (show n<d.length by omega)];rfl
  rw[e1,Ax (by simp),zY]
 |succ s ih=>
  intro hs;have h2:=CA hs;have hsl:(seg d (n+1-2^(s+1)) (2^(s+1))).length=2^(s+1):=V4 (by omega);obtain⟨r1,_⟩:=Rd hsl;obtain⟨g1,g2⟩:=TL (d:=d) (a:=n+1-2^(s+1)) (s:=s);have hp:=Nat.two_pow_pos s;have e3:n+1-2^(s+1)+2^s=n+1-2^s:=by rw[Nat.pow_succ] at h2⊢;omega
  rw[e3] at g2;rw[g1,g2] at r1;have hl:=RG K (d.take n) (by omega) s (by rw[ln];exact hs);rw[ln,RJ (by rw[Nat.pow_succ] at h2⊢;omega)] at hl;rw[r1,zY,hl,ih (by omega)];rfl
theorem z8M{C:List (List UInt8)}(hf:Xm C){d q:List (List UInt8)}{x:List UInt8}{K n:Nat}(hK:d.length<2^K)(hn:n+1<=d.length)(hd:qm d)(hq:qm q)(hx:x.length=16)(ho:q.length=oN n)(ht:∀i∈B9 d,i∈C)(hi:∀i∈KN q x (t1N n),i∈C)(he:xF q x (t1N n)=Cj K (d.take (n+1))):q=Cj K (d.take n)∧x=ul d n:=by
 have ln:(d.take n).length=n:=by rw[List.length_take];omega
 have hP:(Cj K (d.take n)).length=oN n:=by rw[BJ K _ (by omega),ln]
 have hto:=w5 n;have ed:d.take (n+1)=d.take n++[ul d n]:=by rw[List.take_succ_eq_append_getElem (by omega)];simp[ul,List.getD,List.getElem?_eq_getElem (show n<d.length by omega)]
 have h1:=M6 K (d.take n) (ul d n) (by omega);rw[ln,<-ed,<-he,xF,xF,hP,ho] at h1;have hFs:=Xo hK hn (t1N n) (Nat.le_refl _);have hlast:=RG K (d.take n) (by omega);rw[ln] at hlast;generalize hPP:Cj K (d.take n)=P at*
 have hlen:(P.take (oN n-t1N n)).length=(q.take (oN n-t1N n)).length:=by rw[List.length_take,List.length_take,hP,ho]
 obtain⟨k1,k2⟩:=List.append_inj h1 hlen;have k3:zY P (ul d n) (t1N n)=zY q x (t1N n):=by simpa using k2
 rw[hFs] at k3;obtain⟨j1,j2⟩:=Z0 hf hn hd hq hx ht (by omega) (t1N n) (Nat.le_refl _) hi k3.symm;refine⟨?_,j1⟩;apply List.ext_getElem (by rw[ho,hP]);intro j a1 a2;by_cases c:j<oN n-t1N n
 ·have:=congrArg (λl=>l[j]?) k1;simp only[List.getElem?_take,if_pos c,List.getElem?_eq_getElem a1,List.getElem?_eq_getElem a2,Option.some.injEq] at this;exact this.symm
 have hj:j=q.length-1-(oN n-1-j):=by omega
 have hj2:j=P.length-1-(oN n-1-j):=by omega
 have hi2:oN n-1-j<t1N n:=by omega
 have u1:=j2 (oN n-1-j) hi2;have u2:=hlast (oN n-1-j) hi2;have h2:=(CA (n:=n) (s:=oN n-1-j+1) hi2).2;have hp:=Nat.two_pow_pos (oN n-1-j);rw[RJ (by rw[Nat.pow_succ] at h2⊢;omega)] at u2;rw[<-hj] at u1;rw[<-hj2] at u2;have u3:=u1.trans u2.symm;simp only[ul,List.getD,List.getElem?_eq_getElem a1,List.getElem?_eq_getElem a2,Option.getD_some] at u3;exact u3
def NP:Nat->List (List UInt8)->List (List UInt8)->List (List UInt8)
 |_,_,[]=>[]
 |n,q,x::l=>KN q x (t1N n)++NP (n+1) (xF q x (t1N n)) l
theorem ZN{C:List (List UInt8)}(hf:Xm C){d:List (List UInt8)}{K:Nat}(hK:d.length<2^K)(hd:qm d)(ht:∀i∈B9 d,i∈C)(l:List (List UInt8)):∀(n:Nat) (q:List (List UInt8)),n+l.length<=d.length->qm q->qm l->q.length=oN n->(∀i∈NP n q l,i∈C)->sx n q l=Cj K (d.take (n+l.length))->l=(d.drop n).take l.length∧q=Cj K (d.take n):=by
 induction l with
 |nil=>intro n q h1 hq hl ho hi he;exact⟨by simp,by simpa[sx] using he⟩
 |cons x l ih=>intro n q h1 hq hl ho hi he;obtain⟨hx,hl⟩:=pN.1 hl;rw[List.length_cons] at h1 he;have hq2:qm (xF q x (t1N n)):=Mw.2 ⟨sD hq _,pN.2 ⟨Pj x _,tg⟩⟩;obtain⟨e1,e2⟩:=ih (n+1) (xF q x (t1N n)) (by omega) hq2 hl (RE x ho) (λi h=>hi i (by rw[NP];exact List.mem_append_right _ h)) (by rw[show n+1+l.length=n+(l.length+1) by omega];exact he);obtain⟨f1,f2⟩:=z8M hf hK (by omega) hd hq hx ho ht (λi h=>hi i (by rw[NP];exact List.mem_append_left _ h)) e2;refine⟨?_,f1⟩;rw[List.length_cons,List.drop_eq_getElem_cons (show n<d.length by omega),List.take_succ_cons,<-e1,f2];simp[ul,List.getD,List.getElem?_eq_getElem (show n<d.length by omega)]
theorem wL{t:List UInt8×List UInt8×Bool}(hx:t.1.length=16)(hy:t.2.1.length=16):(Bl t).length=33:=by simp[Bl,hx,hy]
theorem PE{t:List UInt8×List UInt8×Bool}(hx:t.1.length=16):(Bl t).take 16=bys t.1:=by
 have h:(bys t.1).length=16:=by simpa using hx
 rw[Bl,sP,List.append_assoc,<-h,List.take_left]
theorem LZ{t:List UInt8×List UInt8×Bool}(hx:t.1.length=16)(hy:t.2.1.length=16):((Bl t).drop 16).take 16=bys t.2.1:=by
 have h:(bys t.1).length=16:=by simpa using hx
 have h':(bys t.2.1).length=16:=by simpa using hy
 have e:(Bl t).drop 16=bys t.2.1++[bo t.2.2]:=by
  rw[Bl,sP,List.append_assoc]
  conv=>lhs;rw[<-h]
  rw[List.drop_left]
 rw[e]
 conv=>lhs;rw[<-h']
 rw[List.take_left]
theorem LE{t:List UInt8×List UInt8×Bool}(hx:t.1.length=16)(hy:t.2.1.length=16):hdA ((Bl t).drop 32)=bo t.2.2:=by
 have h:(bys (t.1++t.2.1)).length=32:=by simp[hx,hy]
 rw[Bl,<-h,List.drop_left];rfl
@[simp] theorem z5S(t:List UInt8×List UInt8×Bool):(∀c∈Bl t,ah c)↔True:=by simp[Bl,or_imp,forall_and]
@[simp] theorem z98(t:List UInt8×List UInt8×Bool):(∀c∈Bl t,ao c=false)↔True:=by simp[Bl,or_imp,forall_and]
@[simp] theorem z8T(t:List UInt8×List UInt8×Bool):au (Bl t)=true:=by simp[Bl]
@[simp] theorem z6U(t:List UInt8×List UInt8×Bool):pT (Bl t)=[]:=by simp[Bl]
theorem w6:bys (bF 32)++[bo false]=Bl (bF 16,bF 16,false):=rfl
theorem VK{t:List UInt8×List UInt8×Bool}{x y:List UInt8}(b:Bool)(h1:t.1.length=16)(h2:t.2.1.length=16)(hx:x.length=16)(hy:y.length=16):splice (splice (splice (Bl t) 0 (bys x)) 16 (bys y)) 32 [bo b]=Bl (x,y,b):=by
 obtain⟨u,v,c⟩:=t;simp only at h1 h2;have hu:(bys u).length=16:=by simpa using h1
 have hv:(bys v).length=16:=by simpa using h2
 have hx':(bys x).length=16:=by simpa using hx
 have hy':(bys y).length=16:=by simpa using hy
 simp only[Bl,sP];generalize bys u=U at*
 generalize bys v=V at*
 generalize bys x=X at*
 generalize bys y=Y at*
 have e1:splice (U++V++[bo c]) 0 X=X++V++[bo c]:=by simp[splice,hx',<-hu]
 rw[e1];have e2:splice (X++V++[bo c]) 16 Y=X++Y++[bo c]:=by unfold splice;rw[List.append_assoc X,<-hx',List.take_left,hx',hy',show 16+16=(X++V).length by simp[hx',hv],<-List.append_assoc X,List.drop_left]
 rw[e2];unfold splice;rw[show 32=(X++Y).length by simp[hx',hy'],List.take_left,List.drop_of_length_le (by simp;omega)];simp
theorem Qo:((bF 16,bF 16,false):List UInt8×List UInt8×Bool).1.length=16:=rfl
theorem PT:((bF 16,bF 16,false):List UInt8×List UInt8×Bool).2.1.length=16:=rfl
set_option maxHeartbeats 16000000 in
theorem z9f(E:Env)(k:Nat)(h195:E.G 195=LM)(h202:E.G 202=Xn)(h205:E.G 205=HG GS Bu k):∀ds,(HG GS Bu (k+1)).pre ds->ds.length=o5.n∧awp E o5.body (qH o5.res (GS.post ds)) (fP o5.wr ds):=by
 rintro _ ⟨⟨old,m,n,w,nl,p,ho,h1,hmn,hn,hp,hpl,rfl⟩,hk⟩;rw[ur,EW hp rfl rfl,NS];have hk:p.length<k+1:=hk;have tko:=oM ho;have zl:=wL Qo PT;have fill:=λ(x y:List UInt8) (b:Bool) (hx:x.length=16) (hy:y.length=16)=>VK b Qo PT hx hy;by_cases hw:m=n∧w=true
 ·obtain⟨rfl,rfl⟩:=hw;have e:rQ m m true old p.reverse=(old,old,decide (p=[])):=by
   cases hq:p.reverse with
   |nil=>rw[rQ,if_pos ⟨rfl,rfl⟩,List.reverse_eq_nil_iff.1 hq];rfl
   |cons x q=>
    have:p≠[]:=by intro h;rw[h] at hq;cases hq
    rw[rQ,if_pos ⟨rfl,rfl⟩,decide_eq_false this]
  have ed:((p.length:Int)==0)=decide (p=[]):=by
   cases p with
   |nil=>rfl
   |cons a p=>simp;omega
  rw[e];have f1:=fill old old (decide (p=[])) ho ho;have fl:=wL (t:=(old,old,decide (p=[]))) ho ho;have flt:=List.take_of_length_le (Nat.le_of_eq fl);simp(maxSteps:=999999) (disch:=first|omega|simp<;>omega|rfl) [fJ,oG,oF,o5,w6,kT,kF,dT,dF,ho,tko,ed,f1,fl,zl,oJ,flt]
 by_cases hp0:p.length=0
 ·have e0:p=[]:=List.length_eq_zero_iff.1 hp0;subst e0;have e:rQ m n w old [].reverse=(bF 16,bF 16,false):=by rw[List.reverse_nil,rQ,if_neg hw]
  rw[e];have flt:=List.take_of_length_le (Nat.le_of_eq zl);by_cases he:m=n
  ·subst he;have hwf:w=false:=by
    cases w with
    |false=>rfl
    |true=>exact absurd ⟨rfl,rfl⟩ hw
   subst hwf;simp(maxSteps:=999999) (disch:=first|omega|simp<;>omega|rfl) [fJ,oG,oF,o5,qe,w6,kT,kF,dT,dF,ho,tko,zl,oJ,flt]
  have b1:((m:Int)==(n:Int))=false:=beq_false_of_ne (by omega);simp(maxSteps:=999999) (disch:=first|omega|simp<;>omega|rfl) [fJ,oG,oF,o5,qe,w6,kT,kF,dT,dF,ho,tko,zl,oJ,flt,b1]
 have hrev:p.reverse=ul p (p.length-1)::(p.take (p.length-1)).reverse:=by
  conv=>lhs;rw[Lo (p:=p) (by omega)]
  simp
 have hdl:=qL hp;have hat:=zW hp (show p.length-1<p.length by omega);have hal:=sG hp (show p.length-1<p.length by omega);have htk:=xt hp (p.length-1);have e1:((p.length:Int)-1).toNat=p.length-1:=by omega
 have r16:qm (p.take (p.length-1)):=sD hp _;have rl:(p.take (p.length-1)).length=p.length-1:=by simp
 have b0:((p.length:Int)==0)=false:=beq_false_of_ne (by omega);have tkx:=oM hal;rw[hrev];generalize hx:ul p (p.length-1)=x at*
 generalize hq:p.take (p.length-1)=q at*
 by_cases he:m=n
 ·subst he;have hwf:w=false:=by
   cases w with
   |false=>rfl
   |true=>exact absurd ⟨rfl,rfl⟩ hw
  subst hwf;have e:rQ m m false old (x::q.reverse)=(x,x,decide (q.length=0)):=by rw[rQ,if_neg (by simp),if_pos rfl];cases q<;>simp
  rw[e];have ed:(((p.length-1:Nat):Int)==0)=decide (q.length=0):=by
   rw[rl];by_cases h:p.length-1=0
   ·rw[h];rfl
   rw[decide_eq_false h];exact beq_false_of_ne (by omega)
  rw[<-ed];generalize hbb:(((p.length-1:Nat):Int)==0)=bb at*
  have f1:=fill x x bb hal hal;have fl:=wL (t:=(x,x,bb)) hal hal;have flt:=List.take_of_length_le (Nat.le_of_eq fl);simp(maxSteps:=999999) (disch:=first|omega|simp<;>omega|rfl) [fJ,oG,oF,o5,qe,rW,w6,kT,kF,dT,dF,ho,tko,zl,oJ,flt,fl,b0,hdl,e1,hat,hal,tkx,htk,f1,hbb];omega
 have b1:((m:Int)==(n:Int))=false:=beq_false_of_ne (by omega);have hlt:m<n:=by omega
 have hs:=kK (n:=n) (by omega);have hs1:=yl n;have hst:=AX (n:=n) (by omega);have sp:LM.pre [i64 n]=True:=EO (by omega) (by omega);have q16r:=E1 r16;generalize hK:spl n=K at*
 by_cases hc:m<=K
 ·have hci:(m:Int)<=(K:Int):=by omega
  have hp1:(HG GS Bu k).pre [.agg (bys old),i64 m,i64 K,bo w,.sl .plain nl (p.length-1) (bys (dgs q))]=True:=eq_true ⟨of_eq_true (Es ho h1 hc (by omega) r16 (by omega) rl.symm rfl),by show p.length-1<k;omega⟩;have hq1:(HG GS Bu k).post [.agg (bys old),i64 m,i64 K,bo w,.sl .plain nl (p.length-1) (bys (dgs q))]=NS (rQ m K w old q.reverse):=EW r16 rl.symm rfl;rw[NS] at hq1;have e:rQ m n w old (x::q.reverse)=((rQ m K w old q.reverse).1,bh 2 [(rQ m K w old q.reverse).2.1,x],(rQ m K w old q.reverse).2.2):=by rw[rQ,if_neg hw,if_neg he,hK,if_pos hc]
  obtain⟨t1,t2⟩:=GU old ho q.reverse m K w q16r;rw[e];generalize rQ m K w old q.reverse=T at*
  obtain⟨y,hy,hyl⟩:∃y,bh 2 [T.2.1,x]=y∧y.length=16:=⟨_,rfl,pG _ _⟩;rw[hy];have g1:=fill T.1 y T.2.2 t1 hyl;have g2:=wL t1 t2;have g3:=PE t1;have g4:=LZ t1 t2;have g5:=LE t1 t2;have g6:=List.take_of_length_le (Nat.le_of_eq g2);have g7:=wL (t:=(T.1,y,T.2.2)) t1 hyl;have g8:=List.take_of_length_le (Nat.le_of_eq g7);have tk1:=oM t1;have tk2:=oM t2;simp(maxSteps:=999999) (disch:=first|omega|simp<;>omega|rfl) [fJ,oG,oF,o5,qe,rW,ti,w6,kT,kF,dT,dF,ho,tko,zl,oJ,b1,b0,hdl,e1,hat,hal,tkx,htk,h195,sp,hK,hci,h205,hp1,hq1,g1,g2,g3,g4,g5,g6,g7,g8,hy,hyl,t1,t2,h202,F9 t2 hal];omega
 have hci:¬(m:Int)<=(K:Int):=by omega
 have hsm:(m:Int)-(K:Int)=((m-K:Nat):Int):=by omega
 have hsn:(n:Int)-(K:Int)=((n-K:Nat):Int):=by omega
 have hp1:(HG GS Bu k).pre [.agg (bys old),i64 (m-K:Nat),i64 (n-K:Nat),bo false,.sl .plain nl (p.length-1) (bys (dgs q))]=True:=eq_true ⟨of_eq_true (Es ho (by omega) (by omega) (by omega) r16 (by omega) rl.symm rfl),by show p.length-1<k;omega⟩;have hq1:(HG GS Bu k).post [.agg (bys old),i64 (m-K:Nat),i64 (n-K:Nat),bo false,.sl .plain nl (p.length-1) (bys (dgs q))]=NS (rQ (m-K) (n-K) false old q.reverse):=EW r16 rl.symm rfl;rw[NS] at hq1;have e:rQ m n w old (x::q.reverse)=(bh 2 [x,(rQ (m-K) (n-K) false old q.reverse).1],bh 2 [x,(rQ (m-K) (n-K) false old q.reverse).2.1],(rQ (m-K) (n-K) false old q.reverse).2.2):=by rw[rQ,if_neg hw,if_neg he,hK,if_neg hc]
 obtain⟨t1,t2⟩:=GU old ho q.reverse (m-K) (n-K) false q16r;rw[e];generalize rQ (m-K) (n-K) false old q.reverse=T at*
 obtain⟨y,hy,hyl⟩:∃y,bh 2 [x,T.1]=y∧y.length=16:=⟨_,rfl,pG _ _⟩;obtain⟨z,hz,hzl⟩:∃z,bh 2 [x,T.2.1]=z∧z.length=16:=⟨_,rfl,pG _ _⟩;rw[hy,hz];have g1:=fill y z T.2.2 hyl hzl;have g2:=wL t1 t2;have g3:=PE t1;have g4:=LZ t1 t2;have g5:=LE t1 t2;have g6:=List.take_of_length_le (Nat.le_of_eq g2);have g7:=wL (t:=(y,z,T.2.2)) hyl hzl;have g8:=List.take_of_length_le (Nat.le_of_eq g7);simp(maxSteps:=999999) (disch:=first|omega|simp<;>omega|rfl) [fJ,oG,oF,o5,qe,rW,ti,wq,w6,kT,kF,dT,dF,ho,tko,zl,oJ,b1,b0,hdl,e1,hat,hal,tkx,htk,h195,sp,hK,hci,hsm,hsn,h205,hp1,hq1,g1,g2,g3,g4,g5,g6,g7,g8,hy,hz,hyl,hzl,t1,t2,h202,F9 hal t1,F9 hal t2];omega
end Go.Abs