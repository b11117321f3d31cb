/- Lemmas. -/
import Derived.Test.YtiehmnjjlbndlaaGreatDoorJ
set_option linter.all false
namespace Go.Abs
attribute [local simp] Ky fnd wIn bU gv
theorem VR{n:Nat}{bs:Nat->List oH}{l:List Bool}(h0:0<l.length)(hl:l.length<=1000000)(hn:n=l.length)(hb:bs 0=bos l):Fc.pre [.bv 0 1 0 n n] bs=True:=eq_true ⟨l,h0,hl,by rw[hn],hb⟩
theorem VI{bs:Nat->List oH}{l:List Bool}(hb:bs 0=bos l)(ds:List oH)(j:Nat):Fc.out ds bs j=bos l.reverse:=by simp only[Fc,hb,R4]
end Go.Abs
namespace Go.Abs
theorem ZV{a b:List UInt8}(ha:a.length=16)(hb:b.length=16)(h:mY 1 [a]=mY 1 [b]):a=b:=by simp only[mY,List.cons.injEq,true_and] at h;have:=vE (λs hs=>by simp at hs;rw[hs];omega) (λs hs=>by simp at hs;rw[hs];omega) h;simpa using this
theorem YZ{a b c d:List UInt8}(ha:a.length=16)(hb:b.length=16)(hc:c.length=16)(hd:d.length=16)(h:mY 2 [a,b]=mY 2 [c,d]):a=c∧b=d:=by simp only[mY,List.cons.injEq,true_and] at h;have:=vE (λs hs=>by simp at hs;rcases hs with e|e<;>(rw[e];omega)) (λs hs=>by simp at hs;rcases hs with e|e<;>(rw[e];omega)) h;simpa using this
set_option maxRecDepth 20000
def oN(n:Nat):Nat:=if h:n=0 then 0 else n% 2+oN (n/2)
termination_by n
decreasing_by omega
theorem vk:oN 0=0:=by rw[oN,dif_pos rfl]
theorem BX(n:Nat):oN n=n% 2+oN (n/2):=by
 by_cases h:n=0
 ·subst h;rw[show 0/2=0 from rfl,vk]
 rw[oN,dif_neg h]
theorem WG:∀(k b x:Nat),b<2^k->oN (b+2^k*x)=oN b+oN x
 |0,b,x,h=>by
  have hb:b=0:=by simpa using h
  subst hb;simp[vk]
 |k+1,b,x,h=>by
  have e:2^(k+1)*x=2*(2^k*x):=by rw[Nat.pow_succ,Nat.mul_comm (2^k) 2,Nat.mul_assoc]
  rw[Nat.pow_succ] at h;generalize hy:2^k*x=y at e;rw[BX (b+_),BX b,e,show(b+2*y)% 2=b% 2 by omega,show(b+2*y)/2=b/2+y by omega,<-hy,WG k (b/2) x (by omega)];omega
theorem z9X:∀(k n:Nat),n<2^k->oN n<=k
 |0,n,h=>by
  have hn:n=0:=by simpa using h
  subst hn;rw[vk];exact Nat.le_refl _
 |k+1,n,h=>by rw[Nat.pow_succ] at h;have:=z9X k (n/2) (by omega);rw[BX];omega
def vB:List Nat->Nat
 |[]=>0
 |b::l=>b+256*vB l
def oks(l:List Nat):Prop:=∀b∈l,b<256
theorem z1f:∀{l:List Nat},oks l->vB l<256^l.length
 |[],_=>by decide
 |b::l,h=>by have h1:=z1f (l:=l) (λx hx=>h x (List.mem_cons_of_mem _ hx));have h2:=h b (List.mem_cons_self ..);show b+256*vB l<256^(l.length+1);rw[Nat.pow_succ];omega
def toB:Nat->Nat->List Nat
 |0,_=>[]
 |k+1,x=>x% 256::toB k (x/256)
theorem UK:∀(k x:Nat),(toB k x).length=k
 |0,_=>rfl
 |k+1,x=>by rw[toB,List.length_cons,UK k]
theorem z9p:∀(k x:Nat),oks (toB k x)
 |0,_=>λ_ h=>by cases h
 |k+1,x=>λb h=>by
  rcases List.mem_cons.1 h with h|h
  ·rw[h];exact Nat.mod_lt _ (by decide)
  exact z9p k _ b h
theorem Uo:∀(k x:Nat),x<256^k->vB (toB k x)=x
 |0,x,h=>by
  have hx:x=0:=by simpa using h
  subst hx;rfl
 |k+1,x,h=>by rw[Nat.pow_succ] at h;rw[toB,vB,Uo k (x/256) (Nat.div_lt_of_lt_mul (by omega))];omega
theorem Sa:∀(k x:Nat),x<256^k->oN x=((toB k x).map oN).sum
 |0,x,h=>by
  have hx:x=0:=by simpa using h
  subst hx;exact vk
 |k+1,x,h=>by rw[Nat.pow_succ] at h;rw[toB,List.map_cons,List.sum_cons,<-Sa k (x/256) (Nat.div_lt_of_lt_mul (by omega)),<-WG 8 _ _ (Nat.mod_lt _ (by decide))];congr 1;show x=x% 256+256*(x/256);omega
def rep(d:Nat):Nat->Nat
 |0=>0
 |k+1=>d+256*rep d k
theorem Mo(a x d m:Nat)(ha:a<256)(hd:d<256):(a+256*x)&&&(d+256*m)=(a&&&d)+256*(x&&&m):=by
 have h1:(a&&&d)<2^8:=Nat.lt_of_le_of_lt Nat.and_le_left ha;apply Nat.eq_of_testBit_eq;intro i;rw[Nat.testBit_and,show a+256*x=2^8*x+a by omega,show d+256*m=2^8*m+d by omega,show(a&&&d)+256*(x&&&m)=2^8*(x&&&m)+(a&&&d) by omega,Nat.testBit_two_pow_mul_add _ ha,Nat.testBit_two_pow_mul_add _ hd,Nat.testBit_two_pow_mul_add _ h1];by_cases h:i<8
 ·rw[if_pos h,if_pos h,if_pos h,Nat.testBit_and]
 rw[if_neg h,if_neg h,if_neg h,Nat.testBit_and]
theorem Qk(y d m:Nat)(hd:d<256):y&&&(d+256*m)=(y% 256&&&d)+256*(y/256&&&m):=by have:=Mo (y% 256) (y/256) d m (Nat.mod_lt _ (by decide)) hd;rw[show y% 256+256*(y/256)=y by omega] at this;exact this
def g1(b:Nat):Nat:=(b/2&&&85)+(b&&&85)
def g2(b:Nat):Nat:=(b/4&&&51)+(b&&&51)
def g3(b:Nat):Nat:=(b/16+b)&&&15
theorem z5ua:∀b:Fin 512,(b.1/2% 256&&&85)=(b.1% 256/2&&&85):=by decide
theorem z7xa:∀b:Fin 1024,(b.1/4% 256&&&51)=(b.1% 256/4&&&51):=by decide
theorem z0K:∀b:Fin 256,g1 b.1<256∧g2 (g1 b.1)<256∧g2 (g1 b.1)% 16<=4∧g2 (g1 b.1)/16<=4∧g3 (g2 (g1 b.1))<=8:=by decide
theorem st1:∀l:List Nat,oks l->(vB l/2&&&rep 85 l.length)+(vB l&&&rep 85 l.length)=vB (l.map g1)
 |[],_=>rfl
 |b::l,h=>by
  have h1:=st1 l (λx hx=>h x (List.mem_cons_of_mem _ hx));have h2:=h b (List.mem_cons_self ..);have e:=z5ua ⟨(b+256*vB l)% 512,Nat.mod_lt _ (by decide)⟩;simp only at e;show((b+256*vB l)/2&&&(85+256*rep 85 l.length))+((b+256*vB l)&&&(85+256*rep 85 l.length))=g1 b+256*vB (l.map g1);rw[<-h1,Qk _ _ _ (by decide),Mo _ _ _ _ h2 (by decide),g1];generalize vB l=v at*
  rw[show(b+256*v)/2/256=v/2 by omega,show(b+256*v)/2% 256=(b+256*v)% 512/2% 256 by omega,e,show(b+256*v)% 512% 256=b by omega];omega
theorem st2:∀l:List Nat,oks l->(vB l/4&&&rep 51 l.length)+(vB l&&&rep 51 l.length)=vB (l.map g2)
 |[],_=>rfl
 |b::l,h=>by
  have h1:=st2 l (λx hx=>h x (List.mem_cons_of_mem _ hx));have h2:=h b (List.mem_cons_self ..);have e:=z7xa ⟨(b+256*vB l)% 1024,Nat.mod_lt _ (by decide)⟩;simp only at e;show((b+256*vB l)/4&&&(51+256*rep 51 l.length))+((b+256*vB l)&&&(51+256*rep 51 l.length))=g2 b+256*vB (l.map g2);rw[<-h1,Qk _ _ _ (by decide),Mo _ _ _ _ h2 (by decide),g2];generalize vB l=v at*
  rw[show(b+256*v)/4/256=v/4 by omega,show(b+256*v)/4% 256=(b+256*v)% 1024/4% 256 by omega,e,show(b+256*v)% 1024% 256=b by omega];omega
def z5qa(l:List Nat):Prop:=∀b∈l,b<256∧b% 16<=4∧b/16<=4
theorem z0ca:∀l:List Nat,z5qa l->vB l% 16<=4
 |[],_=>by decide
 |b::l,h=>by have h2:=h b (List.mem_cons_self ..);show(b+256*vB l)% 16<=4;omega
theorem z88(x:Nat)(h:x<256):x&&&15=x% 16:=Nat.and_two_pow_sub_one_eq_mod x 4
theorem st3:∀l:List Nat,z5qa l->((vB l/16+vB l)&&&rep 15 l.length)=vB (l.map g3)
 |[],_=>rfl
 |b::l,h=>by
  have hl:z5qa l:=λx hx=>h x (List.mem_cons_of_mem _ hx);have h1:=st3 l hl;have h2:=h b (List.mem_cons_self ..);have h3:=z0ca l hl;show(((b+256*vB l)/16+(b+256*vB l))&&&(15+256*rep 15 l.length))=g3 b+256*vB (l.map g3);rw[<-h1,Qk _ _ _ (by decide),g3];generalize vB l=v at*
  have e:(b+256*v)/16+(b+256*v)=(b/16+b+16*(v% 16))+256*(v/16+v):=by omega
  rw[e];have l1:b/16+b+16*(v% 16)<256:=by omega
  rw[show((b/16+b+16*(v% 16))+256*(v/16+v))/256=v/16+v by omega,show((b/16+b+16*(v% 16))+256*(v/16+v))% 256=b/16+b+16*(v% 16) by omega,z88 _ l1,z88 _ (by omega)];omega
theorem oN_g:∀b:Fin 256,g3 (g2 (g1 b.1))=b.1% 2+(b.1/2% 2+(b.1/4% 2+(b.1/8% 2+(b.1/16% 2+(b.1/32% 2+(b.1/64% 2+b.1/128% 2)))))):=by decide
theorem Ec{b:Nat}(h:b<256):oN b=g3 (g2 (g1 b)):=by rw[oN_g ⟨b,h⟩,BX b,BX (b/2),BX (b/2/2),BX (b/2/2/2),BX (b/2/2/2/2),BX (b/2/2/2/2/2),BX (b/2/2/2/2/2/2),BX (b/2/2/2/2/2/2/2)];simp only[Nat.div_div_eq_div_mul];rw[show b/(2*2*2*2*2*2*2*2)=0 by omega,vk];rfl
theorem vB8(p0 p1 p2 p3 p4 p5 p6 p7:Nat):vB [p0,p1,p2,p3,p4,p5,p6,p7]=p0+256*(p1+256*(p2+256*(p3+256*(p4+256*(p5+256*(p6+256*(p7+256*0))))))):=rfl
theorem z9ta{p r:Nat}(hp:p<256):(p+256*r)/256=r:=by omega
theorem z7aa{a b c:Nat}(h:a+256*b<65536):(a+256*(b+256*c))/65536=c:=by omega
theorem z6W{a b c d e:Nat}(h:a+256*(b+256*(c+256*d))<4294967296):(a+256*(b+256*(c+256*(d+256*e))))/4294967296=e:=by omega
theorem UF{c0 c1 c2 c3 c4 c5 c6 c7:Nat}(h0:c0<256)(h1:c1<256)(h2:c2<256)(h3:c3<256)(h4:c4<256)(h5:c5<256)(h6:c6<256)(h7:c7<256):vB [c0,c1,c2,c3,c4,c5,c6,c7]<2^64:=by
 have:=z1f (l:=[c0,c1,c2,c3,c4,c5,c6,c7]) (λb hb=>by
  simp only[List.mem_cons,List.not_mem_nil,or_false] at hb;rcases hb with h|h|h|h|h|h|h|h<;>(rw[h];assumption))
 rw[show [c0,c1,c2,c3,c4,c5,c6,c7].length=8 from rfl,show(256:Nat)^8=2^64 by decide] at this;exact this
set_option maxHeartbeats 4000000 in
theorem sum8{p0 p1 p2 p3 p4 p5 p6 p7 x y z:Nat}(h0:p0<=8)(h1:p1<=8)(h2:p2<=8)(h3:p3<=8)(h4:p4<=8)(h5:p5<=8)(h6:p6<=8)(h7:p7<=8)
  (hx:x=vB [p0,p1,p2,p3,p4,p5,p6,p7]+vB [p0,p1,p2,p3,p4,p5,p6,p7]/256) (hy:y=x+x/65536) (hz:z=y+y/4294967296):
  x<2^64∧y<2^64∧z<2^64∧z% 128=p0+p1+p2+p3+p4+p5+p6+p7:=by
 have ex:x=vB [p0+p1,p1+p2,p2+p3,p3+p4,p4+p5,p5+p6,p6+p7,p7]:=by rw[hx,vB8,z9ta (by omega),vB8];omega
 have ey:y=vB [p0+p1+p2+p3,p1+p2+p3+p4,p2+p3+p4+p5,p3+p4+p5+p6,p4+p5+p6+p7,p5+p6+p7,p6+p7,p7]:=by rw[hy,ex,vB8,z7aa (by omega),vB8];omega
 have ez:z=vB [p0+p1+p2+p3+p4+p5+p6+p7,p1+p2+p3+p4+p5+p6+p7,p2+p3+p4+p5+p6+p7,p3+p4+p5+p6+p7,p4+p5+p6+p7,p5+p6+p7,p6+p7,p7]:=by rw[hz,ey,vB8,z6W (by omega),vB8];omega
 clear hx hy hz;refine And.intro ?_ (And.intro ?_ (And.intro ?_ ?_))
 ·rw[ex];clear ex ey ez;apply UF<;>omega
 ·rw[ey];clear ex ey ez;apply UF<;>omega
 ·rw[ez];clear ex ey ez;apply UF<;>omega
 rw[ez,vB8];clear ex ey ez;rw[show∀w S:Nat,S<=64->(S+256*w)% 128=S from λw S h=>by omega];omega
theorem FP{c r B:Nat}(hc:c<256)(hr:r<=B):c+256*r<=255+256*B:=by omega
theorem z80{x:Nat}(h:x<=4971973988617027583):x/16+x<2^64:=by omega
theorem z0F{c0 c1 c2 c3 c4 c5 c6 c7:Nat}(h0:c0<256)(h1:c1<256)(h2:c2<256)(h3:c3<256)(h4:c4<256)(h5:c5<256)(h6:c6<256)(h7:c7<=68):vB [c0,c1,c2,c3,c4,c5,c6,c7]<=4971973988617027583:=by rw[vB8];exact FP h0 (B:=19421773393035263) (FP h1 (B:=75866302316543) (FP h2 (B:=296352743423) (FP h3 (B:=1157627903) (FP h4 (B:=4521983) (FP h5 (B:=17663) (FP h6 (B:=68) (show c7+256*0<=68 by omega)))))))
def sB1(x:Nat):Nat:=(x/2&&&6148914691236517205)+(x&&&6148914691236517205)
def sB2(x:Nat):Nat:=(x/4&&&3689348814741910323)+(x&&&3689348814741910323)
def sB3(x:Nat):Nat:=(x/16+x)&&&1085102592571150095
set_option maxHeartbeats 4000000 in
theorem swar{x:Nat}(h:x<2^64):sB1 x<2^64∧sB2 (sB1 x)<2^64∧sB2 (sB1 x)/16+sB2 (sB1 x)<2^64∧∃p0 p1 p2 p3 p4 p5 p6 p7:Nat,(p0<=8∧p1<=8∧p2<=8∧p3<=8)∧(p4<=8∧p5<=8∧p6<=8∧p7<=8)∧sB3 (sB2 (sB1 x))=vB [p0,p1,p2,p3,p4,p5,p6,p7]∧oN x=p0+p1+p2+p3+p4+p5+p6+p7:=by
 have hx:x<256^8:=h;have ev:=Uo 8 x hx;have ok:=z9p 8 x;have eo:=Sa 8 x hx;have el:=UK 8 x;generalize toB 8 x=l at*
 have k1:oks (l.map g1):=λb hb=>by obtain⟨a,ha,rfl⟩:=List.mem_map.1 hb;exact(z0K ⟨a,ok a ha⟩).1
 have k2:z5qa ((l.map g1).map g2):=λb hb=>by obtain⟨a,ha,rfl⟩:=List.mem_map.1 hb;obtain⟨c,hc,rfl⟩:=List.mem_map.1 ha;have:=z0K ⟨c,ok c hc⟩;exact⟨this.2.1,this.2.2.1,this.2.2.2.1⟩
 have k2':oks ((l.map g1).map g2):=λb hb=>(k2 b hb).1;have e1:=st1 l ok;have e2:=st2 _ k1;have e3:=st3 _ k2;have n1:=z1f k1;have n2:=z1f k2';simp only[List.length_map,el] at e1 e2 e3 n1 n2;rw[show(256:Nat)^8=2^64 by decide] at n1 n2;have t1:sB1 x=vB (l.map g1):=by rw[<-e1,ev];rfl
 have t2:sB2 (sB1 x)=vB ((l.map g1).map g2):=by rw[t1,<-e2];rfl
 have t3:sB3 (sB2 (sB1 x))=vB (((l.map g1).map g2).map g3):=by rw[t2,<-e3];rfl
 have top:vB ((l.map g1).map g2)/16+vB ((l.map g1).map g2)<2^64:=by
  match l,el with
  |[a0,a1,a2,a3,a4,a5,a6,a7],_=>simp only[List.map_cons,List.map_nil];have h7:=(k2 (g2 (g1 a7)) (by simp)).2;exact z80 (z0F (k2 _ (by simp)).1 (k2 _ (by simp)).1 (k2 _ (by simp)).1 (k2 _ (by simp)).1 (k2 _ (by simp)).1 (k2 _ (by simp)).1 (k2 _ (by simp)).1 (by omega))
 refine And.intro (by rw[t1];exact n1) (And.intro (by rw[t2];exact n2) (And.intro (by rw[t2];exact top) ?_))
 match l,el with
 |[a0,a1,a2,a3,a4,a5,a6,a7],_=>
  have q:∀a,a∈[a0,a1,a2,a3,a4,a5,a6,a7]->g3 (g2 (g1 a))<=8:=λa ha=>(z0K ⟨a,ok a ha⟩).2.2.2.2;simp only[List.map_cons,List.map_nil] at t3;have eo':oN x=g3 (g2 (g1 a0))+g3 (g2 (g1 a1))+g3 (g2 (g1 a2))+g3 (g2 (g1 a3))+g3 (g2 (g1 a4))+g3 (g2 (g1 a5))+g3 (g2 (g1 a6))+g3 (g2 (g1 a7)):=by rw[eo];simp only[List.map_cons,List.map_nil,List.sum_cons,List.sum_nil];rw[Ec (ok a0 (by simp)),Ec (ok a1 (by simp)),Ec (ok a2 (by simp)),Ec (ok a3 (by simp)),Ec (ok a4 (by simp)),Ec (ok a5 (by simp)),Ec (ok a6 (by simp)),Ec (ok a7 (by simp))];simp only[Nat.add_zero,Nat.add_assoc]
  exact⟨g3 (g2 (g1 a0)),g3 (g2 (g1 a1)),g3 (g2 (g1 a2)),g3 (g2 (g1 a3)),g3 (g2 (g1 a4)),g3 (g2 (g1 a5)),g3 (g2 (g1 a6)),g3 (g2 (g1 a7)),⟨q a0 (by simp),q a1 (by simp),q a2 (by simp),q a3 (by simp)⟩,⟨q a4 (by simp),q a5 (by simp),q a6 (by simp),q a7 (by simp)⟩,t3,eo'⟩
def tzN(n:Nat):Nat:=if h:n=0 then 0 else if n% 2=1 then 0 else tzN (n/2)+1
termination_by n
decreasing_by omega
theorem Pi{n:Nat}(h:n% 2=1):tzN n=0:=by rw[tzN,dif_neg (by omega),if_pos h]
theorem Mh{n:Nat}(h0:n≠0)(h:n% 2=0):tzN n=tzN (n/2)+1:=by rw[tzN,dif_neg h0,if_neg (by omega)]
def t1N(n:Nat):Nat:=if h:n% 2=1 then t1N (n/2)+1 else 0
termination_by n
decreasing_by omega
theorem Db{n:Nat}(h:n% 2=1):t1N n=t1N (n/2)+1:=by rw[t1N,dif_pos h]
theorem yJ{n:Nat}(h:n% 2=0):t1N n=0:=by rw[t1N,dif_neg (by omega)]
theorem w5(n:Nat):t1N n<=oN n:=by
 induction n using Nat.strongRecOn with
 |ind n ih=>
  by_cases h:n% 2=1
  ·rw[Db h,BX];have:=ih (n/2) (by omega);omega
  rw[yJ (by omega)];exact Nat.zero_le _
theorem Sz:∀(w n:Nat),0<n->n<2^w->n&&&(2^w-n)=2^tzN n
 |0,n,h,h'=>by simp at h';omega
 |w+1,n,h,h'=>by
  have e:n&&&(2^(w+1)-n)=2*(n/2&&&(2^(w+1)-n)/2)+(n% 2)*((2^(w+1)-n)% 2):=by
   have hd:∀a b:Nat,a&&&b=2*(a/2&&&b/2)+(a% 2)*(b% 2):=λa b=>by
    have h1:(a&&&b)/2=a/2&&&b/2:=Nat.and_div_two;have h2:(a&&&b)% 2=(a% 2)*(b% 2):=by have:= @Nat.and_mod_two_pow a b 1;simp only[Nat.pow_one] at this;rw[this];rcases Nat.mod_two_eq_zero_or_one a with ha|ha<;>rcases Nat.mod_two_eq_zero_or_one b with hb|hb<;>rw[ha,hb]<;>rfl
    omega
   exact hd _ _
  rw[e];rw[Nat.pow_succ] at h'⊢;by_cases ho:n% 2=1
  ·rw[Pi ho,show(2^w*2-n)/2=2^w-(n/2+1) by omega,show(2^w*2-n)% 2=1 by omega,ho];have:n/2&&&(2^w-(n/2+1))=0:=by
    apply Nat.eq_of_testBit_eq;intro i;rw[Nat.testBit_and,Nat.testBit_two_pow_sub_succ (by omega)];cases Nat.testBit (n/2) i<;>simp
   rw[this]
  have he:n% 2=0:=by omega
  have:=Sz w (n/2) (by omega) (by omega);rw[Mh (by omega) he,show(2^w*2-n)/2=2^w-n/2 by omega,this,he,Nat.pow_succ];omega
theorem z3ca:∀(w n:Nat),n+1<2^w->tzN (2^w-1-n)=t1N n
 |0,n,h=>by simp at h
 |w+1,n,h=>by
  rw[Nat.pow_succ] at h⊢;by_cases ho:n% 2=1
  ·rw[Db ho,Mh (by omega) (by omega),show(2^w*2-1-n)/2=2^w-1-n/2 by omega,z3ca w (n/2) (by omega)]
  rw[yJ (by omega),Pi (by omega)]
theorem z5k:∀(w n:Nat),0<n->n<2^w->tzN n<w
 |0,n,h,h'=>by simp at h';omega
 |w+1,n,h,h'=>by
  rw[Nat.pow_succ] at h';by_cases ho:n% 2=1
  ·rw[Pi ho];omega
  rw[Mh (by omega) (by omega)];have:=z5k w (n/2) (by omega) (by omega);omega
set_option maxRecDepth 100000
def Ip:aW:=⟨λds=>∃x:UInt64,ds=[u64 x],λds=>i64 (oN (asI (nth ds 0)).toNat)⟩
@[simp] theorem z7ea(x:UInt64):Ip.pre [u64 x]=True:=eq_true ⟨x,rfl⟩
@[simp] theorem Lg(x:UInt64):Ip.post [u64 x]=i64 (oN x.toNat):=by show i64 (oN ((x.toNat:Int)).toNat)=_;rw[Int.toNat_natCast]
theorem z2m(x:UInt64){k c:Nat}(hk:k<64)(hc:c<2^64)(h:(x.toNat/2^k&&&c)+(x.toNat&&&c)<2^64){c':UInt64}(hc':c'.toNat=c):((ct x k&&&c')+(x&&&c')).toNat=(x.toNat/2^k&&&c)+(x.toNat&&&c):=by rw[UInt64.toNat_add,UInt64.toNat_and,UInt64.toNat_and,AP x k hk,hc',Nat.mod_eq_of_lt h]
theorem z18(x:UInt64){k c:Nat}(hk:k<64)(h:x.toNat/2^k+x.toNat<2^64){c':UInt64}(hc':c'.toNat=c):((ct x k+x)&&&c').toNat=(x.toNat/2^k+x.toNat)&&&c:=by rw[UInt64.toNat_and,UInt64.toNat_add,AP x k hk,hc',Nat.mod_eq_of_lt h]
theorem VV(x:UInt64){k:Nat}(hk:k<64)(h:x.toNat+x.toNat/2^k<2^64):(x+ct x k).toNat=x.toNat+x.toNat/2^k:=by rw[UInt64.toNat_add,AP x k hk,Nat.mod_eq_of_lt h]
theorem ZL(z:Int):z7j z 127=z% 128:=by
 have h:(BitVec.ofInt 64 z&&&BitVec.ofInt 64 127).toNat=(z% 128).toNat:=by rw[BitVec.toNat_and,show(BitVec.ofInt 64 127).toNat=2^7-1 from rfl,Nat.and_two_pow_sub_one_eq_mod,BitVec.toNat_ofInt];omega
 rw[z7j,h,fJ]<;>omega
theorem z1ta(z:Nat):W (z:Int)% 128=((z% 128:Nat):Int):=by unfold W IntKind.wrap IntKind.bits IntKind.signed;simp only;split<;>omega
def u1(x:UInt64):UInt64:=(ct x 1&&&6148914691236517205)+(x&&&6148914691236517205)
def u2(x:UInt64):UInt64:=(ct x 2&&&3689348814741910323)+(x&&&3689348814741910323)
def u3(x:UInt64):UInt64:=(ct x 4+x)&&&1085102592571150095
def u4(k:Nat)(x:UInt64):UInt64:=x+ct x k
theorem z3ia(x:UInt64):(u4 32 (u4 16 (u4 8 (u3 (u2 (u1 x)))))).toNat% 128=oN x.toNat:=by
 obtain⟨a1,a2,a3,p0,p1,p2,p3,p4,p5,p6,p7,⟨q0,q1,q2,q3⟩,⟨q4,q5,q6,q7⟩,e,o⟩:=swar (x:=x.toNat) x.toNat_lt;have e1:(u1 x).toNat=sB1 x.toNat:=z2m x (k:=1) (c:=6148914691236517205) (by decide) (by decide) a1 rfl;have e2:(u2 (u1 x)).toNat=sB2 (sB1 x.toNat):=by rw[u2,z2m (u1 x) (k:=2) (c:=3689348814741910323) (by decide) (by decide) (by rw[e1];exact a2) rfl,e1];rfl
 have e3:(u3 (u2 (u1 x))).toNat=sB3 (sB2 (sB1 x.toNat)):=by rw[u3,z18 (u2 (u1 x)) (k:=4) (c:=1085102592571150095) (by decide) (by rw[e2];exact a3) rfl,e2];rfl
 rw[e] at e3;generalize u3 (u2 (u1 x))=y at e3;obtain⟨b1,b2,b3,b4⟩:=sum8 q0 q1 q2 q3 q4 q5 q6 q7 rfl rfl rfl;have f1:(u4 8 y).toNat=y.toNat+y.toNat/256:=VV y (k:=8) (by decide) (by rw[e3];exact b1);have f2:(u4 16 (u4 8 y)).toNat=(u4 8 y).toNat+(u4 8 y).toNat/65536:=VV _ (k:=16) (by decide) (by rw[f1,e3];exact b2);have f3:(u4 32 (u4 16 (u4 8 y))).toNat=(u4 16 (u4 8 y)).toNat+(u4 16 (u4 8 y)).toNat/4294967296:=VV _ (k:=32) (by decide) (by rw[f2,f1,e3];exact b3);rw[f3,f2,f1,e3,b4,o]
theorem V8(E:Env):∀ds,Ip.pre ds->ds.length=qZ.n∧awp E qZ.body (qH qZ.res (Ip.post ds)) (fP qZ.wr ds):=by
 rintro _ ⟨x,rfl⟩;rw[Lg];have f1:∀x:UInt64,(ct x 1&&&6148914691236517205)+(x&&&6148914691236517205)=u1 x:=λ_=>rfl;have f2:∀x:UInt64,(ct x 2&&&3689348814741910323)+(x&&&3689348814741910323)=u2 x:=λ_=>rfl;have f3:∀x:UInt64,(ct x 4+x)&&&1085102592571150095=u3 x:=λ_=>rfl;have f4:∀x:UInt64,x+ct x 8=u4 8 x:=λ_=>rfl;have f5:∀x:UInt64,x+ct x 16=u4 16 x:=λ_=>rfl;have f6:∀x:UInt64,x+ct x 32=u4 32 x:=λ_=>rfl;have hu:=z3ia x;simp(maxSteps:=999999) (disch:=first|omega|simp<;>omega|rfl) [fJ,oG,oF,qZ,f1,f2,f3,f4,f5,f6];generalize u4 32 (u4 16 (u4 8 (u3 (u2 (u1 x)))))=y at*
 rw[ZL,z1ta,hu]
theorem z8v(E:Env)(h194:E.G 194=Ip):∀ds,Ip.pre ds->ds.length=rY.n∧awp E rY.body (qH rY.res (Ip.post ds)) (fP rY.wr ds):=by rintro _ ⟨x,rfl⟩;rw[Lg];simp(maxSteps:=999999) (disch:=first|omega|simp<;>omega|rfl) [fJ,oG,oF,rY,A6,h194,z1sa]
def dbT:List UInt8:=[0,1,56,2,57,49,28,3,61,58,42,50,38,29,17,4,62,47,59,36,45,43,51,22,53,39,33,30,24,18,12,5,63,55,48,27,60,41,37,16,46,35,44,21,52,32,23,11,54,26,40,15,34,20,31,10,25,14,19,9,13,8,7,6]
theorem z5Q:∀k:Fin 64,2^k.1*285870213051353865% 2^64/2^58<64∧(dbT.getD (2^k.1*285870213051353865% 2^64/2^58) 0).toNat=k.1:=by decide+kernel
@[simp] theorem iW(x:UInt64):unV .neg (u64 x)=u64 (-x):=wJ (by
 rw[UInt64.toNat_neg];have:=x.toNat_lt;have hz:UInt64.size=18446744073709551616:=rfl;rw[hz];simp only[IntKind.wrap,IntKind.bits,IntKind.signed];simp;omega)
@[simp] theorem jb(x:UInt64):iF .neg (u64 x)=True:=rfl
def tzC:aW:=⟨λds=>∃x:UInt64,x≠0∧ds=[u64 x],λds=>i64 (tzN (asI (nth ds 0)).toNat)⟩
theorem PM{x:UInt64}(h:x≠0):tzC.pre [u64 x]=True:=eq_true ⟨x,h,rfl⟩
@[simp] theorem Rj(x:UInt64):tzC.post [u64 x]=i64 (tzN x.toNat):=by show i64 (tzN ((x.toNat:Int)).toNat)=_;rw[Int.toNat_natCast]
theorem z1u{x:UInt64}(h:x≠0):(x&&& -x).toNat=2^tzN x.toNat:=by
 have h0:0<x.toNat:=by
  rcases Nat.eq_zero_or_pos x.toNat with e|e
  ·exact absurd (UInt64.toNat_inj.1 (by rw[e];rfl)) h
  exact e
 rw[UInt64.toNat_and,UInt64.toNat_neg,show UInt64.size=2^64 from rfl,Nat.mod_eq_of_lt (by omega)];exact Sz 64 _ h0 x.toNat_lt
theorem z8ua{x c:UInt64}(h:x≠0)(hc:c.toNat=285870213051353865):(ct ((x&&& -x)*c) 58).toNat<64∧(dbT.getD (ct ((x&&& -x)*c) 58).toNat 0).toNat=tzN x.toNat:=by
 have h0:0<x.toNat:=by
  rcases Nat.eq_zero_or_pos x.toNat with e|e
  ·exact absurd (UInt64.toNat_inj.1 (by rw[e];rfl)) h
  exact e
 rw[AP _ _ (by decide),UInt64.toNat_mul,z1u h,hc];exact z5Q ⟨tzN x.toNat,z5k 64 _ h0 x.toNat_lt⟩
theorem z2ia(E:Env)(hT3:E.T 3=bys dbT){x c:UInt64}(h:x≠0)(hc:c.toNat=285870213051353865)(he:c=285870213051353865){Q0:aB->ASt->Prop}(hQ0:Q0=qH [gR.t 2] (i64 (tzN x.toNat))):awp E s6 Q0 ⟨[(0,u64 x)],[(2,i64 0)],[]⟩:=by
 obtain⟨h1,h2⟩:=z8ua h hc;unfold s6;rw[<-he];clear he;generalize hs:ct ((x&&& -x)*c) 58=s at*
 have hl:dbT.length=64:=rfl;have h3:hdA (bys (List.drop s.toNat dbT))=u8 (at8 dbT s.toNat):=Lq (by rw[hl];exact h1);have h4:(at8 dbT s.toNat).toNat=tzN x.toNat:=h2;have h5:(s.toNat:Int)<64:=by omega
 simp(maxSteps:=999999) (disch:=first|omega|simp<;>omega|rfl) [fJ,oG,oF,hs,hT3,h3,h4,h5,hl,hQ0];omega
theorem z6z(E:Env)(hT3:E.T 3=bys dbT):∀ds,tzC.pre ds->ds.length=pX.n∧awp E pX.body (qH pX.res (tzC.post ds)) (fP pX.wr ds):=by rintro _ ⟨x,hx,rfl⟩;rw[Rj];have e0:(x=0)=False:=eq_false hx;simp(maxSteps:=999999) (disch:=first|omega|simp<;>omega|rfl) [fJ,oG,oF,pX,e0,kT,kF,dT,dF];exact z2ia E hT3 hx rfl rfl rfl
theorem z1ra(E:Env)(h190:E.G 190=tzC):∀ds,tzC.pre ds->ds.length=qu.n∧awp E qu.body (qH qu.res (tzC.post ds)) (fP qu.wr ds):=by rintro _ ⟨x,hx,rfl⟩;rw[Rj];simp(maxSteps:=999999) (disch:=first|omega|simp<;>omega|rfl) [fJ,oG,oF,qu,xz,h190,z1sa,PM hx]
def wi:av:=
 Yu [2,3,5,6,11,12] [Ym 40 2,Ym 41 13,Yb 42 .sub 40 41,Ym 43 3,Ym 44 13,Yb 45 .sub 43 44,Ym 2 42,Ym 3 45,Yw 12 false]
def tH:av:=
 .block 1 (Yr [2,3,5,6,11,12,13] [Ym 28 3,Yk 29 167 28,Ym 13 29] (Yr [2,3,5,6,11,12,13] [YM 30 11,Ym 31 2,Ym 32 13,Yb 33 .gtr 31 32,Yo 34 (.buildSl 1 1 [bo false] [(0,1,.s 33)]),YN 35 1 1 30 34,YM 11 35] (Yq (Yr [2,3,5,6,11,12,13,38] [Ym 36 2,Ym 37 13,Yb 38 .leq 36 37] (Yd 38 (Yr [2,3,5,6,11,12] [Ym 39 13,Ym 3 39] (.ghost (.keep [2,3,5,6,11,12]) (.exit 1))) (Yy [2,3,5,6,11,13]))) wi)))
def rR:av:=
 Yq (Yr [2,3,5,6,11,12,27] [Ym 25 2,Ym 26 3,Yb 27 .lss 25 26] (Yd 27 (Yy [2,3,5,6,11,12]) (YY [5,6,11,12]))) tH
def tC:av:=
 .region [4,5,6,11,14] [.norm [5,6,14]] [Ym 54 4,YI 55 16 54 0,YJ 56 16 55,Ym 57 4,Yo 58 (.slSl 16 (.s 57) (some (.c (i64 1))) none none),Ys 16 14 14 56,YM 4 58]
def tu:av:=
 Yq (.block 3 (YR [5,6,11,14,15,16,17,65,66,67] [.norm [5,6,14,15,17]] [Ym 69 67,Yi 70 16 65 67,YJ 71 16 70,Yz 17 17 16,Ym 16 69,Ys 16 17 17 71] (YR [5,6,11,14,15,17,65,66,67,75] [.norm [5,6,14,15,17]] [Ym 72 11,Ym 73 16,Yi 74 1 72 73,Yj 75 74] (Yd 75 (.region [5,6,11,14,15,65,66,67] [.norm [5,6,14,15,17]] [YL 76 16 17 17,YL 77 16 14 14,YK 78 169 76 77,Yk 79 165 78,YL 80 16 17 17,YL 81 16 15 15,YK 82 169 80 81,Yk 83 165 82,Ys 16 14 14 79,Ys 16 15 15 83]) (.region [5,6,11,14,15,65,66,67] [.norm [5,6,14,15,17]] [YL 84 16 15 15,YL 85 16 17 17,YK 86 169 84 85,Yk 87 165 86,Ys 16 15 15 87]))))) (.region [5,6,11,14,15,65,66,67] [.drop [17]] [YB 88 .add 67 1,Ym 67 88])
def qV:av:=
 Yr [5,6,11,14,15,65,66,67,68] [Yb 68 .lss 67 66] (Yq (Yd 68 (Yy [5,6,11,14,15,65,66,67]) (.ghost (.keep [5,6,14,15]) (.exit 2))) tu)
def tE:av:=
 YR [10] [.norm [5,6,14,15,17]] [YL 89 16 14 14,YL 90 16 5 5,Yo 91 (.eqF (ks8 16) false (.s 89) (.s 90)),Ym 92 91,YG 92 (YL 93 16 15 15),YG 92 (YL 94 16 6 6),YG 92 (Yo 95 (.eqF (ks8 16) false (.s 93) (.s 94))),Yp 96 92 95,Ym 10 96] .ret
def tv:av:=
 YR [4,5,6,11,14,15] [.norm [5,6,14,15]] [YL 64 16 14 14,Yz 15 15 16,Ys 16 15 15 64] (Yq (Yr [5,6,11,14,15,65,66,67] [YM 65 4,Yn 66 65,Yc 67 0] (.block 2 (.loop qV))) tE)
def qT:av:=
 Yq (Yr [4,5,6,11,14,63] [Ym 59 4,Yn 60 59,Ym 61 11,Yn 62 61,Yb 63 .neq 60 62] (Yd 63 (Yr [10] [Yw 10 false] .ret) (Yy [4,5,6,11,14]))) tv
def qd:av:=
 Yq (.alt (.ghost (.thaw 11 911) (.region [5,6,11,12] [.norm [5,6,911],.freeze [911]] [Ym 46 11,Yo 47 (.callw 174 none [.s 46] [(0,911)] [])])) (Yu [5,6,11,12] [Ym 46 11,Yk 47 175 46])) (.ghost (.unorg 4) (YR [4,5,6,11,12,14] [.norm [5,6,14]] [YL 48 16 5 5,Yz 14 14 16,Ys 16 14 14 48] (Yq (Yr [4,5,6,11,14,50] [Ym 49 12,YU 50 .not 49] (Yd 50 (Yq (Yr [4,5,6,11,14,53] [Ym 51 4,Yn 52 51,YB 53 .eql 52 0] (Yd 53 (Yr [10] [Yw 10 false] .ret) (Yy [4,5,6,11,14]))) tC) (Yy [4,5,6,11,14]))) qT)))
def tB:av:=
 Yr [2,3,5,6,11] [Yv 11 1] (Yr [2,3,5,6,11,12] [Yw 12 true] (Yq (.block 0 (.loop rR)) qd))
def pF:nH:=
 {n:=5,wr:=[2,3],res:=[.t 10],body:=YR [2,3,5,6] [.norm [5,6]] [Yx 5 5 16 0,Yx 6 6 16 1,Yw 10 false] (Yq (Yr [2,3,5,6,24] [Ym 18 2,YB 19 .lss 18 1,Ym 20 19,Yg 20 (Ym 21 2),Yg 20 (Ym 22 3),Yg 20 (Yb 23 .gtr 21 22),YP 24 20 23] (Yd 24 (Yr [10] [Yw 10 false] .ret) (Yy [2,3,5,6]))) tB)}
def J7:av:=
 Yq (.block 1 (Yr [2,4,6,7,8,28,29] [Ym 31 6,Yn 32 31,YB 33 .sub 32 1,Ym 8 33] (.region [2,4,6,7,28,29] [.norm [2,3,4,7]] [Ym 34 6,Ym 35 8,YX 36 16 34 35,Ym 37 6,Ym 38 8,Yi 39 16 37 38,YJ 40 16 39,YL 41 16 7 7,YK 42 169 40 41,Yk 43 165 42,YM 6 36,Ys 16 7 7 43]))) (Yu [2,4,6,7,28,29] [YB 44 .add 29 1,Ym 29 44])
def D9:av:=
 Yr [2,4,6,7,28,29,30] [Yb 30 .lss 29 28] (Yq (Yd 30 (Yy [2,4,6,7,28,29]) (YY [2,4,6,7])) J7)
def Eb:av:=
 YR [4,5] [.norm [2,3,4,7]] [Yf 45 0 2,Yl 46 2 45,YB 47 .add 46 1,YM 48 6,YL 49 16 7 7,YQ 50 49,YN 51 16 16 48 50,Yo 52 (.build [i64 0,.sl .plain none 0 []] [(0,1,.s 47),(1,1,.s 51)]),Ys 2 4 4 52,Yc 5 0] .ret
def Cc:av:=
 YR [2,4,6,7] [.norm [2,3,4,7]] [YL 21 16 3 3,Yk 22 166 21,Yk 23 165 22,Yz 7 7 16,Ys 16 7 7 23] (Yq (YR [2,4,6,7,28,29] [.norm [2,3,4,7]] [Yf 24 0 2,Yl 25 2 24,YE 26 .u64 25,YU 27 .xor 26,Yk 28 181 27,Yc 29 0] (.block 0 (.loop D9))) Eb)
def DF:av:=
 Yq (.block 1 (Yr [2,4,6,7,8,28,29] [Ym 31 6,Yn 32 31,YB 33 .sub 32 1,Ym 8 33] (.region [2,4,6,7,28,29] [.norm [2,3,4,7,906]] [Ym 34 6,Ym 35 8,YX 36 16 34 35,Ym 37 6,Ym 38 8,Yi 39 16 37 38,YL 40 16 906 39,YL 41 16 7 7,YK 42 169 40 41,Yk 43 165 42,YM 6 36,Ys 16 7 7 43]))) (Yu [2,4,6,7,28,29] [YB 44 .add 29 1,Ym 29 44])
def zD:av:=
 Yr [2,4,6,7,28,29,30] [Yb 30 .lss 29 28] (Yq (Yd 30 (Yy [2,4,6,7,28,29]) (YY [2,4,6,7])) DF)
def DJ:av:=
 YR [4,5] [.norm [2,3,4,7,906],.freeze [906]] [Yf 45 0 2,Yl 46 2 45,YB 47 .add 46 1,YM 48 6,YL 49 16 7 7,YQ 50 49,Yo 51 (.appendB 16 16 false 906 none (.s 48) (.s 50)),Yo 52 (.build [i64 0,.sl .plain none 0 []] [(0,1,.s 47),(1,1,.s 51)]),Ys 2 4 4 52,Yc 5 0] .ret
def xh:av:=
 YR [2,4,6,7] [.norm [2,3,4,7,906]] [YL 21 16 3 3,Yk 22 166 21,Yk 23 165 22,Yz 7 7 16,Ys 16 7 7 23] (Yq (YR [2,4,6,7,28,29] [.norm [2,3,4,7,906]] [Yf 24 0 2,Yl 25 2 24,YE 26 .u64 25,YU 27 .xor 26,Yk 28 181 27,Yc 29 0] (.block 0 (.loop zD))) DJ)
def A7:av:=
 YR [2,3,4,6] [.norm [2,3,4]] [Yf 18 1 2,Yl 19 2 18,Yk 20 180 19,YM 6 20] (.alt (.ghost (.hideB 2 1) (.ghost (.norm [2,3,4]) (.ghost (.thaw 6 906) xh))) Cc)
def rm:nH:=
 {n:=2,wr:=[],res:=[.cell 4 (some 2) 4,.t 5],body:=YR [2,3,4] [.norm [2,3,4]] [Yx 2 2 2 0,Yx 3 3 16 1,Yo 4 (.alloc 4 [i64 0,.sl (.own 16) none 0 []]),Yc 5 0] (Yq (YR [2,3,4,16] [.norm [2,3,4]] [YL 9 2 2 2,Yk 10 179 9,YU 11 .not 10,Ym 12 11,Yg 12 (Yf 13 0 2),Yg 12 (Yl 14 2 13),Yg 12 (YB 15 .eql 14 4294967296),YP 16 12 15] (Yd 16 (YR [4,5] [.norm [2,3,4]] [Yo 17 (.build [i64 0,.sl .plain none 0 []] []),Ys 2 4 4 17,Yc 5 1] .ret) (Yy [2,3,4]))) A7)}
def Ez:av:=
 .region [2,5,7] [.norm [1,2,5,7]] [Yz 7 7 16,Ys 16 7 7 31]
def D0:av:=
 .block 1 (.region [2,5] [.norm [1,2,5,7],.drop [7]] [YL 32 16 7 7,YL 33 16 5 5,YK 34 169 32 33,Yk 35 165 34,Ys 16 5 5 35])
def Ej:av:=
 YR [2,3] [.norm [1,2,5,7]] [YL 36 16 5 5,Ys 16 2 2 36,Yc 3 0] .ret
def AT:av:=
 YR [2,4] [.norm [1,2]] [Yf 16 1 1,Yl 17 1 16,YM 4 17] (YR [2,4,5] [.norm [1,2,5]] [Ym 18 4,Ym 19 4,Yn 20 19,YB 21 .sub 20 1,Yi 22 16 18 21,YJ 23 16 22,Yz 5 5 16,Ys 16 5 5 23] (Yq (YR [2,5,29] [.norm [1,2,5,29],.freeze [29]] [Ym 24 4,YM 25 4,Yn 26 25,YB 27 .sub 26 1,YX 28 16 24 27,Yo 29 (.callm 183 none [.s 28] [] [(1,29)])] (.block 0 (.range 184 (.s 29) [2,5] [30,31] Ez D0))) Ej))
def Bg:av:=
 Yq (YR [1,2,14] [.norm [1,2]] [Yf 12 0 1,Yl 13 1 12,YB 14 .eql 13 0] (Yd 14 (YR [2,3] [.norm [1,2]] [Yo 15 (.call 168 [.c (.sl .plain (some true) 0 [])] []),Ys 16 2 2 15,Yc 3 0] .ret) (Yy [1,2]))) AT
def pW:nH:=
 {n:=1,wr:=[],res:=[.cell 2 (some 16) 2,.t 3],body:=YR [1,2] [.norm [1,2]] [Yx 1 1 2 0,Yz 2 2 16,Yc 3 0] (Yq (YR [1,2,10] [.norm [1,2]] [YL 8 2 1 1,Yk 9 179 8,YU 10 .not 9] (Yd 10 (YR [2,3] [.norm [1,2]] [Yo 11 (.build (bys (bF 16)) []),Ys 16 2 2 11,Yc 3 1] .ret) (Yy [1,2]))) Bg)}
def BT:av:=
 Yr [2] [Yo 5 (.buildSl 16 0 [] []),Ym 6 0,YN 7 16 16 5 6,YM 2 7] .ret
def qY:nH:=
 {n:=1,wr:=[],res:=[.t 2],body:=Yr [] [Yv 2 16] (Yq (Yr [4] [Ym 3 0,Yo 4 (.eqnil false (.s 3) (.c (.lit (.slice none 0 0))))] (Yd 4 (Yr [2] [Yv 2 16] .ret) (Yy []))) BT)}
@[simp] theorem je(n:Nat):(bF n).take n=bF n:=List.take_of_length_le (by simp)
def Oz:aW:=⟨λds=>∃(nl:Option Bool) (l:List (List UInt8)),qm l∧l.length<=1000000∧ds=[ur nl l],λds=>Pr none (gDs (nth ds 0))⟩
theorem z1b{nl:Option Bool}{l:List (List UInt8)}{b:List UInt8}{n:Nat}(h:qm l)(hl:l.length<=1000000)(hn:n=l.length)(hb:b=dgs l):Oz.pre [.sl .plain nl n (bys b)]=True:=eq_true ⟨nl,l,h,hl,by rw[hn,hb];rfl⟩
theorem EE{m:cH}{nl:Option Bool}{l:List (List UInt8)}{b:List UInt8}{n:Nat}(h:qm l)(hn:n=l.length)(hb:b=dgs l):Oz.post [.sl m nl n (bys b)]= .sl (.own 16) none l.length (bys (dgs l)):=by simp only[Oz,Pr];rw[hn,hb,show nth [oH.sl m nl l.length (bys (dgs l))] 0=oH.sl m nl l.length (bys (dgs l)) from rfl,uv h]
def z4qa:aW:=⟨λds=>Oz.pre ds∧∀d,ds[0]? =some d->Ml d,Oz.post⟩
set_option maxHeartbeats 4000000 in
theorem z4O(E:Env):∀ds,z4qa.pre ds->ds.length=qY.n∧awp E qY.body (qH qY.res (z4qa.post ds)) (fP qY.wr ds):=by
 rintro _ ⟨⟨nl,l,hl,hn,rfl⟩,hk⟩;have hk:=hk _ rfl;rw[show z4qa.post [ur nl l]=Pr none l from EE hl rfl rfl];unfold ur at*
 match nl,hk with
 |some true,hk=>have h0:l=[]:=List.length_eq_zero_iff.1 hk.1;subst h0;simp(maxSteps:=999999) (disch:=first|omega|simp<;>omega|rfl) [fJ,oG,oF,qY,Pr,kT]
 |some false,_=>
  have e:=qL hl;simp(maxSteps:=999999) (disch:=first|omega|simp<;>omega|rfl) [fJ,oG,oF,qY,BT,Pr,e,kF]
  try omega
theorem z8d:∀ds d b,Oz.pre ds->ds[0]? =some d->Oz.pre (ds.set 0 (MS b d))∧Oz.post (ds.set 0 (MS b d))=Oz.post ds:=by
 rintro _ d b ⟨nl,l,hl,hn,rfl⟩ hd;simp only[List.getElem?_cons_zero,Option.some.injEq] at hd;subst hd;cases nl with
 |none=>exact⟨⟨some b,l,hl,hn,rfl⟩,by rw[show [ur none l].set 0 (MS b (ur none l))=[ur (some b) l] from rfl];exact(EE hl rfl rfl).trans (EE hl rfl rfl).symm⟩
 |some c=>exact⟨⟨some c,l,hl,hn,rfl⟩,rfl⟩
def okP(n:Int)(k:Nat):Bool:=decide (0<=n)&&decide (n<=4294967296)&&decide (k=oN n.toNat)
def pkA(n:Int)(nl:Option Bool)(l:List (List UInt8)):oH:= .agg [i64 n,ur nl l]
def gPn(d:oH):Int:=match d with| .agg (i::_)=>asI i|_=>0
def gPl(d:oH):List (List UInt8):=match d with| .agg [_,s]=>gDs s|_=>[]
@[simp] theorem LF(n:Int)(s:oH):gPn (.agg [i64 n,s])=n:=rfl
@[simp] theorem Mi(n:Int)(s:oH):gPl (.agg [i64 n,s])=gDs s:=rfl
def inI(n:Int):Prop:= -9223372036854775808<=n∧n<=9223372036854775807
def Lk:aW:=⟨λds=>∃(n:Int) (nl:Option Bool) (l:List (List UInt8)),inI n∧qm l∧l.length<=1000000∧ds=[pkA n nl l],λds=>bo (okP (gPn (nth ds 0)) (gPl (nth ds 0)).length)⟩
theorem Gv{n:Int}{nl:Option Bool}{l:List (List UInt8)}{b:List UInt8}{k:Nat}(hn:inI n)(h:qm l)(hl:l.length<=1000000)(hk:k=l.length)(hb:b=dgs l):Lk.pre [.agg [i64 n,.sl .plain nl k (bys b)]]=True:=eq_true ⟨n,nl,l,hn,h,hl,by rw[hk,hb];rfl⟩
theorem A5{n:Int}{m:cH}{nl:Option Bool}{l:List (List UInt8)}{b:List UInt8}{k:Nat}(h:qm l)(hk:k=l.length)(hb:b=dgs l):Lk.post [.agg [i64 n,.sl m nl k (bys b)]]=bo (okP n l.length):=by simp only[Lk];rw[hk,hb,show nth [oH.agg [i64 n,.sl m nl l.length (bys (dgs l))]] 0=oH.agg [i64 n,.sl m nl l.length (bys (dgs l))] from rfl,LF,Mi,uv h]
theorem O9{n:Int}(h0:0<=n)(h1:n<18446744073709551616):(UInt64.ofInt n).toNat=n.toNat:=by obtain⟨k,rfl⟩:=Int.eq_ofNat_of_zero_le h0;show(((k:Int)% 18446744073709551616).toNat% 18446744073709551616)=k;omega
set_option maxHeartbeats 4000000 in
theorem z01(E:Env)(h188:E.G 188=Ip):∀ds,Lk.pre ds->ds.length=rF.n∧awp E rF.body (qH rF.res (Lk.post ds)) (fP rF.wr ds):=by
 rintro _ ⟨n,nl,l,⟨hn1,hn2⟩,hl,hk,rfl⟩;rw[show Lk.post [pkA n nl l]=bo (okP n l.length) from A5 hl rfl rfl];unfold pkA ur;by_cases h0:0<=n
 ·by_cases h1:n<=4294967296
  ·simp(maxSteps:=999999) (disch:=first|omega|simp<;>omega|rfl) [fJ,oG,oF,rF,h188,dT,dF,h0,h1];rw[show(UInt64.ofInt n).toNat=n.toNat from O9 h0 (by omega)];simp only[okP,dT h0,dT h1,Bool.true_and];by_cases e:l.length=oN n.toNat
   ·rw[e];simp
   rw[dF e];simp;omega
  simp(maxSteps:=999999) (disch:=first|omega|simp<;>omega|rfl) [fJ,oG,oF,rF,h188,dT,dF,h0,h1];simp only[okP,dF h1];simp
 simp(maxSteps:=999999) (disch:=first|omega|simp<;>omega|rfl) [fJ,oG,oF,rF,h188,dT,dF,h0];simp only[okP,dF h0];simp
def Sf:CM:=⟨[],[1],λds=>∃(nl:Option Bool) (l:List (List UInt8)),qm l∧l.length<=1000000∧ds=[ur nl l],λ_=> .fn 184 [] [.bp 1 0],λds _=>[nth ds 0]⟩
@[simp] theorem z6ua:Sf.bx=[]:=rfl
@[simp] theorem z1ua:Sf.nb=[1]:=rfl
@[simp] theorem z2X(ds:List oH):Sf.post ds= .fn 184 [] [.bp 1 0]:=rfl
@[simp] theorem z9pa(d:oH)(j:Nat):Sf.out [d] j=[d]:=rfl
theorem RO{nl:Option Bool}{l:List (List UInt8)}{b:List UInt8}{n:Nat}(h:qm l)(hl:l.length<=1000000)(hn:n=l.length)(hb:b=dgs l):Sf.pre [.sl .plain nl n (bys b)]=True:=eq_true ⟨nl,l,h,hl,by rw[hn,hb];rfl⟩
set_option maxHeartbeats 4000000 in
theorem z42(E:Env):∀ds p,Sf.pre ds->ds.length=pP.n∧awp E pP.body (PY pP.res Sf p ds) (nW Sf.bx p ds):=by rintro _ p ⟨nl,l,hl,hn,rfl⟩;have e:(ak (ur nl l)=true):=rfl;simp(maxSteps:=999999) (disch:=first|omega|simp<;>omega|rfl) [pP,nW,PY,ur]
@[simp] theorem z1na(E:Env)(l:Nat)(el:Nat->Option (List oH))(i:Nat)(a b:zr)(Q:IQ)(p:Nat×Bool)(s:ASt):C4 E l el (.seq (.block i a) b) Q p s=C4 E l el (.block i a) (Ok (λp st=>C4 E l el b Q p st) Q) p s:=rfl
theorem N5{E:Env}{l:Nat}{el:Nat->Option (List oH)}{b:zr}{Q:IQ}{p:Nat×Bool}{s:ASt}(I:Nat×Bool->ASt->Prop)(h0:I p s)
  (h:∀p s,I p s->∀Q',(∀p' s',I p' s'->p.2=false->(p'=(p.1+1,false)∨p'=(p.1,true))->Q' .normal p' s')->(∀i p' s',Q' (.exit i) p' s'=Q (.exit i) p' s')->(∀p' s',Q' .ret p' s'=Q .ret p' s')->C4 E l el b Q' p s):C4 E l el (.loop b) Q p s:=
 ⟨I,h0,λp s hi=>h p s hi _ (λp' s' h1 h2 h3=>⟨h1,h2,h3⟩) (λ_ _ _=>rfl) (λ_ _=>rfl)⟩
def gSl(d:oH):List (List UInt8):=match d with| .ep [s]=>gDs s|_=>[]
def Pf:ItC:=⟨λx y=>x=[]∧∃(nl:Option Bool) (l:List (List UInt8)),qm l∧l.length<=1000000∧y=[.ep [ur nl l]],λ_ y i=>if i<(gSl (nth y 0)).length then some [i64 (((gSl (nth y 0)).length:Int)-1-i),.agg (bys (ul (gSl (nth y 0)) ((gSl (nth y 0)).length-1-i)))] else none,[]⟩
@[simp] theorem z8ta:Pf.lv=[]:=rfl
theorem Pu{nl:Option Bool}{l:List (List UInt8)}(h:qm l)(i:Nat):Pf.el [] [.ep [.sl .plain nl l.length (bys (dgs l))]] i=if i<l.length then some [i64 ((l.length:Int)-1-i),.agg (bys (ul l (l.length-1-i)))] else none:=by simp only[Pf];rw[show gSl (nth [oH.ep [.sl .plain nl l.length (bys (dgs l))]] 0)=gDs (.sl .plain nl l.length (bys (dgs l))) from rfl,uv h]
theorem Zw{nl:Option Bool}{l:List (List UInt8)}(h:qm l)(hl:l.length<=1000000):Pf.pre [] [.ep [.sl .plain nl l.length (bys (dgs l))]]:=⟨rfl,nl,l,h,hl,rfl⟩
set_option maxHeartbeats 4000000 in
theorem z1z(E:Env):∀x y l,Pf.pre x y->x.length=qQ.nx∧y.length=qQ.ny∧C4 E l (Pf.el x y) qQ.body (itQ (Pf.el x y)) (0,false) (WB l [] x y):=by
 rintro _ _ ln ⟨rfl,nl,l,h16,hn,rfl⟩;have hel:∀i,Pf.el [] [.ep [ur nl l]] i=if i<l.length then some [i64 ((l.length:Int)-1-i),.agg (bys (ul l (l.length-1-i)))] else none:=Pu h16;refine⟨rfl,rfl,?_⟩;generalize hQ:itQ (Pf.el [] [.ep [ur nl l]])=Q;have hdone:∀p st',p.2=true->Q .normal p st':=λp st' h=>by rw[<-hQ];exact .inl h
 have hend:∀p st',l.length<=p.1->Q .normal p st':=λp st' h=>by rw[<-hQ];exact .inr (by rw[hel,if_neg (by omega)])
 have hQx:∀p st',p.2=true->Q .ret p st':=λp st' h=>by rw[<-hQ];exact .inl h
 generalize Pf.el [] [.ep [ur nl l]]=el at hel;have hd:=qL h16;unfold ur;simp(maxSteps:=999999) (disch:=first|omega|simp<;>omega|rfl) [fJ,oG,oF,qQ,xN,xY,RF];refine Si λQ1 hQ1=> ?_;refine N5 (λp st'=>p.2=false∧p.1<=l.length∧st'=⟨[(0,oH.lit (Value.func (Fn.yield ln) #[] #[])),(1,.ep [.sl .plain nl l.length (bys (dgs l))])],[(3,i64 ((l.length:Int)-1-p.1))],[]⟩) ⟨rfl,Nat.zero_le _,by simp⟩ λp st' ⟨hp,hk,hst⟩ Q2 h2 hx hr=> ?_;obtain⟨i,b⟩:=p;subst hst;simp only at hp hk;subst hp;by_cases h:i<l.length
 ·have hlt:(0:Int)<=(l.length:Int)-1-i:=by omega
  have hat:=zW h16 (show l.length-1-i<l.length by omega);have e1:((l.length:Int)-1-i).toNat=l.length-1-i:=by omega
  simp(maxSteps:=999999) (disch:=first|omega|simp<;>omega|rfl) [fJ,oG,oF,uq,up,kT,kF,dT,dF,hlt];simp(maxSteps:=999999) (disch:=first|omega|simp<;>omega|rfl) [fJ,oG,oF,xK,hd,e1,hat,xG,xU,hel,or_imp,forall_and,and_imp,forall_eq];refine⟨⟨by omega,by omega⟩,by omega,h,?_,?_⟩
  ·simp(maxSteps:=999999) (disch:=first|omega|simp<;>omega|rfl) [fJ,oG,oF,kT,kF];show Q2 .ret (i,true) _;rw[hr,hQ1];exact hQx (i,true) _ rfl
  simp(maxSteps:=999999) (disch:=first|omega|simp<;>omega|rfl) [fJ,oG,oF,kT,kF];exact h2 (i+1,false) _ ⟨rfl,by show i+1<=l.length;omega,by simp;omega⟩ rfl (.inl rfl)
 have hlt:¬(0:Int)<=(l.length:Int)-1-i:=by omega
 simp(maxSteps:=999999) (disch:=first|omega|simp<;>omega|rfl) [fJ,oG,oF,uq,up,kT,kF,dT,dF,hlt,hx,hQ1];exact hend _ _ (by show l.length<=i;omega)
def FZ(l:List (List UInt8)):Nat->List UInt8
 |0=>ul l (l.length-1)
 |i+1=>bh 2 [ul l (l.length-2-i),FZ l i]
def Nr(n:Int)(l:List (List UInt8)):List UInt8×Nat:=if okP n l.length then(if n=0 then root [] else FZ l (l.length-1),0) else(bF 16,1)
def Mf:aW:=⟨λds=>∃(n:Int) (nl:Option Bool) (l:List (List UInt8)),inI n∧qm l∧l.length<=1000000∧ds=[pkA n nl l],λds=> .tup [.agg (bys (Nr (gPn (nth ds 0)) (gPl (nth ds 0))).1),i64 (Nr (gPn (nth ds 0)) (gPl (nth ds 0))).2]⟩
theorem LX{n:Int}{nl:Option Bool}{l:List (List UInt8)}{b:List UInt8}{k:Nat}(hn:inI n)(h:qm l)(hl:l.length<=1000000)(hk:k=l.length)(hb:b=dgs l):Mf.pre [.agg [i64 n,.sl .plain nl k (bys b)]]=True:=eq_true ⟨n,nl,l,hn,h,hl,by rw[hk,hb];rfl⟩
theorem Ef{n:Int}{m:cH}{nl:Option Bool}{l:List (List UInt8)}{b:List UInt8}{k:Nat}(h:qm l)(hk:k=l.length)(hb:b=dgs l):Mf.post [.agg [i64 n,.sl m nl k (bys b)]]= .tup [.agg (bys (Nr n l).1),i64 (Nr n l).2]:=by simp only[Mf];rw[hk,hb,show nth [oH.agg [i64 n,.sl m nl l.length (bys (dgs l))]] 0=oH.agg [i64 n,.sl m nl l.length (bys (dgs l))] from rfl,LF,Mi,uv h]
theorem vC{l:List (List UInt8)}(h:qm l)(h0:0<l.length):∀i,(FZ l i).length=16
 |0=>sG h (by omega)
 |i+1=>pG _ _
theorem Fx{n:Nat}(h:0<n):0<oN n:=by
 induction n using Nat.strongRecOn with
 |ind n ih=>
  rw[BX];by_cases h1:n% 2=1
  ·omega
  have:=ih (n/2) (by omega) (by omega);omega
set_option maxHeartbeats 8000000 in
theorem z8sa(E:Env)(h165:E.G 165=shM)(h169:E.G 169=EH)(hI184:E.I 184=Pf)(h183:E.M 183=Sf){n:Int}{nl:Option Bool}{l:List (List UInt8)}(hn:inI n)(hl:qm l)(hlen:l.length<=1000000)(hpos:0<l.length){Q0:aB->ASt->Prop}
  (hQ0:Q0=qH [gR.cell 2 (some 16) 2,gR.t 3] (oH.tup [oH.agg (bys (FZ l (l.length-1))),i64 0])):awp E AT Q0 ⟨[(0,oH.agg [i64 n,oH.sl cH.plain nl l.length (bys (dgs l))])],[(1,oH.bp 1 0),(2,oH.bp 2 0)],[(1,some [i64 n,oH.sl cH.plain nl l.length (bys (dgs l))]),(2,some (bys (bF 16)))]⟩:=by
 have hd:=qL hl;have hat:=zW hl (show l.length-1<l.length by omega);have hal:=sG hl (show l.length-1<l.length by omega);have e1:((l.length:Int)-1).toNat=l.length-1:=by omega
 have ht:=xt hl (l.length-1);unfold AT;rw[qg];refine oI λQ1 hQ1=> ?_;simp(maxSteps:=999999) (disch:=first|omega|simp<;>omega|rfl) [fJ,oG,oF,e1,hd,hat,hal];rw[hQ1];show awp E _ _ _;rw[qg];refine oI λQ2 hQ2=> ?_;simp(maxSteps:=999999) (disch:=first|omega|simp<;>omega|rfl) [fJ,oG,oF,e1,hd,hat,hal,oJ];refine⟨⟨by omega,by omega⟩,by omega,?_⟩;rw[hQ2];show awp E _ _ _;rw[qg];refine oI λQ3 hQ3=> ?_;rw[qg];refine oI λQ4 hQ4=> ?_;have b1:Sf.pre [.sl .plain nl (l.length-1) (bys (dgs (l.take (l.length-1))))]=True:=RO (sD hl _) (by simp;omega) (by simp) rfl;have di:∀(ids:List Nat) (f:Nat->List oH) (k:Int),eE ids f (i64 k)=i64 k:=λ_ _ _=>rfl;simp(maxSteps:=999999) (disch:=first|omega|simp<;>omega|rfl) [fJ,oG,oF,e1,hd,ht,h183,b1,di];refine⟨⟨by omega,by omega⟩,?_⟩;rw[hQ4];show awp E _ _ _;have hm:qm (l.take (l.length-1)):=sD hl _;have hml:(l.take (l.length-1)).length=l.length-1:=by simp
 have hmat:∀i,i<l.length-1->ul (l.take (l.length-1)) (l.length-1-1-i)=ul l (l.length-2-i):=λi hi=>by simp only[ul,List.getD,List.getElem?_take];rw[if_pos (by omega),show l.length-1-1-i=l.length-2-i by omega]
 have hel:=λi=>Pu (nl:=nl) hm i;rw[hml] at hel;generalize hm0:l.take (l.length-1)=m at*
 refine Hm [] [.ep [.sl .plain nl (l.length-1) (bys (dgs m))]] (by simp) (by simp) (by rw[hI184];rfl) (by rw[hI184];have:=Zw (nl:=nl) hm (by omega);rw[hml] at this;exact this) (by simp) l.length (λi bx=>i<=l.length-1∧bx=[(1,some [i64 n,.sl .plain nl l.length (bys (dgs l))]),(2,some (bys (bF 16))),(5,some (bys (FZ l i)))]) ⟨Nat.zero_le _,rfl⟩ (λi bx h=>by omega) (λi bx h he=> ?_) (λi bx xs hi he=> ?_)
 ·rw[hI184,hel] at he;obtain⟨hi,rfl⟩:=h;split at he
  ·cases he
  have hii:i=l.length-1:=by omega
  subst hii;have tl:=vC hl hpos (l.length-1);have tk:=oM tl;simp(maxSteps:=999999) (disch:=first|omega|simp<;>omega|rfl) [fJ,oG,oF,oo,dz,hQ3,Ej,tl,oJ,hQ0,tk]
 rw[hI184,hel] at he;obtain⟨hi,rfl⟩:=hi;split at he
 ·rename_i hlt;have he':=(Option.some.inj he).symm;subst he';have tl:=vC hl hpos i;refine⟨rfl,by simp,λV=> ?_⟩;have al:=sG hl (show l.length-2-i<l.length by omega);rw[hmat i hlt];simp(maxSteps:=999999) (disch:=first|omega|simp<;>omega|rfl) [fJ,oG,oF,oo,dz,Ez,D0,al,tl,oJ,h169,h165,CX,zQ,Tp,fk,oM];exact⟨of_eq_true (zQ (by have:=zJ (t:=2) (De al tl);simp only[List.length_cons,List.length_nil] at this;omega) rfl),by omega,rfl⟩
 cases he
set_option maxHeartbeats 8000000 in
theorem z96(E:Env)(h165:E.G 165=shM)(h168:E.G 168=FW)(h169:E.G 169=EH)(h179:E.G 179=Lk)(hI184:E.I 184=Pf)(h183:E.M 183=Sf):∀ds,Mf.pre ds->ds.length=pW.n∧awp E pW.body (qH pW.res (Mf.post ds)) (fP pW.wr ds):=by
 rintro _ ⟨n,nl,l,hn,hl,hlen,rfl⟩;rw[show Mf.post [pkA n nl l]= .tup [.agg (bys (Nr n l).1),i64 (Nr n l).2] from Ef hl rfl rfl,Nr];unfold pkA ur;have v1:=Gv (nl:=nl) hn hl hlen rfl rfl;have v2:=A5 (n:=n) (m:= .plain) (nl:=nl) hl rfl rfl;by_cases ho:okP n l.length=true
 ·rw[if_pos ho];rw[ho] at v2;by_cases h0:n=0
  ·rw[if_pos h0];subst h0;have r1:FW.pre [.sl .plain (some true) 0 []]=True:=Jb (l:=[]) (b:=[]) tg (by decide) rfl rfl;have r2:FW.post [.sl .plain (some true) 0 []]= .agg (bys (root [])):=E2 (l:=[]) (b:=[]) tg rfl rfl;have rl:=sH [];simp(maxSteps:=999999) (disch:=first|omega|simp<;>omega|rfl) [fJ,oG,oF,pW,h179,v1,v2,kT,kF,dT,dF,Bg,h168,r1,r2,rl,oJ,oM rl]
  rw[if_neg h0];have hpos:0<l.length:=by simp only[okP,Bool.and_eq_true,decide_eq_true_eq] at ho;have:=Fx (n:=n.toNat) (by omega);omega
  have hd:=qL hl;have hat:=zW hl (show l.length-1<l.length by omega);have hal:=sG hl (show l.length-1<l.length by omega);have e1:((l.length:Int)-1).toNat=l.length-1:=by omega
  have b1:Sf.pre [.sl .plain (if l.length=1 then nl else nl) (l.length-1) (bys (dgs (l.take (l.length-1))))]=True:=RO (sD hl _) (by simp;omega) (by simp) rfl;have ht:=xt hl (l.length-1);simp(maxSteps:=999999) (disch:=first|omega|simp<;>omega|rfl) [fJ,oG,oF,pW,h179,v1,v2,kT,kF,dT,dF,h0,Bg];refine z8sa E h165 h169 hI184 h183 hn hl hlen hpos ?_;rfl
 rw[if_neg ho];have ho':okP n l.length=false:=by simpa using ho
 rw[ho'] at v2;simp(maxSteps:=999999) (disch:=first|omega|simp<;>omega|rfl) [fJ,oG,oF,pW,h179,v1,v2,kT,kF,oJ]
def zY(l:List (List UInt8))(d:List UInt8):Nat->List UInt8
 |0=>bh 1 [d]
 |i+1=>bh 2 [ul l (l.length-1-i),zY l d i]
def xF(l:List (List UInt8))(d:List UInt8)(t:Nat):List (List UInt8):=l.take (l.length-t)++[zY l d t]
def H9(n:Int)(l:List (List UInt8))(d:List UInt8):(Int×List (List UInt8))×Nat:=if okP n l.length=true∧n≠4294967296 then((n+1,xF l d (t1N n.toNat)),0) else((0,[]),1)
def Xp(n:Int)(l:List (List UInt8)):Option Bool:=if okP n l.length=true∧n≠4294967296∧0<t1N n.toNat then some false else none
def Na:aW:=⟨λds=>∃(n:Int) (nl:Option Bool) (l:List (List UInt8)) (d:List UInt8),inI n∧qm l∧l.length<=1000000∧d.length=16∧ds=[pkA n nl l,.agg (bys d)],
 λds=> .tup [pkA (H9 (gPn (nth ds 0)) (gPl (nth ds 0)) (gBs (gCs (nth ds 1)))).1.1 (Xp (gPn (nth ds 0)) (gPl (nth ds 0))) (H9 (gPn (nth ds 0)) (gPl (nth ds 0)) (gBs (gCs (nth ds 1)))).1.2,i64 (H9 (gPn (nth ds 0)) (gPl (nth ds 0)) (gBs (gCs (nth ds 1)))).2]⟩
theorem L3{n:Int}{nl:Option Bool}{l:List (List UInt8)}{b d:List UInt8}{k:Nat}(hn:inI n)(h:qm l)(hl:l.length<=1000000)(hd:d.length=16)(hk:k=l.length)(hb:b=dgs l):Na.pre [.agg [i64 n,.sl .plain nl k (bys b)],.agg (bys d)]=True:=eq_true ⟨n,nl,l,d,hn,h,hl,hd,by rw[hk,hb];rfl⟩
theorem IS{n:Int}{m:cH}{nl:Option Bool}{l:List (List UInt8)}{b d:List UInt8}{k:Nat}(h:qm l)(hk:k=l.length)(hb:b=dgs l):Na.post [.agg [i64 n,.sl m nl k (bys b)],.agg (bys d)]= .tup [pkA (H9 n l d).1.1 (Xp n l) (H9 n l d).1.2,i64 (H9 n l d).2]:=by simp only[Na];rw[hk,hb,show nth [oH.agg [i64 n,.sl m nl l.length (bys (dgs l))],.agg (bys d)] 0=oH.agg [i64 n,.sl m nl l.length (bys (dgs l))] from rfl,show gBs (gCs (nth [oH.agg [i64 n,.sl m nl l.length (bys (dgs l))],.agg (bys d)] 1))=d from by simp[nth],LF,Mi,uv h]
theorem vA(l:List (List UInt8))(d:List UInt8):∀i,(zY l d i).length=16
 |0=>pG _ _
 |i+1=>pG _ _
theorem Vh{l:List (List UInt8)}(h:qm l)(d:List UInt8)(t:Nat):qm (xF l d t):=Mw.2 ⟨sD h _,pN.2 ⟨vA l d t,tg⟩⟩
theorem Ry{n:Int}(h0:0<=n)(h1:n<=4294967296): ~~~(UInt64.ofInt n)≠0∧tzN (~~~(UInt64.ofInt n)).toNat=t1N n.toNat:=by
 have e:=O9 h0 (show n<18446744073709551616 by omega);have e2:(~~~(UInt64.ofInt n)).toNat=2^64-1-n.toNat:=by rw[UInt64.toNat_not,e]
 refine⟨λh=> ?_,?_⟩
 ·have:=congrArg UInt64.toNat h;rw[e2] at this;change 2^64-1-n.toNat=0 at this;omega
 rw[e2];exact z3ca 64 _ (by omega)
abbrev z4ua(n:Int)(l:List (List UInt8))(d:List UInt8)(nl:Option Bool)(x y:oH)(bx:List (Nat×Option (List oH))):ASt:=
 ⟨[(0,.agg [i64 n,.sl .plain nl l.length (bys (dgs l))]),(1,.agg (bys d))],[(2,.bp 2 0),(3,.bp 3 0),(4,.bp 4 0),(6,x)],[(2,some [i64 n,y]),(3,some (bys d)),(4,some [i64 0,.sl (.own 16) none 0 []])]++bx⟩
set_option maxHeartbeats 8000000 in
theorem z7za(E:Env)(h165:E.G 165=shM)(h166:E.G 166=IY)(h169:E.G 169=EH)(h181:E.G 181=tzC){n:Int}{nl:Option Bool}{l:List (List UInt8)}{d:List UInt8}(h0:0<=n)(h1:n<4294967296)(hl:qm l)(hlen:l.length<=1000000)(hd:d.length=16)(ht:t1N n.toNat=0){Q0:aB->ASt->Prop}
  (hQ0:Q0=qH [gR.cell 4 (some 2) 4,gR.t 5] (.tup [pkA (n+1) none (xF l d 0),i64 0])):awp E Cc Q0 (z4ua n l d nl (.sl (.own 16) none l.length (bys (dgs l))) (.sl .plain nl l.length (bys (dgs l))) []):=by
 obtain⟨z1,z2⟩:=Ry h0 (by omega);have fl:=vA l d 0;have hdl:=qL hl;unfold Cc;rw[qg];refine oI λQ1 hQ1=> ?_;have i1:=zJ (t:=1) (pN.2 ⟨hd,tg⟩);simp only[List.length_cons,List.length_nil] at i1;have sp:shM.pre [.sl .plain (some false) (mY 1 [d]).length (bys (mY 1 [d]))]=True:=zQ (by omega) rfl;have sl:=iH (mY 1 [d]);simp(maxSteps:=999999) (disch:=first|omega|simp<;>omega|rfl) [fJ,oG,oF,h166,h165,Jc,sp,hd,oJ,sl,oM];rw[hQ1];show awp E _ _ _;rw[qg];refine oI λQ2 hQ2=> ?_;rw[qg];refine oI λQ3 hQ3=> ?_;obtain⟨u,hu⟩:∃u,~~~(UInt64.ofInt n)=u:=⟨_,rfl⟩;rw[hu] at z1 z2;have tp:tzC.pre [u64 u]=True:=PM z1;simp(maxSteps:=999999) (disch:=first|omega|simp<;>omega|rfl) [fJ,oG,oF,h181,hu,tp,z2,ht];rw[hQ3];show awp E _ _ _;refine dH (λi:Nat=>⟨[(0,.agg [i64 n,.sl .plain nl l.length (bys (dgs l))]),(1,.agg (bys d))],[(2,.bp 2 0),(4,.bp 4 0),(6,.sl (.own 16) none l.length (bys (dgs l))),(7,.bp 7 0),(28,i64 0),(29,i64 0)],[(2,some [i64 n,.sl .plain nl l.length (bys (dgs l))]),(3,some (bys d)),(4,some [i64 0,.sl (.own 16) none 0 []]),(7,some (bys (zY l d 0)))]⟩) (λi=>0) (λi=>True) 0 rfl trivial λi hi=> ?_;have tk:=oM fl;have td:l.take (l.length-0)=l:=by simp
 have ea:dgs (xF l d 0)=dgs l++zY l d 0:=by rw[xF,td,Ct,wV,JV,List.append_nil]
 have el:(xF l d 0).length=l.length+1:=by simp[xF]
 simp(maxSteps:=999999) (disch:=first|omega|simp<;>omega|rfl) [fJ,oG,oF,D9,kT,kF,dT,dF,hQ2,Eb,fl,tk,oJ,hdl,hQ0,pkA,ur,ea,el];omega
abbrev z2O(n:Int)(l:List (List UInt8))(d:List UInt8)(nl:Option Bool)(t i:Nat):ASt:=
 ⟨[(0,.agg [i64 n,.sl .plain nl l.length (bys (dgs l))]),(1,.agg (bys d))],[(2,.bp 2 0),(4,.bp 4 0),(6,.bv 906 16 0 (l.length-i) l.length),(7,.bp 7 0),(28,i64 t),(29,i64 i)],[(2,some [i64 n,.undef]),(3,some (bys d)),(4,some [i64 0,.sl (.own 16) none 0 []]),(7,some (bys (zY l d i))),(906,some (bys (dgs l)))]⟩
set_option maxHeartbeats 8000000 in
theorem z2ra(E:Env)(h165:E.G 165=shM)(h166:E.G 166=IY)(h169:E.G 169=EH)(h181:E.G 181=tzC){n:Int}{nl:Option Bool}{l:List (List UInt8)}{d:List UInt8}(h0:0<=n)(h1:n<4294967296)(hl:qm l)(hlen:l.length<=1000000)(hd:d.length=16){t:Nat}(ht:t1N n.toNat=t)(ht0:0<t)(htl:t<=l.length){Q0:aB->ASt->Prop}
  (hQ0:Q0=qH [gR.cell 4 (some 2) 4,gR.t 5] (.tup [pkA (n+1) (some false) (xF l d t),i64 0])):awp E xh Q0 ⟨[(0,.agg [i64 n,.sl .plain nl l.length (bys (dgs l))]),(1,.agg (bys d))],[(6,.bv 906 16 0 l.length l.length),(2,.bp 2 0),(3,.bp 3 0),(4,.bp 4 0),(6,.sl (.own 16) none l.length (bys (dgs l)))],[(906,some (bys (dgs l))),(2,some [i64 n,.undef]),(3,some (bys d)),(4,some [i64 0,.sl (.own 16) none 0 []])]⟩:=by
 obtain⟨z1,z2⟩:=Ry h0 (by omega);have hdl:=qL hl;unfold xh;rw[qg];refine oI λQ1 hQ1=> ?_;have i1:=zJ (t:=1) (pN.2 ⟨hd,tg⟩);simp only[List.length_cons,List.length_nil] at i1;have sp:shM.pre [.sl .plain (some false) (mY 1 [d]).length (bys (mY 1 [d]))]=True:=zQ (by omega) rfl;have sl:=iH (mY 1 [d]);simp(maxSteps:=999999) (disch:=first|omega|simp<;>omega|rfl) [fJ,oG,oF,h166,h165,Jc,sp,hd,oJ,sl,oM];rw[hQ1];show awp E _ _ _;rw[qg];refine oI λQ2 hQ2=> ?_;rw[qg];refine oI λQ3 hQ3=> ?_;obtain⟨u,hu⟩:∃u,~~~(UInt64.ofInt n)=u:=⟨_,rfl⟩;rw[hu] at z1 z2;have tp:tzC.pre [u64 u]=True:=PM z1;simp(maxSteps:=999999) (disch:=first|omega|simp<;>omega|rfl) [fJ,oG,oF,h181,hu,tp,z2,ht];rw[hQ3];show awp E _ _ _;refine dH (z2O n l d nl t) (λi=>t-i) (λi=>i<=t) 0 (by simp[z2O];rfl) (Nat.zero_le _) λi hi=> ?_;have fl:=vA l d i;have tk:=oM fl;by_cases hlt:i<t
 ·have lt':(i:Int)<t:=by omega
  have hat:=zW hl (show l.length-i-1<l.length by omega);have hal:=sG hl (show l.length-i-1<l.length by omega);have np:=CX hal fl;have i2:=zJ (t:=2) (De hal fl);simp only[List.length_cons,List.length_nil] at i2;have sp2:shM.pre [.sl .plain (some false) (mY 2 [ul l (l.length-i-1),zY l d i]).length (bys (mY 2 [ul l (l.length-i-1),zY l d i]))]=True:=zQ (by omega) rfl;have sl2:=iH (mY 2 [ul l (l.length-i-1),zY l d i]);have es:cT (mY 2 [ul l (l.length-i-1),zY l d i])=zY l d (i+1):=by rw[zY,show l.length-1-i=l.length-i-1 by omega];rfl
  have ei:(((l.length-i:Nat):Int)-1).toNat=l.length-i-1:=by omega
  refine oI λQ4 hQ4=> ?_;simp(maxSteps:=999999) (disch:=first|omega|simp<;>omega|rfl) [fJ,oG,oF,zD,kT,kF,dT,dF,lt',DF,hat,hdl,fl,tk,h169,np,h165,sp2,es,oJ,vA,oM,ei];refine⟨⟨by omega,by omega⟩,⟨by omega,by omega⟩,by omega,?_⟩;rw[hQ4];refine⟨i+1,by omega,by omega,?_⟩;have fl1:=vA l d (i+1);simp[z2O,oJ,fl,fl1];omega
 have lt':¬(i:Int)<t:=by omega
 have hit:i=t:=by omega
 subst hit;have et:dgs (xF l d i)=dgs (l.take (l.length-i))++zY l d i:=by rw[xF,Ct,wV,JV,List.append_nil]
 have el:(xF l d i).length=l.length-i+1:=by simp[xF]
 have edl:(dgs (xF l d i)).length=(l.length-i+1)*16:=by rw[qL (Vh hl d i),el]
 have ht:=xt hl (l.length-i);have hs:splice (bys (dgs l)) ((l.length-i)*16) (bys (zY l d i))=bys (dgs (xF l d i)++(dgs l).drop ((l.length-i)*16+16)):=by rw[et,<-ht];simp[splice,sP,fl]
 have hk:∀X,List.take ((l.length-i+1)*16) (bys (dgs (xF l d i)++X))=bys (dgs (xF l d i)):=λX=>by rw[mz,<-edl,List.take_left]
 have sp0:∀a b c e:oH,splice [a,b] 0 [c,e]=[c,e]:=λ_ _ _ _=>oJ rfl;have ic:∀a b c e f,ah (.bv a b c e f)=True:=λ_ _ _ _ _=>rfl;have cb:∀a b c e f,aA (.bv a b c e f)=[.bv a b c e f]:=λ_ _ _ _ _=>rfl;simp(maxSteps:=999999) (disch:=first|omega|simp<;>omega|rfl) [fJ,oG,oF,zD,kT,kF,dT,dF,lt',hQ2];unfold DJ;rw[qg];refine oI λQ5 hQ5=> ?_;rw[ji]
 iterate 10
  first|rw[iq,kw]|rw[iq,kG]
  refine⟨?_,?_⟩
  ·simp(maxSteps:=30000) (disch:=first|omega|simp<;>omega|rfl) [fJ,oJ,fl,tk,cb,sp0,ic,hdl]
   try omega
  simp(maxSteps:=30000) (disch:=first|omega|simp<;>omega|rfl) [fJ,oJ,fl,tk,cb,sp0,ic,hs,-iq]
 rw[iq];refine⟨?_,?_⟩
 ·simp
 have di:∀(ids:List Nat) (f:Nat->List oH) (k:Int),eE ids f (i64 k)=i64 k:=λ_ _ _=>rfl;have du:∀(ids:List Nat) (f:Nat->List oH),eE ids f .undef= .undef:=λ_ _=>rfl;simp[hk,eE,di,du];rw[hQ5];simp(maxSteps:=999999) (disch:=first|omega|simp<;>omega|rfl) [fJ,oG,oF,hQ0,pkA,ur,el]
theorem z4ga(E:Env)(h165:E.G 165=shM)(h166:E.G 166=IY)(h169:E.G 169=EH)(h179:E.G 179=Lk)(h180:E.G 180=Oz)(h181:E.G 181=tzC):∀ds,Na.pre ds->ds.length=rm.n∧awp E rm.body (qH rm.res (Na.post ds)) (fP rm.wr ds):=by
 rintro _ ⟨n,nl,l,d,hn,hl,hlen,hd,rfl⟩;rw[show Na.post [pkA n nl l,.agg (bys d)]= .tup [pkA (H9 n l d).1.1 (Xp n l) (H9 n l d).1.2,i64 (H9 n l d).2] from IS hl rfl rfl,H9,Xp];unfold pkA ur;have v1:=Gv (nl:=nl) hn hl hlen rfl rfl;have v2:=A5 (n:=n) (m:= .plain) (nl:=nl) hl rfl rfl;have c1:=z1b (nl:=nl) hl hlen rfl rfl;have c2:=EE (m:= .plain) (nl:=nl) hl rfl rfl;have hk:okP n l.length=false∨okP n l.length=true:=by cases okP n l.length<;>simp
 rcases hk with ho|ho
 ·rw[ho] at v2;have x1:¬(okP n l.length=true∧n≠4294967296):=by simp[ho]
  have x2:¬(okP n l.length=true∧n≠4294967296∧0<t1N n.toNat):=by simp[ho]
  rw[if_neg x1,if_neg x2];simp(maxSteps:=999999) (disch:=first|omega|simp<;>omega|rfl) [fJ,oG,oF,rm,h179,v1,v2,kT,kF,hd,oJ];skip
 rw[ho] at v2;by_cases h2:n=4294967296
 ·have x1:¬(okP n l.length=true∧n≠4294967296):=by simp[h2]
  have x2:¬(okP n l.length=true∧n≠4294967296∧0<t1N n.toNat):=by simp[h2]
  rw[if_neg x1,if_neg x2];subst h2;simp(maxSteps:=999999) (disch:=first|omega|simp<;>omega|rfl) [fJ,oG,oF,rm,h179,v1,v2,kT,kF,hd,oJ];skip
 obtain⟨g0,g1,g2⟩:0<=n∧n<4294967296∧l.length=oN n.toNat:=by simp only[okP,Bool.and_eq_true,decide_eq_true_eq] at ho;exact⟨ho.1.1,by omega,ho.2⟩
 have gt:=w5 n.toNat;have hbF:(n==4294967296)=false:=by simpa using h2
 by_cases h3:0<t1N n.toNat
 ·rw[if_pos ⟨ho,h2⟩,if_pos ⟨ho,h2,h3⟩];simp(maxSteps:=999999) (disch:=first|omega|simp<;>omega|rfl) [fJ,oG,oF,rm,h179,v1,v2,kT,kF,hd,oJ,hbF,dF,h2,A7,h180,c1,c2];refine .inl ?_;have lp:0<l.length:=by omega
  have ar:=z2ra E h165 h166 h169 h181 (nl:=nl) g0 g1 hl hlen hd rfl h3 (by omega) rfl;generalize xh=tq at*
  simp(maxSteps:=999999) (disch:=first|omega|simp<;>omega|rfl) [fJ,oG,oF,lp];refine⟨⟨rfl,λc hc=> ?_,rfl,rfl⟩,ar⟩;simp only[bys,List.mem_map] at hc;obtain⟨x,_,rfl⟩:=hc;rfl
 rw[if_pos ⟨ho,h2⟩,if_neg (λh=>h3 h.2.2)];have h30:t1N n.toNat=0:=by omega
 rw[h30];simp(maxSteps:=999999) (disch:=first|omega|simp<;>omega|rfl) [fJ,oG,oF,rm,h179,v1,v2,kT,kF,hd,oJ,hbF,dF,h2,A7,h180,c1,c2];refine .inr ?_;exact z7za E h165 h166 h169 h181 g0 g1 hl hlen hd h30 rfl
end Go.Abs