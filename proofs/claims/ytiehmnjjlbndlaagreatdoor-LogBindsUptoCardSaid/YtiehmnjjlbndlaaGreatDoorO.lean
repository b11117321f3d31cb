/- Lemmas. -/
import Derived.Test.YtiehmnjjlbndlaaGreatDoorN
set_option linter.all false
namespace Go.Abs
@[simp] theorem nA(E:Env)(a b:av)(Q:aB->ASt->Prop)(s:ASt):awp E (.alt a b) Q s=(awp E a Q s∨awp E b Q s):=rfl
@[simp] theorem jt(f:Nat)(x y:List oH):ao (.fn f x y)=false:=rfl
def d1(b:List UInt8):List Int×List UInt8×Nat:=nG 6 b
def c1(b:List UInt8):Cmd:=setN dE (d1 b).1
def b1(b:List UInt8):List UInt8:=(d1 b).2.1
def d2(b:List UInt8):List UInt8×Nat×Nat:=z4W (b1 b)
def c2(b:List UInt8):Cmd:={c1 b with data:=(d2 b).1}
def b2(b:List UInt8):List UInt8:=aft (b1 b) (d2 b).2.1 (d2 b).2.2
def d3(b:List UInt8):List Int×Nat×Nat:=ol co 1 (b2 b)
def c3(b:List UInt8):Cmd:={c2 b with list:=(d3 b).1}
def b3(b:List UInt8):List UInt8:=aft (b2 b) (d3 b).2.1 (d3 b).2.2
def dst(b:List UInt8):Nat->Cmd×List UInt8
 |0=>(dE,b)
 |1=>(c1 b,b1 b)
 |2=>(c2 b,b2 b)
 |_=>(c3 b,b3 b)
@[simp] theorem z7oa(c:Cmd)(nl:Option Bool):(yP c nl).length=8:=rfl
@[simp] theorem z61(c:Cmd)(nl:Option Bool):(∀x∈yP c nl,ah x)↔True:=by simp[yP]
@[simp] theorem z7la(c:Cmd)(nl:Option Bool):(∀x∈yP c nl,ao x=false)↔True:=by simp[yP]
@[simp] theorem z5W(c:Cmd)(nl:Option Bool):(yP c nl).take 8=yP c nl:=rfl
@[simp] theorem z8X(c:Cmd)(nl:Option Bool):au (yP c nl)=true:=by simp[yP,au]
theorem z0l{c:Cmd}(h:c.ok):∀x∈six c,aO x:=by obtain⟨h1,h2,h3,h4,h5,h6,_⟩:=h;intro x hx;simp only[six,List.mem_cons,List.not_mem_nil,or_false] at hx;rcases hx with rfl|rfl|rfl|rfl|rfl|rfl<;>assumption
theorem F3{c:Cmd}(h:c.small):(G0 c).length<=2000000000:=by have h6:=pM (z0l h.1);have hl:=pM (l:=c.list) h.1.2.2.2.2.2.2;have e1:=rJ (n:=(c.data.length:Int)) (by have:=h.2.1;constructor<;>omega);have e2:=rJ (n:=(c.list.length:Int)) (by have:=h.2.2;constructor<;>omega);have:=h.2.1;have:=h.2.2;simp only[six,List.length_cons,List.length_nil] at h6;simp only[G0,mX,qF,List.length_append];simp only[six];omega
set_option maxHeartbeats 8000000 in
theorem Y4(E:Env)(h132:E.G 132=wF):∀ds,BQ.pre ds->ds.length=sY.n∧awp E sY.body (qH sY.res (BQ.post ds)) (fP sY.wr ds):=by
 rintro _ ⟨c,d,nl,nl',hc,hd,rfl⟩;rw[AB];obtain⟨k1,k2,k3,k4,k5,k6,dt,ls⟩:=c;obtain⟨j1,j2,j3,j4,j5,j6,dt',ls'⟩:=d;have hll:=hc.2.2;simp only at hll;simp(maxSteps:=999999) (disch:=first|omega|simp<;>omega|rfl) [fJ,oG,oF,sY,CT,yP];refine oI λQ0 hQ0=> ?_;simp only[Gk] at hQ0;cases c1:k1==j1
 ·rw[c1] at hQ0;simp(maxSteps:=999999) (disch:=first|omega|simp<;>omega|rfl) [fJ,oG,oF,qq,c1,hQ0]
 rw[c1] at hQ0;cases c2:k2==j2
 ·rw[c2] at hQ0;simp(maxSteps:=999999) (disch:=first|omega|simp<;>omega|rfl) [fJ,oG,oF,qq,c1,c2,hQ0]
 rw[c2] at hQ0;cases c3:k3==j3
 ·rw[c3] at hQ0;simp(maxSteps:=999999) (disch:=first|omega|simp<;>omega|rfl) [fJ,oG,oF,qq,c1,c2,c3,hQ0]
 rw[c3] at hQ0;cases c4:k4==j4
 ·rw[c4] at hQ0;simp(maxSteps:=999999) (disch:=first|omega|simp<;>omega|rfl) [fJ,oG,oF,qq,c1,c2,c3,c4,hQ0]
 rw[c4] at hQ0;cases c5:k5==j5
 ·rw[c5] at hQ0;simp(maxSteps:=999999) (disch:=first|omega|simp<;>omega|rfl) [fJ,oG,oF,qq,c1,c2,c3,c4,c5,hQ0]
 rw[c5] at hQ0;cases c6:k6==j6
 ·rw[c6] at hQ0;simp(maxSteps:=999999) (disch:=first|omega|simp<;>omega|rfl) [fJ,oG,oF,qq,c1,c2,c3,c4,c5,c6,hQ0]
 rw[c6] at hQ0;cases c7:dt==dt'
 ·rw[c7] at hQ0;have d7:(dt=dt')=False:=by simpa using c7
  simp(maxSteps:=999999) (disch:=first|omega|simp<;>omega|rfl) [fJ,oG,oF,qq,c1,c2,c3,c4,c5,c6,d7,hQ0]
 rw[c7] at hQ0;have d7:(dt=dt')=True:=by simpa using c7
 simp(maxSteps:=999999) (disch:=first|omega|simp<;>omega|rfl) [fJ,oG,oF,qq,c1,c2,c3,c4,c5,c6,d7,h132,J5,hQ0]
theorem RN:∀(l:List Int) (r:List UInt8),(∀x∈l,aO x)->nG l.length (l.flatMap eU++r)=(l,r,0)
 |[],r,_=>rfl
 |n::l,r,h=>by
  have e:(n::l).flatMap eU++r=eU n++(l.flatMap eU++r):=by simp
  have g:=ML (h n (by simp)) (l.flatMap eU++r);rw[e,List.length_cons,z74 (by rw[g]),g];simp only[List.drop_left];rw[RN l r (λx hx=>h x (by simp[hx]))]
theorem UP{c:Cmd}(h:c.small):d1 (G0 c)=(six c,mX c.data++qF c.list,0):=RN (six c) _ (z0l h.1)
theorem z1n{c:Cmd}(h:c.small):d2 (G0 c)=(c.data,(mX c.data).length,0):=by have:=h.2.1;rw[d2,b1,UP h];exact z6f (by omega) _
theorem z9ca{c:Cmd}(h:c.small):b2 (G0 c)=qF c.list:=by rw[b2,z1n h,b1,UP h];simp[aft]
theorem z21{c:Cmd}(h:c.small):d3 (G0 c)=(c.list,(qF c.list).length,0):=by have:=h.2.2;have e:=VW (l:=c.list) (by omega) h.1.2.2.2.2.2.2 [];rw[List.append_nil] at e;rw[d3,z9ca h];exact e
theorem z3m{c:Cmd}(h:c.small):c3 (G0 c)=c:=by
 have e1:c1 (G0 c)=nv (six c) [] []:=by rw[c1,UP h];rfl
 rw[c3,z21 h,c2,z1n h,e1];rfl
theorem Zj{c d:Cmd}(hc:c.small)(hd:d.small)(h:G0 c=G0 d):c=d:=by rw[<-z3m hc,h,z3m hd]
theorem T4(c d:Cmd):Gk c d=true↔c=d:=by obtain⟨k1,k2,k3,k4,k5,k6,dt,ls⟩:=c;obtain⟨j1,j2,j3,j4,j5,j6,dt',ls'⟩:=d;simp[Gk,and_assoc]
structure sy where
 id:Int
 ty:Int
 uses:Int
 beg:Int
 fin:Int
 ver:Int
 par:Int
 raw:Bool
 dig:List UInt8
def uK(m:sy):List oH:=[i64 m.id,i64 m.ty,i64 m.uses,i64 m.beg,i64 m.fin,i64 m.ver,i64 m.par,bo m.raw]++bys m.dig
structure pm where
 time:Int
 kind:Int
 req:Int
 mode:Int
 cmd:Cmd
 dig:List UInt8
 made:List sy
 gone:List Int
def se(l:List sy):List oH:=l.flatMap uK
def qf(nc nm ng:Option Bool)(x:pm):List oH:=[i64 x.time,i64 x.kind,i64 x.req,i64 x.mode]++yP x.cmd nc++bys x.dig++[.sl .plain nm x.made.length (se x.made),.sl .plain ng x.gone.length (rD x.gone)]
def sy.ok(m:sy):Prop:=aO m.id∧aO m.ty∧aO m.uses∧aO m.beg∧aO m.fin∧aO m.ver∧aO m.par∧m.dig.length=16
def pm.ok(x:pm):Prop:=aO x.time∧aO x.kind∧aO x.req∧aO x.mode∧x.cmd.ok∧x.dig.length=16∧(∀m∈x.made,m.ok)∧∀n∈x.gone,aO n
def z9U(b:Bool):Int:=if b then 1 else 0
def vn(m:sy):List Int:=[m.id,m.ty,m.uses,m.beg,m.fin,m.ver,m.par,z9U m.raw]
def Ev(m:sy):List UInt8:=qF (vn m)++m.dig
def tL(x:pm):List UInt8:=qF [x.time,x.kind,x.req,x.mode]++(mX (G0 x.cmd)++(x.dig++(eU x.made.length++(x.made.flatMap Ev++qF x.gone))))
theorem Ob:∀{l l':List Int} {r r':List UInt8},l.length=l'.length->(∀x∈l,aO x)->(∀x∈l',aO x)->l.flatMap eU++r=l'.flatMap eU++r'->l=l'∧r=r'
 |[],[],_,_,_,_,_,h=>⟨rfl,by simpa using h⟩
 |a::l,b::l',r,r',hl,h1,h2,h=>by rw[List.flatMap_cons,List.flatMap_cons,List.append_assoc,List.append_assoc] at h;obtain⟨e1,e2⟩:=BA (h1 a (by simp)) (h2 b (by simp)) h;obtain⟨e3,e4⟩:=Ob (by simpa using hl) (λx hx=>h1 x (by simp[hx])) (λx hx=>h2 x (by simp[hx])) e2;exact⟨by rw[e1,e3],e4⟩
theorem C6{l l':List Int}{r r':List UInt8}(h1:∀x∈l,aO x)(h2:∀x∈l',aO x)(n1:l.length<=9223372036854775807)(n2:l'.length<=9223372036854775807)(h:qF l++r=qF l'++r'):l=l'∧r=r':=by rw[qF,qF,List.append_assoc,List.append_assoc] at h;obtain⟨e1,e2⟩:=BA ⟨by omega,by omega⟩ ⟨by omega,by omega⟩ h;exact Ob (by omega) h1 h2 e2
theorem GO{m:sy}(h:m.ok):∀x∈vn m,aO x:=by
 obtain⟨h1,h2,h3,h4,h5,h6,h7,_⟩:=h;intro x hx;simp only[vn,List.mem_cons,List.not_mem_nil,or_false] at hx;rcases hx with rfl|rfl|rfl|rfl|rfl|rfl|rfl|rfl
 all_goals first|assumption|skip
 unfold z9U;split<;>exact⟨by omega,by omega⟩
theorem OA{m m':sy}(h:m.ok)(h':m'.ok){r r':List UInt8}(e:Ev m++r=Ev m'++r'):m=m'∧r=r':=by rw[Ev,Ev,List.append_assoc,List.append_assoc] at e;obtain⟨e1,e2⟩:=C6 (GO h) (GO h') (by simp[vn]) (by simp[vn]) e;obtain⟨e3,e4⟩:=List.append_inj e2 (by rw[h.2.2.2.2.2.2.2,h'.2.2.2.2.2.2.2]);refine⟨?_,e4⟩;obtain⟨a1,a2,a3,a4,a5,a6,a7,a8,a9⟩:=m;obtain⟨b1,b2,b3,b4,b5,b6,b7,b8,b9⟩:=m';simp only[vn,List.cons.injEq,and_true] at e1;obtain⟨rfl,rfl,rfl,rfl,rfl,rfl,rfl,e8⟩:=e1;have e3:a9=b9:=e3;subst e3;cases a8<;>cases b8<;>simp[z9U] at e8⊢
theorem OS:∀{l l':List sy} {r r':List UInt8},l.length=l'.length->(∀x∈l,x.ok)->(∀x∈l',x.ok)->l.flatMap Ev++r=l'.flatMap Ev++r'->l=l'∧r=r'
 |[],[],_,_,_,_,_,h=>⟨rfl,by simpa using h⟩
 |a::l,b::l',r,r',hl,h1,h2,h=>by rw[List.flatMap_cons,List.flatMap_cons,List.append_assoc,List.append_assoc] at h;obtain⟨e1,e2⟩:=OA (h1 a (by simp)) (h2 b (by simp)) h;obtain⟨e3,e4⟩:=OS (by simpa using hl) (λx hx=>h1 x (by simp[hx])) (λx hx=>h2 x (by simp[hx])) e2;exact⟨by rw[e1,e3],e4⟩
def pm.small(x:pm):Prop:=x.ok∧x.cmd.small∧x.made.length<=1000000∧x.gone.length<=1000000
theorem XY{x y:pm}(hx:x.small)(hy:y.small)(h:tL x=tL y):x=y:=by
 obtain⟨⟨x1,x2,x3,x4,x5,x6,x7,x8⟩,xc,xm,xg⟩:=hx;obtain⟨⟨y1,y2,y3,y4,y5,y6,y7,y8⟩,yc,ym,yg⟩:=hy;rw[tL,tL] at h;have four:∀{a b c d:Int},aO a->aO b->aO c->aO d->∀z∈[a,b,c,d],aO z:=by intro a b c d ha hb hc hd z hz;simp only[List.mem_cons,List.not_mem_nil,or_false] at hz;rcases hz with rfl|rfl|rfl|rfl<;>assumption
 obtain⟨e1,h⟩:=C6 (four x1 x2 x3 x4) (four y1 y2 y3 y4) (by simp) (by simp) h;have lx:=F3 xc;have ly:=F3 yc;obtain⟨e2,h⟩:=If (by omega) (by omega) h;have e2:=Zj xc yc e2;obtain⟨e3,h⟩:=List.append_inj h (by rw[x6,y6]);obtain⟨e4,h⟩:=BA ⟨by omega,by omega⟩ ⟨by omega,by omega⟩ h;obtain⟨e5,h⟩:=OS (by omega) x7 y7 h;obtain⟨e6,_⟩:=C6 (r:=[]) (r':=[]) x8 y8 (by omega) (by omega) (by simpa using h);obtain⟨a1,a2,a3,a4,a5,a6,a7,a8⟩:=x;obtain⟨b1,b2,b3,b4,b5,b6,b7,b8⟩:=y;simp only[List.cons.injEq,and_true] at e1;obtain⟨rfl,rfl,rfl,rfl⟩:=e1;simp only at e2 e3 e5 e6;subst e2 e3 e5 e6;rfl
instance :DecidableEq sy:=λa b=>decidable_of_iff (a.id=b.id∧a.ty=b.ty∧a.uses=b.uses∧a.beg=b.beg∧a.fin=b.fin∧a.ver=b.ver∧a.par=b.par∧a.raw=b.raw∧a.dig=b.dig) (by
 cases a;cases b;simp)
def inR(n lo hi:Int):Bool:=decide (lo<=n)&&decide (n<=hi)
def NE:Int:=2147483647
def Qw:Int:=1099511627776
def S5(k:Int):Bool:=decide (k∈([2,4,5,6,8,10,15,19]:List Int))
def RT(c:Cmd):Cmd:=if S5 c.kind=true then {c with data:=[]} else c
def z3X:List UInt8:=bF 16
def NU(t m:Int):pm:=⟨t,0,0,m,dE,z3X,[],[]⟩
def vH(x y:pm):Bool:=x.time==y.time&&x.kind==y.kind&&x.req==y.req&&x.mode==y.mode&&decide (x.dig=y.dig)&&Gk x.cmd y.cmd&&decide (x.made=y.made)&&decide (x.gone=y.gone)
theorem Gl(x y:pm):vH x y=true↔x=y:=by
 obtain⟨a1,a2,a3,a4,a5,a6,a7,a8⟩:=x;obtain⟨b1,b2,b3,b4,b5,b6,b7,b8⟩:=y;simp only[vH,Bool.and_eq_true,beq_iff_eq,decide_eq_true_eq,T4,pm.mk.injEq];constructor
 ·rintro⟨⟨⟨⟨⟨⟨⟨h1,h2⟩,h3⟩,h4⟩,h5⟩,h6⟩,h7⟩,h8⟩;exact⟨h1,h2,h3,h4,h6,h5,h7,h8⟩
 rintro⟨h1,h2,h3,h4,h6,h5,h7,h8⟩;exact⟨⟨⟨⟨⟨⟨⟨h1,h2⟩,h3⟩,h4⟩,h5⟩,h6⟩,h7⟩,h8⟩
def EQ(m:sy):Bool:=inR m.id 1 NE&&inR m.ver 1 NE&&inR m.par 0 NE&&inR m.ty 0 31&&Jr m.uses&&inR m.beg 0 m.fin&&inR m.fin 0 Qw
def okE(x:pm):Bool:=inR x.time 0 Qw&&inR x.req 0 NE&&inR x.mode 1 5&&decide (x.made.length<=4096)&&decide (x.gone.length<=4096)&&x.made.all EQ&&
 (if x.kind=0 then vH x (NU x.time x.mode) else inR x.kind 1 27&&(x.cmd.kind==x.kind)&&(!S5 x.kind||decide (x.cmd.data=[])))
def mad0:sy:=⟨0,0,0,0,0,0,0,false,z3X⟩
def gLw{α:Type}(w:Nat)(g:List oH->α)(n:Nat)(cs:List oH):List α:=(List.range n).map λi=>g ((cs.drop (i*w)).take w)
theorem Dk{α:Type}{w:Nat}{enc:α->List oH}{P:α->Prop}(h1:∀a,P a->(enc a).length=w):∀(l:List α) (i:Nat),(∀a∈l,P a)->(l.flatMap enc).drop (i*w)=(l.drop i).flatMap enc
 |[],i,_=>by simp
 |a::l,0,_=>by simp
 |a::l,i+1,h=>by rw[List.drop_succ_cons,<-Dk h1 l i (λb hb=>h b (by simp[hb])),List.flatMap_cons,show(i+1)*w=(enc a).length+i*w by rw[h1 a (h a (by simp)),Nat.succ_mul,Nat.add_comm],<-List.drop_drop,List.drop_left]
theorem Wj{α:Type}{w:Nat}{g:List oH->α}{enc:α->List oH}{P:α->Prop}(h1:∀a,P a->(enc a).length=w)(h2:∀a,P a->g (enc a)=a)(l:List α)(h:∀a∈l,P a):gLw w g l.length (l.flatMap enc)=l:=by
 apply List.ext_getElem
 ·simp[gLw]
 intro i a1 a2;simp only[gLw,List.getElem_map,List.getElem_range];have hm:=h _ (List.getElem_mem a2);rw[Dk h1 l i h,List.drop_eq_getElem_cons a2,List.flatMap_cons,<-h1 _ hm,List.take_left,h2 _ hm]
def z2j(l:List oH):sy:=⟨asI (nth l 0),asI (nth l 1),asI (nth l 2),asI (nth l 3),asI (nth l 4),asI (nth l 5),asI (nth l 6),asB (nth l 7),gBs (l.drop 8)⟩
theorem Gn(m:sy):z2j (uK m)=m:=by simp[z2j,uK,nth]
theorem uc{m:sy}(h:m.dig.length=16):(uK m).length=24:=by simp[uK,h]
def KE(n:Nat)(cs:List oH):List sy:=gLw 24 z2j n cs
def PU(m:sy):Prop:=m.dig.length=16
theorem GE{l:List sy}(h:∀m∈l,PU m):KE l.length (se l)=l:=Wj (enc:=uK) (P:=PU) (λa ha=>uc ha) (λa _=>Gn a) l h
def gNn(d:oH):Nat:=match d with| .sl _ _ n _=>n|_=>0
def K4(l:List oH):pm:=⟨asI (nth l 0),asI (nth l 1),asI (nth l 2),asI (nth l 3),SU (l.drop 4),gBs ((l.drop 12).take 16),KE (gNn (nth l 28)) (gCs (nth l 28)),gIs (gCs (nth l 29))⟩
theorem Nt{nc nm ng:Option Bool}{x:pm}(hd:x.dig.length=16)(hm:∀m∈x.made,PU m):K4 (qf nc nm ng x)=x:=by
 have e1:(qf nc nm ng x).drop 4=yP x.cmd nc++(bys x.dig++[.sl .plain nm x.made.length (se x.made),.sl .plain ng x.gone.length (rD x.gone)]):=by simp[qf]
 have e2:(qf nc nm ng x).drop 12=bys x.dig++[.sl .plain nm x.made.length (se x.made),.sl .plain ng x.gone.length (rD x.gone)]:=by rw[show 12=4+8 by rfl,<-List.drop_drop,e1];rfl
 have e3:(qf nc nm ng x).drop 28=[.sl .plain nm x.made.length (se x.made),.sl .plain ng x.gone.length (rD x.gone)]:=by rw[show 28=12+16 by rfl,<-List.drop_drop,e2,List.drop_left' (by simp[hd])]
 have e4:nth (qf nc nm ng x) 28= .sl .plain nm x.made.length (se x.made):=by have:=congrArg (λl=>nth l 0) e3;simpa[nth] using this
 have e5:nth (qf nc nm ng x) 29= .sl .plain ng x.gone.length (rD x.gone):=by have:=congrArg (λl=>nth l 1) e3;simpa[nth] using this
 have e6:∀r,SU (yP x.cmd nc++r)=x.cmd:=λr=>Ou x.cmd nc;rw[K4,e4,e5,e1,e2,e6,List.take_left' (by simp[hd])];simp only[gNn,gCs,GE hm];simp[qf,nth]
def z6(l:List sy):Prop:=∀m∈l,m.ok
theorem sh{l:List sy}(h:z6 l):∀m∈l,PU m:=λm hm=>(h m hm).2.2.2.2.2.2.2
theorem wW{l:List sy}(h:∀m∈l,PU m):(se l).length=l.length*24:=by
 induction l with
 |nil=>rfl
 |cons a l ih=>have:=ih λm hm=>h m (by simp[hm]);rw[se] at this⊢;rw[List.flatMap_cons,List.length_append,this,uc (h a (by simp)),List.length_cons];omega
theorem uD{nc nm ng:Option Bool}{x:pm}(h:x.dig.length=16):(qf nc nm ng x).length=30:=by simp[qf,yP,h]
def z8p:aW:=⟨λds=>∃n lo hi:Int,ds=[i64 n,i64 lo,i64 hi],λds=>bo (inR (asI (nth ds 0)) (asI (nth ds 1)) (asI (nth ds 2)))⟩
@[simp] theorem z3va(n lo hi:Int):z8p.pre [i64 n,i64 lo,i64 hi]=True:=eq_true ⟨n,lo,hi,rfl⟩
@[simp] theorem X1(n lo hi:Int):z8p.post [i64 n,i64 lo,i64 hi]=bo (inR n lo hi):=rfl
def z2M:aW:=⟨λds=>∃k:Int,ds=[i64 k],λds=>bo (S5 (asI (nth ds 0)))⟩
@[simp] theorem z9ua(k:Int):z2M.pre [i64 k]=True:=eq_true ⟨k,rfl⟩
@[simp] theorem XV(k:Int):z2M.post [i64 k]=bo (S5 k):=rfl
def z0xa:aW:=⟨λds=>∃(c:Cmd) (nl:Option Bool),c.small∧ds=[.agg (yP c nl)],λds=> .agg (yP (RT (SU (gCs (nth ds 0)))) none)⟩
def gNc(d:oH):Option Bool:=match d with| .agg l=>(match nth l 7 with| .sl _ nl _ _=>nl|_=>none)|_=>none
def Qi:aW:=⟨z0xa.pre,λds=> .agg (yP (RT (SU (gCs (nth ds 0)))) (gNc (nth ds 0)))⟩
theorem XQ{c:Cmd}{nl:Option Bool}(h:c.small):Qi.pre [.agg (yP c nl)]=True:=eq_true ⟨c,nl,h,rfl⟩
theorem Oj(c:Cmd)(nl:Option Bool):Qi.post [.agg (yP c nl)]= .agg (yP (RT c) nl):=by show oH.agg (yP (RT (SU (yP c nl))) (gNc (.agg (yP c nl))))=_;rw[Ou];rfl
def z4G:aW:=⟨λds=>∃t m:Int,ds=[i64 t,i64 m],λds=> .agg (qf none none none (NU (asI (nth ds 0)) (asI (nth ds 1))))⟩
@[simp] theorem z4ya(t m:Int):z4G.pre [i64 t,i64 m]=True:=eq_true ⟨t,m,rfl⟩
@[simp] theorem z2b(t m:Int):z4G.post [i64 t,i64 m]= .agg (qf none none none (NU t m)):=rfl
def QO(ds:List oH):Prop:=∃(nc nm ng:Option Bool) (x:pm),x.small∧ds=[.agg (qf nc nm ng x)]
theorem ME{nc nm ng:Option Bool}{x:pm}(h:x.small):K4 (qf nc nm ng x)=x:=Nt h.1.2.2.2.2.2.1 (sh h.1.2.2.2.2.2.2.1)
def PQ:aW:=⟨QO,λds=>bo (okE (K4 (gCs (nth ds 0))))⟩
theorem Md{nc nm ng:Option Bool}{x:pm}(h:x.small):PQ.pre [.agg (qf nc nm ng x)]=True:=eq_true ⟨nc,nm,ng,x,h,rfl⟩
theorem Gd{nc nm ng:Option Bool}{x:pm}(h:x.small):PQ.post [.agg (qf nc nm ng x)]=bo (okE x):=by show bo (okE (K4 (qf nc nm ng x)))=_;rw[ME h]
def G2:aW:=⟨QO,λds=>st (tL (K4 (gCs (nth ds 0))))⟩
theorem Mb{nc nm ng:Option Bool}{x:pm}(h:x.small):G2.pre [.agg (qf nc nm ng x)]=True:=eq_true ⟨nc,nm,ng,x,h,rfl⟩
theorem Eg{nc nm ng:Option Bool}{x:pm}(h:x.small):G2.post [.agg (qf nc nm ng x)]=st (tL x):=by show st (tL (K4 (qf nc nm ng x)))=_;rw[ME h]
def C7:aW:=⟨QO,λds=> .agg (bys (bh 8 [tL (K4 (gCs (nth ds 0)))]))⟩
theorem QT{nc nm ng:Option Bool}{x:pm}(h:x.small):C7.pre [.agg (qf nc nm ng x)]=True:=eq_true ⟨nc,nm,ng,x,h,rfl⟩
theorem D5{nc nm ng:Option Bool}{x:pm}(h:x.small):C7.post [.agg (qf nc nm ng x)]= .agg (bys (bh 8 [tL x])):=by show oH.agg (bys (bh 8 [tL (K4 (qf nc nm ng x))]))=_;rw[ME h]
def Ih:aW:=⟨λds=>∃(nc nm ng nc' nm' ng':Option Bool) (x y:pm),x.small∧y.small∧ds=[.agg (qf nc nm ng x),.agg (qf nc' nm' ng' y)],λds=>bo (vH (K4 (gCs (nth ds 0))) (K4 (gCs (nth ds 1))))⟩
theorem R5{nc nm ng nc' nm' ng':Option Bool}{x y:pm}(h:x.small)(h':y.small):Ih.pre [.agg (qf nc nm ng x),.agg (qf nc' nm' ng' y)]=True:=eq_true ⟨nc,nm,ng,nc',nm',ng',x,y,h,h',rfl⟩
theorem GH{nc nm ng nc' nm' ng':Option Bool}{x y:pm}(h:x.small)(h':y.small):Ih.post [.agg (qf nc nm ng x),.agg (qf nc' nm' ng' y)]=bo (vH x y):=by show bo (vH (K4 (qf nc nm ng x)) (K4 (qf nc' nm' ng' y)))=_;rw[ME h,ME h']
def kM:List LK:=[.int .i64,.int .i64,.int .i64,.int .i64,.int .i64,.int .i64,.int .i64,.bool,.int .u8,.int .u8,.int .u8,.int .u8,.int .u8,.int .u8,.int .u8,.int .u8,.int .u8,.int .u8,.int .u8,.int .u8,.int .u8,.int .u8,.int .u8,.int .u8]
end Go.Abs