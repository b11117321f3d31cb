/- Lemmas. -/
import Derived.Test.YtiehmnjjlbndlaaGreatDoorC
import Derived.OrdersIn
import Derived.OwnWalkIn
import Derived.RangeFuncNested
import Derived.RangeFuncLeaves
import Derived.Scope
import Derived.Lib.Builder
import Derived.Lib.UnsafeStr
set_option linter.all false
namespace Go.Abs
structure af where
 dst:Option Nat
 guard:Option (Nat×Bool)
 op:AOp
 deriving Inhabited
section
variable {E : Env} {get get' : Nat -> oH} {getB getB' : Nat -> Option (List oH)}
theorem ac{y:Arg}(h:∀s∈y.rd,get s=get' s):arg E get y=arg E get' y:=by
 cases y with
 |s n=>exact h n (by simp[Arg.rd])
 |_=>rfl
theorem aD{y:Option Arg}{n:Nat}(h:∀s∈rdO y,get s=get' s):bnd E get y n=bnd E get' y n:=by
 cases y with
 |none=>rfl
 |some y=>simp only[bnd];rw[ac h]
theorem aq{y:Option Arg}{n:Nat}(h:∀s∈rdO y,get s=get' s):bn E get y n=bn E get' y n:=by
 cases y with
 |none=>rfl
 |some y=>simp only[bn];rw[ac h]
theorem GK{ys:List Arg}(h:∀s∈rdL ys,get s=get' s):ys.map (arg E get)=ys.map (arg E get'):=
 List.map_congr_left λy hy=>ac λs hs=>h s (List.mem_flatMap.2 ⟨y,hy,hs⟩)
theorem bS{ys:List Arg}(h:∀s∈rdL ys,get s=get' s):(ys.map λy=>dem (arg E get y))=ys.map λy=>dem (arg E get' y):=
 List.map_congr_left λy hy=>by rw[ac λs hs=>h s (List.mem_flatMap.2 ⟨y,hy,hs⟩)]
theorem EY:∀{ps:List (Nat×Nat×Arg)} {z:List oH},(∀s∈rdL (ps.map (·.2.2)),get s=get' s)->bO E get ps z=bO E get' ps z
 |[],_,_=>rfl
 |(off,k,y)::ps,z,h=>by simp only[List.map_cons,rdL,List.flatMap_cons,List.mem_append] at h;simp only[bO];rw[ac λs hs=>h s (.inl hs)];exact EY λs hs=>h s (.inr hs)
theorem aK:∀{ps:List (Nat×Nat×Arg)} {n:Nat},(∀s∈rdL (ps.map (·.2.2)),get s=get' s)->BP E get ps n=BP E get' ps n
 |[],_,_=>rfl
 |(off,k,y)::ps,n,h=>by simp only[List.map_cons,rdL,List.flatMap_cons,List.mem_append] at h;simp only[BP];rw[ac λs hs=>h s (.inl hs),aK λs hs=>h s (.inr hs)]
theorem aN{b:Option Nat}(h:∀i∈b.toList,getB i=getB' i):bxc getB b=bxc getB' b:=by
 cases b with
 |none=>rfl
 |some i=>exact h i (by simp)
theorem xC{b:Option Nat}(h:∀i∈b.toList,getB i=getB' i):bxl getB b=bxl getB' b:=by unfold bxl;rw[aN h]
theorem aM{f:Nat}{as:List oH}{bs:List Nat}(h:∀i∈bs,getB i=getB' i):bX E getB f as bs=bX E getB' f as bs∧cY E getB f as bs=cY E getB' f as bs:=by
 have h1:(λid=>if id∈bs then getB id else none)=λid=>if id∈bs then getB' id else none:=funext λid=>by
  split
  ·rename_i hi;exact h id hi
  rfl
 have h2:(λid=>if id∈bs then(getB id).getD [] else [])=λid=>if id∈bs then(getB' id).getD [] else []:=funext λid=>by
  split
  ·rename_i hi;rw[h id hi]
  rfl
 have h3:(∀id∈bs,∃cs,getB id=some cs∧∀c∈cs,ak c=true)=(∀id∈bs,∃cs,getB' id=some cs∧∀c∈cs,ak c=true):=by
  apply propext;constructor
  ·intro hh id hi;rw[<-h id hi];exact hh id hi
  intro hh id hi;rw[h id hi];exact hh id hi
 refine⟨?_,by unfold cY;rw[h2]⟩;unfold bX;simp only[h1,h2,h3]
theorem bB{ws:List (Nat×Nat)}(h:∀p∈ws,getB p.2=getB' p.2):∀(as:List oH) (j:Nat),cv getB ws j as=cv getB' ws j as∧iJ getB ws j as=iJ getB' ws j as
 |[],_=>⟨rfl,rfl⟩
 |a::as,j=>by
  obtain⟨h1,h2⟩:=bB h as (j+1);simp only[cv,iJ,h1,h2];cases hf:fnd ws j with
  |none=>exact⟨rfl,rfl⟩
  |some id=>simp only[h _ (dB hf),and_self]
theorem dD{f:Nat}{as:List oH}{ws ns:List (Nat×Nat)}(h:∀i∈(ws++ns).map (·.2),getB i=getB' i):okM E getB f as ws ns=okM E getB' f as ws ns∧fR E getB f as ws ns=fR E getB' f as ws ns:=by
 obtain⟨h1,h2⟩:=bB (ws:=ws) (λp hp=>h p.2 (List.mem_map.2 ⟨p,by simp[hp],rfl⟩)) as 0;have h3:(∀p∈ns,getB p.2=none∧cx p.2)=(∀p∈ns,getB' p.2=none∧cx p.2):=by
  apply propext;constructor
  ·intro hh p hp;rw[<-h p.2 (List.mem_map.2 ⟨p,by simp[hp],rfl⟩)];exact hh p hp
  intro hh p hp;rw[h p.2 (List.mem_map.2 ⟨p,by simp[hp],rfl⟩)];exact hh p hp
 unfold okM fR;simp only[h1,h2,h3,and_self]
theorem Wp{f:Nat}{as:List oH}{ws ns:List (Nat×Nat)}(h:∀i∈(ws++ns).map (·.2),getB i=getB' i):okW E getB f as ws ns=okW E getB' f as ws ns∧gk E getB f as ws ns=gk E getB' f as ws ns:=by
 have h1:(∀p∈ws,∃cs,getB p.2=some cs∧gv ws cs)=(∀p∈ws,∃cs,getB' p.2=some cs∧gv ws cs):=by
  apply propext;constructor
  ·intro hh p hp;rw[<-h p.2 (List.mem_map.2 ⟨p,by simp[hp],rfl⟩)];exact hh p hp
  intro hh p hp;rw[h p.2 (List.mem_map.2 ⟨p,by simp[hp],rfl⟩)];exact hh p hp
 have h3:(∀p∈ns,getB p.2=none∧cx p.2)=(∀p∈ns,getB' p.2=none∧cx p.2):=by
  apply propext;constructor
  ·intro hh p hp;rw[<-h p.2 (List.mem_map.2 ⟨p,by simp[hp],rfl⟩)];exact hh p hp
  intro hh p hp;rw[h p.2 (List.mem_map.2 ⟨p,by simp[hp],rfl⟩)];exact hh p hp
 have mem:∀{l:List (Nat×Nat)} {k x:Nat},fnd l k=some x->(k,x)∈l:=λ{l}=>by
  induction l with
  |nil=>intro k x h;simp[fnd] at h
  |cons p l ih=>
   intro k x h;obtain⟨k',y⟩:=p;simp only[fnd] at h;split at h
   ·cases h;subst_vars;simp
   exact List.mem_cons_of_mem _ (ih h)
 have h2:Ky getB ws=Ky getB' ws:=funext λj=>by
  unfold Ky;cases hf:fnd ws j with
  |none=>rfl
  |some id=>simp only[h id (List.mem_map.2 ⟨(j,id),by simp[mem hf],rfl⟩)]
 unfold okW gk;simp only[h1,h2,h3,and_self]
theorem cC{b:Option Nat}{n:Nat}{p:oH}(h:∀i∈b.toList,getB i=getB' i)(hp:∀id off,p= .bp id off->b=some id->getB id=getB' id):cA getB b n p=cA getB' b n p:=by
 unfold cA;cases p with
 |bp id off=>
  simp only;apply propext;constructor
  ·rintro⟨rfl,h1⟩;rw[hp id off rfl rfl] at h1;exact⟨rfl,h1⟩
  rintro⟨rfl,h1⟩;rw[<-hp id off rfl rfl] at h1;exact⟨rfl,h1⟩
 |_=>rfl
theorem aV{id b:Nat}{p q:Prop}(h:id=b->p=q):(id=b∧p)=(id=b∧q):=by
 apply propext;constructor
 ·rintro⟨rfl,h1⟩;rw[h rfl] at h1;exact⟨rfl,h1⟩
 rintro⟨rfl,h1⟩;rw[<-h rfl] at h1;exact⟨rfl,h1⟩
theorem bZ(x:AOp)(hs:∀s∈x.rdS,get s=get' s)(hb:∀i∈x.rdB,getB i=getB' i):eff E get getB x=eff E get' getB' x∧okp E get getB x=okp E get' getB' x:=by
 cases x<;>simp only[AOp.rdS,AOp.rdB,List.mem_append,or_imp,forall_and,List.mem_cons,List.not_mem_nil,or_false,false_imp_iff,implies_true,forall_eq,and_true] at hs hb
 case mv take y=>have h1:=ac (E:=E) hs;refine⟨?_,rfl⟩;cases take<;>cases y<;>simp only[eff,h1]<;>simp_all [Arg.rd]
 case pick c p q=>obtain⟨⟨h1,h2⟩,h3⟩:=hs;simp only[eff,okp,ac (E:=E) h1,ac (E:=E) h2,ac (E:=E) h3,and_self]
 case bin=>simp only[eff,okp,ac (E:=E) hs.1,ac (E:=E) hs.2,and_self]
 case eqF=>simp only[eff,okp,ac (E:=E) hs.1,ac (E:=E) hs.2,and_self]
 case eqnil=>simp only[eff,okp,ac (E:=E) hs.1,ac (E:=E) hs.2,and_self]
 case un=>simp only[eff,okp,ac (E:=E) hs,and_self]
 case toInt=>simp only[eff,okp,ac (E:=E) hs,and_self]
 case toStr=>simp only[eff,okp,ac (E:=E) hs,xC hb,aN hb,and_self]
 case toBytes=>simp only[eff,okp,ac (E:=E) hs,and_self]
 case extractO=>simp only[eff,okp,hs,and_self]
 case buildO=>simp only[eff,okp,hs,and_self]
 case boxO=>simp only[eff,okp,hs,hb,and_self]
 case build=>have hs':∀s∈rdL _,(λn=>dem (get n)) s=(λn=>dem (get' n)) s:=λs h=>congrArg dem (hs s h);simp only[eff,okp,EY (E:=E) hs',aK (E:=E) hs',and_self]
 case buildSl=>simp only[eff,okp,EY (E:=E) hs,aK (E:=E) hs,and_self]
 case load k b take y=>
  have h1:=ac (E:=E) hs;have h2:=xC hb;refine⟨?_,?_⟩
  ·have h3:∀p,aL getB b p=aL getB' b p:=λp=>by cases p<;>simp only[aL,h2]
   cases k<;>cases take<;>simp only[eff,h1,h3,h2]
  simp only[okp,h1];exact congrArg (· ∧_) (cC hb (λid _ _ e=>hb id (by simp[e])))
 case store k b take p v=>
  have h1:=ac (E:=E) hs.1;have h2:=ac (E:=E) hs.2;have h3:bxl getB (some b)=bxl getB' (some b):=xC (by simpa using hb);refine⟨?_,?_⟩
  ·cases k<;>cases take<;>cases v<;>simp only[eff,h1,h2,h3]<;>simp_all [Arg.rd]
  simp only[okp,h1,h2];congr 1;congr 1;split
  ·rename_i id off e;exact aV λe=>by rw[e,hb]
  rfl
 case nilchk=>simp only[eff,okp,ac (E:=E) hs,and_self]
 case buildBx=>simp only[eff,okp,EY (E:=E) hs,aK (E:=E) hs,hb,and_self]
 case fieldAddr=>simp only[eff,okp,ac (E:=E) hs,and_self]
 case idxArr=>simp only[eff,okp,ac (E:=E) hs.1,ac (E:=E) hs.2,and_self]
 case idxSl=>simp only[eff,okp,ac (E:=E) hs.1,ac (E:=E) hs.2,and_self]
 case slArr=>obtain⟨⟨⟨h1,h2⟩,h3⟩,h4⟩:=hs;simp only[eff,okp,ac (E:=E) h1,aD (E:=E) h2,aD (E:=E) h3,aD (E:=E) h4,aq (E:=E) h2,aq (E:=E) h3,aq (E:=E) h4,and_self]
 case slSl=>obtain⟨⟨⟨h1,h2⟩,h3⟩,h4⟩:=hs;simp only[eff,okp,ac (E:=E) h1,aD (E:=E) h2,aD (E:=E) h3,aD (E:=E) h4,aq (E:=E) h2,aq (E:=E) h3,aq (E:=E) h4,and_self]
 case slStr=>obtain⟨⟨h1,h2⟩,h3⟩:=hs;simp only[eff,okp,ac (E:=E) h1,aD (E:=E) h2,aD (E:=E) h3,aq (E:=E) h2,aq (E:=E) h3,and_self]
 case s2ap=>simp only[eff,okp,ac (E:=E) hs,and_self]
 case alloc=>simp only[eff,okp,hb,and_self]
 case box id k take y=>have h1:=ac (E:=E) hs;refine⟨?_,by simp only[okp,h1,hb]⟩;cases k<;>cases take<;>cases y<;>simp only[eff,h1]<;>simp_all [Arg.rd]
 case extract=>simp only[eff,okp,ac (E:=E) hs,and_self]
 case idxA=>simp only[eff,okp,ac (E:=E) hs.1,ac (E:=E) hs.2,and_self]
 case idxStr=>simp only[eff,okp,ac (E:=E) hs.1,ac (E:=E) hs.2,and_self]
 case call f as bs=>simp only[eff,okp,GK (E:=E) hs,(aM (E:=E) hb).1,(aM (E:=E) hb).2,and_self]
 case callv f t as bs=>simp only[eff,okp,ac (E:=E) hs.1,GK (E:=E) hs.2,(aM (E:=E) hb).1,(aM (E:=E) hb).2,and_self]
 case callm f t as ws ns=>
  have h1:=GK (E:=E) hs.2;obtain⟨h2,h3⟩:=dD (E:=E) (f:=f) (as:=match t with|none=>as.map (arg E get')|some t=>xX (arg E get' t) (as.map (arg E get'))) hb;cases t with
  |none=>simp only[eff,okp,h1];exact⟨h3,by rw[h2]⟩
  |some t=>have h4:=ac (E:=E) (y:=t) (by simpa[rdO] using hs.1);simp only[eff,okp,h1,h4];exact⟨h3,by rw[h2]⟩
 case callw f t as ws ns=>
  have h1:=GK (E:=E) hs.2;obtain⟨h2,h3⟩:=Wp (E:=E) (f:=f) (as:=match t with|none=>as.map (arg E get')|some t=>xX (arg E get' t) (as.map (arg E get'))) hb;cases t with
  |none=>simp only[eff,okp,h1];exact⟨h3,by rw[h2]⟩
  |some t=>have h4:=ac (E:=E) (y:=t) (by simpa[rdO] using hs.1);simp only[eff,okp,h1,h4];exact⟨h3,by rw[h2]⟩
 case len=>simp only[eff,okp,ac (E:=E) hs,and_self]
 case append=>simp only[eff,okp,okp.okApp,hs.1,ac (E:=E) hs.2,xC hb,aN hb,and_self]
 case appendC=>simp only[eff,okp,okp.okApp,ac (E:=E) hs.1,ac (E:=E) hs.2,xC hb,aN hb,and_self]
 case copy esz str db b p q=>
  have h1:=ac (E:=E) hs.1;have h2:=ac (E:=E) hs.2;have h3:bxl getB (some db)=bxl getB' (some db):=xC (by simpa using hb.1);have h4:=xC hb.2;have h5:=aN hb.2;refine⟨?_,?_⟩
  ·simp only[eff,h1,h2,h3,h4]
  simp only[okp,h1,h2,h4,h5];congr 1;congr 1;split
  ·exact aV λe=>by rw[e,hb.1]
  rfl
 case appendB esz by' str db b p q=>
  have h1:=ac (E:=E) hs.1;have h2:=ac (E:=E) hs.2;have h3:bxl getB (some db)=bxl getB' (some db):=xC (by simpa using hb.1);have h4:=xC hb.2;have h5:=aN hb.2;refine⟨?_,?_⟩
  ·simp only[eff,h1,h2,h3,h4]
  simp only[okp,h1,h2,h4,h5];congr 1;congr 1;split
  ·exact aV λe=>by rw[hb.1]
  rfl
 case mkfn=>simp only[eff,okp,bS (E:=E) hs.1,bS (E:=E) hs.2,and_self]
 case mkmap=>simp only[eff,okp,and_self]
 case loadP=>simp only[eff,okp,hs.1,ac (E:=E) hs.2,and_self]
 case slP=>simp only[eff,okp,hs.1,ac (E:=E) hs.2,and_self]
 case appendP=>simp only[eff,okp,hs.1,ac (E:=E) hs.2,and_self]
 case unsup=>exact⟨rfl,rfl⟩
end
def af.W(o:af):List Nat:=o.dst.toList++o.op.wrS
def af.R(o:af):List Nat:=(match o.guard with|some (s,_)=>[s]|none=>[])++o.op.rdS
def bR:oH:= .lit undef
def fG(v:oH)(want:Bool):Bool:=match v with| .lit (.bool b)=>b==want|_=>false
def okG(v:oH):Prop:=isB v∨v=bR
def ai(E:Env)(o:af)(st:ASt):ASt:=
 let e:=eff E st.get st.getB o.op
 let run:ASt:={st with env:=(o.dst.toList.map λs=>(s,e.val))++e.sl++st.env,box:=e.bx++st.box}
 match o.guard with
 |none=>run
 |some (s,want)=>if fG (st.get s) want=true then run else {st with env:=(o.dst.toList.map λs=>(s,bR))++st.env}
def okA(E:Env)(o:af)(st:ASt):Prop:=
 (∀s∈o.W,lk st.org s=none)∧
 match o.guard with
 |none=>okp E st.get st.getB o.op
 |some (s,want)=>okG (st.get s)∧(fG (st.get s) want=true->okp E st.get st.getB o.op)
def C3(E:Env):List af->ASt->ASt
 |[],st=>st
 |o::os,st=>C3 E os (ai E o st)
def Aa(E:Env):List af->ASt->Prop
 |[],_=>True
 |o::os,st=>okA E o st∧Aa E os (ai E o st)
structure cn (st st':ASt):Prop where
 org:st.org=st'.org
 env:∀s,lk st.env s=lk st'.env s
 box:∀id,lk st.box id=lk st'.box id
theorem cn.refl(st:ASt):cn st st:=⟨rfl,λ_=>rfl,λ_=>rfl⟩
theorem cn.trans{a b c:ASt}(h:cn a b)(k:cn b c):cn a c:=⟨h.org.trans k.org,λs=>(h.env s).trans (k.env s),λs=>(h.box s).trans (k.box s)⟩
theorem cn.symm{a b:ASt}(h:cn a b):cn b a:=⟨h.org.symm,λs=>(h.env s).symm,λs=>(h.box s).symm⟩
theorem cn.get{a b:ASt}(h:cn a b):a.get=b.get:=funext λs=>by simp only[ASt.get,h.env,h.org]
theorem cn.getB{a b:ASt}(h:cn a b):a.getB=b.getB:=funext λs=>by simp only[ASt.getB,h.box]
theorem NQ{E:Env}(o:af){a b:ASt}(h:cn a b):cn (ai E o a) (ai E o b):=by
 have hg:=h.get;have hb:=h.getB;have key:∀(l:List (Nat×oH)) (m:List (Nat×Option (List oH))),cn {a with env:=l++a.env,box:=m++a.box} {b with env:=l++b.env,box:=m++b.box}:=λl m=>⟨h.org,λs=>by simp only[aI,h.env],λs=>by simp only[aI,h.box]⟩;unfold ai;rw[hg,hb];cases o.guard with
 |none=>exact key _ _
 |some sw=>
  obtain⟨s,want⟩:=sw;simp only;split
  ·exact key _ _
  exact key _ []
theorem z9P{E:Env}(o:af){a b:ASt}(h:cn a b)(hok:okA E o a):okA E o b:=by
 have hg:=h.get;have hb:=h.getB;unfold okA at*
 rw[<-hg,<-hb,<-h.org];exact hok
theorem RV{E:Env}:∀(os:List af) {a b:ASt},cn a b->cn (C3 E os a) (C3 E os b)
 |[],_,_,h=>h
 |o::os,_,_,h=>RV os (NQ o h)
theorem Ll{E:Env}:∀(os:List af) {a b:ASt},cn a b->Aa E os a->Aa E os b
 |[],_,_,_,_=>trivial
 |o::os,_,_,h,hk=>⟨z9P o h hk.1,Ll os (NQ o h) hk.2⟩
theorem ce(E:Env)(get:Nat->oH)(getB:Nat->Option (List oH))(x:AOp):(∀p∈(eff E get getB x).sl,p.1∈x.wrS)∧(∀p∈(eff E get getB x).bx,p.1∈x.wrB):=by
 cases x
 case mv take y=>cases take<;>cases y<;>simp[eff,AOp.wrS]
 case load k b take y=>cases k<;>cases take<;>cases b<;>simp only[eff]<;>(try split)<;>simp[AOp.wrB]<;>(intros;simp_all)
 case store k b take p v=>cases k<;>cases take<;>cases v<;>simp[eff,AOp.wrS,AOp.wrB]
 case box id k take y=>cases k<;>cases take<;>cases y<;>simp[eff,AOp.wrS,AOp.wrB]
 case copy=>simp only[eff];split<;>simp[AOp.wrB]
 case buildO=>simp[eff,AOp.wrS]
 case slP=>simp[eff,AOp.wrS]
 case appendP=>simp[eff,AOp.wrS]
 case boxO=>simp[eff,AOp.wrS,AOp.wrB]
 case appendB=>simp only[eff];split<;>simp[AOp.wrB]
 case callm f t as ws ns=>
  refine⟨by cases t<;>simp[eff,fR],λp hp=> ?_⟩;have:∀as',p∈(fR E getB f as' ws ns).bx->p.1∈(ws++ns).map (·.2):=λas' h=>by simp only[fR,List.mem_map] at h;obtain⟨q,hq,rfl⟩:=h;exact List.mem_map.2 ⟨q,hq,rfl⟩
  exact this _ hp
 case callw f t as ws ns=>
  refine⟨by cases t<;>simp[eff,gk],λp hp=> ?_⟩;have:∀as',p∈(gk E getB f as' ws ns).bx->p.1∈(ws++ns).map (·.2):=λas' h=>by simp only[gk,List.mem_map] at h;obtain⟨q,hq,rfl⟩:=h;exact List.mem_map.2 ⟨q,hq,rfl⟩
  exact this _ hp
 all_goals simp[eff,AOp.wrS,AOp.wrB]
theorem Do{α:Type}{l:List (Nat×α)}{s:Nat}(h:∀p∈l,p.1≠s):lk l s=none:=by
 induction l with
 |nil=>rfl
 |cons p l ih=>obtain⟨k,x⟩:=p;simp only[lk];rw[if_neg (λe=>h (k,x) (by simp) e.symm)];exact ih λp hp=>h p (by simp[hp])
theorem ef{E:Env}(o:af)(st:ASt){s:Nat}(h:s∉o.W):lk (ai E o st).env s=lk st.env s:=by
 simp only[af.W,List.mem_append,not_or,Option.mem_toList] at h;have hk:=ce E st.get st.getB o.op;have h1:∀d:oH,lk (o.dst.toList.map λs=>(s,d)) s=none:=λd=>Do λp hp=>by simp only[List.mem_map,Option.mem_toList] at hp;obtain⟨t,ht,rfl⟩:=hp;exact λe=>h.1 (e▸ht)
 have h2:lk (eff E st.get st.getB o.op).sl s=none:=Do λp hp e=>h.2 (e▸hk.1 p hp);unfold ai;cases o.guard with
 |none=>simp only[aI,h1,h2,Option.none_or]
 |some sw=>
  simp only;split
  ·simp only[aI,h1,h2,Option.none_or]
  simp only[aI,h1,Option.none_or]
theorem X8{E:Env}(o:af)(st:ASt){id:Nat}(h:id∉o.op.wrB):lk (ai E o st).box id=lk st.box id:=by
 have hk:=ce E st.get st.getB o.op;have h2:lk (eff E st.get st.getB o.op).bx id=none:=Do λp hp e=>h (e▸hk.2 p hp);unfold ai;cases o.guard with
 |none=>simp only[aI,h2,Option.none_or]
 |some sw=>
  simp only;split
  ·simp only[aI,h2,Option.none_or]
  rfl
theorem L1{E:Env}(o:af)(st:ASt):(ai E o st).org=st.org:=by
 unfold ai;cases o.guard with
 |none=>rfl
 |some sw=>simp only;split<;>rfl
def z6T(a b:List Nat):Bool:=a.all λx=> !b.contains x
theorem eg{a b:List Nat}:z6T a b=true↔∀x∈a,x∉b:=by simp[z6T]
def df(o p:af):Bool:=z6T o.W (p.R++p.W)&&z6T p.W o.R&&z6T o.op.wrB (p.op.rdB++p.op.wrB)&&z6T p.op.wrB o.op.rdB
def OL(o p:af):Bool:=match o,p with
 |⟨some d1,none,.mv true (.s n)⟩,⟨some d2,none,.mv false (.s m)⟩=>n==m&&d1 !=d2&&d1 !=n&&d2 !=n
 |⟨some d1,none,.extractO n⟩,⟨some d2,none,.extract _ (.s m)⟩=>n==m&&d1 !=d2&&d1 !=n&&d2 !=n
 |_,_=>false
def kW(o p:af):Bool:=df o p||OL o p
def bi(E:Env)(o:af)(get:Nat->oH)(getB:Nat->Option (List oH)):List (Nat×oH)×List (Nat×Option (List oH)):=
 let e:=eff E get getB o.op
 let run:=((o.dst.toList.map λs=>(s,e.val))++e.sl,e.bx)
 match o.guard with
 |none=>run
 |some (s,want)=>if fG (get s) want=true then run else((o.dst.toList.map λs=>(s,bR)),[])
theorem aX(E:Env)(o:af)(st:ASt):ai E o st={st with env:=(bi E o st.get st.getB).1++st.env,box:=(bi E o st.get st.getB).2++st.box}:=by
 unfold ai bi;cases o.guard with
 |none=>simp
 |some sw=>simp only;split<;>simp
theorem bG{E:Env}(o:af){get get':Nat->oH}{getB getB':Nat->Option (List oH)}(hs:∀s∈o.R,get s=get' s)(hb:∀i∈o.op.rdB,getB i=getB' i):bi E o get getB=bi E o get' getB':=by
 simp only[af.R,List.mem_append,or_imp,forall_and] at hs;have h1:=(bZ (E:=E) o.op hs.2 hb).1;unfold bi;rw[h1];cases hg:o.guard with
 |none=>rfl
 |some sw=>obtain⟨s,want⟩:=sw;simp only[hg,List.mem_singleton,forall_eq] at hs;simp only[hs.1]
theorem cj{E:Env}(o:af){a b:ASt}(ho:a.org=b.org)(hs:∀s∈o.R,a.get s=b.get s)(hb:∀i∈o.op.rdB,a.getB i=b.getB i)(h:okA E o a):okA E o b:=by
 simp only[af.R,List.mem_append,or_imp,forall_and] at hs;have h1:=(bZ (E:=E) o.op hs.2 hb).2;unfold okA at*
 rw[<-h1,<-ho];cases hg:o.guard with
 |none=>simpa[hg] using h
 |some sw=>obtain⟨s,want⟩:=sw;simp only[hg,List.mem_singleton,forall_eq] at hs h;simp only[<-hs.1];exact h
theorem bY(E:Env)(o:af)(get:Nat->oH)(getB:Nat->Option (List oH)):(∀p∈(bi E o get getB).1,p.1∈o.W)∧(∀p∈(bi E o get getB).2,p.1∈o.op.wrB):=by
 have hk:=ce E get getB o.op;have hd:∀(d:oH),∀p∈(o.dst.toList.map λs=>(s,d)),p.1∈o.W:=λd p hp=>by simp only[List.mem_map,Option.mem_toList] at hp;obtain⟨t,ht,rfl⟩:=hp;simp only[af.W,List.mem_append,Option.mem_toList];exact .inl ht
 have hw:∀p∈(eff E get getB o.op).sl,p.1∈o.W:=λp hp=>by simp only[af.W,List.mem_append];exact .inr (hk.1 p hp)
 unfold bi;cases o.guard with
 |none=>simp only[List.mem_append];exact⟨λp hp=>hp.elim (hd _ p) (hw p),hk.2⟩
 |some sw=>
  simp only;split
  ·simp only[List.mem_append];exact⟨λp hp=>hp.elim (hd _ p) (hw p),hk.2⟩
  exact⟨hd _,by simp⟩
theorem NY{E:Env}(o:af)(st:ASt){id:Nat}(h:id∉o.op.wrB):(ai E o st).getB id=st.getB id:=by simp only[ASt.getB,X8 o st h]
theorem cF{E:Env}(o:af)(st:ASt){s:Nat}(h:s∉o.W):(ai E o st).get s=st.get s:=by simp only[ASt.get,ef o st h,L1]
theorem z3f{E:Env}{o p:af}(hi:df o p=true)(st:ASt)(h1:okA E o st)(h2:okA E p (ai E o st)):
  okA E p st∧okA E o (ai E p st)∧cn (ai E o (ai E p st)) (ai E p (ai E o st)):=by
 simp only[df,Bool.and_eq_true,eg,List.mem_append,not_or] at hi;obtain⟨⟨⟨i1,i2⟩,i3⟩,i4⟩:=hi;have g1:∀s∈p.R,(ai E o st).get s=st.get s:=λs hs=>cF o st λh=>(i1 s h).1 hs;have b1:∀i∈p.op.rdB,(ai E o st).getB i=st.getB i:=λs hs=>NY o st λh=>(i3 s h).1 hs;have g2:∀s∈o.R,(ai E p st).get s=st.get s:=λs hs=>cF p st λh=>i2 s h hs;have b2:∀i∈o.op.rdB,(ai E p st).getB i=st.getB i:=λs hs=>NY p st λh=>i4 s h hs;refine⟨cj p (L1 o st) g1 b1 h2,cj o (L1 p st).symm (λs hs=>(g2 s hs).symm) (λs hs=>(b2 s hs).symm) h1,?_⟩;have d1:=bG (E:=E) p g1 b1;have d2:=bG (E:=E) o g2 b2;have k1:=bY E o st.get st.getB;have k2:=bY E p st.get st.getB;rw[aX E o (ai E p st),aX E p (ai E o st),d1,d2,aX E o st,aX E p st];refine⟨rfl,λs=> ?_,λid=> ?_⟩
 ·simp only[aI];by_cases hs:s∈o.W
  ·have:lk (bi E p st.get st.getB).1 s=none:=Do λq hq e=>(i1 s hs).2 (e▸k2.1 q hq);simp only[this,Option.none_or]
  have:lk (bi E o st.get st.getB).1 s=none:=Do λq hq e=>hs (e▸k1.1 q hq);simp only[this,Option.none_or]
 simp only[aI];by_cases hs:id∈o.op.wrB
 ·have:lk (bi E p st.get st.getB).2 id=none:=Do λq hq e=>(i3 id hs).2 (e▸k2.2 q hq);simp only[this,Option.none_or]
 have:lk (bi E o st.get st.getB).2 id=none:=Do λq hq e=>hs (e▸k1.2 q hq);simp only[this,Option.none_or]
theorem cy(d:oH):dem (dem d)=dem d:=by
 cases d with
 |sl m _ _ _=>cases m<;>rfl
 |pv o _ _ _=>cases o<;>rfl
 |_=>rfl
theorem ew{E:Env}{d1 d2 n:Nat}(h12:d1≠d2)(h1n:d1≠n)(h2n:d2≠n)(st:ASt)(h1:okA E ⟨some d1,none,.mv true (.s n)⟩ st)(h2:okA E ⟨some d2,none,.mv false (.s n)⟩ (ai E ⟨some d1,none,.mv true (.s n)⟩ st)):
  okA E ⟨some d2,none,.mv false (.s n)⟩ st∧okA E ⟨some d1,none,.mv true (.s n)⟩ (ai E ⟨some d2,none,.mv false (.s n)⟩ st)∧
   cn (ai E ⟨some d1,none,.mv true (.s n)⟩ (ai E ⟨some d2,none,.mv false (.s n)⟩ st)) (ai E ⟨some d2,none,.mv false (.s n)⟩ (ai E ⟨some d1,none,.mv true (.s n)⟩ st)):=by
 have eA:∀st:ASt,ai E ⟨some d1,none,.mv true (.s n)⟩ st={st with env:=(d1,st.get n)::(n,dem (st.get n))::st.env}:=λ_=>rfl;have eB:∀st:ASt,ai E ⟨some d2,none,.mv false (.s n)⟩ st={st with env:=(d2,dem (st.get n))::st.env}:=λ_=>rfl;have gA:(ai E ⟨some d1,none,.mv true (.s n)⟩ st).get n=dem (st.get n):=by rw[eA];simp only[ASt.get,lk,if_neg (Ne.symm h1n),if_true]
 have gB:(ai E ⟨some d2,none,.mv false (.s n)⟩ st).get n=st.get n:=by rw[eB];simp only[ASt.get,lk,if_neg (Ne.symm h2n)]
 refine⟨h2,h1,?_⟩;rw[eA (ai _ _ _),eB (ai _ _ _),gA,gB,cy,eA,eB];refine⟨rfl,λs=> ?_,λ_=>rfl⟩;simp only[lk];by_cases e1:s=d1
 ·rw[if_pos e1,if_neg (by rw[e1];exact h12),if_pos e1]
 rw[if_neg e1,if_neg e1];by_cases e2:s=d2
 ·rw[if_pos e2,if_pos e2,if_neg (by rw[e2];exact h2n)]
 rw[if_neg e2,if_neg e2]
theorem eH{E:Env}{d1 d2 n i:Nat}(h12:d1≠d2)(h1n:d1≠n)(h2n:d2≠n)(st:ASt)(h1:okA E ⟨some d1,none,.extractO n⟩ st)(h2:okA E ⟨some d2,none,.extract i (.s n)⟩ (ai E ⟨some d1,none,.extractO n⟩ st)):
  okA E ⟨some d2,none,.extract i (.s n)⟩ st∧okA E ⟨some d1,none,.extractO n⟩ (ai E ⟨some d2,none,.extract i (.s n)⟩ st)∧
   cn (ai E ⟨some d1,none,.extractO n⟩ (ai E ⟨some d2,none,.extract i (.s n)⟩ st)) (ai E ⟨some d2,none,.extract i (.s n)⟩ (ai E ⟨some d1,none,.extractO n⟩ st)):=by
 obtain⟨V,hV⟩:∃V:oH->oH,V=λd=>match d with| .otup e nl n cs _=> .sl (.own e) nl n cs|_=> .undef:=⟨_,rfl⟩
 obtain⟨X,hX⟩:∃X:oH->oH,X=λd=>match d with| .tup vs=>dem (vs.getD i .undef)|_=> .undef:=⟨_,rfl⟩
 have eA:∀st:ASt,ai E ⟨some d1,none,.extractO n⟩ st={st with env:=(d1,V (st.get n))::(n,dem (st.get n))::st.env}:=λ_=>by rw[hV];rfl
 have eB:∀st:ASt,ai E ⟨some d2,none,.extract i (.s n)⟩ st={st with env:=(d2,X (dem (st.get n)))::st.env}:=λ_=>by rw[hX];rfl
 have gA:(ai E ⟨some d1,none,.extractO n⟩ st).get n=dem (st.get n):=by rw[eA];simp only[ASt.get,lk,if_neg (Ne.symm h1n),if_true]
 have gB:(ai E ⟨some d2,none,.extract i (.s n)⟩ st).get n=st.get n:=by rw[eB];simp only[ASt.get,lk,if_neg (Ne.symm h2n)]
 have ok2:∀st:ASt,okA E ⟨some d2,none,.extract i (.s n)⟩ st↔(∀s∈[d2],lk st.org s=none)∧(match dem (st.get n) with| .tup vs=>i<vs.length|_=>False):=λ_=>Iff.rfl;have ok1:∀st:ASt,okA E ⟨some d1,none,.extractO n⟩ st↔(∀s∈[d1,n],lk st.org s=none)∧(match st.get n with| .otup _ _ _ _ _=>True|_=>False):=λ_=>Iff.rfl;refine⟨?_,?_,?_⟩
 ·rw[ok2] at h2⊢;rw[gA,cy,eA] at h2;exact h2
 ·rw[ok1] at h1⊢;rw[gB,eB];exact h1
 rw[eA (ai _ _ _),eB (ai _ _ _),gA,gB,cy,eA,eB];refine⟨rfl,λs=> ?_,λ_=>rfl⟩;simp only[lk];by_cases e1:s=d1
 ·rw[if_pos e1,if_neg (by rw[e1];exact h12),if_pos e1]
 rw[if_neg e1,if_neg e1];by_cases e2:s=d2
 ·rw[if_pos e2,if_pos e2,if_neg (by rw[e2];exact h2n)]
 rw[if_neg e2,if_neg e2]
theorem z1L{E:Env}{o p:af}(hi:kW o p=true)(st:ASt)(h1:okA E o st)(h2:okA E p (ai E o st)):
  okA E p st∧okA E o (ai E p st)∧cn (ai E o (ai E p st)) (ai E p (ai E o st)):=by
 rw[kW,Bool.or_eq_true] at hi;rcases hi with hi|hi
 ·exact z3f hi st h1 h2
 unfold OL at hi;split at hi
 ·rename_i d1 n d2 m;simp only[Bool.and_eq_true,beq_iff_eq,bne_iff_ne] at hi;obtain⟨⟨⟨rfl,h12⟩,h1n⟩,h2n⟩:=hi;exact ew h12 h1n h2n st h1 h2
 ·rename_i d1 n d2 i m;simp only[Bool.and_eq_true,beq_iff_eq,bne_iff_ne] at hi;obtain⟨⟨⟨rfl,h12⟩,h1n⟩,h2n⟩:=hi;exact eH h12 h1n h2n st h1 h2
 cases hi
theorem QL{E:Env}{o:af}:∀(pre post:List af) (st:ASt),(∀p∈pre,kW p o=true)->Aa E (pre++o::post) st->
  okA E o st∧Aa E (pre++post) (ai E o st)∧cn (C3 E (pre++post) (ai E o st)) (C3 E (pre++o::post) st)
 |[],post,st,_,h=>⟨h.1,h.2,cn.refl _⟩
 |p::pre,post,st,hi,h=>by obtain⟨h1,h2⟩:=h;obtain⟨k1,k2,k3⟩:=QL pre post (ai E p st) (λq hq=>hi q (by simp[hq])) h2;obtain⟨c1,c2,c3⟩:=z1L (hi p (by simp)) st h1 k1;refine⟨c1,⟨c2,Ll _ c3.symm k2⟩,?_⟩;exact(RV _ c3).trans k3
def WF(r:Option Nat):Fence:={Fence.wide with round:=r}
theorem Mu(r:Option Nat)(f:FuncId):(WF r).fn f:=trivial
theorem z9c(r:Option Nat):(WF r).round=r:=rfl
theorem M9(r:Option Nat):(WF r).depth=none:=rfl
theorem Lu{r:Option Nat}{n:Nat}{P:Program}{f:FuncId}{args:Array Value}{w:World}{R:Ending->World->Prop}:CallsIn (WF r) n P f args w R↔Calls P f args w R:=by have h:CallsIn (WF r) n P f args w R↔CallsIn Fence.wide n P f args w R:=Iff.rfl;rw[h];exact callsIn_wide
theorem VS{r:Option Nat}{n:Nat}{P:Program}{row:String}{args:Array Value}{w:World}{R:Value->World->Prop}(h:Rows P row args w R):RowsIn (WF r) n P row args w R:=
 λc cs _=>let⟨v,w',h1,h2⟩:=h c cs;⟨v,w',h1,(stepsIn_wide.2 h2:StepsIn (Machine.fenced P Fence.wide) P _ _)⟩
theorem Ul{r:Option Nat}{n:Nat}{P:Program}{o:Oper}{a:Act}{w:World}{K:Act->World->Prop}{Q:Exit->Act->World->Prop}(hd:∀c,o.op≠ .defer c)(h:o.wp P a w K Q):o.wpIn (WF r) n P a w K Q:=by
 refine⟨λf _=>Mu r f,?_⟩;rw[Oper.semAt_plain (WF r) _ _ hd];unfold Oper.wp at h;generalize(execOp a.eval o).run P w=res at*
 have hdep:((WF r).depth.isSome=true->1<=n):=λh=>by simp[M9] at h
 cases res with
 |ok x w'=>
  cases x<;>simp only[Oper.upon,Oper.uponIn] at h⊢<;>
   first
    |exact h
    |exact⟨hdep,Lu.2 h⟩
    |exact⟨hdep,VS h⟩
 |halt x w'=>cases x<;>simp only[Oper.upon,Oper.uponIn] at h⊢<;>exact h
section
variable {P : Program} {F : Fence} {n : Nat} {a : Act} {w : World} {Q : Exit -> Act -> World -> Prop}
theorem yf{b:Frame}{k:List Item}{cs:List Frame}{c:Code}:step P (lone (b.atR a (.code (.scope c)::k)) cs w)= .next (lone (b.atR a (.code c:: .inScope c::k)) cs w):=
 step_lone_go (by simp[stepG,stepG.exec,Frame.atR])
theorem LQ{b:Frame}{k:List Item}{cs:List Frame}{c:Code}:step P (lone (b.atR a (.inScope c::k)) cs w)= .next (lone (b.atR a k) cs w):=
 step_lone_go (by simp[stepG,stepG.exec,Frame.atR])
theorem KZ{c:Code}(h:c.wpIn F n P (Exit.noGoto Q) a w):(Code.scope c).wpIn F n P Q a w:=by
 intro b k cs hro hb hr;have h0:(lone (b.atR a (.code (.scope c)::k)) cs w).fenced P F:=fenced_calm hb hr rfl;obtain⟨e,a₁,w₁,hq,harr⟩:=h b (.inScope c::k) cs hro hb hr;cases e with
 |normal=>exact⟨.normal,a₁,w₁,hq,.head h0 yf (StepsIn.trans harr (.one (fenced_calm hb hr rfl) LQ))⟩
 |exit id=>
  have hx:exitTo id (.inScope c::k)=exitTo id k:=by simp[exitTo]
  exact⟨.exit id,a₁,w₁,hq,λk' hk=> .head h0 yf (harr.1 k' (by rw[hx];exact hk)),
   λhr' hk=>let⟨k₁,h1,h2⟩:=harr.2 hr' (by rw[hx];exact hk);⟨k₁,h1,.head h0 yf h2⟩⟩
 |goto l=>exact hq.elim
 |ret=>exact⟨_,a₁,w₁,hq,.of_steps (.one h0 yf) harr⟩
 |panic ch=>exact⟨_,a₁,w₁,hq,.of_steps (.one h0 yf) harr⟩
 |outgrown=>exact⟨_,a₁,w₁,hq,.of_steps (.one h0 yf) harr⟩
theorem Du{c:Code}(I:Nat->Act->World->Prop){m:Nat}(h₀:I m a w)
  (round:∀m a w,I m a w->c.wpIn F n P (Exit.then (λa' w'=>∃m',m'<m∧I m' a' w') Q) a w):(Code.loop c).wpIn F n P Q a w:=by
 intro b k cs hro hb hr;have key:∀j a w,I j a w->∃e a' w',Q e a' w'∧ArrivesIn (Machine.fenced P F) P (lone (b.atR a (.code c:: .inLoop c::k)) cs w) b k cs e a' w':=by
  intro j;induction j using Nat.strongRecOn with
  |_ j ih=>
   intro a w hI;obtain⟨e,a₁,w₁,hq,harr⟩:=round j a w hI b (.inLoop c::k) cs hro hb hr;cases e with
   |normal=>obtain⟨m',hlt,hI₁⟩:=hq;obtain⟨e₂,a₂,w₂,hq₂,harr₂⟩:=ih m' hlt a₁ w₁ hI₁;exact⟨e₂,a₂,w₂,hq₂,.of_steps (StepsIn.trans harr (.one (fenced_calm hb hr rfl) stepR_inLoop)) harr₂⟩
   |exit id=>exact⟨_,a₁,w₁,hq,.pass (x:= .inLoop c) rfl (λ_ _=> .inl (by simp)) harr⟩
   |goto l=>exact⟨_,a₁,w₁,hq,.pass (x:= .inLoop c) rfl (λ_ _=> .inl (by simp)) harr⟩
   |ret=>exact⟨_,a₁,w₁,hq,.pass (x:= .inLoop c) rfl (λ_ _=> .inl (by simp)) harr⟩
   |panic ch=>exact⟨_,a₁,w₁,hq,.pass (x:= .inLoop c) rfl (λ_ _=> .inl (by simp)) harr⟩
   |outgrown=>exact⟨_,a₁,w₁,hq,.pass (x:= .inLoop c) rfl (λ_ _=> .inl (by simp)) harr⟩
 obtain⟨e,a',w',hq,harr⟩:=key _ a w h₀;exact⟨e,a',w',hq,.of_steps (.one (fenced_calm hb hr rfl) stepR_loop) harr⟩
end
def TQ(w:World)(b:Nat):Option Nat:=match w.cell? ⟨b,1,none⟩ with|some (.slice (some a) _ _)=>some a.block|_=>none
structure z7n (w w':World) (b:Nat):Prop where
 os:w'.os=w.os
 tape:w'.tape=w.tape
 output:w'.output=w.output
 size:w.heap.size<=w'.heap.size
 block:∀k,k<w.heap.size->k≠b->TQ w b≠some k->w'.heap[k]? =w.heap[k]?
 buf:TQ w' b=TQ w b∨((∀k,TQ w' b=some k->w.heap.size<=k)∧∀k,k<w.heap.size->k≠b->w'.heap[k]? =w.heap[k]?)
structure L2 (K:Cx) (m:Nat):Prop where
 call:ek K.P (K.bf m)
 len:m=0->∀b bs w,Lib.IsBuilder K.bt K.b5 0 b bs w->Calls K.P (K.bf 0) #[.pointer (some ⟨b,0,none⟩)] w λe w'=>e= .returned (.int .i64 bs.length)∧w'=w
 wstr:m=1->∀b bs s w,Lib.IsBuilder K.bt K.b5 0 b bs w->bs.length+s.size<=140737488355328->Calls K.P (K.bf 1) #[.pointer (some ⟨b,0,none⟩),.string s] w λe w'=>e= .returned (.tuple #[.int .i64 s.size,.nilIface])∧Lib.IsBuilder K.bt K.b5 0 b (bs++Lib.strCells s) w'∧z7n w w' b
 write:m=2->∀b bs ad m c news w,Lib.IsBuilder K.bt K.b5 0 b bs w->news.length=m->(∀j u,news[j]? =some u->w.cell? (ad.add j)=some u)->ad.block≠b->(∀u∈news,u.oneCell'=true)->bs.length+m<=140737488355328->
  Calls K.P (K.bf 2) #[.pointer (some ⟨b,0,none⟩),.slice (some ad) m c] w λe w'=>e= .returned (.tuple #[.int .i64 m,.nilIface])∧Lib.IsBuilder K.bt K.b5 0 b (bs++news) w'∧z7n w w' b
 str:m=3->∀b l w,Lib.IsBuilder K.bt K.b5 0 b (Lib.byteCells l) w->l≠[]->Calls K.P (K.bf 3) #[.pointer (some ⟨b,0,none⟩)] w λe w'=>e= .returned (.string ⟨l.toArray⟩)∧(w'.os=w.os∧w'.tape=w.tape∧w'.output=w.output∧w.heap.size<=w'.heap.size∧∀k,k<w.heap.size->k≠b->TQ w b≠some k->w'.heap[k]? =w.heap[k]?)∧∀x,w'.cell? x=w.cell? x
section
variable {K : Cx} {base : aZ} {g g' : Gh} {w w' : World} {get : Nat -> oH} {getB : Nat -> Option (List oH)} {a : Act} {o : Oper} {d : Option Nat}
end
def CW.ins(c:CW)(bs:Nat->List oH)(j:Nat):Option (List oH):=if j∈c.bx then some (bs j) else none
def CW.outs(c:CW)(ds:List oH)(bs:Nat->List oH)(j:Nat):Option (List oH):=if j∈c.bx++c.nb then some (c.out ds bs j) else none
def zj(K:Cx)(f:Nat)(c:CW):Prop:=
 ek K.P (K.nu f)∧∀(g:Gh) (w:World) (ds:List oH) (bs:Nat->List oH) (vs:List Value),Inv K ⟨w,Wr g,g.S,[],g.mu⟩ g w (c.ins bs)->an K.toCon g w ds vs->(∀j∈c.bx,(400000<=j∧j<500000)∨∃i∈c.hold,∃d,ds[i]? =some d∧j∈aF d)->c.pre ds bs->
  Calls K.P (K.nu f) vs.toArray w λe w'=>∃v g',e= .returned v∧Inv K ⟨w,Wr g,g.S,[],g.mu⟩ g' w' (c.outs ds bs)∧(∀j∈c.bx,g'.mu j=g.mu j)∧Rep K.toCon g' w' (some .ret) (c.post ds bs) v
section
variable {K : Cx} {base : aZ} {g g' : Gh} {w w' : World} {get : Nat -> oH} {getB : Nat -> Option (List oH)} {a : Act} {o : Oper} {d : Option Nat}
theorem Sx:∀{cs:List oH} {i:Nat} {d:oH},cs[i]? =some d->∀{id:Nat},id∈aF d->id∈pT cs
 |[],i,d,h,_,_=>by simp at h
 |c::cs,0,d,h,id,hid=>by simp at h;subst h;simp only[pT,List.mem_append];exact .inl hid
 |c::cs,i+1,d,h,id,hid=>by simp only[pT,List.mem_append];exact .inr (Sx (by simpa using h) hid)
theorem Qs(hI:Inv K base g w getB){ws:List (Nat×Nat)}{c:CW}(hok:∀p∈ws,∃cs,getB p.2=some cs∧gv ws cs)(hbx:ws.map (·.1)=c.bx)(hn1:c.bx.Nodup)(hn:(ws.map (·.2)).Nodup)(hlo:∀p∈ws,p.1<1000000)(hlp:∀p∈ws,500000<=p.1->500000<=p.2):
  Inv K ⟨w,Wr (ghM g ws),(ghM g ws).S,[],(ghM g ws).mu⟩ (ghM g ws) w (c.ins (Ky getB ws)):=by
 have nofnd:∀j,j∉c.bx->fnd ws j=none:=λj hj=>II (by rw[hbx];exact hj);have inj1:∀j j' id,fnd ws j=some id->fnd ws j'=some id->j=j':=λj j' id h h'=>by have e1:=qE (l:=swp ws) (by rw[Ce];exact hn) (vl.2 (dB h));have e2:=qE (l:=swp ws) (by rw[Ce];exact hn) (vl.2 (dB h'));rw[e1] at e2;cases e2;rfl
 refine⟨Fr.refl _ _ _,λ_ _ _=>rfl,λi j b hi hj=> ?_,λj cs hc=> ?_,λj hj=> ?_,λj b hb=> ?_,λb l hb=> ?_,hI.glob,aP.refl _ _,λj b cs hj hb _ _=>by
  obtain⟨id,h1,_⟩:=GV hb;have:=hlo _ (dB h1);simp only at this;omega,λj b _ _ hb=>hb⟩
 ·obtain⟨x,h1,h2⟩:=GV hi;obtain⟨y,h3,h4⟩:=GV hj;have:=hI.inj x y b h2 h4;subst this;exact inj1 i j x h1 h3
 ·have hj:j∈c.bx:=by
   unfold CW.ins at hc;split at hc
   ·assumption
   cases hc
  obtain⟨id,hf⟩:=ER (l:=ws) (k:=j) (by rw[hbx];exact hj);obtain⟨cs',h1,h2⟩:=hok _ (dB hf);have h3:c.ins (Ky getB ws) j=some (wIn ws cs'):=by unfold CW.ins Ky;rw[if_pos hj,hf];simp only[h1,Option.getD_some]
  rw[hc] at h3;have h3:=Option.some.inj h3;obtain⟨b,k1,k2,k3⟩:=hI.bxok id cs' h1;refine⟨b,by simp only[ghM,hf,Option.bind_some];exact k1,k2,λi e hi=> ?_⟩;have hloc:∀m',some (Loc.cell j i)=some m'->∃m,some (Loc.cell id i)=some m∧aQ g w (ghM g ws) w m m':=λm' hm'=>by cases hm';exact⟨_,rfl,λb' hb'=>⟨JT hn (dB hf) hb',rfl,rfl⟩⟩
  rw[h3] at hi;unfold gv at h2;unfold wIn at hi;by_cases hv:bU ws=true
  ·rw[if_pos hv] at h2 hi;rw[Ly] at hi;obtain⟨e0,he0,rfl⟩:=Option.map_eq_some_iff.1 hi;obtain⟨⟨x,hx,hr⟩,hz⟩:=k3 i e0 he0;refine⟨⟨x,hx,?_⟩,hz⟩;refine Rep.ren (g:=g) (g':=ghM g ws) (m:=swp ws) (aP.refl _ _) (P4 λp hp h=>by obtain⟨k,x⟩:=p;exact hlp (x,k) (vl.1 hp) h) e0 x _ _ (λid' hid' b' hb'=> ?_) hloc hr;obtain⟨p,hp,rfl⟩:=List.mem_map.1 (h2 id' (Sx he0 hid'));obtain⟨j',id'⟩:=p;have e1:=qE (l:=swp ws) (by rw[Ce];exact hn) (vl.2 hp);have e2:=qE (l:=ws) (by rw[hbx];exact hn1) hp;rw[e1];simp only[ghM,Option.getD_some,e2,Option.bind_some];exact hb'
  rw[if_neg hv] at h2 hi;obtain⟨⟨x,hx,hr⟩,hz⟩:=k3 i e hi;refine⟨⟨x,hx,?_⟩,hz⟩;refine Rep.mono (g:=g) (g':=ghM g ws) (aP.refl _ _) e x _ _ (λid' hid'=> ?_) hloc hr;have:aF e=[]:=HQ.pure_refs e ((bE cs').1 h2 e (sj hi));rw[this] at hid';cases hid'
 ·have hj':j∉c.bx:=λh=>by simp[CW.ins,h] at hj
  simp only[ghM,nofnd j hj',Option.bind_none]
 ·obtain⟨id,h1,h2⟩:=GV hb;have:=hI.muW id b h2;exact⟨.inr (.inl ⟨j,hb⟩),this.2.1,Kh this.2.2⟩
 obtain⟨id,i,j,h1,_,_⟩:=VX hb;exact⟨.inr (.inr (by rw[hb];simp)),(hI.owW b _ h1).2⟩
theorem O6(hI:Inv K base g w getB){ws:List (Nat×Nat)}{as:List oH}{vs:List Value}{c:CW}(hok:∀a∈as,z3T ws a)(hbx:ws.map (·.1)=c.bx)(hn1:c.bx.Nodup)(hn:(ws.map (·.2)).Nodup)(hlo:∀p∈ws,500000<=p.1->500000<=p.2)(hr:an K.toCon g w as vs):
  an K.toCon (ghM g ws) w (as.map (Wk ws)) vs:=by
 refine an.mk (by rw[List.length_map];exact hr.len) λi x v hx hv=> ?_;rw[List.getElem?_map,Option.map_eq_some_iff] at hx;obtain⟨y,hy,rfl⟩:=hx;obtain⟨v',hv',hrep⟩:=hr.get i y hy;rw[hv] at hv';cases hv';have hk:=hok y (sj hy);unfold z3T at hk;unfold Wk;cases hrf:aF y with
 |nil=>rw[hrf] at hk;simp only at hk⊢;have h1:=L5 (bs:=[]) hI (λid hid=>by cases hid) hrep (by simpa using hk);have hS:Fo g getB []=g.S:=funext λb=>yD (by simp);rw[hS] at h1;exact ap.rep (g:=ghM g ws) _ _ (by simpa[ghM] using h1)
 |cons r rs=>rw[hrf] at hk;simp only at hk⊢;rw[<-hrf] at hk;refine Rep.ren (g:=g) (g':=ghM g ws) (m:=swp ws) (aP.refl _ _) (P4 λp hp h=>by obtain⟨k,x⟩:=p;exact hlo (x,k) (vl.1 hp) h) y v none none (λid hid b hb=> ?_) (λ_ h=>by cases h) hrep;obtain⟨p,hp,rfl⟩:=List.mem_map.1 (hk id hid);obtain⟨j,id⟩:=p;have e1:=qE (l:=swp ws) (by rw[Ce];exact hn) (vl.2 hp);have e2:=qE (l:=ws) (by rw[hbx];exact hn1) hp;rw[e1];simp only[ghM,Option.getD_some,e2,Option.bind_some];exact hb
theorem Lm(hI:Inv K base g w getB)(hS:dI K g w get a){f:Nat}(hV:zj K f (K.E.C f)){as:List oH}{ws ns:List (Nat×Nat)}{vs:List Value}(hr:an K.toCon g w as vs)(hok:okW K.E getB f as ws ns)
  {next:Act->World->Prop} {Q:Exit->Act->World->Prop} (hn:∀v w',Pg K base a get getB d (gk K.E getB f as ws ns) v w'->next (a.put o.dst v) w') (hrun:(execOp a.eval o).run K.P w= .ok (.enter (K.nu f) vs.toArray) w):
  o.wp K.P a w next Q:=by
 obtain⟨h1,h4,h2,h3,h5,h6,h7,h8,hlo,hh,h9,h10,h11⟩:=hok;unfold Oper.wp;rw[hrun,Oper.upon_enter];have hb1:=(List.nodup_append.1 h8).1;refine(hV.2 (ghM g ws) w _ (Ky getB ws) vs (Qs hI h4 h2 hb1 h3 (λp hp=>(hlo p (List.mem_append_left _ hp)).1) λp hp=>(hlo p (List.mem_append_left _ hp)).2.2.1) (O6 hI h1 h2 hb1 h3 (λp hp=>(hlo p (List.mem_append_left _ hp)).2.2.1) hr) hh h9).mono ?_;rintro e w' ⟨v,g1,rfl,hI1,hmu,hrep⟩;refine hn v w' (Ka (c:=⟨(K.E.C f).bx,(K.E.C f).nb,λ_=>True,λ_=>(K.E.C f).post (as.map (Wk ws)) (Ky getB ws),λ_=>(K.E.C f).out (as.map (Wk ws)) (Ky getB ws)⟩) (ds:=[]) hI hS h2 h5 h8 h3 h6 (λp hp=> ?_) h7 hlo hI1 hmu hrep h10 h11);obtain⟨cs,hcs,_⟩:=h4 p hp;exact⟨cs,hcs⟩
theorem SQ(hI:Inv K base g w getB)(hS:dI K g w get a){f:Nat}{t:Option Arg}{args:List Arg}{ws ns:List (Nat×Nat)}(h:yH K o.op f t args=true)(hV:zj K f (K.E.C f))(hok:okp K.E get getB (.callw f t args ws ns))
  {next:Act->World->Prop} {Q:Exit->Act->World->Prop} (hn:∀v w',Pg K base a get getB d (eff K.E get getB (.callw f t args ws ns)) v w'->next (a.put o.dst v) w'):o.wp K.P a w next Q:=by
 cases t with
 |none=>
  simp only[yH] at h;obtain⟨_,hok⟩:=hok;unfold HZ at h;split at h
  ·rename_i c ho;simp only[Bool.and_eq_true] at h;obtain⟨hc,ha⟩:=h;split at hc
   ·rename_i f' hcal;simp only[beq_iff_eq] at hc;subst hc;obtain⟨_,hr⟩:=Am hI hS ha;refine Lm hI hS hV hr hok hn ?_;simp only[execOp,ho,resolve,hcal,Act.eval,Deferred.ofValue,Sem.run_bind,Sem.run_pure,Result.andThen_ok,invoke];rw[uH w hV.1];congr 2;apply Array.ext';simp
   cases hc
  cases h
 |some t=>
  simp only[yH] at h;unfold ET at h;split at h
  ·rename_i c ho;simp only[Bool.and_eq_true] at h;obtain⟨hc,ha⟩:=h;split at hc
   ·rename_i x hcal;obtain⟨_,hr⟩:=Am hI hS ha;obtain⟨ht,hok⟩:=hok;have rt:=o6 hI hS hc;simp only at ht;split at ht
    ·rename_i f' p q et;subst ht;rw[et] at rt;simp only[et,xX] at hok;simp only[Rep] at rt;obtain⟨pv,qv,vt,hp,hq⟩:=rt;have hef:eff K.E get getB (.callw f' (some t) args ws ns)=gk K.E getB f' (p++args.map (arg K.E get)++q) ws ns:=by simp only[eff,et,xX]
     rw[hef] at hn;refine Lm hI hS hV ((hp.append hr).append hq) hok hn ?_;simp only[execOp,ho,resolve,hcal,vt,Deferred.ofValue,Sem.run_bind,Sem.run_pure,Result.andThen_ok,invoke];rw[uH w hV.1];congr 2;apply Array.ext';simp
    cases ht
   cases hc
  cases h
end
def Rq(K:Cx)(op:Op)(x:AOp):Bool:=
 match x with
 | .call f as _=>HZ K op f as
 | .callv _ t as _=>ET K op t as
 | .callm f t as _ _=> !Nat.ble 500000000 f&&yH K op f t as
 | .callw f t as _ _=> !Nat.ble 400000000 f&&yH K op f t as
 |x=>z8g K op x
def Dj(ops:Array Oper)(g:Option (Nat×Bool))(g':Option (Nat×Bool)):Bool:=
 match g,g' with
 |none,none=>true
 |some (j,want),some (s,want')=>(match ops[j]? with|some o=>o.dst==some s|none=>false)&&(want==want')
 |_,_=>false
def FK(K:Cx)(n:Nat)(ops:Array Oper)(o:Oper)(x:af):Bool:=
 (o.dst==x.dst)&&x.dst.toList.all (· <n)&&Dj ops o.guard x.guard&&Rq K o.op x.op
def wNo(f:Nat):Nat:=500000000+f
def eu:AOp->List (Nat×Bool)| .call f _ _=>[(f,false)]| .callv f _ _ _=>[(f,false)]| .callm f _ _ _ _=>[(f,true)]| .callw f _ _ _ _=>[(wNo f,true)]|_=>[]
def VB(K:Cx)(p:Nat×Bool):Prop:=match p.2 with|false=>oK K p.1 (K.E.G p.1)|true=>match Nat.ble 999999990 p.1 with|true=>L2 K (p.1-999999990)|false=>match Nat.ble 500000000 p.1 with|true=>zj K (p.1-500000000) (K.E.C (p.1-500000000))|false=>ru K p.1 (K.E.M p.1)
def VOk(K:Cx)(x:AOp):Prop:=∀p∈eu x,VB K p
section
variable {K : Cx} {base : aZ} {n : Nat} {st : ASt} {a : Act} {w : World} {ops : Array Oper}
theorem XX{st':ASt}(h:cn st st')(hR:Rel K base n st a w):Rel K base n st' a w:=by obtain⟨g,h1,h2,h3,h4,h5⟩:=hR;refine⟨g,by rw[<-h.getB];exact h1,by rw[<-h.get];exact h2,λs d hd=>h3 s d (by rw[h.org];exact hd),h4,h5⟩
theorem EK{dst:Option Nat}{v:Value}{s:Nat}(hlt:∀t∈dst.toList,t<a.tmps.size):(a.put dst v).tmps.getD s undef=if dst=some s then v else a.tmps.getD s undef:=by
 cases dst with
 |none=>simp[Act.put]
 |some t=>
  have ht:t<a.tmps.size:=hlt t (by simp);simp only[Act.put,Option.some.injEq,Array.getD_eq_getD_getElem?,Array.getElem?_setIfInBounds];by_cases h:t=s
  ·subst h;simp[ht]
  simp[h]
theorem Pm(hR:Rel K base n st a w){o:af}{e:Eff}{v:Value}{w':World}(hlt:∀t∈o.dst.toList,t<n)(horg:∀s∈o.dst.toList,lk st.org s=none)(hsl:∀p∈e.sl,lk st.org p.1=none)
  (hG:Pg K base a st.get st.getB o.dst e v w'):Rel K base n {st with env:=(o.dst.toList.map λs=>(s,e.val))++e.sl++st.env,box:=e.bx++st.box} (a.put o.dst v) w':=by
 obtain⟨_,_,_,hO,hdf,hsz⟩:=hR;obtain⟨g',h1,h2,h3⟩:=hG;have hlt':∀t∈o.dst.toList,t<a.tmps.size:=by rw[hsz];exact hlt
 refine⟨g',?_,λs=> ?_,λs d hd=> ?_,?_,?_⟩
 ·have:(ASt.getB {st with env:=(o.dst.toList.map λs=>(s,e.val))++e.sl++st.env,box:=e.bx++st.box})=Kt st.getB e.bx:=funext λid=>by
   simp only[ASt.getB,Kt,aI];cases lk e.bx id<;>simp
  rw[this];exact h1
 ·rw[EK hlt'];have hget:ASt.get {st with env:=(o.dst.toList.map λs=>(s,e.val))++e.sl++st.env,box:=e.bx++st.box} s=if o.dst=some s then e.val else upd st.get e.sl s:=by
   simp only[ASt.get,aI,upd];cases hd:o.dst with
   |none=>simp[lk];cases lk e.sl s<;>simp
   |some t=>
    simp only[Option.toList_some,List.map_cons,List.map_nil,lk,Option.some.injEq];by_cases h:s=t
    ·simp[h]
    rw[if_neg h,if_neg (λe=>h e.symm)];cases lk e.sl s<;>simp
  rw[hget];by_cases h:o.dst=some s
  ·rw[if_pos h,if_pos h];rw[h] at h3;exact h3
  rw[if_neg h,if_neg h];exact h2 s
 ·rw[EK hlt'];have hne:o.dst≠some s:=λe=>by
   have:=horg s (by simp[e]);simp only at hd;rw[this] at hd;cases hd
  rw[if_neg hne];exact hO s d hd
 ·cases hd:o.dst<;>simp[Act.put,hdf]
 cases hd:o.dst<;>simp[Act.put,hsz]
theorem El(hR:Rel K base n st a w){oper:Oper}{o:af}(hg:Dj ops oper.guard o.guard=true){s:Nat}{want:Bool}(ho:o.guard=some (s,want))(hb:okG (st.get s)):
  Region.wanted oper (yielded ops a.tmps)=fG (st.get s) want:=by
 obtain⟨g,_,hS,_,_,_⟩:=hR;unfold Dj at hg;rw[ho] at hg;split at hg
 ·rename_i h1 h2;cases h2
 ·rename_i j w1 s' w2 h1 h2;simp only[Option.some.injEq,Prod.mk.injEq] at h2;obtain⟨rfl,rfl⟩:=h2;simp only[Bool.and_eq_true,beq_iff_eq] at hg;obtain⟨hj,rfl⟩:=hg;split at hj
  ·rename_i oj hoj;simp only[beq_iff_eq] at hj;rcases hb with hb|hb
   ·obtain⟨hgv,hv⟩:=GA (hS s) hb;have hget:a.tmps[s]? =some (.bool (asB (st.get s))):=by
     rw[Array.getD_eq_getD_getElem?] at hv;cases hc:a.tmps[s]? with
     |none=>rw[hc] at hv;simp[undef] at hv
     |some x=>rw[hc] at hv;simp only[Option.getD_some] at hv;rw[hv]
    have hgate:fG (st.get s) w1=(asB (st.get s)==w1):=by
     revert hb
     cases st.get s with
     |lit v=>cases v<;>simp[isB,fG,asB]
     |_=>simp[isB]
    unfold Region.wanted;rw[h1,hgate];simp only[yielded,hoj,Option.bind_some,hj,hget];cases asB (st.get s)<;>cases w1<;>rfl
   have hv:=hS s;rw[hb] at hv;simp only[bR,Rep] at hv;have hgate:fG (st.get s) w1=false:=by rw[hb];rfl
   unfold Region.wanted;rw[h1,hgate];simp only[yielded,hoj,Option.bind_some,hj];rw[Array.getD_eq_getD_getElem?] at hv;cases hc:a.tmps[s]? with
   |none=>rfl
   |some x=>rw[hc] at hv;simp only[Option.getD_some] at hv;rw[hv];rfl
  cases hj
 cases hg
theorem T1{op:Op}{x:AOp}(h:Rq K op x=true):x= .unsup∨∀c,op≠ .defer c:=by
 by_cases hu:x= .unsup
 ·exact .inl hu
 refine .inr ?_;rintro c rfl;cases x
 case callm f t as ws ns=>simp only[Rq,Bool.and_eq_true] at h;cases t<;>exact Bool.noConfusion (show false=true from h.2)
 case callw f t as ws ns=>simp only[Rq,Bool.and_eq_true] at h;cases t<;>exact Bool.noConfusion (show false=true from h.2)
 all_goals first|exact hu rfl|exact Bool.noConfusion (show false=true from h)
theorem z9m{a b:Nat}(h:b<a):Nat.ble a b=false:=by
 cases hb:Nat.ble a b with
 |false=>rfl
 |true=>exact absurd (Nat.le_of_ble_eq_true hb) (Nat.not_le_of_lt h)
theorem z5p{a b:Nat}(h:Nat.ble a b=false):b<a:=Nat.lt_of_not_le λh'=>by rw[Nat.ble_eq_true_of_le h'] at h;cases h
theorem HY(hR:Rel K base n st a w){i:Nat}{oper:Oper}{o:af}(hi:ops[i]? =some oper)(hm:FK K n ops oper o=true)(hok:okA K.E o st)(hV:VOk K o.op)
  {Kn:Act->World->Prop} {Q:Exit->Act->World->Prop} (hn:∀a' w',Rel K base n (ai K.E o st) a' w'->Kn a' w') {r:Option Nat} {m:Nat}:wpOpIn (WF r) m K.P ops Q i Kn a w:=by
 simp only[FK,Bool.and_eq_true,beq_iff_eq,List.all_eq_true,decide_eq_true_eq] at hm;obtain⟨⟨⟨hdst,hlt⟩,hgd⟩,hch⟩:=hm;obtain⟨horg,hok⟩:=hok;have horg1:∀s∈o.dst.toList,lk st.org s=none:=λs hs=>horg s (by simp only[af.W,List.mem_append];exact .inl hs);have horg2:∀p∈(eff K.E st.get st.getB o.op).sl,lk st.org p.1=none:=λp hp=>horg p.1 (by simp only[af.W,List.mem_append];exact .inr ((ce K.E st.get st.getB o.op).1 p hp))
 -- the operation itself
 have main:okp K.E st.get st.getB o.op->(∀a' w',Rel K base n {st with env:=(o.dst.toList.map λs=>(s,(eff K.E st.get st.getB o.op).val))++(eff K.E st.get st.getB o.op).sl++st.env,box:=(eff K.E st.get st.getB o.op).bx++st.box} a' w'->Kn a' w')->oper.wp K.P a w Kn Q:=λhk hnext=>by
  have hR':=hR;obtain⟨g,hI,hS,_,_,_⟩:=hR';have fin:∀v w',Pg K base a st.get st.getB o.dst (eff K.E st.get st.getB o.op) v w'->Kn (a.put oper.dst v) w':=λv w' hG=>by rw[hdst];exact hnext _ _ (Pm hR hlt horg1 horg2 hG)
  have other:z8g K oper.op o.op=true->oper.wp K.P a w Kn Q:=λhc=>by
   obtain⟨r,v,w',hrun,hr,hG⟩:=z2a (d:=o.dst) (o:=oper) hI hS hc hk;unfold Oper.wp;rw[hrun];rcases hr with rfl|⟨rfl,rfl⟩
   ·exact fin v w' hG
   exact fin _ w' hG
  cases hx:o.op with
  |call f as bs=>rw[hx] at hch hk fin;exact Wm (o:=oper) hI hS hch (hV (f,false) (by simp[hx,eu])) hk (d:=o.dst) fin
  |callv f t as bs=>rw[hx] at hch hk fin;exact Tz (o:=oper) hI hS hch (hV (f,false) (by simp[hx,eu])) hk (d:=o.dst) fin
  |callm f t as ws ns=>rw[hx] at hch hk fin;have hch':(!Nat.ble 500000000 f&&yH K oper.op f t as)=true:=hch;simp only[Bool.and_eq_true,Bool.not_eq_true'] at hch';have hv:VB K (f,true):=hV (f,true) (by simp[hx,eu]);have h9:Nat.ble 999999990 f=false:=z9m (Nat.lt_trans (z5p hch'.1) (by decide));simp only[VB,h9,hch'.1] at hv;exact SE (o:=oper) hI hS hch'.2 hv hk (d:=o.dst) fin
  |callw f t as ws ns=>
   rw[hx] at hch hk fin;have hch':(!Nat.ble 400000000 f&&yH K oper.op f t as)=true:=hch;simp only[Bool.and_eq_true,Bool.not_eq_true'] at hch';have hlt:f<400000000:=z5p hch'.1;have hv:VB K (wNo f,true):=hV (wNo f,true) (by simp[hx,eu]);have h9:Nat.ble 999999990 (wNo f)=false:=z9m (by unfold wNo;omega);have h8:Nat.ble 500000000 (wNo f)=true:=Nat.ble_eq_true_of_le (by unfold wNo;omega);have h7:wNo f-500000000=f:=by unfold wNo;omega
   simp only[VB,h9,h8,h7] at hv;exact SQ (o:=oper) hI hS hch'.2 hv hk (d:=o.dst) fin
  |_=>exact other (by rw[hx] at hch⊢;exact hch)
 have mainIn:okp K.E st.get st.getB o.op->(∀a' w',Rel K base n {st with env:=(o.dst.toList.map λs=>(s,(eff K.E st.get st.getB o.op).val))++(eff K.E st.get st.getB o.op).sl++st.env,box:=(eff K.E st.get st.getB o.op).bx++st.box} a' w'->Kn a' w')->oper.wpIn (WF r) m K.P a w Kn Q:=λhk hnext=>by
  rcases T1 hch with hu|hnd
  ·rw[hu] at hk;exact hk.elim
  exact Ul hnd (main hk hnext)
 unfold wpOpIn;simp only[hi];cases hgo:o.guard with
 |none=>
  rw[hgo] at hok hgd;have hw:Region.wanted oper (yielded ops a.tmps)=true:=by
   unfold Dj at hgd;split at hgd
   ·rename_i h1 _;unfold Region.wanted;rw[h1]
   ·rename_i h1 h2;cases h2
   cases hgd
  rw[if_pos hw];refine mainIn hok λa' w' hr=>hn a' w' ?_;unfold ai;rw[hgo];exact hr
 |some sw=>
  obtain⟨s,want⟩:=sw;rw[hgo] at hok;have hw:=El (ops:=ops) hR hgd hgo hok.1;by_cases hb:fG (st.get s) want=true
  ·rw[hw,if_pos hb];refine mainIn (hok.2 hb) λa' w' hr=>hn a' w' ?_;unfold ai;rw[hgo];simp only[if_pos hb];exact hr
  rw[hw,if_neg hb];refine⟨λf _=>Mu r f,hn _ _ ?_⟩;unfold ai;rw[hgo];simp only[if_neg hb];have hR':=hR;obtain⟨g,hI,hS,_,_,_⟩:=hR';rw[hdst];have:=Pm (e:={val:=bR}) (v:=undef) (w':=w) hR hlt horg1 (by simp) ⟨g,hI,hS,by simp[Rep,bR]⟩;simpa using this
def zV(K:Cx)(n:Nat)(ops:Array Oper):List Oper->List af->Bool
 |[],[]=>true
 |o::os,x::xs=>FK K n ops o x&&zV K n ops os xs
 |_,_=>false
theorem AA{ops:Array Oper}:∀{os:List Oper} {xs:List af},zV K n ops os xs=true->os.length=xs.length∧∀(i:Nat) (o:Oper) (x:af),os[i]? =some o->xs[i]? =some x->FK K n ops o x=true
 |[],[],_=>by simp
 |[],_::_,h=>by simp[zV] at h
 |_::_,[],h=>by simp[zV] at h
 |o::os,x::xs,h=>by
  simp only[zV,Bool.and_eq_true] at h;obtain⟨h1,h2⟩:=AA h.2;refine⟨by simp[h1],λi o' x' ho hx=> ?_⟩;cases i with
  |zero=>simp at ho hx;subst ho hx;exact h.1
  |succ i=>exact h2 i o' x' (by simpa using ho) (by simpa using hx)
theorem MF{xs:List af}(hc:zV K n ops ops.toList xs=true)(hV:∀x∈xs,VOk K x.op){Q:Exit->Act->World->Prop}{r:Option Nat}{q:Nat}:∀(m s:Nat) (st:ASt) (a:Act) (w:World),s+m=ops.size->Rel K base n st a w->Aa K.E (xs.drop s) st->
  (∀a' w',Rel K base n (C3 K.E (xs.drop s) st) a' w'->Q .normal a' w')->wpOpsIn (WF r) q K.P ops Q (List.range' s m) a w
 |0,s,st,a,w,hs,hR,_,hn=>by have hl:=(AA hc).1;have:xs.drop s=[]:=List.drop_eq_nil_of_le (by rw[<-hl];simp;omega);rw[this] at hn;exact hn a w hR
 |m+1,s,st,a,w,hs,hR,hok,hn=>by
  obtain⟨hl,hg⟩:=AA hc;have hlt:s<ops.size:=by omega
  have hltx:s<xs.length:=by rw[<-hl];simpa using hlt
  rw[List.drop_eq_getElem_cons hltx] at hok hn;rw[List.range'_succ,wpOpsIn_cons];refine HY (oper:=ops[s]) (o:=xs[s]) hR (Array.getElem?_eq_getElem hlt) (hg s _ _ (by simp[hlt]) (List.getElem?_eq_getElem hltx)) hok.1 (hV _ (List.getElem_mem _)) λa' w' hR'=> ?_;exact MF hc hV m (s+1) _ a' w' (by omega) hR' hok.2 hn
def Rv(ops:Array Oper)(xs:List af):Bool:=
 (List.range ops.size).all λi=>
  match ops[i]? with
  |none=>false
  |some o=>(o.after.all λe=> !Region.binds .any e||decide (e.on<i))&&
    (List.range i).all λp=>(o.after.toList.any λe=>Region.binds .any e&&e.on==p)||kW (xs.getD p default) (xs.getD i default)
theorem Oi{xs:List af}(hc:zV K n ops ops.toList xs=true)(hV:∀x∈xs,VOk K x.op)(ho:Rv ops xs=true){Q:Exit->Act->World->Prop}{r:Option Nat}{q:Nat}:
  ∀(fuel:Nat) (R:List Nat) (listed:Array Bool) (st:ASt) (a:Act) (w:World),R.length<=fuel->listed.size=ops.size->R.Pairwise (· <·)->(∀i,i∈R↔i<ops.size∧listed.getD i true=false)->Rel K base n st a w->
   Aa K.E (R.map (xs.getD · default)) st->(∀a' w',Rel K base n (C3 K.E (R.map (xs.getD · default)) st) a' w'->Q .normal a' w')->wpAnyIn (WF r) q K.P .any ops Q fuel listed a w:=by
 obtain⟨hl,hg⟩:=AA hc;have hord:∀i o,ops[i]? =some o->(∀e∈o.after,Region.binds .any e=true->e.on<i)∧∀p,p<i->(∃e∈o.after,Region.binds .any e=true∧e.on=p)∨kW (xs.getD p default) (xs.getD i default)=true:=λi o hi=>by have hlt:=(Array.getElem?_eq_some_iff.1 hi).1;have h1:=List.all_eq_true.1 ho i (List.mem_range.2 hlt);simp only[hi,Bool.and_eq_true,Array.all_eq_true_iff_forall_mem,Bool.or_eq_true,Bool.not_eq_true',decide_eq_true_eq,List.all_eq_true,List.mem_range,List.any_eq_true,Array.mem_toList_iff,beq_iff_eq] at h1;obtain⟨h1,h2⟩:=h1;refine⟨λe he hb=>(h1 e he).resolve_left (by simp[hb]),λp hp=>(h2 p hp).imp (λ⟨e,he,hb⟩=>⟨e,he,hb⟩) id⟩
 have rdy:∀(R:List Nat) (listed:Array Bool),listed.size=ops.size->(∀i,i∈R↔i<ops.size∧listed.getD i true=false)->R.Pairwise (· <·)->Region.ready .any ops listed=[]->R=[]:=λR listed hsz hR hp hr=>by
  cases R with
  |nil=>rfl
  |cons r R=>
   exfalso
   have h1:=(hR r).1 (by simp);have:r∈Region.ready .any ops listed:=by
    rw[mem_ready];refine⟨h1.2,ops[r]'h1.1,Array.getElem?_eq_getElem h1.1,λe he hb=> ?_⟩;have hlt:=(hord r _ (Array.getElem?_eq_getElem h1.1)).1 e he hb;have hnot:e.on∉r::R:=λhm=>by
     rcases List.mem_cons.1 hm with h|h
     ·omega
     have:=List.rel_of_pairwise_cons hp h;omega
    have h2:¬(listed.getD e.on true=false):=λh=>hnot ((hR e.on).2 ⟨by omega,h⟩);rw[Array.getD_eq_getD_getElem?] at h2⊢;cases hg:listed[e.on]? with
    |none=>
     exfalso
     have:=Array.getElem?_eq_none_iff.1 hg;omega
    |some b=>rw[hg] at h2;simpa using h2
   rw[hr] at this;cases this
 intro fuel;induction fuel with
 |zero=>intro R listed st a w hlen hsz hp hR hrel hok hn;have:R=[]:=List.eq_nil_of_length_eq_zero (by omega);subst this;refine⟨?_,hn a w hrel⟩;refine List.eq_nil_iff_forall_not_mem.2 λi hi=> ?_;obtain⟨h1,o,h2,_⟩:=mem_ready.1 hi;have:=(hR i).2 ⟨(Array.getElem?_eq_some_iff.1 h2).1,h1⟩;cases this
 |succ fuel ih=>
  intro R listed st a w hlen hsz hp hR hrel hok hn;refine⟨λhr=> ?_,λi hi=> ?_⟩
  ·have:=rdy R listed hsz hR hp hr;subst this;exact hn a w hrel
  obtain⟨h1,o,h2,h3⟩:=mem_ready.1 hi;have hilt:=(Array.getElem?_eq_some_iff.1 h2).1;have hiR:=(hR i).2 ⟨hilt,h1⟩;obtain⟨pre,post,rfl⟩:=List.append_of_mem hiR;have hpre:∀p∈pre,p<i:=λp hm=>by have:=(List.pairwise_append.1 hp).2.2 p hm i (by simp);exact this
  have hind:∀q∈pre.map (xs.getD · default),kW q (xs.getD i default)=true:=λq hq=>by
   obtain⟨p,hpm,rfl⟩:=List.mem_map.1 hq;refine((hord i o h2).2 p (hpre p hpm)).resolve_left λ⟨e,he,hb,hep⟩=> ?_;have:=h3 e he hb;have hpl:=((hR p).1 (by simp[hpm])).2;rw[hep,Array.getD_eq_getD_getElem?] at this;rw[Array.getD_eq_getD_getElem?] at hpl;cases hg:listed[p]? with
   |none=>rw[hg] at hpl;simp at hpl
   |some b=>rw[hg] at hpl this;simp at hpl this;rw[hpl] at this;cases this
  simp only[List.map_append,List.map_cons] at hok hn;obtain⟨k1,k2,k3⟩:=QL _ _ st hind hok;have hxi:xs[i]? =some (xs.getD i default):=by rw[List.getD,List.getElem?_eq_getElem (by rw[<-hl];simpa using hilt)];rfl
  refine HY (oper:=o) (o:=xs.getD i default) hrel h2 (hg i o _ (by simpa using h2) hxi) k1 (hV _ (sj hxi)) λa' w' hR'=> ?_;refine ih (pre++post) (listed.setIfInBounds i true) _ a' w' ?_ ?_ ?_ ?_ hR' (by rw[List.map_append];exact k2) ?_
  ·simp at hlen⊢;omega
  ·simpa using hsz
  ·rw[List.pairwise_append] at hp⊢;refine⟨hp.1,(List.pairwise_cons.1 hp.2.1).2,λx hx y hy=>hp.2.2 x hx y (by simp[hy])⟩
  ·intro j;have hj:=hR j;simp only[List.mem_append,List.mem_cons] at hj⊢;by_cases hji:j=i
   ·subst hji;constructor
    ·intro hm
     exfalso
     rw[List.pairwise_append] at hp;rcases hm with hm|hm
     ·have:=hpre j hm;omega
     have:=(List.pairwise_cons.1 hp.2.1).1 j hm;omega
    rintro⟨_,hf⟩
    exfalso
    rw[Array.getD_eq_getD_getElem?,Array.getElem?_setIfInBounds] at hf;simp[hsz,hilt] at hf
   rw[getD_set_ne true (λe=>hji e.symm)];rw[<-hj];constructor
   ·rintro(h|h);exact .inl h;exact .inr (.inr h)
   rintro(h|h|h)
   ·exact .inl h
   ·exact absurd h hji
   exact .inr h
  intro a'' w'' hR'';rw[List.map_append] at hR'';exact hn a'' w'' (XX k3 hR'')
end
end Go.Abs