/- Lemmas: an abstract interpreter, and what the functions compute. -/
import Derived.Test.YtkccmbjmlpnejaaDoorT
import Derived.Test.YtkccmbjmlpnejaaDoorN
import Derived.Test.YtkccmbjmlpnejaaDoorD
import Derived.Test.YtkccmbjmlpnejaaDoorP
set_option linter.unusedSimpArgs false
set_option linter.unusedVariables false
set_option linter.unusedSectionVars false
section
namespace Go.Abs
set_option maxRecDepth 100000
def z7q (l:List z3e) (c:Nat):List z2a:=z6b l++List.replicate ((c-l.length)*24) .undef
theorem z4va {l:List z3e} {c:Nat} (h:z5d l) (hc:l.length≤c):(z7q l c).length=c*24:=by
 rw[z7q,List.length_append,z9d (z2c h),List.length_replicate,Nat.sub_mul]
 have:l.length*24≤c*24:=Nat.mul_le_mul_right _ hc
 omega
theorem z5cb {l:List z3e} (h:z5d l) (i:Nat):(z6b l).drop (i*24)=z6b (l.drop i):=z5aa (enc:=z2n) (P:=z5Ea) (fun a ha=>z8k ha) l i (z2c h)
theorem z8cb {l:List z3e} (h:z5d l) (i:Nat):(z6b l).take (i*24)=z6b (l.take i):=by
 by_cases hi:i≤l.length
 ·have e:z6b l=z6b (l.take i)++z6b (l.drop i):=by rw[←z8fa,List.take_append_drop]
  have h':z5d (l.take i):=fun m hm=>h m (List.mem_of_mem_take hm)
  rw[e,List.take_left' (by rw[z9d (z2c h'),List.length_take,Nat.min_eq_left hi])]
 ·rw[List.take_of_length_le (by rw[z9d (z2c h)];exact Nat.mul_le_mul_right _ (by omega)),List.take_of_length_le (by omega)]
theorem z5vb {l:List z3e} {c i:Nat} (h:z5d l) (hc:l.length≤c) (hi:i≤l.length):((z7q l c).drop (i*24)).take ((l.length-i)*24)=z6b (l.drop i):=by
 have hl:i*24≤(z6b l).length:=by rw[z9d (z2c h)];exact Nat.mul_le_mul_right _ hi
 have h':z5d (l.drop i):=fun m hm=>h m (List.mem_of_mem_drop hm)
 rw[z7q,List.drop_append_of_le_length hl,z5cb h,List.take_left' (by rw[z9d (z2c h'),List.length_drop])]
theorem z9tb {l:List z3e} {c i:Nat} (h:z5d l) (hc:l.length≤c) (hi:i<l.length):splice (z7q l c) (i*24) (z6b (l.drop (i+1)))=z6b (l.eraseIdx i)++((z6b l).drop ((l.length-1)*24)++List.replicate ((c-l.length)*24) .undef):=by
 have h':z5d (l.drop (i+1)):=fun m hm=>h m (List.mem_of_mem_drop hm)
 have hl:=z9d (z2c h)
 have hk:i*24≤(z6b l).length:=by rw[hl];exact Nat.mul_le_mul_right _ (by omega)
 have hk2:(l.length-1)*24≤(z6b l).length:=by rw[hl];exact Nat.mul_le_mul_right _ (by omega)
 have e:i*24+(z6b (l.drop (i+1))).length=(l.length-1)*24:=by rw[z9d (z2c h'),List.length_drop,←Nat.add_mul];congr 1;omega
 rw[splice,e,z7q,List.take_append_of_le_length hk,List.drop_append_of_le_length hk2,z8cb h,←z8fa,List.eraseIdx_eq_take_drop_succ]
theorem z8Ab {l:List z3e} {c i:Nat} (h:z5d l) (hc:l.length≤c) (hi:i<l.length):splice (z6b (l.eraseIdx i)++((z6b l).drop ((l.length-1)*24)++List.replicate ((c-l.length)*24) .undef)) ((l.length-1)*24) (List.replicate 24 .undef)=z7q (l.eraseIdx i) c:=by
 have h':z5d (l.eraseIdx i):=fun m hm=>h m (List.mem_of_mem_eraseIdx hm)
 have hl:=z9d (z2c h)
 have hl':=z9d (z2c h')
 have he:(l.eraseIdx i).length=l.length-1:=List.length_eraseIdx_of_lt hi
 rw[he] at hl'
 have hd:((z6b l).drop ((l.length-1)*24)).length=24:=by rw[List.length_drop,hl,←Nat.sub_mul];omega
 rw[splice,List.take_left' hl',List.length_replicate,←List.drop_drop,List.drop_left' hl',List.drop_left' hd,z7q,he,List.append_assoc,List.replicate_append_replicate]
 congr 2
 omega
def gCap (d:z2a):Nat:=match d with| .bv _ _ _ _ c=>c|_=>0
def z95a:CW:=⟨[0],[500000],[],fun ds bs=>∃(l:List z3e) (c i:Nat),z5d l∧l.length≤c∧l.length≤1000000∧i<l.length∧ds=[.bv 500000 24 0 l.length c,i64 i,i64 ((i:Int)+1)]∧bs 500000=z7q l c,
 fun ds _=> .bv 500000 24 0 (z5t (nth ds 0)-1) (gCap (nth ds 0)),
 fun ds bs _=>z7q ((z7Y (z5t (nth ds 0)) ((bs 500000).take (z5t (nth ds 0)*24))).eraseIdx (asI (nth ds 1)).toNat) (gCap (nth ds 0))⟩
@[simp] theorem z0hb:z95a.hold=[0]:=rfl
@[simp] theorem z5Xb:z95a.bx=[500000]:=rfl
@[simp] theorem z9Zb:z95a.nb=[]:=rfl
@[simp] theorem z6tc (n c:Nat) (x y:z2a) (bs:Nat→List z2a):z95a.post [.bv 500000 24 0 n c,x,y] bs= .bv 500000 24 0 (n-1) c:=rfl
theorem z15a {l:List z3e} {c i:Nat} {y:z2a} {bs:Nat→List z2a} (h:z5d l) (hb:bs 500000=z7q l c) (j:Nat):z95a.out [.bv 500000 24 0 l.length c,i64 i,y] bs j=z7q (l.eraseIdx i) c:=by
 show z7q ((z7Y l.length ((bs 500000).take (l.length*24))).eraseIdx (asI (i64 (i:Int))).toNat) c=_
 have e:(z7q l c).take (l.length*24)=z6b l:=by rw[z7q,List.take_left' (z9d (z2c h))]
 rw[hb,e,z2I (z2c h)]
 rfl
theorem z4ab (l:List z3e):(∀c∈z6b l,z2d c∧z1f c=false)=True:=eq_true fun c hc=>by
 obtain⟨m,_,h⟩:=List.mem_flatMap.1 hc
 exact⟨(z5W c h).2,of_eq_true (z3r m) c h⟩
theorem z9Ja:∀n:Nat,z7g (List.replicate n z2a.undef)=[]
 |0=>rfl
 |n+1=>by rw[List.replicate_succ];show z0r .undef++z7g (List.replicate n .undef)=[];rw[z9Ja n];rfl
theorem z8Ja (l:List z3e) (c:Nat):z7g (z7q l c)=[]:=by
 rw[z7q,z2E,z9Ja,List.append_nil]
 induction l with
 |nil=>rfl
 |cons m l ih=>rw[show z6b (m::l)=z2n m++z6b l from List.flatMap_cons,z2E,ih];simp[z2n,z7g]
set_option maxHeartbeats 4000000 in
theorem z8tc (E:Env):∀ds bs p,z95a.pre ds bs→ds.length=z9i.n∧awp E z9i.body (z0Wc z9i.res z95a p ds bs) (z2Ma z95a p ds bs):=by
 rintro _ bs p ⟨l,c,i,h16,hc,hm,hi,rfl,hb⟩
 have hout:=fun j=>z15a (c:=c) (i:=i) (y:=i64 ((i:Int)+1)) h16 hb j
 have hrl:=z4va h16 hc
 have k1:=z5vb h16 hc (i:=i+1) (by omega)
 have k2:=z9tb h16 hc hi
 have k3:=z8Ab h16 hc hi
 have he:(l.eraseIdx i).length=l.length-1:=List.length_eraseIdx_of_lt hi
 generalize hR:z7q l c=R at*
 have b1:(i:Int)+1≤l.length:=by omega
 have hne:((i:Int)==(i:Int)+1)=false:=beq_false_of_ne (by omega)
 have b2:((i:Int)+1).toNat=i+1:=by omega
 have hl1:l.length-(i+1)+i=l.length-1:=by omega
 have hcs:=z4ab (l.drop (i+1))
 simp(maxSteps:=1000000) (disch:=first|omega|(simp;done)|(simp;omega)) [z9a,z1a,z0a,z9i,z2Ma,z47b,hb,b1]
 refine⟨⟨by omega,by omega⟩,?_⟩
 simp(maxSteps:=1000000) (disch:=first|omega|(simp;done)|(simp;omega)) [z9a,z1a,z0a,hne,kF]
 rw[z4gb]
 refine⟨p 0,⟨500000,by simp,⟨24,0,l.length,c,by simp⟩,24,0,l.length,c,by simp⟩,fun V hV=> ?_⟩
 rw[z3gb]
 have h16':z5d (l.eraseIdx i):=fun m hm=>h16 m (List.mem_of_mem_eraseIdx hm)
 have L1:=z9d (z2c h16')
 have L2:=z9d (z2c h16)
 rw[he] at L1
 have e1:i+(l.length-(i+1))=l.length-1:=by omega
 have e2:((i:Int)+((l.length-(i+1):Nat):Int)).toNat=l.length-1:=by omega
 have e3:l.length-(l.length-1)=1:=by omega
 simp(maxSteps:=1000000) (disch:=first|omega|(simp;done)|(simp;omega)) [z9a,z1a,z0a,z2H,b1,b2,hrl,k1,k2,hcs]
 simp only[e1,e2,e3,L1,L2,Nat.one_mul,k3]
 refine⟨by omega,by omega,⟨⟨by omega,by omega,by omega⟩,by omega⟩,⟨by omega,by omega,by omega⟩,by omega,?_⟩
 have hpu:z7g (z7q (l.eraseIdx i) c)=[]:=z8Ja _ _
 refine⟨by simp,by simp[z6ia],fun j hj=> .inr ?_,fun j hj=> ?_,by simp,fun j hj id hid=> ?_⟩
 ·simp only[z0hb,List.mem_singleton] at hj
  subst hj
  exact⟨8,V,500000,24,0,l.length,c,24,0,l.length,c,by simp,hV,by simp,rfl⟩
 ·simp only[z5Xb,z9Zb,List.append_nil,List.mem_singleton] at hj
  subst hj
  simp[hout]
 ·rw[hout,hpu] at hid
  cases hid
end Go.Abs
end

section
namespace Go.Abs
set_option maxRecDepth 100000
def gEp (d:z2a):List z2a:=match d with| .ep cs=>cs|_=>[]
def z6Qa:z5a:=⟨fun ds=>∃(m:z3e) (i:Int),m.ok∧ds=[.agg (z2n m),.ep [i64 i]],fun ds=>bo (decide ((z1nb (gCs (nth ds 0))).id=asI (nth (gEp (nth ds 1)) 0)))⟩
theorem z1Ya {m:z3e} (i:Int) (h:m.ok):z6Qa.pre [.agg (z2n m),.ep [i64 i]]=True:=eq_true ⟨m,i,h,rfl⟩
theorem z5ua (m:z3e) (i:Int):z6Qa.post [.agg (z2n m),.ep [i64 i]]=bo (decide (m.id=i)):=by
 show bo (decide ((z1nb (z2n m)).id=i))=_
 rw[z48]
theorem z90b (E:Env):∀ds,z6Qa.pre ds→ds.length=z6m.n∧awp E z6m.body (z1A z6m.res (z6Qa.post ds)) (z9c z6m.wr ds):=by
 rintro _ ⟨m,i,hm,rfl⟩
 rw[z5ua]
 have hd:=hm.2.2.2.2.2.2.2
 have hl:=z8k hd
 have h0:hdA (z2n m)=i64 m.id:=rfl
 simp(maxSteps:=1000000) (disch:=first|omega|(simp;done)|(simp;omega)) [z9a,z1a,z0a,z6m,hl,z5db,z93b,z9Xc hd,h0]
 rfl
def z0Wa:z5a:=⟨fun ds=>∃(m:z3e) (nc nm ng:Option Bool) (x:z9o),m.ok∧x.small∧ds=[.agg (z2n m),.ep (z5l nc nm ng x)],fun ds=>bo (decide ((z1nb (gCs (nth ds 0))).id=asI (nth (gEp (nth ds 1)) 5)))⟩
theorem z2Cb {m:z3e} {nc nm ng:Option Bool} {x:z9o} (h:m.ok) (hx:x.small):z0Wa.pre [.agg (z2n m),.ep (z5l nc nm ng x)]=True:=eq_true ⟨m,nc,nm,ng,x,h,hx,rfl⟩
theorem z6Oa (m:z3e) (nc nm ng:Option Bool) (x:z9o):z0Wa.post [.agg (z2n m),.ep (z5l nc nm ng x)]=bo (decide (m.id=x.cmd.key)):=by
 show bo (decide ((z1nb (z2n m)).id=x.cmd.key))=_
 rw[z48]
theorem z0Vb (E:Env):∀ds,z0Wa.pre ds→ds.length=z8m.n∧awp E z8m.body (z1A z8m.res (z0Wa.post ds)) (z9c z8m.wr ds):=by
 rintro _ ⟨m,nc,nm,ng,x,hm,hx,rfl⟩
 rw[z6Oa]
 have hd:=hm.2.2.2.2.2.2.2
 have hl:=z8k hd
 have h0:hdA (z2n m)=i64 m.id:=rfl
 have hle:=z8d (nc:=nc) (nm:=nm) (ng:=ng) hx.1.2.2.2.2.2.1
 simp(maxSteps:=1000000) (disch:=first|omega|(simp;done)|(simp;omega)) [z9a,z1a,z0a,z8m,hl,z5db,z93b,z9Xc hd,h0,hle]
 rfl
def z3Wa:z5a:=⟨fun ds=>∃(nl:Option Bool) (l:List z3e) (k:Int),z5d l∧l.length≤1000000∧ds=[.sl .plain nl l.length (z6b l),.fn 305 [] [.ep [i64 k]]],fun ds=>i64 (z2Ha (fun m=>decide (m.id=(match nth ds 1 with| .fn _ _ [d]=>asI (nth (gEp d) 0)|_=>0))) (z7Y (gNn (nth ds 0)) (gCs (nth ds 0))))⟩
theorem z51a {nl:Option Bool} {l:List z3e} (k:Int) (h:z5d l) (h1:l.length≤1000000):z3Wa.pre [.sl .plain nl l.length (z6b l),.fn 305 [] [.ep [i64 k]]]=True:=eq_true ⟨nl,l,k,h,h1,rfl⟩
theorem z5sa (nl:Option Bool) {l:List z3e} (k:Int) (h:z5d l):z3Wa.post [.sl .plain nl l.length (z6b l),.fn 305 [] [.ep [i64 k]]]=i64 (z2Ha (fun m=>decide (m.id=k)) l):=by
 show i64 (z2Ha (fun m=>decide (m.id=k)) (z7Y l.length (z6b l)))=_
 rw[z2I (z2c h)]
set_option maxHeartbeats 4000000 in
theorem z2Xb (E:Env) (h305:E.G 305=z6Qa):∀ds,z3Wa.pre ds→ds.length=z4b.n∧awp E z4b.body (z1A z4b.res (z3Wa.post ds)) (z9c z4b.wr ds):=by
 rintro _ ⟨nl,l,k,h16,hl,rfl⟩
 rw[z5sa nl k h16]
 have hlen:=z9d (z2c h16)
 simp(maxSteps:=1000000) (disch:=first|omega|(simp;done)|(simp;omega)) [z9a,z1a,z0a,z4b]
 refine z3a fun Q0 hQ0=> ?_
 refine z4d (fun i:Nat=>⟨[(0,.sl .plain nl l.length (z6b l)),(1,.fn 305 [] [.ep [i64 k]])],[(7,i64 l.length),(8,i64 i)],[]⟩)
  (fun i=>l.length-i) (fun i=>i≤l.length∧∀j<i,decide ((atM l j).id=k)=false) 0 (by simp) (by simp) fun i hi=> ?_
 obtain⟨hi,he⟩:=hi
 refine z3a fun Q1 hQ1=> ?_
 by_cases h1:i<l.length
 ·have hm:=h16 _ (z5ta h1)
  have ha:=z0wa h16 h1
  have hle:=z2Va h16 h1
  have hle':i*24≤l.length*24:=by omega
  have hle2:24≤l.length*24-i*24:=by omega
  by_cases h2:(atM l i).id=k
  ·have hR:=z8Qa (p:=fun m=>decide (m.id=k)) h1 he (by simpa using h2)
   simp(maxSteps:=1000000) (disch:=first|omega|(simp;done)|(simp;omega)) [z9a,z1a,z0a,z8e,z0i,kT,kF,dT,dF,h1,ha,hlen,hle',hle2,h305,z1Ya _ hm,z5ua,h2,z0A,hQ1,hQ0,hR]
  ·simp(maxSteps:=1000000) (disch:=first|omega|(simp;done)|(simp;omega)) [z9a,z1a,z0a,z8e,z0i,kT,kF,dT,dF,h1,ha,hlen,hle',hle2,h305,z1Ya _ hm,z5ua,h2,z0A,hQ1]
   refine⟨i+1,by omega,⟨by omega,fun j hj=> ?_⟩,by omega⟩
   rcases Nat.lt_or_eq_of_le (Nat.lt_succ_iff.1 hj) with h|h
   ·simpa using he j h
   ·rw[h];simpa using h2
 ·have hl':i=l.length:=by omega
  have hR:=z1Xa (p:=fun m=>decide (m.id=k)) (l:=l) (fun j hj=>he j (by omega))
  simp(maxSteps:=1000000) (disch:=first|omega|(simp;done)|(simp;omega)) [z9a,z1a,z0a,z8e,kT,kF,dT,dF,h1,hQ1,hQ0,z8l,hR]
def z0Xa:z5a:=⟨fun ds=>∃(nl nc nm ng:Option Bool) (l:List z3e) (x:z9o),z5d l∧l.length≤1000000∧x.small∧ds=[.sl .plain nl l.length (z6b l),.fn 308 [] [.ep (z5l nc nm ng x)]],fun ds=>i64 (z2Ha (fun m=>decide (m.id=(match nth ds 1 with| .fn _ _ [d]=>asI (nth (gEp d) 5)|_=>0))) (z7Y (gNn (nth ds 0)) (gCs (nth ds 0))))⟩
theorem z7Za {nl nc nm ng:Option Bool} {l:List z3e} {x:z9o} (h:z5d l) (h1:l.length≤1000000) (hx:x.small):z0Xa.pre [.sl .plain nl l.length (z6b l),.fn 308 [] [.ep (z5l nc nm ng x)]]=True:=eq_true ⟨nl,nc,nm,ng,l,x,h,h1,hx,rfl⟩
theorem z5ra (nl nc nm ng:Option Bool) {l:List z3e} (x:z9o) (h:z5d l):z0Xa.post [.sl .plain nl l.length (z6b l),.fn 308 [] [.ep (z5l nc nm ng x)]]=i64 (z2Ha (fun m=>decide (m.id=x.cmd.key)) l):=by
 show i64 (z2Ha (fun m=>decide (m.id=x.cmd.key)) (z7Y l.length (z6b l)))=_
 rw[z2I (z2c h)]
set_option maxHeartbeats 4000000 in
theorem z45b (E:Env) (h308:E.G 308=z0Wa):∀ds,z0Xa.pre ds→ds.length=z3b.n∧awp E z3b.body (z1A z3b.res (z0Xa.post ds)) (z9c z3b.wr ds):=by
 rintro _ ⟨nl,nc,nm,ng,l,x,h16,hl,hx,rfl⟩
 rw[z5ra nl nc nm ng x h16]
 have hlen:=z9d (z2c h16)
 have p2:=fun(m:z3e) (hm:m.ok)=>z2Cb (nc:=nc) (nm:=nm) (ng:=ng) hm hx
 have q2:=fun(m:z3e)=>z6Oa m nc nm ng x
 generalize hk:x.cmd.key=k at*
 have hpu:z2h (z5l nc nm ng x)=true:=z9Ka nc nm ng x
 generalize z5l nc nm ng x=X at*
 simp(maxSteps:=1000000) (disch:=first|omega|(simp;done)|(simp;omega)) [z9a,z1a,z0a,z3b]
 refine z3a fun Q0 hQ0=> ?_
 refine z4d (fun i:Nat=>⟨[(0,.sl .plain nl l.length (z6b l)),(1,.fn 308 [] [.ep X])],[(7,i64 l.length),(8,i64 i)],[]⟩)
  (fun i=>l.length-i) (fun i=>i≤l.length∧∀j<i,decide ((atM l j).id=k)=false) 0 (by simp) (by simp) fun i hi=> ?_
 obtain⟨hi,he⟩:=hi
 refine z3a fun Q1 hQ1=> ?_
 by_cases h1:i<l.length
 ·have hm:=h16 _ (z5ta h1)
  have ha:=z0wa h16 h1
  have hle:=z2Va h16 h1
  have hle':i*24≤l.length*24:=by omega
  have hle2:24≤l.length*24-i*24:=by omega
  have p3:=p2 _ hm
  by_cases h2:(atM l i).id=k
  ·have hR:=z8Qa (p:=fun m=>decide (m.id=k)) h1 he (by simpa using h2)
   simp(maxSteps:=1000000) (disch:=first|omega|(simp;done)|(simp;omega)) [z9a,z1a,z0a,z6e,z9h,kT,kF,dT,dF,h1,ha,hlen,hle',hle2,h308,p3,q2,h2,z0A,hQ1,hQ0,hR,hpu]
  ·simp(maxSteps:=1000000) (disch:=first|omega|(simp;done)|(simp;omega)) [z9a,z1a,z0a,z6e,z9h,kT,kF,dT,dF,h1,ha,hlen,hle',hle2,h308,p3,q2,h2,z0A,hQ1,hpu]
   refine⟨i+1,by omega,⟨by omega,fun j hj=> ?_⟩,by omega⟩
   rcases Nat.lt_or_eq_of_le (Nat.lt_succ_iff.1 hj) with h|h
   ·simpa using he j h
   ·rw[h];simpa using h2
 ·have hl':i=l.length:=by omega
  have hR:=z1Xa (p:=fun m=>decide (m.id=k)) (l:=l) (fun j hj=>he j (by omega))
  simp(maxSteps:=1000000) (disch:=first|omega|(simp;done)|(simp;omega)) [z9a,z1a,z0a,z6e,kT,kF,dT,dF,h1,hQ1,hQ0,z0m,hR]
end Go.Abs
end
