/- Lemmas: an abstract interpreter, and what the functions compute. -/
import Derived.Test.YtkccmbjmlpnejaaDoorV
import Derived.Test.YtkccmbjmlpnejaaDoorP
import Derived.Test.YtkccmbjmlpnejaaDoorN
set_option linter.unusedSimpArgs false
set_option linter.unusedVariables false
set_option linter.unusedSectionVars false
section
namespace Go.Abs
set_option maxRecDepth 100000
theorem z10a (n c:Int):z2l (z6Kb n c):=by
 have e:z6Kb n c=(BitVec.ofInt 64 n&&&BitVec.ofInt 64 c).toInt:=z4ac _
 rw[e]
 generalize BitVec.ofInt 64 n&&&BitVec.ofInt 64 c=b
 have h1:=BitVec.le_toInt b
 have h2:=BitVec.toInt_lt (x:=b)
 have e1:(2:Int)^(64-1)=9223372036854775808:=rfl
 rw[e1] at h1 h2
 exact⟨by omega,by omega⟩
def z7Uc (v:z7i) (x:z9o) (l:List z3e):z05c:=if z0Za x.made v.next=true then(if z0na<v.next+x.made.length then⟨z1O,2⟩ else⟨⟨x.time,x.mode,v.ents+1,v.next+x.made.length,l++x.made⟩,0⟩) else⟨z1O,7⟩
def z4dc (v:z7i) (x:z9o):Option (List z3e)→z05c
 |none=>⟨z1O,7⟩
 |some l=>z7Uc v x l
theorem z2tc {v:z7i} {x:z9o} (h:okE x=true) (ht:¬x.time<v.time):z7ea v x=z4dc v x ((z6U x.gone v.keys).bind (z0qa x)):=by
 unfold z7ea
 rw[if_pos h,if_neg ht]
 cases(z6U x.gone v.keys).bind (z0qa x)<;>rfl
set_option maxHeartbeats 16000000 in
theorem z0Sa (E:Env) {nc nm ng:Option Bool} {vt vm ve vn:Int} {vk:List z3e} {x:z9o} (hx:x.small) {a0 a1 a2:z2a} {l:List z3e} (k16:z5d l) (kl:l.length≤1000000) (ke0:0≤ve) (ke1:ve≤1000000) (kn0:0≤vn) (kn1:vn≤2147483647):
  awp E z0p (z1A [.cell 4 (some 5) 4,.t 5] (.tup [.agg (z3d none (z7Uc ⟨vt,vm,ve,vn,vk⟩ x l).v),i64 (z7Uc ⟨vt,vm,ve,vn,vk⟩ x l).e])) ⟨[(2,a2),(3,.ep (z5l nc nm ng x)),(0,a0),(1,a1)],[(4,.bp 4 0),(6,.bp 6 0)],[(4,some [i64 0,i64 0,i64 0,i64 0,.sl .plain none 0 []]),(6,some [i64 x.time,i64 x.mode,i64 (ve+1),i64 vn,.sl (.own 24) none l.length (z6b l)]),(8,none)]⟩:=by
 have hd:=hx.1.2.2.2.2.2.1
 have h16:=hx.1.2.2.2.2.2.2.1
 have hml:=hx.2.2.1
 have hl:=z8d (nc:=nc) (nm:=nm) (ng:=ng) hd
 have e28:=z1ma (nc:=nc) (nm:=nm) (ng:=ng) hd
 have hlen:=z9d (z2c h16)
 have hkl:=z9d (z2c k16)
 unfold z7Uc
 simp only
 refine z3a fun Q0 hQ0=> ?_
 simp only[z0p]
 refine z0X fun B hB=> ?_
 simp(maxSteps:=1000000) (disch:=first|omega|(simp;done)|(simp;omega)) [z9a,z1a,z0a,hl,e28]
 refine z3a fun Q3 hQ3=> ?_
 refine z4d (fun i:Nat=>⟨[(2,a2),(3,.ep (z5l nc nm ng x)),(0,a0),(1,a1)],[(4,.bp 4 0),(6,.bp 6 0),(80,.sl .plain nm x.made.length (z6b x.made)),(81,i64 x.made.length),(82,i64 i)],
   [(4,some [i64 0,i64 0,i64 0,i64 0,.sl .plain none 0 []]),(6,some [i64 x.time,i64 x.mode,i64 (ve+1),i64 (vn+i),.sl (.own 24) none (l.length+i) (z6b (l++x.made.take i))]),(8,none)]⟩)
  (fun i=>x.made.length-i) (fun i=>i≤x.made.length∧∀j<i,(atD x.made j).id=vn+j) 0 (by simp) (by simp) fun i hi=> ?_
 obtain⟨hi,he⟩:=hi
 refine z3a fun Q4 hQ4=> ?_
 by_cases h1:i<x.made.length
 ·have hm:=h16 _ (z9T h1)
  have hmd:=hm.2.2.2.2.2.2.2
  have ha:=z4wa h16 h1
  have hmll:=z8k hmd
  have hle:24≤x.made.length*24-i*24:=by omega
  have hle2:i*24≤x.made.length*24:=by omega
  have htak:l++x.made.take (i+1)=(l++x.made.take i)++[atD x.made i]:=by
   rw[List.take_succ_eq_append_getElem h1,z6T h1,List.append_assoc]
  generalize hX:atD x.made i=m at*
  have sp:splice (i64 0::i64 0::i64 0::i64 0::i64 0::i64 0::i64 0::bo false::bys (z4c 16)) 0 (z2n m)=z2n m:=z08 hmd rfl
  have sp':splice [i64 0,i64 0,i64 0,i64 0,i64 0,i64 0,i64 0,bo false,u8 0,u8 0,u8 0,u8 0,u8 0,u8 0,u8 0,u8 0,u8 0,u8 0,u8 0,u8 0,u8 0,u8 0,u8 0,u8 0] 0 (z2n m)=z2n m:=z08 hmd rfl
  have mtk:=z98 hmd
  generalize hV:l++x.made.take i=V at*
  by_cases h2:m.id=vn+i
  ·simp(maxSteps:=1000000) (disch:=first|omega|(simp;done)|(simp;omega)) [z9a,z1a,z0a,z3z,z4J,z23,kT,kF,h1,hl,hlen,hle,hle2,ha,hmll,sp,sp',mtk,z7n,z3r,h2,hQ4]
   refine⟨⟨by omega,by omega,fun c hc=>z5W c hc⟩,i+1,by omega,⟨by omega,fun j hj=> ?_⟩,by omega,by omega,by omega,by rw[htak,z8fa,z74a]⟩
   rcases Nat.lt_or_eq_of_le (Nat.lt_succ_iff.1 hj) with h|h
   ·exact he j h
   ·rw[h,hX];exact h2
  ·have hz:z0Za x.made vn=false:=by
    cases hc:z0Za x.made vn
    ·rfl
    ·have:=(z3Ua _ _).1 hc i h1
     rw[hX] at this
     exact absurd this h2
   rw[hz] at hQ0
   simp(maxSteps:=1000000) (disch:=first|omega|(simp;done)|(simp;omega)) [z9a,z1a,z0a,z3z,z4J,kT,kF,h1,hl,hlen,hle,hle2,ha,hmll,sp,mtk,z7n,z3r,h2,hQ4,hQ3,hQ0,z1u,z7t,z3d,z1O,z1R]
 ·have hie:i=x.made.length:=by omega
  subst hie
  have hz:z0Za x.made vn=true:=(z3Ua _ _).2 he
  rw[List.take_length] at*
  rw[if_pos hz] at hQ0
  simp(maxSteps:=1000000) (disch:=first|omega|(simp;done)|(simp;omega)) [z9a,z1a,z0a,z3z,kT,kF,h1,hQ4,hQ3]
  rw[hB];clear hB
  by_cases h4:z0na<vn+x.made.length
  ·rw[if_pos h4] at hQ0
   simp only[z0na] at h4
   simp(maxSteps:=1000000) (disch:=first|omega|(simp;done)|(simp;omega)) [z9a,z1a,z0a,z1L,kT,kF,h4,hQ0,z1u,z7t,z3d,z1O,z1R]
  ·rw[if_neg h4] at hQ0
   simp only[z0na] at h4
   simp(maxSteps:=1000000) (disch:=first|omega|(simp;done)|(simp;omega)) [z9a,z1a,z0a,z1L,z32,kT,kF,h4,hQ0,z1u,z7t,z3d]
end Go.Abs
end

section
namespace Go.Abs
set_option maxRecDepth 100000
@[simp] theorem z0dc:z7wa .undef=true:=rfl
@[simp] theorem z8ad (id o:Nat):z7wa (.bp id o)=true:=rfl
@[simp] theorem z8Sc (n:Int):z7wa (i64 n)=true:=rfl
@[simp] theorem z5ad (nl:Option Bool) (n:Nat):z7wa (.sl .plain nl n [])=true:=rfl
@[simp] theorem z2Qc (k n:Nat) (nl:Option Bool) (cs:List z2a):z7wa (.sl (.own k) nl n cs)=z0c cs:=rfl
@[simp] theorem z8pc (ids:List Nat) (bx:Nat→List z2a) (n:Int):z2na ids bx (i64 n)=i64 n:=rfl
@[simp] theorem z7Rc (n:Int):z1f (i64 n)=false:=rfl
@[simp] theorem z74c (l:List z2a):z1f (.ep l)=false:=rfl
theorem z1cb (l:List z3e) (k:Int):z2Ha (fun m=>decide (m.id=k)) l=if z93 l k<l.length then(z93 l k:Int) else-1:=rfl
theorem z55a {g:List Int} {i:Nat} (h:i<g.length) (l:List z3e):z6U (g.drop i) l=(z09a l (g.getD i 0)).bind (z6U (g.drop (i+1))):=by
 rw[List.drop_eq_getElem_cons h,z6U]
 simp[List.getD,List.getElem?_eq_getElem h]
theorem z5Ec {l:List z3e} {k:Int} (h:¬z93 l k<l.length):z09a l k=none:=if_neg h
theorem z3Ic {l:List z3e} {k:Int} (h:z93 l k<l.length):z09a l k=some (l.eraseIdx (z93 l k)):=if_pos h
theorem z9Ea {l:List Int} {i:Nat} (h:i<l.length):hdA ((z4j l).drop i)=i64 (l.getD i 0):=by
 rw[z4j,←List.map_drop,List.drop_eq_getElem_cons h]
 simp[List.getD,List.getElem?_eq_getElem h,hdA]
theorem z30a {l:List Int} {i:Nat} (h:i<l.length):hdA (z4j (l.drop i))=i64 (l.getD i 0):=by
 rw[←z9Ea h,z4j,z4j,List.map_drop]
theorem z5qa (l:List Int):(z4j l).length=l.length:=by simp[z4j]
theorem z4oc (l:List z3e) (m:Nat):z6b l++List.replicate (m*24) .undef=z7q l (l.length+m):=by
 rw[z7q,Nat.add_sub_cancel_left]
theorem z3Ma {l:List z3e} (h:z5d l) (c:Nat):(z7q l c).take (l.length*24)=z6b l:=by
 rw[z7q,List.take_left' (z9d (z2c h))]
theorem z0Ra:∀l:List z3e,z0c (z6b l)=true
 |[]=>rfl
 |m::l=>by
  rw[show z6b (m::l)=z2n m++z6b l from List.flatMap_cons]
  have h1:∀a b:List z2a,z0c (a++b)=(z0c a&&z0c b):=fun a=>by
   induction a with
   |nil=>intro b;simp[z0c]
   |cons x a ih=>intro b;simp[z0c,ih,Bool.and_assoc]
  rw[h1,z0Ra l,Bool.and_true]
  have h2:∀l:List UInt8,z0c (bys l)=true:=fun l=>by
   induction l with
   |nil=>rfl
   |cons x l ih=>show(z2f (u8 x)&&z0c (bys l))=true;rw[ih];rfl
  simp[z2n,h1,h2,z0c,z2f]
theorem z28b {f:Nat→Option (List z2a)} {bs:List Nat} {k:Int} (h8:8∈bs) (h:f 8=some [i64 k]):z3v bs f (.fn 305 [] [.bp 8 0]):=⟨fun _ h=>(by cases h),fun v hv=>by
 rw[List.mem_singleton] at hv
 subst hv
 exact⟨h8,[i64 k],h,by simp⟩⟩
theorem z0ka {l:List z3e} {c p:Nat} (hp:p<l.length):z7q l c=z6b (l.take p)++(z2n (atD l p)++(z6b (l.drop (p+1))++List.replicate ((c-l.length)*24) .undef)):=by
 have e:l=l.take p++(atD l p::l.drop (p+1)):=by rw[z6T hp,←List.drop_eq_getElem_cons hp,List.take_append_drop]
 rw[z7q]
 conv=>lhs;rw[show z6b l=z6b (l.take p++(atD l p::l.drop (p+1))) from congrArg z6b e]
 rw[z8fa,show z6b (atD l p::l.drop (p+1))=z2n (atD l p)++z6b (l.drop (p+1)) from List.flatMap_cons,List.append_assoc,List.append_assoc]
theorem z3tb {l:List z3e} {c p:Nat} (h:z5d l) (hp:p<l.length):hdA ((z7q l c).drop (p*24+2))=i64 (atD l p).uses:=by
 have h':z5d (l.take p):=fun m hm=>h m (List.mem_of_mem_take hm)
 have hl:(z6b (l.take p)).length=p*24:=by rw[z9d (z2c h'),List.length_take,Nat.min_eq_left (by omega)]
 rw[z0ka hp,←List.drop_drop,List.drop_left' hl]
 rfl
theorem z3Db {l:List z3e} {c p:Nat} (h:z5d l) (hp:p<l.length) (z:Int):splice (z7q l c) (p*24+2) [i64 z]=z7q (l.set p {atD l p with uses:=z}) c:=by
 have h':z5d (l.take p):=fun m hm=>h m (List.mem_of_mem_take hm)
 have hl:(z6b (l.take p)).length=p*24:=by rw[z9d (z2c h'),List.length_take,Nat.min_eq_left (by omega)]
 have e2:=z0ka (l:=l.set p {atD l p with uses:=z}) (c:=c) (p:=p) (by simpa using hp)
 have e3:atD (l.set p {atD l p with uses:=z}) p={atD l p with uses:=z}:=by simp[atD,List.getD,hp]
 rw[e3,List.take_set_of_le (Nat.le_refl _),List.drop_set_of_lt (by omega),List.length_set] at e2
 rw[e2,z0ka hp,z9N (by omega),hl,Nat.add_sub_cancel_left]
 rfl
theorem z5Yc:∀l:List UInt8,∀c∈bys l,z6f c=true:=fun l c h=>by
 obtain⟨b,_,rfl⟩:=List.mem_map.1 h
 rfl
theorem z3Ka (l:List z3e) (c:Nat):(∀d∈z7q l c,z6f d=true)=True:=eq_true fun d h=>by
 rcases List.mem_append.1 h with h|h
 ·obtain⟨m,_,hm⟩:=List.mem_flatMap.1 h
  rw[z2n] at hm
  rcases List.mem_append.1 hm with hm|hm
  ·simp only[List.mem_cons,List.not_mem_nil,or_false] at hm
   rcases hm with h|h|h|h|h|h|h|h<;>subst h<;>rfl
  ·exact z5Yc _ d hm
 ·rw[List.eq_of_mem_replicate h];rfl
theorem z9Wb (l:List z3e) (c:Nat):z2h (z7q l c)=true:=(z5m _).2 (of_eq_true (z3Ka l c))
theorem z1Rb (m:List (Nat×Nat)):∀l:List z2a,(∀d∈l,ren m d=d)→z5na m l=l
 |[],_=>rfl
 |x::l,h=>by show ren m x::z5na m l=_;rw[h x (by simp),z1Rb m l (fun d hd=>h d (by simp[hd]))]
theorem z7yb (m:List (Nat×Nat)) (l:List z3e) (c:Nat):z5na m (z7q l c)=z7q l c:=z1Rb m _ fun d h=>by
 rcases List.mem_append.1 h with h|h
 ·obtain⟨m',_,hm⟩:=List.mem_flatMap.1 h
  rw[z2n] at hm
  rcases List.mem_append.1 hm with hm|hm
  ·simp only[List.mem_cons,List.not_mem_nil,or_false] at hm
   rcases hm with h|h|h|h|h|h|h|h<;>subst h<;>rfl
  ·obtain⟨b,_,rfl⟩:=List.mem_map.1 hm
   rfl
 ·rw[List.eq_of_mem_replicate h];rfl
theorem z2qc {f:Nat→Option (List z2a)} {bs:List Nat} {l:List z2a}:z3v bs f (.fn 308 [] [.ep l])=True:=eq_true ⟨fun _ h=>(by cases h),fun v h=>by rw[List.mem_singleton] at h;subst h;rfl⟩
theorem z1sc (E:Env) {Q:z0n→ASt→Prop} {o:List (Nat×z2a)} {V4:List z2a} {a b d e:Int} {l:List z3e} {c:Nat} (l16:z5d l) (lc:l.length≤c) (V4r:z7g V4=[])
  (h:awp E z0p Q ⟨o,[(4,.bp 4 0),(6,.bp 6 0)],[(4,some V4),(6,some [i64 a,i64 b,i64 d,i64 e,.sl (.own 24) none l.length (z6b l)]),(8,none)]⟩):
  awp E (.ghost (.norm [4,6,8,500006]) (.ghost (.coolB 6 4 500006) (.ghost (.norm [4,6,8,500006]) (.ghost (.drop [500006]) z0p)))) Q ⟨o,[(4,.bp 4 0),(6,.bp 6 0)],[(4,some V4),(6,some [i64 a,i64 b,i64 d,i64 e,.bv 500006 24 0 l.length c]),(8,none),(500006,some (z7q l c))]⟩:=by
 have hrt:=z3Ma l16 c
 have hrl:=z4va l16 lc
 have e0:z2b (.norm [4,6,8,500006]) ⟨o,[(4,.bp 4 0),(6,.bp 6 0)],[(4,some V4),(6,some [i64 a,i64 b,i64 d,i64 e,.bv 500006 24 0 l.length c]),(8,none),(500006,some (z7q l c))]⟩=⟨o,[(4,.bp 4 0),(6,.bp 6 0)],[(4,some V4),(6,some [i64 a,i64 b,i64 d,i64 e,.bv 500006 24 0 l.length c]),(8,none),(500006,some (z7q l c))]⟩:=rfl
 have e1:z2b (.coolB 6 4 500006) ⟨o,[(4,.bp 4 0),(6,.bp 6 0)],[(4,some V4),(6,some [i64 a,i64 b,i64 d,i64 e,.bv 500006 24 0 l.length c]),(8,none),(500006,some (z7q l c))]⟩=⟨o,[(4,.bp 4 0),(6,.bp 6 0)],[(6,some [i64 a,i64 b,i64 d,i64 e,.sl (.own 24) none l.length (z6b l)]),(500006,none),(4,some V4),(6,some [i64 a,i64 b,i64 d,i64 e,.bv 500006 24 0 l.length c]),(8,none),(500006,some (z7q l c))]⟩:=by
  rw[z2yb (j:=500006) (k:=24) (q:=0) (n:=l.length) (c:=c) (cs:=z7q l c) (bs:=[i64 a,i64 b,i64 d,i64 e,.bv 500006 24 0 l.length c]) rfl rfl rfl,hrt]
  rfl
 have e2:z2b (.norm [4,6,8,500006]) ⟨o,[(4,.bp 4 0),(6,.bp 6 0)],[(6,some [i64 a,i64 b,i64 d,i64 e,.sl (.own 24) none l.length (z6b l)]),(500006,none),(4,some V4),(6,some [i64 a,i64 b,i64 d,i64 e,.bv 500006 24 0 l.length c]),(8,none),(500006,some (z7q l c))]⟩=⟨o,[(4,.bp 4 0),(6,.bp 6 0)],[(4,some V4),(6,some [i64 a,i64 b,i64 d,i64 e,.sl (.own 24) none l.length (z6b l)]),(8,none),(500006,none)]⟩:=rfl
 have hm:=z0Ra l
 have hr:z7g (z6b l)=[]:=by simp
 rw[z57,e0]
 refine⟨by simp[z8q],?_⟩
 rw[z57,e1]
 refine⟨?_,?_⟩
 ·simp[z8q,z5Bc]
  exact⟨⟨lc,hrl,by rw[hrt];exact hm⟩,by rw[V4r];simp⟩
 rw[z57,e2]
 refine⟨?_,?_⟩
 ·simp[z8q]
 rw[z57]
 refine⟨?_,?_⟩
 ·simp[z8q,V4r,hr]
  skip
 exact h
attribute [local simp] z4Va fnd
set_option maxHeartbeats 32000000 in
theorem z4Ub (E:Env) (h300:E.G 300=z3Jb) (h290:E.G 290=z5oa) (h306:E.G 306=z3Wa) (h309:E.G 309=z0Xa) (hC307:E.C 307=z95a):∀ds,z4Nb.pre ds→ds.length=z4k.n∧awp E z4k.body (z1A z4k.res (z4Nb.post ds)) (z9c z4k.wr ds):=by
 rintro _ ⟨nk,nc,nm,ng,v,x,hv,hx,rfl⟩
 rw[z7aa hv hx]
 have hd:=hx.1.2.2.2.2.2.1
 have h16:=hx.1.2.2.2.2.2.2.1
 have hml:=hx.2.2.1
 have hgl:=hx.2.2.2
 have hl:=z8d (nc:=nc) (nm:=nm) (ng:=ng) hd
 have htk:=z1r (nc:=nc) (nm:=nm) (ng:=ng) hd
 have e28:=z1ma (nc:=nc) (nm:=nm) (ng:=ng) hd
 have e29:=z1na (nc:=nc) (nm:=nm) (ng:=ng) hd
 have hlen:=z9d (z2c h16)
 obtain⟨k16,kl,kt,⟨ke0,ke1⟩,kn0,kn1⟩:=hv
 simp only[z0na] at kn1
 have hp:=z5Ta (nc:=nc) (nm:=nm) (ng:=ng) hx
 have hq:=z5pa (nc:=nc) (nm:=nm) (ng:=ng) hx
 cases c1:okE x
 ·have hz:z7ea v x=⟨z1O,1⟩:=by simp[z7ea,c1]
  rw[hz]
  simp(maxSteps:=1000000) (disch:=first|omega|(simp;done)|(simp;omega)) [z9a,z1a,z0a,z4k,z3d,hl,htk,h300,hp,hq,c1,kT,kF,z1O,z1u,z7t,z6b]
  skip
 have hlim:=z1la c1
 by_cases c2:x.time<v.time
 ·have hz:z7ea v x=⟨z1O,20⟩:=by simp[z7ea,c1,c2]
  rw[hz]
  simp(maxSteps:=1000000) (disch:=first|omega|(simp;done)|(simp;omega)) [z9a,z1a,z0a,z4k,z3d,hl,htk,h300,hp,hq,c1,c2,kT,kF,z1O,z1u,z7t,z6b]
  skip
 rw[z2tc c1 c2]
 have hcp:=z60a (nl:=nk) k16 kl
 have hcq:=z8ra (nl:=nk) k16
 obtain⟨vt,vm,ve,vn,vk⟩:=v
 simp only at k16 kl kt ke0 ke1 kn0 kn1 hcp hcq c2⊢
 have hkl:=z9d (z2c k16)
 generalize hR:z4dc ⟨vt,vm,ve,vn,vk⟩ x ((z6U x.gone vk).bind (z0qa x))=R
 simp(maxSteps:=1000000) (disch:=first|omega|(simp;done)|(simp;omega)) [z9a,z1a,z0a,z4k,z3d,hl,htk,h300,hp,hq,c1,c2,kT,kF]
 refine z3a fun Q0 hQ0=> ?_
 simp only[z7Z]
 rw[z4ea]
 refine z3a fun Q5 hQ5=> ?_
 rw[z5R]
 refine z6ua 12 fun T hT=> ?_
 simp(maxSteps:=1000000) (disch:=first|omega|(simp;done)|(simp;omega)) [z9a,z1a,z0a,List.take,List.drop,hl,h290,hcp,hcq]
 rw[hT];clear hT
 refine z6ua 1 fun T hT=> ?_
 simp only[List.drop,List.take,List.cons_append,List.nil_append,z2Qa]
 simp(maxSteps:=1000000) (disch:=first|omega|(simp;done)|(simp;omega)) [z9a,z1a,z0a,z1u,z7t]
 rw[hT];clear hT
 refine z6ua 1 fun T hT=> ?_
 simp only[List.drop,List.take,List.cons_append,List.nil_append,z2Qa]
 simp(maxSteps:=1000000) (disch:=first|omega|(simp;done)|(simp;omega)) [z9a,z1a,z0a,z1u,z7t]
 rw[hT];clear hT
 simp only[List.drop,List.take,List.cons_append,List.nil_append,z2Qa]
 simp(maxSteps:=1000000) (disch:=first|omega|(simp;done)|(simp;omega)) [z9a,z1a,z0a,z1u,z7t]
 rw[hQ5];clear hQ5
 simp only[z2oa]
 rw[z4Jb]
 by_cases hv0:vk=[]
 ·right
  subst hv0
  simp only[z71]
  refine z0X fun B hB=> ?_
  simp(maxSteps:=1000000) (disch:=first|omega|(simp;done)|(simp;omega)) [z9a,z1a,z0a,hl,e29,z1R]
  refine z3a fun Q1 hQ1=> ?_
  refine z4d (fun _:Nat=>⟨[(2,.ep [i64 vt,i64 vm,i64 ve,i64 vn,.sl .plain nk 0 []]),(3,.ep (z5l nc nm ng x)),(0,.agg [i64 vt,i64 vm,i64 ve,i64 vn,.sl .plain nk 0 []]),(1,.agg (z5l nc nm ng x))],[(4,.bp 4 0),(6,.bp 6 0),(39,.sl .plain ng x.gone.length (z4j x.gone)),(40,i64 x.gone.length),(41,i64 0)],
   [(4,some [i64 0,i64 0,i64 0,i64 0,.sl .plain none 0 []]),(6,some [i64 x.time,i64 x.mode,i64 (ve+1),i64 vn,.sl (.own 24) none 0 []])]⟩)
   (fun _=>0) (fun _=>True) 0 (by simp) trivial fun i _=> ?_
  refine z3a fun Q2 hQ2=> ?_
  by_cases hg:x.gone.length=0
  ·have hg0:x.gone=[]:=List.length_eq_zero_iff.1 hg
   rw[hg0] at hR
   simp only[z6U,Option.bind_some] at hR
   simp(maxSteps:=1000000) (disch:=first|omega|(simp;done)|(simp;omega)) [z9a,z1a,z0a,z4L,hg,kT,kF,dT,dF,hQ2,hQ1]
   rw[hB];clear hB
   simp only[z40]
   refine z0X fun B hB=> ?_
   by_cases hk:x.kind=13
   ·have hz:z0qa x []=none:=by simp[z0qa,hk,z93]
    rw[hz] at hR
    have p2:=z7Za (nl:=none) (nc:=nc) (nm:=nm) (ng:=ng) (l:=[]) (x:=x) (by intro m hm;cases hm) (by simp) hx
    have q2:=z5ra none nc nm ng (l:=[]) x (by intro m hm;cases hm)
    rw[z1R] at p2 q2
    simp only[List.length_nil] at p2 q2
    rw[show z2Ha (fun m=>decide (m.id=x.cmd.key)) []= -1 from rfl] at q2
    have ok2:z3v [] (fun _=>none) (.fn 308 [] [.ep (z5l nc nm ng x)])=True:=eq_true ⟨fun _ h=>(by cases h),fun v h=>by rw[List.mem_singleton] at h;subst h;rfl⟩
    subst hR
    simp(maxSteps:=1000000) (disch:=first|omega|(simp;done)|(simp;omega)) [z9a,z1a,z0a,hl,hk,h309,p2,q2,ok2,z6n,z9q,kT,kF,dT,dF,hQ0,z4dc,z1O,z1u,z7t,z1R]
    skip
   ·have hz:z0qa x []=some []:=by simp[z0qa,hk]
    rw[hz] at hR
    simp(maxSteps:=1000000) (disch:=first|omega|(simp;done)|(simp;omega)) [z9a,z1a,z0a,hl,hk,kT,kF,dT,dF]
    rw[hB];clear hB
    rw[hQ0,←hR]
    exact z0Sa E (nc:=nc) (nm:=nm) (ng:=ng) (vt:=vt) (vm:=vm) (ve:=ve) (vn:=vn) (vk:=[]) hx (l:=[]) (by intro m hm;cases hm) (by simp) ke0 ke1 kn0 kn1
  ·have hz:z6U x.gone []=none:=by
    cases hgg:x.gone with
    |nil=>rw[hgg] at hg;exact absurd rfl hg
    |cons a r=>simp[z6U,z09a,z93]
   rw[hz] at hR
   have hlt:(0:Int)<x.gone.length:=by omega
   have ha:=z9Ea (l:=x.gone) (i:=0) (by omega)
   have hil:=z5qa x.gone
   generalize x.gone.getD 0 0=k at*
   rw[List.drop_zero] at ha
   have p1:=z51a (nl:=none) (l:=[]) k (by intro m hm;cases hm) (by simp)
   have q1:=z5sa none (l:=[]) k (by intro m hm;cases hm)
   rw[z1R] at p1 q1
   simp only[List.length_nil] at p1 q1
   rw[show z2Ha (fun m=>decide (m.id=k)) []= -1 from rfl] at q1
   subst hR
   simp(maxSteps:=1000000) (disch:=first|omega|(simp;done)|(simp;omega)) [z9a,z1a,z0a,z4L,z21,hlt,ha,hil,h306,p1,q1,z6n,z9q,kT,kF,dT,dF,hQ2,hQ1,hQ0,z4dc,z1O,z1u,z7t,z1R]
   exact⟨by omega,by omega,z28b (k:=k) (by simp) (by simp)⟩
 ·left
  have hpos:0<vk.length:=List.length_pos_iff.2 hv0
  rw[z6nb]
  refine⟨?_,fun m=> ?_⟩
  ·simp[z8za,hpos,z0Ra]
  rw[z6hb (k:=24) (n:=vk.length) (nl:=none) (cs:=z6b vk) (bs:=[i64 x.time,i64 x.mode,i64 (ve+1),i64 vn,.sl (.own 24) none vk.length (z6b vk)]) (by simp) (by rfl),z4oc]
  have hcn:vk.length≤vk.length+m:=by omega
  generalize vk.length+m=c at*
  rw[z57]
  refine⟨by simp[z8q],?_⟩
  rw[z07b]
  simp only[z2W]
  refine z0X fun B hB=> ?_
  simp(maxSteps:=1000000) (disch:=first|omega|(simp;done)|(simp;omega)) [z9a,z1a,z0a,hl,e29]
  refine z3a fun Q1 hQ1=> ?_
  refine z4d (fun a:Nat×List z3e=>⟨[(2,.ep [i64 vt,i64 vm,i64 ve,i64 vn,.sl .plain nk vk.length (z6b vk)]),(3,.ep (z5l nc nm ng x)),(0,.agg [i64 vt,i64 vm,i64 ve,i64 vn,.sl .plain nk vk.length (z6b vk)]),(1,.agg (z5l nc nm ng x))],[(4,.bp 4 0),(6,.bp 6 0),(39,.sl .plain ng x.gone.length (z4j x.gone)),(40,i64 x.gone.length),(41,i64 a.1)],
   [(4,some [i64 0,i64 0,i64 0,i64 0,.sl .plain none 0 []]),(6,some [i64 x.time,i64 x.mode,i64 (ve+1),i64 vn,.bv 500006 24 0 a.2.length c]),(500006,some (z7q a.2 c))]⟩)
   (fun a=>x.gone.length-a.1) (fun a=>a.1≤x.gone.length∧z5d a.2∧a.2.length≤c∧a.2.length≤1000000∧z6U x.gone vk=z6U (x.gone.drop a.1) a.2) (0,vk) (by simp) (by simp;exact⟨k16,hcn,kl⟩) fun⟨i,l⟩ hi=> ?_
  obtain⟨hi,l16,lc,ll,hgo⟩:=hi
  simp only at hi l16 lc ll hgo⊢
  refine z3a fun Q2 hQ2=> ?_
  have hil:=z5qa x.gone
  have hrl:=z4va l16 lc
  have hrt:=z3Ma l16 c
  by_cases hg:i<x.gone.length
  ·have ha:=z9Ea hg
   have ha':=z30a hg
   have hgd:=z55a hg l
   generalize x.gone.getD i 0=k at*
   have p1:=z51a (nl:=some false) k l16 ll
   have q1:=z5sa (some false) k l16
   rw[z1cb] at q1
   by_cases hp:z93 l k<l.length
   ·rw[if_pos hp] at q1
    rw[z3Ic hp] at hgd
    have l16':z5d (l.eraseIdx (z93 l k)):=fun m hm=>l16 m (List.mem_of_mem_eraseIdx hm)
    have le':(l.eraseIdx (z93 l k)).length=l.length-1:=List.length_eraseIdx_of_lt hp
    have pw:∀bs:Nat→List z2a,bs 500000=z7q l c→z95a.pre [.bv 500000 24 0 l.length c,i64 (z93 l k),i64 ((z93 l k:Int)+1)] bs=True:=fun bs hb=>eq_true ⟨l,c,z93 l k,l16,lc,ll,hp,rfl,hb⟩
    have pv:∀(bs:Nat→List z2a) (j:Nat),bs 500000=z7q l c→z95a.out [.bv 500000 24 0 l.length c,i64 (z93 l k),i64 ((z93 l k:Int)+1)] bs j=z7q (l.eraseIdx (z93 l k)) c:=fun bs j hb=>z15a l16 hb j
    simp(maxSteps:=1000000) (disch:=first|omega|(simp;done)|(simp;omega)) [z9a,z1a,z0a,z6w,z4I,z1X,hg,ha,ha',hil,hrl,hrt,h306,p1,q1,z3Ka,z6n,z9q,kT,kF,dT,dF,okW,z5rb,hC307,z44b,z1Kc,pw,pv,hQ2,z7yb,z8Ja]
    exact⟨by omega,⟨by omega,z28b (k:=k) (by simp) (by simp)⟩,z9Wb _ _,i+1,by omega,l.eraseIdx (z93 l k),⟨by omega,l16',by omega,by omega,by rw[hgo,hgd];rfl⟩,by omega,by omega,rfl⟩
   ·rw[if_neg hp] at q1
    rw[z5Ec hp] at hgd
    rw[hgo,hgd] at hR
    simp only[Option.bind_none] at hR
    subst hR
    simp(maxSteps:=1000000) (disch:=first|omega|(simp;done)|(simp;omega)) [z9a,z1a,z0a,z6w,z4I,hg,ha,ha',hil,hrl,hrt,h306,p1,q1,z3Ka,z6n,z9q,kT,kF,dT,dF,hQ2,hQ1,hQ0,z4dc,z1O,z1u,z7t,z1R]
    exact⟨by omega,by omega,z28b (k:=k) (by simp) (by simp)⟩
  ·have hie:i=x.gone.length:=by omega
   subst hie
   rw[List.drop_length,z6U] at hgo
   rw[hgo] at hR
   simp only[Option.bind_some] at hR
   simp(maxSteps:=1000000) (disch:=first|omega|(simp;done)|(simp;omega)) [z9a,z1a,z0a,z6w,hg,kT,kF,dT,dF,hQ2,hQ1]
   rw[hB];clear hB
   simp only[z8V]
   refine z0X fun B hB=> ?_
   by_cases hk:x.kind=13
   ·have p2:=z7Za (nl:=some false) (nc:=nc) (nm:=nm) (ng:=ng) l16 ll hx
    have q2:=z5ra (some false) nc nm ng x l16
    rw[z1cb] at q2
    by_cases hp:z93 l x.cmd.key<l.length
    ·rw[if_pos hp] at q2
     have r2:=z3tb (c:=c) l16 hp
     have rs:=fun z=>z3Db (c:=c) l16 hp z
     simp(maxSteps:=1000000) (disch:=first|omega|(simp;done)|(simp;omega)) [z9a,z1a,z0a,z7X,hl,hk,hrl,hrt,h309,p2,q2,r2,rs,z2qc,z3Ka,z6n,z9q,kT,kF,dT,dF]
     refine⟨by omega,hp,by omega,hp,by omega,?_⟩
     have hz:z0qa x l=some (l.set (z93 l x.cmd.key) {atD l (z93 l x.cmd.key) with uses:=z6Kb (atD l (z93 l x.cmd.key)).uses 176}):=by simp[z0qa,hk,hp,z0Jb,z6T hp]
     rw[hz] at hR
     have l16':z5d (l.set (z93 l x.cmd.key) {atD l (z93 l x.cmd.key) with uses:=z6Kb (atD l (z93 l x.cmd.key)).uses 176}):=fun m hm=>by
      rcases List.mem_or_eq_of_mem_set hm with h|h
      ·exact l16 m h
      ·have:=l16 _ (z9T hp)
       rw[h]
       exact⟨this.1,this.2.1,z10a _ _,this.2.2.2⟩
     rw[hB];clear hB
     have hkc:=z1sc E (Q:=Q0) (o:=[(2,.ep [i64 vt,i64 vm,i64 ve,i64 vn,.sl .plain nk vk.length (z6b vk)]),(3,.ep (z5l nc nm ng x)),(0,.agg [i64 vt,i64 vm,i64 ve,i64 vn,.sl .plain nk vk.length (z6b vk)]),(1,.agg (z5l nc nm ng x))]) (V4:=[i64 0,i64 0,i64 0,i64 0,.sl .plain none 0 []]) (a:=x.time) (b:=x.mode) (d:=ve+1) (e:=vn) (c:=c) l16' (by rw[List.length_set];exact lc) (by rfl)
     rw[List.length_set] at hkc
     refine hkc ?_
     rw[hQ0,←hR]
     have hat:=z0Sa E (nc:=nc) (nm:=nm) (ng:=ng) (vt:=vt) (vm:=vm) (ve:=ve) (vn:=vn) (vk:=vk) (a0:= .agg [i64 vt,i64 vm,i64 ve,i64 vn,.sl .plain nk vk.length (z6b vk)]) (a1:= .agg (z5l nc nm ng x)) (a2:= .ep [i64 vt,i64 vm,i64 ve,i64 vn,.sl .plain nk vk.length (z6b vk)]) hx l16' (by rw[List.length_set];exact ll) ke0 ke1 kn0 kn1
     rw[List.length_set] at hat
     exact hat
    ·rw[if_neg hp] at q2
     have hz:z0qa x l=none:=by simp[z0qa,hk,hp]
     rw[hz] at hR
     subst hR
     simp(maxSteps:=1000000) (disch:=first|omega|(simp;done)|(simp;omega)) [z9a,z1a,z0a,hl,hk,hrl,hrt,h309,p2,q2,z2qc,z3Ka,z6n,z9q,kT,kF,dT,dF,hQ0,z4dc,z1O,z1u,z7t,z1R]
     omega
   ·have hz:z0qa x l=some l:=by simp[z0qa,hk]
    rw[hz] at hR
    simp(maxSteps:=1000000) (disch:=first|omega|(simp;done)|(simp;omega)) [z9a,z1a,z0a,hl,hk,kT,kF,dT,dF]
    rw[hB];clear hB
    refine z1sc E l16 lc (by rfl) ?_
    rw[hQ0,←hR]
    exact z0Sa E (nc:=nc) (nm:=nm) (ng:=ng) (vt:=vt) (vm:=vm) (ve:=ve) (vn:=vn) (vk:=vk) hx l16 ll ke0 ke1 kn0 kn1
end Go.Abs
end
