/- Lemmas: an abstract interpreter, and what the functions compute. -/
import Derived.Test.YtkccmbjmlpnejaaDoorN
import Derived.Test.YtkccmbjmlpnejaaDoorT
import Derived.Test.YtkccmbjmlpnejaaDoorO
set_option linter.unusedSimpArgs false
set_option linter.unusedVariables false
set_option linter.unusedSectionVars false
section
namespace Go.Abs
set_option maxRecDepth 100000
end Go.Abs
end

section
namespace Go.Abs
set_option maxRecDepth 100000
theorem z8wb (nb:Option Bool) (b:List UInt8):z5da.pre [.ep [.sl .plain nb b.length (bys b),i64 0],st (z4Z dEx)]=True:=eq_true ⟨nb,b,rfl⟩
theorem z6qb (ds:List z2a):z5da.post ds= .agg (z1q dEx none):=rfl
theorem z7Db (nb:Option Bool) (b:List UInt8) (n j:Nat) (r:List z2a):z5da.out (.ep [.sl .plain nb n (bys b),i64 0]::r) j=[.sl .plain nb b.length (bys b),i64 0]:=by simp[z5da,rdE]
@[simp] theorem z1ad:z5da.bx=[0]:=rfl
@[simp] theorem z89c:z5da.nb=[]:=rfl
def z0Oa:z5a:=⟨fun ds=>ds=[st (z6Aa (xEx DEx))],fun _=> .tup [.agg (z5l none none none (xEx DEx)),i64 0]⟩
theorem z26a:∃(b b1 b2 b3 b4 b5 b6 D d:List UInt8) (u u1 u3 u4 u6:Nat),z6Aa (xEx DEx)=b∧DEx=D∧z9hc=d∧D.length=16∧d.length=16∧b.length≤1000000∧
  z5x z6l 1 b=([5,1,0,1],u,0)∧b.drop u=b1∧b1.length≤1000000∧z9ea b1=(z4Z dEx,u1,0)∧b1.drop u1=b2∧b2.length≤1000000∧16≤b2.length∧b2.take 16=D∧b2.drop 16=b3∧b3.length≤1000000∧
  z6l b3=(1,u3,0)∧b3.drop u3=b4∧b4.length≤1000000∧z5x z6l 1 b4=([1,2,0,0,9,1,0,0],u4,0)∧b4.drop u4=b5∧b5.length≤1000000∧16≤b5.length∧b5.take 16=d∧b5.drop 16=b6∧b6.length≤1000000∧z5x z6l 1 b6=([],u6,0)∧b6.drop u6=[]:=by
 exact⟨_,_,_,_,_,_,_,_,_,9,12,2,14,1,rfl,rfl,rfl,rfl,rfl,by decide+kernel,by kernel_rfl,rfl,by decide+kernel,by kernel_rfl,rfl,by decide+kernel,by decide+kernel,by kernel_rfl,rfl,by decide+kernel,by kernel_rfl,rfl,by decide+kernel,by kernel_rfl,rfl,by decide+kernel,by decide+kernel,by kernel_rfl,rfl,by decide+kernel,by kernel_rfl,by kernel_rfl⟩
theorem z2R (m:List (Nat×Nat)):∀l:List UInt8,z5na m (bys l)=bys l
 |[]=>rfl
 |a::l=>congrArg (u8 a::·) (z2R m l)
theorem z1Oa {D:List UInt8} (h:D.length=16):(xEx D).small:=by
 refine⟨⟨?_,?_,?_,?_,?_,h,?_,?_⟩,?_,?_,?_⟩
 all_goals first|(constructor<;>decide)|(simp[xEx,dEx,mEx,Cmd.small,Cmd.ok,z2l];done)|(simp[xEx,dEx,mEx,Cmd.small,Cmd.ok,z3e.ok,z2l,z9hc];done)|trace_state
theorem z0Qa (a b c d:Int):z4j [a,b,c,d]=[i64 a,i64 b,i64 c,i64 d]:=rfl
theorem z4tc (a b c d e f g h:Int):z4j [a,b,c,d,e,f,g,h]=[i64 a,i64 b,i64 c,i64 d,i64 e,i64 f,i64 g,i64 h]:=rfl
theorem z1W:z1q dEx none=[i64 1,i64 0,i64 0,i64 2,i64 0,i64 0,st [],.sl .plain none 0 []]:=rfl
def z2Rc (b D:List UInt8) (n:Int) (mv:z2a) (t:List UInt8):ASt:=⟨[(0,st b)],[(2,.bp 2 0),(4,.bp 13 0),(7,i64 1),(8,i64 n)],
 [(2,some (i64 5::i64 1::i64 0::i64 1::i64 1::i64 0::i64 0::i64 2::i64 0::i64 0::st []:: .sl .plain none 0 []::(bys D++[mv,.sl .plain none 0 []]))),(13,some [.sl .plain (some false) t.length (bys t),i64 0])]⟩
def z54c (d:List UInt8):z2a:= .sl .plain none 1 ([i64 1,i64 2,i64 0,i64 0,i64 9,i64 1,i64 0,bo false]++bys d)
set_option maxHeartbeats 16000000 in
theorem z6Vb (E:Env) (h316:E.M 316=z8ba) (h318:E.M 318=z5da) (h323:E.M 323=z0v) (h324:E.M 324=z0Q) (h325:E.M 325=z3Q) (h326:E.M 326=z2Q) (h295:E.G 295=z4Ib) (h300:E.G 300=z3Jb):∀ds,z0Oa.pre ds→ds.length=z6o.n∧awp E z6o.body (z1A z6o.res (z0Oa.post ds)) (z9c z6o.wr ds):=by
 rintro _ rfl
 obtain⟨b,b1,b2,b3,b4,b5,b6,D,d,u,u1,u3,u4,u6,hb,hD,hd,hDl,hdl,c0,f0,g0,c1,f1,g1,c2,c2',f2,g2,c3,f3,g3,c4,f4,g4,c5,c5',f5,g5,c6,f6,g6⟩:=z26a
 have fb:b.length-u=b1.length:=by rw[←g0];simp
 have fb1:b1.length-u1=b2.length:=by rw[←g1];simp
 have fb2:b2.length-16=b3.length:=by rw[←g2];simp
 have fb3:b3.length-u3=b4.length:=by rw[←g3];simp
 have fb4:b4.length-u4=b5.length:=by rw[←g4];simp
 have fb5:b5.length-16=b6.length:=by rw[←g5];simp
 have p0:z0v.pre [.ep [.sl .plain (some false) b.length (bys b),i64 0],.fn 52 [] []]=True:=z52 (by omega) (by rw[f0]) rfl
 have p1:z0Q.pre [.ep [.sl .plain (some false) b1.length (bys b1),i64 0],.fn 48 [] []]=True:=z3ua (by omega) (by rw[f1]) rfl
 have p2:z3Q.pre [.ep [.sl .plain (some false) b2.length (bys b2),i64 0],.fn 320 [] []]=True:=z0La (by omega) (by omega) rfl
 have p3:z2Q.pre [.ep [.sl .plain (some false) b3.length (bys b3),i64 0],.fn 45 [] []]=True:=z7Ja (by omega) (by rw[f3]) rfl
 have p4:z0v.pre [.ep [.sl .plain (some false) b4.length (bys b4),i64 0],.fn 52 [] []]=True:=z52 (by omega) (by rw[f4]) rfl
 have p5:z3Q.pre [.ep [.sl .plain (some false) b5.length (bys b5),i64 0],.fn 320 [] []]=True:=z0La (by omega) (by omega) rfl
 have p6:z0v.pre [.ep [.sl .plain (some false) b6.length (bys b6),i64 0],.fn 52 [] []]=True:=z52 (by omega) (by rw[f6]) rfl
 rw[hb]
 simp(maxSteps:=1000000) (disch:=first|omega|(simp;done)|(simp;omega)) [z9a,z1a,z0a,z6o,z02,z30,h323,p0,z3ha,z34,z1ba,f0,g0,fb,kT,kF,dT,dF]
 simp(maxSteps:=1000000) (disch:=first|omega|(simp;done)|(simp;omega)) [z9a,z1a,z0a,z60,z13,h316,z1pa,z81,z4ga,kT,kF,dT,dF,z1u,z7t,z8I (a:=z4c 16) (b:=D) hDl,z68 (a:=z4c 16) (b:=D) hDl,z8I (a:=z4c 16) (b:=z4c 16) rfl,z2R,z2ga (a:=D) hDl,z6ha (a:=D) hDl,z6va hDl,hDl,z95,z4oa,z2rb hDl,z0Pa hDl,z0Qa,z1W]
 simp(maxSteps:=1000000) (disch:=first|omega|(simp;done)|(simp;omega)) [z9a,z1a,z0a,z20,z9Z,z01,h324,p1,z3ha,z2ya,z5Ia,f1,g1,fb1,h318,z8wb,z6qb,z7Db,h325,p2,z1Ba,z9Ia,f2,g2,fb2,kT,kF,dT,dF,z1u,z7t,z8I (a:=z4c 16) (b:=D) hDl,z68 (a:=z4c 16) (b:=D) hDl,z8I (a:=z4c 16) (b:=z4c 16) rfl,z2R,z2ga (a:=D) hDl,z6ha (a:=D) hDl,z6va hDl,hDl,z95,z4oa,z2rb hDl,z0Pa hDl,z0Qa,z1W]
 simp(maxSteps:=1000000) (disch:=first|omega|(simp;done)|(simp;omega)) [z9a,z1a,z0a,z6Z,z80,h326,p3,z3ha,z7Aa,z1Ma,f3,g3,fb3,kT,kF,dT,dF,z1u,z7t,z8I (a:=z4c 16) (b:=D) hDl,z68 (a:=z4c 16) (b:=D) hDl,z8I (a:=z4c 16) (b:=z4c 16) rfl,z2R,z2ga (a:=D) hDl,z6ha (a:=D) hDl,z6va hDl,hDl,z95,z4oa,z2rb hDl,z0Pa hDl,z0Qa,z1W]
 simp only[or_imp,forall_and,z95,z4oa]
 simp only[forall_eq,z2d,z1f,and_self,true_and]
 have w1:inR 1 0 4096=true:=rfl
 have w2:inR 0 0 1=true:=rfl
 have hs1:=z3Cc (a:=z4c 16) (b:=d) hdl
 have hs2:splice [u8 0,u8 0,u8 0,u8 0,u8 0,u8 0,u8 0,u8 0,u8 0,u8 0,u8 0,u8 0,u8 0,u8 0,u8 0,u8 0] 0 (bys d)=bys d:=hs1
 refine z3a fun Q0 hQ0=> ?_
 simp(maxSteps:=1000000) (disch:=first|omega|(simp;done)|(simp;omega)) [z9a,z1a,z0a,z0Z]
 refine z4d (fun q:Int×z2a×List UInt8=>z2Rc b D q.1 q.2.1 q.2.2) (fun q=>(1-q.1).toNat) (fun q=>q=(0,.sl .plain (some true) 0 [],b4)∨q=(1,z54c d,b6)) (0,.sl .plain (some true) 0 [],b4) (by simp[z2Rc]) (Or.inl rfl) fun q hq=> ?_
 rcases hq with rfl|rfl
 ·simp only
  refine z3a fun Q1 hQ1=> ?_
  simp(maxSteps:=1000000) (disch:=first|omega|(simp;done)|(simp;omega)) [z9a,z1a,z0a,z7J,z7H,z5X,z7V,z2Rc,z4tc,w2,h295,z1Ra,z7oa,w1,h316,z1pa,z81,z4ga,h323,p4,z3ha,z34,z1ba,f4,g4,fb4,kT,kF,dT,dF,z1u,z7t,z8I (a:=z4c 16) (b:=D) hDl,z68 (a:=z4c 16) (b:=D) hDl,z8I (a:=z4c 16) (b:=z4c 16) rfl,z2R,z2ga (a:=D) hDl,z6ha (a:=D) hDl,z6va hDl,hDl,z95,z4oa,z2rb hDl,z0Pa hDl,z0Qa,z1W]
  simp(maxSteps:=1000000) (disch:=first|omega|(simp;done)|(simp;omega)) [z9a,z1a,z0a,z0Y,h325,p5,z1Ba,z9Ia,f5,g5,fb5,z4tc,w2,h316,h295,z1Ra,z7oa,z1pa,z81,z4ga,kT,kF,dT,dF,hdl,z68 (a:=z4c 16) (b:=d) hdl,hQ1,hs1,hs2,z1u,z7t,z8I (a:=z4c 16) (b:=D) hDl,z68 (a:=z4c 16) (b:=D) hDl,z8I (a:=z4c 16) (b:=z4c 16) rfl,z2R,z2ga (a:=D) hDl,z6ha (a:=D) hDl,z6va hDl,hDl,z95,z4oa,z2rb hDl,z0Pa hDl,z0Qa,z1W]
  exact⟨by simp[z3v],1,by omega,z54c d,b6,Or.inr ⟨rfl,rfl,rfl⟩,rfl⟩
 ·simp only
  simp(maxSteps:=1000000) (disch:=first|omega|(simp;done)|(simp;omega)) [z9a,z1a,z0a,z7J,z7H,z2Rc,h295,z1Ra,z7oa,w1,h316,z1pa,z81,z4ga,kT,kF,dT,dF,z1u,z7t,z8I (a:=z4c 16) (b:=D) hDl,z68 (a:=z4c 16) (b:=D) hDl,z8I (a:=z4c 16) (b:=z4c 16) rfl,z2R,z2ga (a:=D) hDl,z6ha (a:=D) hDl,z6va hDl,hDl,z95,z4oa,z2rb hDl,z0Pa hDl,z0Qa,z1W]
  simp(maxSteps:=1000000) (disch:=first|omega|(simp;done)|(simp;omega)) [z9a,z1a,z0a,hQ0,z9V,h323,p6,z3ha,z34,z1ba,f6,g6,kT,kF,dT,dF,z54c,z1u,z7t,z8I (a:=z4c 16) (b:=D) hDl,z68 (a:=z4c 16) (b:=D) hDl,z8I (a:=z4c 16) (b:=z4c 16) rfl,z2R,z2ga (a:=D) hDl,z6ha (a:=D) hDl,z6va hDl,hDl,z95,z4oa,z2rb hDl,z0Pa hDl,z0Qa,z1W]
  clear p0 p1 p2 p3 p4 p5 p6 fb fb1 fb2 fb3 fb4 fb5
  have hx:z0Oa.post [st b]= .tup [.agg (z5l none none none (xEx D)),i64 0]:=by rw[←hD];rfl
  have hent:z5l none none none (xEx D)=i64 5::i64 1::i64 0::i64 1::i64 1::i64 0::i64 0::i64 2::i64 0::i64 0::st []:: .sl .plain none 0 []::(bys D++[.sl .plain none 1 (i64 1::i64 2::i64 0::i64 0::i64 9::i64 1::i64 0::bo false::bys d),.sl .plain none 0 []]):=by
   simp[z5l,xEx,z1q,dEx,z6b,z2n,mEx,hd,z4j]
  have hsm:(xEx D).small:=z1Oa hDl
  have pv:=z5Ta (nc:=none) (nm:=none) (ng:=none) hsm
  have pq:=z5pa (nc:=none) (nm:=none) (ng:=none) hsm
  rw[okEx] at pq
  rw[hx]
  rw[hent] at pv pq⊢
  generalize(i64 1::i64 2::i64 0::i64 0::i64 9::i64 1::i64 0::bo false::bys d)=M at*
  simp(maxSteps:=1000000) (disch:=first|omega|(simp;done)|(simp;omega)) [z9a,z1a,z0a,z3W,z4V,z6V,h300,pv,pq,h316,z4Ha,z81,z2Ja,kT,kF,dT,dF,z1u,z7t,z8I (a:=z4c 16) (b:=D) hDl,z68 (a:=z4c 16) (b:=D) hDl,z8I (a:=z4c 16) (b:=z4c 16) rfl,z2R,z2ga (a:=D) hDl,z6ha (a:=D) hDl,z6va hDl,hDl,z95,z4oa,z2rb hDl,z0Pa hDl,z0Qa,z1W]
  refine⟨⟨?_,?_⟩,?_⟩
  ·rintro a (h|rfl|rfl)
   ·exact of_eq_true (z95 D) a h
   ·trivial
   ·trivial
  ·rintro a (h|rfl|rfl)
   ·exact of_eq_true (z4oa D) a h
   ·rfl
   ·rfl
  ·rw[z8f rfl,z6va hDl]
   simp[hDl]
end Go.Abs
end

section
namespace Go.Abs
set_option maxRecDepth 100000
end Go.Abs
end
