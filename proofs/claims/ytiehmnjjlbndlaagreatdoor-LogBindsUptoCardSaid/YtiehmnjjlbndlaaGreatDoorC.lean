/- Lemmas. -/
import Derived.Test.YtiehmnjjlbndlaaGreatDoorB
noncomputable section
set_option linter.all false
namespace Go.Abs
section
variable {K : Cx} {base : aZ} {g g' : Gh} {w w' : World} {get : Nat -> oH} {getB : Nat -> Option (List oH)} {a : Act} {o : Oper} {d : Option Nat}
theorem Uu{m:Nat}{x:Option Arg}{dflt:Nat}(h:bn K.E get x m)(hd:dflt<=m):bnd K.E get x dflt<=m:=by
 cases x with
 |none=>exact hd
 |some y=>simp only[bn] at h;simp only[bnd];omega
theorem z8k{n:Nat}{hi mx:Option Arg}(hmh:mx.isSome=true->hi.isSome=true)(k2:bn K.E get hi (bnd K.E get mx n)):bnd K.E get hi n<=bnd K.E get mx n:=by
 cases hi with
 |none=>cases mx with
  |none=>exact Nat.le_refl _
  |some _=>simp at hmh
 |some y=>simp only[bn] at k2;simp only[bnd] at k2⊢;omega
def Xc(K:Cx)(op:Op)(n esz:Nat)(x:Arg)(lo hi mx:Option Arg):Bool:=
 match op with
 | .slice t x' lo' hi' mx'=>(match K.P.underlying t with|some (.array m e)=>(m==n)&&u6 K.P e esz|_=>false)&&rk K x' x&&DB K lo' lo&&DB K hi' hi&&DB K mx' mx
 |_=>false
theorem SZ(hI:Inv K base g w getB)(hS:dI K g w get a){n esz:Nat}{x:Arg}{lo hi mx:Option Arg}(h:Xc K o.op n esz x lo hi mx=true)(hok:okp K.E get getB (.slArr n esz x lo hi mx)):zL K base a get getB d o (.slArr n esz x lo hi mx) w:=by
 unfold Xc at h;split at h
 ·rename_i t x' lo' hi' mx' ho;simp only[Bool.and_eq_true] at h;obtain⟨⟨⟨⟨h,hx⟩,hlo⟩,hhi⟩,hmx⟩:=h;split at h
  ·rename_i m e hu;simp only[Bool.and_eq_true,beq_iff_eq] at h;obtain⟨rfl,hsz⟩:=h;have rx:=o6 hI hS hx;simp only[okp] at hok;obtain⟨hok,hmh,k3,k2,k1,hn⟩:=hok;have hb:=EX hI hS hlo hhi hmx false m m (Nat.le_refl _) m (Nat.le_refl _) hmh k3 (by cases mx<;>exact k2) k1;have hm:mxv K.E get mx m m=bnd K.E get mx m:=by cases mx<;>rfl
   rw[hm] at hb;have hlh:bnd K.E get lo 0<=bnd K.E get hi m:=Uu k1 (Nat.zero_le _);have hhm:=z8k (n:=m) hmh k2;have hrun:∀b o',a.eval x'= .pointer (some ⟨b,o',none⟩)->(execOp a.eval o).run K.P w=
     .ok (.value (.slice (some ⟨b,if bnd K.E get mx m=bnd K.E get lo 0 then o' else o'+bnd K.E get lo 0*esz,none⟩) (bnd K.E get hi m-bnd K.E get lo 0) (bnd K.E get mx m-bnd K.E get lo 0))) w:=λb o' e=>by
    simp only[execOp,ho,e,Instr.sliceAt,Sem.run_bind,run_underlying hu,Result.andThen_ok,Instr.sureAddr,Sem.run_pure,hb,run_sizeOf w hsz,Addr.add_mid];congr 3;split<;>simp_all
   split at hok
   ·rename_i id off ex;rw[ex] at rx;simp only[Rep] at rx;obtain⟨bk,hbk,vx⟩:=rx;refine o7 hI hS (c:= .bv id esz (off+bnd K.E get lo 0*esz) (bnd K.E get hi m-bnd K.E get lo 0) (bnd K.E get mx m-bnd K.E get lo 0)) (by simp only[eff,ex]) (hrun bk off vx) ?_;simp only[Rep];refine⟨bk,_,_,hbk,rfl,by omega,Nat.le_refl _,?_,λ_=>rfl⟩;split
    ·exact .inr ⟨by omega,by omega⟩
    exact .inl rfl
   ·rename_i cs ex;rw[ex] at rx;simp only[Rep,ap] at rx;obtain⟨bk,o',vx,hc⟩:=rx;refine o7 hI hS (c:= .sl .plain (some false) (bnd K.E get hi m-bnd K.E get lo 0) ((cs.drop (bnd K.E get lo 0*esz)).take ((bnd K.E get hi m-bnd K.E get lo 0)*esz))) (by simp only[eff,ex]) (hrun bk o' vx) ?_;simp only[Rep,ap];refine .inl ⟨bk,_,_,rfl,by omega,?_,by simp,by simp⟩;split
    ·have:bnd K.E get hi m-bnd K.E get lo 0=0:=by omega
     rw[this];simp[am]
    exact(hc.drop _).take _
   cases hok
  cases h
 cases h
def Lw(K:Cx)(op:Op)(esz:Nat)(x:Arg)(lo hi mx:Option Arg):Bool:=
 match op with
 | .slice t x' lo' hi' mx'=>(match K.P.underlying t with|some (.slice e)=>u6 K.P e esz|_=>false)&&rk K x' x&&DB K lo' lo&&DB K hi' hi&&DB K mx' mx
 |_=>false
theorem U7(hI:Inv K base g w getB)(hS:dI K g w get a){esz:Nat}{x:Arg}{lo hi mx:Option Arg}(h:Lw K o.op esz x lo hi mx=true)(hok:okp K.E get getB (.slSl esz x lo hi mx)):zL K base a get getB d o (.slSl esz x lo hi mx) w:=by
 unfold Lw at h;split at h
 ·rename_i t x' lo' hi' mx' ho;simp only[Bool.and_eq_true] at h;obtain⟨⟨⟨⟨h,hx⟩,hlo⟩,hhi⟩,hmx⟩:=h;split at h
  ·rename_i e hu;have rx:=o6 hI hS hx;simp only[okp] at hok;obtain⟨hok,hmh,k3,k2,k1⟩:=hok;generalize hnn:bc (arg K.E get x)=n at*
   have hlh:bnd K.E get lo 0<=bnd K.E get hi n:=Uu k1 (Nat.zero_le _);have hhm:=z8k (n:=n) hmh k2;have hmn:bnd K.E get mx n<=n:=Uu k3 (Nat.le_refl _);have hrun:∀(p:Option Addr) (cap:Nat),n<=cap->a.eval x'= .slice p n cap->∃M,(execOp a.eval o).run K.P w=
     .ok (.value (.slice (if M=bnd K.E get lo 0 then p else p.map (·.add (bnd K.E get lo 0*esz))) (bnd K.E get hi n-bnd K.E get lo 0) (M-bnd K.E get lo 0))) w∧bnd K.E get hi n<=M∧M=mxv K.E get mx n cap:=λp cap hcap ev=>by
    have hb:=EX hI hS hlo hhi hmx true n cap hcap n hcap hmh k3 (by
     cases mx with
     |some _=>exact k2
     |none=>
      cases hi with
      |none=>trivial
      |some y=>
       have e:bnd K.E get none n=n:=rfl;rw[e] at k2;simp only[bn,mxv] at k2⊢;exact⟨k2.1,k2.2.1,by have:=k2.2.2;omega⟩) k1
    refine⟨_,?_,?_,rfl⟩
    ·simp only[execOp,ho,ev,Instr.sliceAt,Instr.slice,Sem.run_bind,run_underlying hu,Result.andThen_ok,hb,run_sizeOf w h,Sem.run_pure]
    cases mx with
    |some _=>exact hhm
    |none=>have:bnd K.E get none n=n:=rfl;rw[this] at hhm;simp only[mxv];omega
   split at hok
   ·rename_i id e' off k c ex;subst hok;rw[ex] at rx hnn;simp only[bc] at hnn;subst hnn;simp only[Rep] at rx;obtain⟨bk,cap,o',hbk,vx,hcap,hc,ho',hxc⟩:=rx;obtain⟨M,hr,h1,h2⟩:=hrun _ cap hcap vx;refine o7 hI hS (c:= .bv id e' (off+bnd K.E get lo 0*e') (bnd K.E get hi k-bnd K.E get lo 0) (mxv K.E get mx k c-bnd K.E get lo 0)) (by simp only[eff,ex];cases mx<;>rfl) hr ?_;simp only[Rep,Option.map_some,Addr.add_mid];have hM:mxv K.E get mx k c<=M:=by
     rw[h2];cases mx with
     |none=>exact hc
     |some _=>exact Nat.le_refl _
    by_cases hML:M=bnd K.E get lo 0
    ·rw[if_pos hML];exact⟨bk,_,_,hbk,rfl,by omega,by omega,.inr ⟨by omega,by omega⟩,λh=>by rw[h2,hxc h]⟩
    rw[if_neg hML];refine⟨bk,_,_,hbk,rfl,by omega,by omega,?_,λh=>by rw[h2,hxc h]⟩;rcases ho' with rfl|⟨hk0,hc0⟩
    ·exact .inl rfl
    refine .inr ⟨?_,?_⟩
    ·have:bnd K.E get hi k<=k:=Nat.le_trans hhm hmn;omega
    cases mx with
    |none=>simp only[mxv];omega
    |some _=>simp only[mxv];omega
   ·rename_i m nl k cs ex;rw[ex] at rx hnn;simp only[bc] at hnn;subst hnn;have rx:=IE rx;simp only[ap] at rx;rcases rx with⟨bk,o',cap,vx,hcap,hc,hnl,_⟩|⟨q,vx,hk,hcs,hnl⟩
    ·obtain⟨M,hr,h1,h2⟩:=hrun _ cap hcap vx;refine o7 hI hS (c:=(eff K.E get getB (.slSl esz x lo hi mx)).val) (by simp only[eff,ex]) hr ?_;have key:∀md:cH,(md= .clip->M=bnd K.E get hi k)->(∀z,md≠ .own z)->Rep K.toCon g w (d.map .slot) (.sl md nl (bnd K.E get hi k-bnd K.E get lo 0) ((cs.drop (bnd K.E get lo 0*esz)).take ((bnd K.E get hi k-bnd K.E get lo 0)*esz)))
       (.slice (if M=bnd K.E get lo 0 then some ⟨bk,o',none⟩ else(some (⟨bk,o',none⟩:Addr)).map (·.add (bnd K.E get lo 0*esz))) (bnd K.E get hi k-bnd K.E get lo 0) (M-bnd K.E get lo 0)):=λmd hmd hno=>by
      have hp:ap K.toCon g.S w (.sl md nl (bnd K.E get hi k-bnd K.E get lo 0) ((cs.drop (bnd K.E get lo 0*esz)).take ((bnd K.E get hi k-bnd K.E get lo 0)*esz)))
        (.slice (if M=bnd K.E get lo 0 then some ⟨bk,o',none⟩ else(some (⟨bk,o',none⟩:Addr)).map (·.add (bnd K.E get lo 0*esz))) (bnd K.E get hi k-bnd K.E get lo 0) (M-bnd K.E get lo 0)):=by
       simp only[ap,Option.map_some,Addr.add_mid];by_cases hML:M=bnd K.E get lo 0
       ·rw[if_pos hML];have e0:bnd K.E get hi k-bnd K.E get lo 0=0:=by omega
        rw[e0,Nat.zero_mul,List.take_zero];exact .inl ⟨bk,o',_,rfl,by omega,by simp[am],hnl,λhm=>by have:=hmd hm;omega⟩
       rw[if_neg hML];exact .inl ⟨bk,_,_,rfl,by omega,(hc.drop _).take _,hnl,λhm=>by have:=hmd hm;omega⟩
      cases md with
      |plain=>simpa only[Rep] using hp
      |clip=>simpa only[Rep] using hp
      |own z=>exact absurd rfl (hno z)
     simp only[eff,ex];cases mx with
     |none=>exact key .plain (by simp) (by simp)
     |some y=>
      simp only[mxv] at h2⊢;split
      ·rename_i heq;exact key .clip (λ_=>by rw[h2,heq]) (by simp)
      exact key .plain (by simp) (by simp)
    subst hk hcs;obtain⟨M,hr,h1,h2⟩:=hrun q 0 (Nat.le_refl _) vx;have hz:bnd K.E get hi 0=0:=by omega
    have hl0:bnd K.E get lo 0=0:=by omega
    have hM:M=0:=by rw[h2];cases mx with|none=>rfl|some _=>simp only[mxv];omega
    refine o7 hI hS (c:=(eff K.E get getB (.slSl esz x lo hi mx)).val) (v:= .slice q 0 0) (by simp only[eff,ex]) (by rw[hr,hz,hl0,hM];simp) ?_;simp only[eff,ex,hz,hl0,List.drop_nil,List.take_nil];have key:∀md:cH,(∀z,md≠ .own z)->Rep K.toCon g w (d.map .slot) (.sl md nl (0-0) []) (.slice q 0 0):=λmd hno=>by
     cases md with
     |plain=>simp only[Rep,ap];exact .inr ⟨q,rfl,trivial,trivial,hnl⟩
     |clip=>simp only[Rep,ap];exact .inr ⟨q,rfl,trivial,trivial,hnl⟩
     |own z=>exact absurd rfl (hno z)
    cases mx with
    |none=>exact key .plain (by simp)
    |some y=>
     simp only[];split
     ·exact key .clip (by simp)
     exact key .plain (by simp)
   ·rename_i ex;rw[ex] at rx hnn;simp only[bc] at hnn;subst hnn;simp only[Rep] at rx;obtain⟨M,hr,h1,h2⟩:=hrun none 0 (Nat.le_refl _) rx;have hz:bnd K.E get hi 0=0:=by omega
    have hl0:bnd K.E get lo 0=0:=by omega
    have hM:M=0:=by rw[h2];cases mx with|none=>rfl|some _=>simp only[mxv];omega
    exact o7 hI hS (c:= .lit (.slice none 0 0)) (v:= .slice none 0 0) (by simp only[eff,ex]) (by rw[hr,hz,hl0,hM];simp) (vL _ _)
   cases hok
  cases h
 cases h
def LH(K:Cx)(op:Op)(x:Arg)(lo hi:Option Arg):Bool:=
 match op with
 | .slice t x' lo' hi' none=>DO K.P t Id&&rk K x' x&&DB K lo' lo&&DB K hi' hi
 |_=>false
theorem Ta(hI:Inv K base g w getB)(hS:dI K g w get a){x:Arg}{lo hi:Option Arg}(h:LH K o.op x lo hi=true)(hok:okp K.E get getB (.slStr x lo hi)):zL K base a get getB d o (.slStr x lo hi) w:=by
 unfold LH at h;split at h
 ·rename_i t x' lo' hi' ho;simp only[Bool.and_eq_true] at h;obtain⟨⟨⟨h,hx⟩,hlo⟩,hhi⟩:=h;obtain⟨D,hu,hD⟩:=rT h;have:=CR hD;subst this;obtain⟨hs,k2,k1⟩:=hok;obtain⟨ex,vx⟩:=Jn (o6 hI hS hx) hs;generalize asS (arg K.E get x)=s at*
  have hb:=EX (mx:=none) (mx':=none) hI hS hlo hhi rfl false s.size s.size (Nat.le_refl _) s.size (Nat.le_refl _) (by simp) trivial k2 k1;refine o7 hI hS (c:= .lit (.string (s.extract (bnd K.E get lo 0) (bnd K.E get hi s.size)))) (v:= .string (s.extract (bnd K.E get lo 0) (bnd K.E get hi s.size))) (by simp only[eff,ex,asS]) ?_ (vL _ _);simp only[Option.map_none] at hb;simp only[execOp,ho,vx,Instr.sliceAt,Instr.slice,Sem.run_bind,run_underlying hu,Result.andThen_ok,Option.map_none,Option.isSome_none,Bool.false_eq_true,if_false,hb,Sem.run_pure]
 cases h
end
mutual
theorem ap.isPure{K:Con}{S:Nat->Nat}{w:World}:∀(d:oH) (v:Value),ap K S w d v->ak d=true
 | .undef,_,_=>rfl
 | .lit _,_,_=>rfl
 | .agg cs,v,h=>by simp only[ap] at h;obtain⟨a,_,h⟩:=h;simp only[ak];exact ag.isPure cs _ h
 | .tup cs,v,h=>by simp only[ap] at h;obtain⟨a,_,h⟩:=h;simp only[ak];exact ag.isPure cs _ h
 | .sl _ _ _ _,_,_=>rfl
 | .ep _,_,_=>rfl
 | .mp _,_,_=>rfl
 | .pv _ _ _ _,_,_=>rfl
 | .otup _ _ _ _ rest,v,h=>by simp only[ap] at h;obtain⟨a,x,xs,_,_,h1,h2⟩:=h;simp only[ak,ag.isPure rest _ h2]
 | .oagg _ rest,v,h=>by simp only[ap] at h;obtain⟨a,x,xs,_,_,_,h2⟩:=h;simp only[ak,ag.isPure rest _ h2]
 | .fn f x y,v,h=>by simp only[ap] at h;obtain⟨a,c,_,h1,h2⟩:=h;simp only[ak,ag.isPure x _ h1,ag.isPure y _ h2,Bool.and_self]
 | .bp _ _,_,h=>by simp[ap] at h
 | .bv _ _ _ _ _,_,h=>by simp[ap] at h
theorem ag.isPure{K:Con}{S:Nat->Nat}{w:World}:∀(ds:List oH) (vs:List Value),ag K S w ds vs->au ds=true
 |[],_,_=>rfl
 |c::cs,l,h=>by simp only[ag] at h;obtain⟨x,xs,_,h1,h2⟩:=h;simp only[au,ap.isPure c x h1,ag.isPure cs xs h2,Bool.and_self]
end
theorem cq(a b:List oH):au (a++b)=(au a&&au b):=by
 induction a with
 |nil=>simp[au]
 |cons x a ih=>simp[au,ih,Bool.and_assoc]
section
variable {P : Program}
theorem yi(w:World){t1 t2 ty e:TypeId}{i:TypeInfo}{d2:TypeDesc}(h1:P.underlying t1=some (.slice e))(h2:P.underlying t2=some d2)(hd:d2= .string∨∃e',d2= .slice e')(hi:P.info? e=some i){base:Option Addr}{sLen sCap m:Nat}{x:Value}{news:List Value}
  (hlen:(Builtin.lenOf x).run P w= .ok m w) (hnews:(Builtin.firstCells i.size m x).run P w= .ok news.toArray w) (hfit:sLen+m<=sCap):
  (Builtin.append_ #[t1,t2] ty #[.slice base sLen sCap,x]).run P w=(((match base with|some a=>storeCells (a.add (sLen*i.size)) news|none=>pure ()):Sem Unit).run P w).andThen λ_ w'=> .ok (.slice base (sLen+m) sCap) w':=by
 rcases hd with rfl|⟨e',rfl⟩
 ·cases base<;>simp[Builtin.append_,run_underlying h1,run_underlying h2,sizeOf,typeInfo,hi,hlen,hnews,hfit]
 cases base<;>simp[Builtin.append_,run_underlying h1,run_underlying h2,sizeOf,typeInfo,hi,hlen,hnews,hfit]
theorem z0zz(w:World){t1 t2 ty e:TypeId}{i:TypeInfo}{z:Value}{d2:TypeDesc}(h1:P.underlying t1=some (.slice e))(h2:P.underlying t2=some d2)(hd:d2= .string∨∃e',d2= .slice e')(hi:P.info? e=some i)(hz0:i.zero=some z){base:Option Addr}{sLen sCap m:Nat}{x:Value}{olds news:List Value}
  (hlen:(Builtin.lenOf x).run P w= .ok m w) (hnews:(Builtin.firstCells i.size m x).run P w.drew= .ok news.toArray w.drew) (holds:(Builtin.firstCells i.size sLen (.slice base sLen sCap)).run P w.drew= .ok olds.toArray w.drew)
  (hfit:sCap<sLen+m) (hb:(sLen+m)*i.bytes<=140737488355328) (h63:sLen+m<=9223372036854775807):
  (Builtin.append_ #[t1,t2] ty #[.slice base sLen sCap,x]).run P w= .ok (.slice (some ⟨w.heap.size,0,none⟩) (sLen+m) (grownCap w (sLen+m) sCap e))
   (w.drew.alloc (.cells (olds.toArray++news.toArray++Builtin.zeroCells z.cells (grownCap w (sLen+m) sCap e-(sLen+m))) e)):=by
 have hn:¬(sLen+m<=sCap):=by omega
 have h63':¬(9223372036854775807<((sLen:Int)+(m:Int))):=by omega
 have h48':¬(281474976710656<Builtin.nextslicecap (sLen+m) sCap*i.bytes):=by have:=growslice_fits hfit hb;omega
 rcases hd with rfl|⟨e',rfl⟩
 ·simp[Builtin.append_,run_underlying h1,run_underlying h2,sizeOf,typeInfo,zeroValue,hi,hz0,hlen,hn,h63',h48',Question.forced,hnews,holds,newRow,grownCap];congr 2;apply Array.ext';simp
 simp[Builtin.append_,run_underlying h1,run_underlying h2,sizeOf,typeInfo,zeroValue,hi,hz0,hlen,hn,h63',h48',Question.forced,hnews,holds,newRow,grownCap];congr 2;apply Array.ext';simp
end
section
variable {K : Cx} {base : aZ} {g g' : Gh} {w w' : World} {get : Nat -> oH} {getB : Nat -> Option (List oH)} {a : Act} {o : Oper} {d : Option Nat}
def Fs(K:Cx)(op:Op)(esz bytes:Nat)(str:Bool)(x y:Arg):Bool:=
 match op with
 | .call c=>(match c.callee,c.args.toList,c.argTypes.toList with
  | .builtin .append,[x',y'],[t1,t2]=>(match K.P.underlying t1 with
    |some (.slice e)=>(match K.P.info? e with
      |some i=>(i.size==esz)&&(i.bytes==bytes)&&(match i.zero with|some z=>z.cells.size==esz|none=>false)
      |none=>false)
    |_=>false)&&(if str then DO K.P t2 Id else DO K.P t2 VT)&&rk K x' x&&rk K y' y
  |_,_,_=>false)
 |_=>false
theorem Oc(hI:Inv K base g w getB)(hS:dI K g w get a){esz:Nat}{str:Bool}{b:Option Nat}{y:Arg}{y':Operand}(hy:rk K y' y=true)
  (hok:if str then isS (arg K.E get y)∧esz=1 else okS esz b (bxc getB b) (arg K.E get y)):
  ∃news:List Value,an K.toCon g w (az (bxl getB b) (arg K.E get y)) news∧news.length=bc (arg K.E get y)*esz∧
   (∀w1:World,(Builtin.lenOf (a.eval y')).run K.P w1= .ok (bc (arg K.E get y)) w1)∧
   (∀m w1,m<=bc (arg K.E get y)->(w1=w∨w1=w.drew)->(Builtin.firstCells esz m (a.eval y')).run K.P w1= .ok (news.take (m*esz)).toArray w1):=by
 have ry:=o6 hI hS hy;cases str with
 |true=>
  simp only[if_true] at hok;obtain⟨hs,rfl⟩:=hok;obtain⟨ex,vx⟩:=Jn ry hs;generalize asS (arg K.E get y)=s at*
  rw[ex,vx];refine⟨s.data.toList.map λc=> .int .u8 c.toNat,by simp only[az];exact XL _,by simp only[bc,List.length_map,z2xa,Nat.mul_one],λw1=>by simp[Builtin.lenOf,bc],λm w1 hm _=> ?_⟩;simp only[Builtin.firstCells,Sem.run_pure,Nat.mul_one];congr 1;apply Array.ext';simp only[Array.toList_map,List.toList_toArray];rw[<-List.map_take];congr 1;have:s.extract 0 m=ByteArray.mk ((s.data.toList.drop 0).take (m-0)).toArray:=by have:=ByteArray.extract_mk s.data.toList 0 m;rw[<-this]
  rw[this];simp
 |false=>
  simp only[Bool.false_eq_true,if_false] at hok;obtain⟨vs,h1,h2,h3⟩:=Uj hI hok ry;refine⟨vs,h1,h2,λw1=> ?_,λm w1 hm hw=> ?_⟩
  ·rcases h3 with⟨q,e,_,e0⟩|⟨bk,o,cap,e,_⟩
   ·rw[e,e0];rfl
   rw[e];rfl
  rcases h3 with⟨q,e,e1,e0⟩|⟨bk,o,cap,e,_,hr⟩
  ·rw[e,e1];have hm0:m=0:=by omega
   cases q with
   |none=>simp[Builtin.firstCells]
   |some q=>simp only[Builtin.firstCells,hm0,Nat.zero_mul,List.take_nil];exact uj w1 q
  rw[e];have hcell:∀j v,(vs.take (m*esz))[j]? =some v->w1.cell? ((⟨bk,o,none⟩:Addr).add j)=some v:=λj v hv=>by
   rw[List.getElem?_take] at hv;rw[Addr.add_mid];split at hv
   ·rcases hw with rfl|rfl
    ·exact hr j v hv
    exact hr j v hv
   cases hv
  have hl:(vs.take (m*esz)).length=m*esz:=by rw[List.length_take,h2];exact Nat.min_eq_left (Nat.mul_le_mul_right _ hm)
  have:=run_loadCells_list (P:=K.P) w1 ⟨bk,o,none⟩ (vs.take (m*esz)) hcell;rw[hl] at this;exact this
theorem ST{α:Type}{l:List α}(p:α->Prop)(h:∀(i:Nat) x,l[i]? =some x->p x):∀x∈l,p x:=λx hx=>by obtain⟨i,hi,rfl⟩:=List.mem_iff_getElem.1 hx;exact h i _ (List.getElem?_eq_getElem hi)
theorem z1la{cs:List oH}{vs:List Value}(h:an K.toCon g w cs vs)(hc:∀c∈cs,ah c):∀x∈vs,x.oneCell'=true:=ST _ λi x hx=>by have hl:=h.len;have hi:=(List.getElem?_eq_some_iff.1 hx).1;obtain⟨y,hy,hr⟩:=h.get i cs[i] (List.getElem?_eq_getElem (by omega));rw[hx] at hy;cases hy;exact uX hr (hc _ (List.getElem_mem _))
theorem Lc(hI:Inv K base g w getB)(hS:dI K g w get a){esz n m cap:Nat}{nlr:Option Bool}{cs ys:List oH}{olds news:List Value}{R:Array Value}{e:TypeId}{sl:List (Nat×oH)}
  (hS':∀g1 w1,Ext g w g1 w1->dI K g1 w1 get a->dI K g1 w1 (upd get sl) a) (hnl:nlr≠some true) (hcap:n+m<=cap) (hold:an K.toCon g w cs olds) (hp1:au cs=true) (ho:olds.length=n*esz)
  (hnew:an K.toCon g w ys news) (hp2:au ys=true) (hn:news.length=m*esz) (hR:R.size=(cap-(n+m))*esz):
  Pg K base a get getB d {val:= .sl (.own esz) nlr (n+m) (cs++ys),sl:=sl} (.slice (some ⟨w.heap.size,0,none⟩) (n+m) cap) (w.drew.alloc (.cells (olds.toArray++news.toArray++R) e)):=by
 have hI':=E6 hI;have hx:=vm hI' (.cells (olds.toArray++news.toArray++R) e) ((n+m)*esz) (d.map .slot);have hx':Ext g w (uW g w.heap.size ((n+m)*esz) (d.map .slot)) (w.drew.alloc (.cells (olds.toArray++news.toArray++R) e)):=
  ⟨hx.keeps,hx.mu,hx.own⟩
 have hall:=hold.append hnew;refine⟨uW g w.heap.size ((n+m)*esz) (d.map .slot),xk hI' _ _ _,hS' _ _ hx' (hx'.slots hS),?_⟩;have hlen:(cs++ys).length=(n+m)*esz:=by rw[hall.len,List.length_append,ho,hn,Nat.add_mul]
 simp only[Rep];refine⟨?_,λl hl=> .inr ⟨_,cap,rfl,hcap,hlen,by simp[uW],by simp[uW,hl],?_⟩⟩
 ·simp only[ap];refine .inl ⟨_,_,_,rfl,hcap,am.mk λi c hi=> ?_,hnl,by simp⟩;have hlt:=(List.getElem?_eq_some_iff.1 hi).1;obtain⟨v,hv,hrv⟩:=hall.get i c hi;refine⟨by simp[uW];omega,v,?_,ap.mono hx'.keeps c v (Rep.pure c v none ((bE (cs++ys)).1 (by rw[cq,hp1,hp2];rfl) c (sj hi)) hrv)⟩;rw[Nat.zero_add];have:=World.cell?_alloc_new w.drew (olds.toArray++news.toArray++R) e i;rw[show w.drew.heap.size=w.heap.size from rfl] at this;rw[this,Array.getElem?_append_left (by
   have:=(List.getElem?_eq_some_iff.1 hv).1;simpa using this)]
  simpa using hv
 refine uM w.drew (olds.toArray++news.toArray++R) e (0,0) (by simp) _ _ ?_;have h3:(n+m)*esz+(cap-(n+m))*esz=cap*esz:=by rw[<-Nat.add_mul];congr 1;omega
 simp only[Array.size_append,List.size_toArray,ho,hn,hR];have h4:n*esz+m*esz=(n+m)*esz:=(Nat.add_mul _ _ _).symm;omega
theorem F4{op:Op}{esz bytes:Nat}{str:Bool}{x y:Arg}(h:Fs K op esz bytes str x y=true):
  ∃x' y' t1 t2 e i z d2,op= .call {callee:= .builtin .append,args:= #[x',y'],argTypes:= #[t1,t2]}∧K.P.underlying t1=some (.slice e)∧K.P.info? e=some i∧i.size=esz∧i.bytes=bytes∧i.zero=some z∧z.cells.size=esz∧
   K.P.underlying t2=some d2∧(d2= .string∨∃e',d2= .slice e')∧rk K x' x=true∧rk K y' y=true:=by
 unfold Fs at h;split at h
 ·rename_i c;split at h
  ·rename_i x' y' t1 t2 hc hargs hts;obtain⟨callee,args,ts⟩:=c;simp only at hc hargs hts;subst hc;have:=z0oa hargs;subst this;have:=z0oa hts;subst this;simp only[Bool.and_eq_true] at h;obtain⟨⟨⟨h,ht2⟩,hx⟩,hy⟩:=h;have hd2:∃d2,K.P.underlying t2=some d2∧(d2= .string∨∃e',d2= .slice e'):=by
    cases str with
    |true=>simp only[if_true] at ht2;obtain⟨D,hu,hD⟩:=rT ht2;have:=CR hD;subst this;exact⟨_,hu,.inl rfl⟩
    |false=>simp only[Bool.false_eq_true,if_false] at ht2;obtain⟨D,hu,hD⟩:=rT ht2;obtain⟨e,rfl⟩:=LS hD;exact⟨_,hu,.inr ⟨_,rfl⟩⟩
   obtain⟨d2,hd2,hd2'⟩:=hd2;split at h
   ·rename_i e he;split at h
    ·rename_i i hi;simp only[Bool.and_eq_true,beq_iff_eq] at h;obtain⟨⟨h1,h2⟩,h3⟩:=h;split at h3
     ·rename_i z hz;simp only[beq_iff_eq] at h3;exact⟨x',y',t1,t2,e,i,z,d2,rfl,he,hi,h1,h2,hz,h3,hd2,hd2',hx,hy⟩
     cases h3
    cases h
   cases h
  cases h
 cases h
theorem so{x' y':Operand}{t1 t2:TypeId}(ho:o.op= .call {callee:= .builtin .append,args:= #[x',y'],argTypes:= #[t1,t2]}){v:Value}{w1:World}
  (hr:(Builtin.append_ #[t1,t2] o.type #[a.eval x',a.eval y']).run K.P w= .ok v w1):(execOp a.eval o).run K.P w= .ok (.value v) w1:=by
 simp only[execOp,ho,resolve,Sem.run_bind,Sem.run_pure,Result.andThen_ok,invoke,builtin];simp[hr]
theorem LU{esz bytes:Nat}{str:Bool}{nlr b:Option _}{X Y:oH}(hok:okp.okApp getB esz bytes str nlr b X Y)(hm:0<bc Y):nlr≠some true:=by
 intro e;subst e;obtain⟨_,_,_,h,_⟩:=hok;simp only at h;split at h
 ·omega
 cases h
theorem OU(hI:Inv K base g w getB)(hS:dI K g w get a){esz bytes:Nat}{str:Bool}{nlr:Option Bool}{b:Option Nat}{x y:Arg}(h:Fs K o.op esz bytes str x y=true)(hok:okp K.E get getB (.appendC esz bytes str nlr b x y)):
  zL K base a get getB d o (.appendC esz bytes str nlr b x y) w:=by
 obtain⟨x',y',t1,t2,e,i,z,d2,ho,hu,hi,hsz,hby,hz,hzs,hd2,hd2',hx,hy⟩:=F4 h;obtain⟨hx0,hap⟩:=hok;have rx:=o6 hI hS hx;split at hx0
 ·rename_i nl n cs ex;have hlen:=hx0;have hap':=hap;obtain⟨hy0,hbytes,h40,hnl,hcells⟩:=hap;rw[ex] at rx hbytes h40 hnl hap';obtain⟨news,n1,n2,n3,n4⟩:=Oc hI hS hy hy0;generalize hm:bc (arg K.E get y)=m at*
  simp only[bc] at hbytes h40;have hnews:∀w1,(w1=w∨w1=w.drew)->(Builtin.firstCells i.size m (a.eval y')).run K.P w1= .ok news.toArray w1:=λw1 hw=>by have:=n4 m w1 (Nat.le_refl _) hw;rw[List.take_of_length_le (by rw[n2];exact Nat.le_refl _)] at this;rw[hsz];exact this
  have hpy:au (az (bxl getB b) (arg K.E get y))=true:=(bE _).2 λc hc=>(hcells c hc).1;have hef:eff K.E get getB (.appendC esz bytes str nlr b x y)={val:= .sl (if n=0 then .own esz else .plain) nlr (n+m) (cs++az (bxl getB b) (arg K.E get y))}:=by simp only[eff,ex,hm];rfl
  have grow:∀(base':Option Addr) (cap:Nat) (olds:List Value),a.eval x'= .slice base' n cap->cap<n+m->an K.toCon g w cs olds->au cs=true->olds.length=n*esz->
    (Builtin.firstCells i.size n (.slice base' n cap)).run K.P w.drew= .ok olds.toArray w.drew->0<m->zL K base a get getB d o (.appendC esz bytes str nlr b x y) w:=λbase' cap olds hv hc hold hpc hol hfc hm0=>by
   have hr:=z0zz (P:=K.P) (ty:=o.type) w hu hd2 hd2' hi hz (x:=a.eval y') (news:=news) (olds:=olds) (n3 w) (hnews _ (.inr rfl)) hfc hc (by rw[hby];omega) (by omega);rw[<-hv] at hr;refine⟨_,_,_,so ho hr,.inl rfl,?_⟩;rw[hef];have fin:∀v w',Pg K base a get getB d {val:= .sl (.own esz) nlr (n+m) (cs++az (bxl getB b) (arg K.E get y))} v w'->
     Pg K base a get getB d {val:= .sl (if n=0 then .own esz else .plain) nlr (n+m) (cs++az (bxl getB b) (arg K.E get y))} v w':=λv w' hgood=>by
    by_cases hn0:n=0
    ·rw[if_pos hn0];exact hgood
    rw[if_neg hn0];obtain⟨g',h1,h2,h3⟩:=hgood;exact⟨g',h1,h2,Rep.dem _ h3⟩
   exact fin _ _ (Lc hI hS (λ_ _ _ h=>h) (LU hap' (by rw[hm];exact hm0)) (grownCap_ge _ _ _ _) hold hpc hol n1 hpy n2 (by rw[size_zeroCells,hzs]))
  simp only[Rep,ap] at rx;rcases rx with⟨bk,off,cap,vx,hcap,hc,hnlx,hclip⟩|⟨q,vx,rfl,rfl,hnlx⟩
  ·have hcapn:=hclip trivial;obtain⟨olds,v1,v2,v3⟩:=hc.vals;have hol:olds.length=n*esz:=by rw[<-v2.len,hlen]
   have hfc:(Builtin.firstCells i.size n (.slice (some ⟨bk,off,none⟩) n cap)).run K.P w.drew= .ok olds.toArray w.drew:=
    run_firstCells_some (P:=K.P) w.drew i.size n ⟨bk,off,none⟩ n cap olds (by rw[hsz,hol]) (λj v hv=>by rw[Addr.add_mid];exact v1 j v hv)
   by_cases hm0:m=0
   ·have hnews0:news=[]:=List.eq_nil_of_length_eq_zero (by rw[n2,hm0,Nat.zero_mul]);have hys0:az (bxl getB b) (arg K.E get y)=[]:=List.eq_nil_of_length_eq_zero (by rw[n1.len,hnews0];rfl);have hr:=yi (P:=K.P) (ty:=o.type) w hu hd2 hd2' hi (base:=some ⟨bk,off,none⟩) (sLen:=n) (sCap:=cap) (x:=a.eval y') (news:=news) (n3 w) (hnews _ (.inl rfl)) (by omega);rw[<-vx,hnews0] at hr;simp only[storeCells,Sem.run_pure,Result.andThen_ok] at hr;refine⟨_,_,_,so ho hr,.inl rfl,?_⟩;rw[hef,hys0];have hnlr:nlr≠some true:=by
     intro e;subst e;simp only at hnl;split at hnl
     ·rename_i hsl;cases hsl;exact hnlx rfl
     cases hnl
    by_cases hn0:n=0
    ·have hcs0:cs=[]:=List.eq_nil_of_length_eq_zero (by rw[hlen,hn0,Nat.zero_mul]);rw[if_pos hn0,hcs0];refine⟨g,hI,hS,?_⟩;subst hn0 hm0;simp only[Rep,ap,List.append_nil,Nat.add_zero];exact⟨.inl ⟨bk,off,cap,rfl,by omega,by simp[am],hnlr,by simp⟩,λl hl=> .inl (.inr ⟨⟨some ⟨bk,off,none⟩,by rw[hcapn]⟩,trivial⟩)⟩
    rw[if_neg hn0];refine⟨g,hI,hS,?_⟩;subst hm0;simp only[Rep,ap,List.append_nil,Nat.add_zero];exact .inl ⟨bk,off,cap,rfl,hcap,hc,hnlr,by simp⟩
   exact grow _ cap olds vx (by omega) v2 (ag.isPure _ _ v3) hol hfc (by omega)
  by_cases hm0:m=0
  ·have hnews0:news=[]:=List.eq_nil_of_length_eq_zero (by rw[n2,hm0,Nat.zero_mul]);have hys0:az (bxl getB b) (arg K.E get y)=[]:=List.eq_nil_of_length_eq_zero (by rw[n1.len,hnews0];rfl);have hr:=yi (P:=K.P) (ty:=o.type) w hu hd2 hd2' hi (base:=q) (sLen:=0) (sCap:=0) (x:=a.eval y') (news:=news) (n3 w) (hnews _ (.inl rfl)) (by omega);rw[<-vx,hnews0] at hr;have hr:(Builtin.append_ #[t1,t2] o.type #[a.eval x',a.eval y']).run K.P w= .ok (.slice q (0+m) 0) w:=by
    rw[hr];cases q<;>simp[storeCells]
   refine⟨_,_,_,so ho hr,.inl rfl,?_⟩;rw[hef,hys0,if_pos rfl];refine⟨g,hI,hS,?_⟩;subst hm0;simp only[Rep,ap,List.append_nil,Nat.add_zero];refine⟨.inr ⟨q,rfl,trivial,trivial,?_⟩,λl hl=> .inl (.inr ⟨⟨q,rfl⟩,trivial⟩)⟩;intro e;cases q with
   |none=>
    simp only[Option.isSome_none] at e hnlx;subst e;simp only at hnl;split at hnl
    ·rename_i hsl;cases hsl;exact hnlx rfl
    omega
   |some q=>
    simp only[Option.isSome_some] at e hnlx;subst e;simp only at hnl;split at hnl
    ·rename_i hsl;cases hsl;exact hnlx rfl
    cases hnl
  exact grow q 0 [] vx (by omega) (by simp[an]) rfl (by simp) (by
   cases q with
   |none=>simp[Builtin.firstCells]
   |some q=>simp only[Builtin.firstCells,Nat.zero_mul];exact uj w.drew q) (by omega)
 cases hx0
theorem Qg(hI:Inv K base g w getB)(hS:dI K g w get a){esz bytes:Nat}{str:Bool}{nlr:Option Bool}{b:Option Nat}{x:Nat}{y:Arg}(h:Fs K o.op esz bytes str (.s x) y=true)(hok:okp K.E get getB (.append esz bytes str nlr b x y)):
  zL K base a get getB d o (.append esz bytes str nlr b x y) w:=by
 obtain⟨x',y',t1,t2,e,i,z,d2,ho,hu,hi,hsz,hby,hz,hzs,hd2,hd2',hx,hy⟩:=F4 h;have:=yt hx;subst this;obtain⟨hx0,hap⟩:=hok;have rx:=Bp hS x;split at hx0
 ·rename_i e0 nl n cs ex;subst hx0;have hap':=hap;obtain⟨hy0,hbytes,h40,hnl,hcells⟩:=hap;rw[ex] at rx hbytes h40 hnl hap';obtain⟨news,n1,n2,n3,n4⟩:=Oc hI hS hy hy0;generalize hm:bc (arg K.E get y)=m at*
  simp only[bc] at hbytes h40;have hnews:∀w1,(w1=w∨w1=w.drew)->(Builtin.firstCells i.size m (a.eval y')).run K.P w1= .ok news.toArray w1:=λw1 hw=>by have:=n4 m w1 (Nat.le_refl _) hw;rw[List.take_of_length_le (by rw[n2];exact Nat.le_refl _)] at this;rw[hsz];exact this
  have hpy:au (az (bxl getB b) (arg K.E get y))=true:=(bE _).2 λc hc=>(hcells c hc).1;have hones:=z1la n1 λc hc=>(hcells c hc).2;have hef:eff K.E get getB (.append e0 bytes str nlr b x y)={val:= .sl (.own e0) nlr (n+m) (cs++az (bxl getB b) (arg K.E get y)),sl:=[(x,dem (get x))]}:=by simp only[eff,ex,hm];rfl
  have hsl:∀g1 w1,dI K g1 w1 get a->dI K g1 w1 (upd get [(x,dem (get x))]) a:=λg1 w1 hslots s=>by
   simp only[upd,lk];by_cases hs:s=x
   ·rw[if_pos hs,hs];exact Rep.dem _ (hslots x)
   simp only[if_neg hs,Option.getD_none];exact hslots s
  have grow:∀(base':Option Addr) (cap:Nat) (olds:List Value),a.eval (.tmp x)= .slice base' n cap->cap<n+m->an K.toCon g w cs olds->au cs=true->olds.length=n*e0->
    (Builtin.firstCells i.size n (.slice base' n cap)).run K.P w.drew= .ok olds.toArray w.drew->0<m->zL K base a get getB d o (.append e0 bytes str nlr b x y) w:=λbase' cap olds hv hc hold hpc hol hfc hm0=>by
   have hr:=z0zz (P:=K.P) (ty:=o.type) w hu hd2 hd2' hi hz (x:=a.eval y') (news:=news) (olds:=olds) (n3 w) (hnews _ (.inr rfl)) hfc hc (by rw[hby];omega) (by omega);rw[<-hv] at hr;refine⟨_,_,_,so ho hr,.inl rfl,?_⟩;rw[hef];exact Lc hI hS (λg1 w1 _ h=>hsl g1 w1 h) (LU hap' (by rw[hm];exact hm0)) (grownCap_ge _ _ _ _) hold hpc hol n1 hpy n2 (by rw[size_zeroCells,hzs])
  simp only[Rep] at rx;obtain⟨rp,hown⟩:=rx;simp only[ap] at rp;by_cases hm0:m=0
  ·
   have hnews0:news=[]:=List.eq_nil_of_length_eq_zero (by rw[n2,hm0,Nat.zero_mul]);have hys0:az (bxl getB b) (arg K.E get y)=[]:=List.eq_nil_of_length_eq_zero (by rw[n1.len,hnews0];rfl);have hvx:∃p cap,a.eval (.tmp x)= .slice p n cap∧n<=cap:=by
    rcases rp with⟨bk,off,cap,vx,hcap,_⟩|⟨q,vx,rfl,_⟩
    ·exact⟨_,_,vx,hcap⟩
    exact⟨_,_,vx,Nat.le_refl _⟩
   obtain⟨p,cap,vx,hcap⟩:=hvx;have hr:=yi (P:=K.P) (ty:=o.type) w hu hd2 hd2' hi (base:=p) (sLen:=n) (sCap:=cap) (x:=a.eval y') (news:=news) (n3 w) (hnews _ (.inl rfl)) (by omega);rw[<-vx,hnews0] at hr;have hr':(Builtin.append_ #[t1,t2] o.type #[a.eval (.tmp x),a.eval y']).run K.P w= .ok (a.eval (.tmp x)) w:=by rw[hr,vx,hm0];cases p<;>simp[storeCells]
   obtain⟨g',h1,h2,h3,_⟩:=yX hI hS x (d.map .slot);refine⟨_,_,_,so ho hr',.inl rfl,?_⟩;rw[hef,hys0,hm0,List.append_nil,Nat.add_zero];refine⟨g',h1,h2,?_⟩;rw[ex] at h3;simp only[Rep] at h3⊢;refine⟨?_,h3.2⟩;have h31:=h3.1;simp only[ap] at h31⊢;rcases h31 with⟨bk,off,cap,q1,q2,q3,q4,q5⟩|⟨q,q1,q2,q3,q4⟩
   ·refine .inl ⟨bk,off,cap,q1,q2,q3,?_,q5⟩;intro e1;subst e1;simp only at hnl;split at hnl
    ·rename_i hsl';cases hsl';exact q4 rfl
    cases hnl
   refine .inr ⟨q,q1,q2,q3,?_⟩;intro e1;cases q with
   |none=>
    simp only[Option.isSome_none] at e1 q4;subst e1;simp only at hnl;split at hnl
    ·rename_i hsl';cases hsl';exact q4 rfl
    omega
   |some q=>
    simp only[Option.isSome_some] at e1 q4;subst e1;simp only at hnl;split at hnl
    ·rename_i hsl';cases hsl';exact q4 rfl
    cases hnl
  rcases rp with⟨bk,off,cap,vx,hcap,hc,hnlx,_⟩|⟨q,vx,rfl,rfl,hnlx⟩
  ·rw[vx] at hown;rcases hown (.slot x) rfl with(hz0|⟨⟨p,hz0⟩,hcs0⟩)|hO
   ·simp at hz0
   ·simp only[Value.slice.injEq] at hz0;obtain⟨_,rfl,rfl⟩:=hz0;subst hcs0;have hfc0:(Builtin.firstCells i.size 0 (.slice (some ⟨bk,off,none⟩) 0 0)).run K.P w.drew= .ok ([]:List Value).toArray w.drew:=by
     simp only[Builtin.firstCells,Nat.zero_mul];exact uj w.drew _
    exact grow _ 0 [] vx (by omega) (by simp[an]) rfl (by simp) hfc0 (by omega)
   obtain⟨b',cap',q1,q2,q3,q4,q5,q6⟩:=hO;simp only[Value.slice.injEq,Option.some.injEq,Addr.mk.injEq] at q1;obtain⟨⟨rfl,rfl,_⟩,_,rfl⟩:=q1;obtain⟨olds,v1,v2,v3⟩:=hc.vals;have hol:olds.length=n*e0:=by rw[<-v2.len,q3]
   have q6t:w.there bk (n*e0) (cap*e0-n*e0):=λj hj=>by have:=q6 (n*e0+j) (by omega);rw[Nat.zero_add] at this;exact this
   by_cases hroom:n+m<=cap
   ·have hthere:w.there bk (n*e0) news.length:=λj hj=>by
     have:n*e0+m*e0<=cap*e0:=by rw[<-Nat.add_mul];exact Nat.mul_le_mul_right _ hroom
     exact q6t j (by omega)
    have hst:=run_storeCells_cells (P:=K.P) bk (n*e0) news 0 w (λj hj=>by simpa using(hthere j hj).1) (λj hj=>by simpa using(hthere j hj).2) hones;have hr:=yi (P:=K.P) (ty:=o.type) w hu hd2 hd2' hi (base:=some ⟨bk,0,none⟩) (sLen:=n) (sCap:=cap) (x:=a.eval y') (news:=news) (n3 w) (hnews _ (.inl rfl)) hroom;rw[<-vx] at hr;simp only[hsz,Addr.add_mid,Nat.zero_add,Nat.add_zero] at hr hst;rw[hst] at hr;simp only[Result.andThen_ok] at hr;obtain⟨k1,k2,k3⟩:=Wf hI q5 q4 q6t (d.map .slot) news n2 hroom;refine⟨_,_,_,so ho hr,.inl rfl,?_⟩;rw[hef];refine⟨uW g bk ((n+m)*e0) (d.map .slot),k3 (by simp),λs=> ?_,?_⟩
    ·simp only[upd,lk];by_cases hs:s=x
     ·subst hs;simp only[if_true,Option.getD_some,ex,Abs.dem,Rep];have:ap K.toCon g.S w (.sl .plain nl n cs) (a.tmps.getD s undef):=by
       have hh:=hS s;rw[ex] at hh;simp only[Rep] at hh;exact hh.1
      exact ap.mono k1 _ _ this
     simp only[if_neg hs,Option.getD_none];exact Rep.mono k1 _ _ _ _ (λ_ _ _ h=>h) (λl hl=>⟨l,hl,k2 l (by cases hl;simpa using hs)⟩) (hS s)
    simp only[Rep];have hlen:(cs++az (bxl getB b) (arg K.E get y)).length=(n+m)*e0:=by rw[List.length_append,q3,n1.len,n2,Nat.add_mul]
    refine⟨?_,λl hl=> .inr ⟨bk,cap,rfl,hroom,hlen,by simp[uW],by simp[uW,hl],?_⟩⟩
    ·simp only[ap];refine .inl ⟨bk,0,cap,rfl,hroom,am.mk λj c hj=> ?_,LU hap' (by rw[hm];omega),by simp⟩;have hlt:=(List.getElem?_eq_some_iff.1 hj).1;refine⟨by simp[uW];omega,?_⟩;rw[Nat.zero_add];by_cases hjn:j<cs.length
     ·rw[List.getElem?_append_left hjn] at hj;obtain⟨q,⟨u,hu,hp⟩⟩:=hc.get j c hj;rw[Nat.zero_add] at q hu;obtain⟨_,hu'⟩:=k1 bk j u q hu;exact⟨u,hu',ap.mono k1 c u hp⟩
     rw[List.getElem?_append_right (by omega)] at hj;obtain⟨u,hu,hru⟩:=n1.get _ c hj;have hju:j-cs.length<news.length:=(List.getElem?_eq_some_iff.1 hu).1;refine⟨u,?_,ap.mono k1 c u (Rep.pure c u none ((bE _).1 hpy c (sj hj)) hru)⟩;have:=World.cell?_setCells_in bk news (n*e0) w (λj hj=>(hthere j hj).1) (j-cs.length) hju;rw[show n*e0+(j-cs.length)=j by omega] at this;rw[this,<-hu,List.getElem?_eq_getElem hju]
    intro j hj;exact World.there_setCells q6 bk (n*e0) news j hj
   have hfc:(Builtin.firstCells i.size n (.slice (some ⟨bk,0,none⟩) n cap)).run K.P w.drew= .ok olds.toArray w.drew:=
    run_firstCells_some (P:=K.P) w.drew i.size n ⟨bk,0,none⟩ n cap olds (by rw[hsz,hol]) (λj v hv=>by rw[Addr.add_mid];exact v1 j v hv)
   exact grow _ cap olds vx (by omega) v2 (ag.isPure _ _ v3) hol hfc (by omega)
  exact grow q 0 [] vx (by omega) (by simp[an]) rfl (by simp) (by
   cases q with
   |none=>simp[Builtin.firstCells]
   |some q=>simp only[Builtin.firstCells,Nat.zero_mul];exact uj w.drew q) (by omega)
 cases hx0
end
section
variable {K : Cx} {base : aZ} {g g' : Gh} {w w' : World} {get : Nat -> oH} {getB : Nat -> Option (List oH)} {a : Act} {o : Oper} {d : Option Nat}
def Qd(K:Cx)(op:Op)(esz:Nat)(str:Bool)(x y:Arg):Bool:=
 match op with
 | .call c=>(match c.callee,c.args.toList,c.argTypes.toList with
  | .builtin .copy,[x',y'],[t1,_]=>(match K.P.underlying t1 with|some (.slice e)=>u6 K.P e esz|_=>false)&&rk K x' x&&rk K y' y
  |_,_,_=>false)
 |_=>false
theorem XK{P:Program}(w:World){t1 t2 ty e:TypeId}{esz:Nat}(h1:P.underlying t1=some (.slice e))(hs:u6 P e esz=true){bk o dLen dCap m:Nat}{x:Value}{news:List Value}
  (hlen:(Builtin.lenOf x).run P w= .ok m w) (hnews:(Builtin.firstCells esz (Nat.min m dLen) x).run P w= .ok news.toArray w) (ht:w.there bk o news.length) (h1c:∀v∈news,v.oneCell'=true):
  (Builtin.copy_ #[t1,t2] ty #[.slice (some ⟨bk,o,none⟩) dLen dCap,x]).run P w= .ok (.int .i64 (Nat.min m dLen:Nat)) (w.setCells bk o news):=by
 have hst:=run_storeCells_cells (P:=P) bk o news 0 w (λj hj=>by simpa using(ht j hj).1) (λj hj=>by simpa using(ht j hj).2) h1c;simp only[Nat.add_zero] at hst;simp[Builtin.copy_,run_underlying h1,run_sizeOf w hs,hlen,hnews,hst,goInt]
theorem VY(hI:Inv K base g w getB)(hS:dI K g w get a){esz:Nat}{str:Bool}{db:Nat}{b:Option Nat}{x y:Arg}(h:Qd K o.op esz str x y=true)(hok:okp K.E get getB (.copy esz str db b x y)):zL K base a get getB d o (.copy esz str db b x y) w:=by
 unfold Qd at h;split at h
 ·rename_i c ho;split at h
  ·rename_i x' y' t1 t2 hc hargs hts;obtain⟨callee,args,ts⟩:=c;simp only at hc hargs hts;subst hc;have:=z0oa hargs;subst this;have:=z0oa hts;subst this;simp only[Bool.and_eq_true] at h;obtain⟨⟨h,hx⟩,hy⟩:=h;split at h
   ·rename_i e hu;obtain⟨hob,hx0,hy0,hcells⟩:=hok;have rx:=o6 hI hS hx;split at hx0
    ·rename_i id e' off n cp ex;obtain⟨rfl,rfl,cs,hcs,hfit⟩:=hx0;rw[ex] at rx;simp only[Rep] at rx;obtain⟨bk,cap,o',hbk,vx,hcap,_,ho'⟩:=rx;obtain⟨news,n1,n2,n3,n4⟩:=Oc hI hS hy hy0;generalize hm:bc (arg K.E get y)=m at*
     have hf:=n4 (Nat.min m n) w (Nat.min_le_left _ _) (.inl rfl);have hones:=z1la n1 λc hc=>(hcells c hc).1;have hle:(Nat.min m n)*e'<=m*e':=Nat.mul_le_mul_right _ (Nat.min_le_left _ _);have hle2:(Nat.min m n)*e'<=n*e':=Nat.mul_le_mul_right _ (Nat.min_le_right _ _);have htl:(news.take (Nat.min m n*e')).length=Nat.min m n*e':=by rw[List.length_take,n2];exact Nat.min_eq_left hle
     have hthere:w.there bk o' (news.take (Nat.min m n*e')).length:=by
      rw[htl];rcases ho' with rfl|⟨rfl,_⟩
      ·exact J6 hI hcs hbk o' _ (by omega)
      intro j hj;simp at hj
     have hr:=XK (P:=K.P) (ty:=o.type) (t2:=t2) w hu h (dCap:=cap) (n3 w) hf hthere (λv hv=>hones v (List.mem_of_mem_take hv));rw[<-vx] at hr;have hrun:(execOp a.eval o).run K.P w= .ok (.value (.int .i64 (Nat.min m n:Nat))) (w.setCells bk o' (news.take (Nat.min m n*e'))):=by simp only[execOp,ho,resolve,Sem.run_bind,Sem.run_pure,Result.andThen_ok,invoke,builtin];simp[hr]
     have hbx:bxl getB (some id)=cs:=by simp[bxl,bxc,hcs]
     have hef:eff K.E get getB (.copy e' str id b x y)={val:= .lit (.int .i64 (Nat.min m n:Nat)),bx:=[(id,some (splice cs off ((az (bxl getB b) (arg K.E get y)).take (Nat.min m n*e'))))]}:=by simp only[eff,ex,hbx,hm]
     refine⟨_,_,_,hrun,.inl rfl,?_⟩;rw[hef];have n1':=n1.take (Nat.min m n*e');have hlen':=n1'.len;have hown:∀c∈(az (bxl getB b) (arg K.E get y)).take (Nat.min m n*e'),ao c=false:=λc hc=>(hcells c (List.mem_of_mem_take hc)).2;generalize hds:(az (bxl getB b) (arg K.E get y)).take (Nat.min m n*e')=ds at*
     generalize hvs:news.take (Nat.min m n*e')=vs at*
     rcases ho' with rfl|⟨rfl,_⟩
     ·obtain⟨bk',k1,k2,k3⟩:=F0 hI hob hcs o' vs ds hlen' (by omega) (λi c u hc hu=>by
       obtain⟨u',hu',hr'⟩:=n1'.get i c hc;rw[hu] at hu';cases hu';exact Bv _ (hown c (sj hc)) hr')
      rw[hbk] at k1;cases k1;exact⟨g,k3,k2.slots hS,vL _ _⟩
     have hz:Nat.min m 0=0:=Nat.min_zero m;have hvs0:vs=[]:=List.eq_nil_of_length_eq_zero (by rw[htl,hz,Nat.zero_mul]);have hds0:ds=[]:=List.eq_nil_of_length_eq_zero (by rw[hlen',hvs0];rfl);rw[hvs0,hds0];have hsp:splice cs off ([]:List oH)=cs:=by simp[splice]
     rw[hsp];have hup:Kt getB [(id,some cs)]=getB:=funext λj=>by
      rw[Qj];split
      ·rename_i hj;rw[hj,hcs]
      rfl
     exact⟨g,by rw[hup];exact hI,hS,vL _ _⟩
    cases hx0
   cases h
  cases h
 cases h
theorem OQ(hI:Inv K base g w getB)(hS:dI K g w get a){esz bytes:Nat}{str:Bool}{id:Nat}{b:Option Nat}{x y:Arg}(h:Fs K o.op esz bytes str x y=true)(hok:okp K.E get getB (.appendB esz bytes str id b x y)):
  zL K base a get getB d o (.appendB esz bytes str id b x y) w:=by
 obtain⟨x',y',t1,t2,e,i,z,d2,ho,hu,hi,hsz,hby,hz,hzs,hd2,hd2',hx,hy⟩:=F4 h;obtain⟨hob,hx0,hy0,hcells⟩:=hok;have rx:=o6 hI hS hx;split at hx0
 ·rename_i id' e' off n c ex;obtain⟨rfl,rfl,⟨cs,hcs,hfit⟩,hc,hc0⟩:=hx0;rw[ex] at rx;simp only[Rep] at rx;obtain⟨bk,cap,o',hbk,vx,hcap,hccap,ho',hxc⟩:=rx;have hoo:o'=off:=ho'.resolve_right (by omega);subst hoo;obtain⟨news,n1,n2,n3,n4⟩:=Oc hI hS hy hy0;generalize hm:bc (arg K.E get y)=m at*
  have hnews:(Builtin.firstCells i.size m (a.eval y')).run K.P w= .ok news.toArray w:=by have:=n4 m w (Nat.le_refl _) (.inl rfl);rw[List.take_of_length_le (by rw[n2];exact Nat.le_refl _)] at this;rw[hsz];exact this
  have hones:=z1la n1 λc hc=>(hcells c hc).1;have hfit':o'+n*e'+m*e'<=cs.length:=by rw[Nat.add_assoc,<-Nat.add_mul];exact hfit
  have hthere:w.there bk (o'+n*e') news.length:=J6 hI hcs hbk _ _ (by rw[n2];exact hfit');have hst:=run_storeCells_cells (P:=K.P) bk (o'+n*e') news 0 w (λj hj=>by simpa using(hthere j hj).1) (λj hj=>by simpa using(hthere j hj).2) hones;have hr:=yi (P:=K.P) (ty:=o.type) w hu hd2 hd2' hi (base:=some ⟨bk,o',none⟩) (sLen:=n) (sCap:=cap) (x:=a.eval y') (news:=news) (n3 w) hnews (by omega);rw[<-vx] at hr;simp only[hsz,Addr.add_mid,Nat.add_zero] at hr hst;rw[hst] at hr;simp only[Result.andThen_ok] at hr;have hbx:bxl getB (some id')=cs:=by simp[bxl,bxc,hcs]
  have hef:eff K.E get getB (.appendB e' bytes str id' b x y)={val:= .bv id' e' o' (n+m) c,bx:=[(id',some (splice cs (o'+n*e') (az (bxl getB b) (arg K.E get y))))]}:=by simp only[eff,ex,hbx,hm]
  refine⟨_,_,_,so ho hr,.inl rfl,?_⟩;rw[hef];obtain⟨bk',k1,k2,k3⟩:=F0 hI hob hcs (o'+n*e') news _ n1.len (by rw[n1.len,n2];exact hfit') (λi c u hc hu=>by
   obtain⟨u',hu',hr'⟩:=n1.get i c hc;rw[hu] at hu';cases hu';exact Bv _ (hcells c (sj hc)).2 hr')
  rw[hbk] at k1;cases k1;exact⟨g,k3,k2.slots hS,by simp only[Rep];exact⟨bk,cap,o',hbk,rfl,by omega,hccap,.inl rfl,hxc⟩⟩
 cases hx0
def Vi(op:Op):Bool:=match op with| .makeMap _ none=>true|_=>false
theorem SO(hI:Inv K base g w getB)(hS:dI K g w get a)(h:Vi o.op=true):zL K base a get getB d o .mkmap w:=by
 unfold Vi at h;split at h
 ·rename_i t ho;have hrun:(execOp a.eval o).run K.P w= .ok (.value (.map (some w.heap.size))) (w.alloc (.map #[] 0)):=by
   simp only[execOp,ho,Option.map_none,Sem.run_bind,show(Instr.makeMap t none).run K.P w= .ok (.map (some w.heap.size)) (w.alloc (.map #[] 0)) from rfl,Result.andThen_ok,Sem.run_pure]
  refine⟨_,_,_,hrun,.inl rfl,uW g w.heap.size 0 (d.map .slot),xk hI _ _ _,(vm hI _ _ _).slots hS,?_⟩;simp only[eff,Rep];exact⟨⟨_,rfl⟩,λl hl=>⟨_,rfl,by simp[uW,hl],World.ownsMap_made w K.P K.mkt _⟩⟩
 cases h
theorem SB{cs:List oH}{b o k:Nat}(h:∀i c,cs[i]? =some c->∃x,c= .lit x∧w.cell? ⟨b,i,none⟩=some x):w.rangeAt b o (((cs.drop o).take k).map asV)∧an K.toCon g w ((cs.drop o).take k) (((cs.drop o).take k).map asV):=by
 have key:∀i c,((cs.drop o).take k)[i]? =some c->∃x,c= .lit x∧w.cell? ⟨b,o+i,none⟩=some x:=λi c hi=>by
  rw[List.getElem?_take] at hi;split at hi
  ·rw[List.getElem?_drop] at hi;exact h _ c hi
  cases hi
 refine⟨λj v hv=> ?_,an.mk (by simp) λi c v hc hv=> ?_⟩
 ·rw[List.getElem?_map,Option.map_eq_some_iff] at hv;obtain⟨c,hc,rfl⟩:=hv;obtain⟨x,rfl,hx⟩:=key j c hc;exact hx
 rw[List.getElem?_map,hc] at hv;obtain⟨x,rfl,_⟩:=key i c hc;simp only[Option.map_some,Option.some.injEq] at hv;subst hv;exact vL _ _
theorem Tk(hI:Inv K base g w getB)(hS:dI K g w get a){k s:Nat}{x:Arg}(h:EF K o.op (some k) x=true)(hok:okp K.E get getB (.loadP k s x)):zL K base a get getB d o (.loadP k s x) w:=by
 unfold EF at h;split at h
 ·rename_i t x' ho;simp only[Bool.and_eq_true] at h;obtain⟨⟨hk,_⟩,hx⟩:=h;have rx:=o6 hI hS hx;have rs:=Bp hS s;simp only[okp] at hok;split at hok
  ·rename_i b c0 e n cs b' off es ex;obtain⟨rfl,h1,h2⟩:=hok;rw[ex] at rx;rw[es] at rs;simp only[Rep] at rx rs;obtain⟨⟨q,cap,hv,hq⟩,hp⟩:=rs;cases hq _ rfl;rcases hp _ rfl with⟨q',hv',_,rfl⟩|⟨b2,cap',hv',_,_,_,_,_,hc⟩
   ·simp at h1;omega
   rw[hv] at hv';simp only[Value.slice.injEq,Option.some.injEq,Addr.mk.injEq] at hv';obtain⟨⟨rfl,_⟩,_⟩:=hv';obtain⟨r1,r2⟩:=SB (K:=K) (g:=g) (o:=off) (k:=k) hc;have hl:=Hf (P:=K.P) hk r1 (by simp;omega);have hrun:(execOp a.eval o).run K.P w= .ok (.value (MA (some k) (((cs.drop off).take k).map asV))) w:=by simp only[execOp,ho,rx,Sem.run_bind,hl,Result.andThen_ok,Sem.run_pure]
   refine o7 hI hS (c:= .agg ((cs.drop off).take k)) (by simp only[eff,es,ex]) hrun ?_;simp only[Rep];refine⟨_,rfl,?_⟩;have:=r2.take k;rwa[List.take_take,Nat.min_self] at this
  cases hok
 cases h
theorem Wx(q:Option Addr)(n:Nat):q.map (·.add (0*n))=q:=by
 cases q with
 |none=>rfl
 |some q=>obtain⟨b,o,m⟩:=q;simp[Addr.add]
theorem z3ga{l:Option Loc}{p:Option (Option Addr×Nat)}{e n:Nat}{cs:List oH}{q:Option Addr}{cap m:Nat}(hm:m<=n)(h:Rep K.toCon g w l (.pv p e n cs) (.slice q n cap)):Rep K.toCon g w l (.pv p e m (cs.take (m*e))) (.slice q m cap):=by
 simp only[Rep] at h⊢;obtain⟨⟨q',cap',hv,hq⟩,hp⟩:=h;cases hv;refine⟨⟨q,cap,rfl,hq⟩,λl' hl=> ?_⟩;rcases hp l' hl with⟨q',hv',rfl,rfl⟩|⟨b,cap',hv',h1,h2,h3,h4,h5,h6⟩
 ·cases hv';have:m=0:=by omega
  subst this;exact .inl ⟨q,rfl,rfl,by simp⟩
 cases hv';refine .inr ⟨b,cap,rfl,by omega,by rw[List.length_take,h2];exact Nat.min_eq_left (Nat.mul_le_mul_right _ hm),h3,h4,h5,λi c hi=> ?_⟩;rw[List.getElem?_take] at hi;split at hi
 ·exact h6 i c hi
 cases hi
theorem z3d(hI:Inv K base g w getB)(hS:dI K g w get a){esz s:Nat}{hi:Arg}(h:Lw K o.op esz (.s s) none (some hi) none=true)(hok:okp K.E get getB (.slP esz s hi)):zL K base a get getB d o (.slP esz s hi) w:=by
 unfold Lw at h;split at h
 ·rename_i t x' lo' hi' mx' ho;simp only[Bool.and_eq_true] at h;obtain⟨⟨⟨⟨h,hx⟩,hlo⟩,hhi⟩,hmx⟩:=h;have:=yt hx;subst this;split at h
  ·rename_i e hu;have rs:=Bp hS s;simp only[okp] at hok;split at hok
   ·rename_i p e' n cs es;obtain⟨rfl,k1,k2,k3⟩:=hok;obtain⟨g',i1,i2,i3,_⟩:=yX hI hS s (d.map .slot);rw[es] at rs i3;simp only[Rep] at rs;obtain⟨⟨q,cap,hv,_⟩,hp⟩:=rs;have hcap:n<=cap:=by
     rcases hp _ rfl with⟨q',hv',rfl,_⟩|⟨b2,cap',hv',h1,_⟩
     ·omega
     rw[hv] at hv';cases hv';exact h1
    rw[hv] at i3;have hb:=EX hI hS hlo hhi hmx true n cap hcap n hcap (by simp) trivial (by simp only[bn,mxv];exact⟨k1,k2,by omega⟩) trivial;have hrun:(execOp a.eval o).run K.P w= .ok (.value (.slice q (asI (arg K.E get hi)).toNat cap)) w:=by simp only[execOp,ho,hv,Instr.sliceAt,Instr.slice,Sem.run_bind,run_underlying hu,Result.andThen_ok,hb,run_sizeOf w h,Sem.run_pure,bnd,mxv,Wx,ite_self,Nat.sub_zero]
    refine⟨_,_,_,hrun,.inl rfl,g',i1,?_,?_⟩
    ·simp only[eff];exact i2
    simp only[eff,es];exact z3ga (by omega) i3
   cases hok
  cases h
 cases h
theorem z6va{s esz n:Nat}{cs:List oH}(hS:dI K g w get a)(h:match get s with| .pv _ e _ _=>e=esz| .sl (.own e) _ 0 []=>e=esz|_=>False)(hn:pvN (get s)=n)(hc:pvC (get s)=cs):kO g w (.slot s) esz n cs (a.eval (.tmp s)):=by
 have rs:=Bp hS s;split at h
 ·rename_i p e k ds es;subst h;rw[es] at rs hn hc;simp only[pvN,pvC] at hn hc;subst hn hc;simp only[Rep] at rs;exact rs.2 _ rfl
 ·rename_i e nl es;subst h;rw[es] at rs hn hc;simp only[pvN,pvC] at hn hc;subst hn hc;simp only[Rep] at rs;rcases rs.2 _ rfl with(h|⟨⟨q,h⟩,_⟩)|⟨b,cap,h1,h2,h3,h4,h5,h6⟩
  ·exact .inl ⟨none,h,rfl,rfl⟩
  ·exact .inl ⟨q,h,rfl,rfl⟩
  exact .inr ⟨b,cap,h1,h2,h3,h5,by rw[h4,Nat.zero_mul],h6,by simp⟩
 cases h
theorem Oy(hI:Inv K base g w getB)(hS:dI K g w get a){esz bytes s:Nat}{y:Arg}(h:Fs K o.op esz bytes false (.s s) y=true)(hok:okp K.E get getB (.appendP esz bytes s y)):zL K base a get getB d o (.appendP esz bytes s y) w:=by
 obtain⟨x',y',t1,t2,e,i,z,d2,ho,hu,hi,hsz,hby,hz,hzs,hd2,hd2',hx,hy⟩:=F4 h;have:=yt hx;subst this;obtain⟨hx0,hy0,hbytes,h40,hlits⟩:=hok;generalize hn:pvN (get s)=n at*
 generalize hcs:pvC (get s)=cs at*
 have hpv:=z6va hS hx0 hn hcs;obtain⟨news,n1,n2,n3,n4⟩:=Oc hI hS (str:=false) (b:=none) hy hy0;rw[show bxl getB none=[] from rfl] at n1;generalize hm:bc (arg K.E get y)=m at*
 generalize hys:az [] (arg K.E get y)=ys at*
 have hnews:∀w1,(w1=w∨w1=w.drew)->(Builtin.firstCells i.size m (a.eval y')).run K.P w1= .ok news.toArray w1:=λw1 hw=>by have:=n4 m w1 (Nat.le_refl _) hw;rw[List.take_of_length_le (by rw[n2];exact Nat.le_refl _)] at this;rw[hsz];exact this
 have hones:=z1la n1 λc hc=>(hlits c hc).1;have hnl:∀(i:Nat) (c:oH),ys[i]? =some c->∃x,c= .lit x∧news[i]? =some x:=λi c hi=>by obtain⟨v,hv,hr⟩:=n1.get i c hi;obtain⟨_,x,rfl⟩:=hlits c (sj hi);simp only[Rep] at hr;subst hr;exact⟨_,rfl,hv⟩
 have hef:eff K.E get getB (.appendP esz bytes s y)={val:= .pv none esz (n+m) (cs++ys),sl:=[(s,dem (get s))]}:=by simp only[eff,hn,hcs,hm,hys]
 have hsl:∀g1 w1,aP g.S w g1.S w1->g1.mu=g.mu->(∀l,l≠ .slot s->aQ g w g1 w1 l l)->dI K g1 w1 (upd get [(s,dem (get s))]) a:=λg1 w1 hk hmu hown t=>by
  simp only[upd,lk];by_cases hs:t=s
  ·subst hs;simp only[if_true,Option.getD_some];exact Bv _ (AF _) (Rep.mono hk _ _ none none (λ_ _ b hb=>by rw[hmu];exact hb) (by simp) (Rep.dem none (hS t)))
  simp only[if_neg hs,Option.getD_none];exact Rep.mono hk _ _ _ _ (λ_ _ b hb=>by rw[hmu];exact hb) (λl hl=>⟨l,hl,hown l (by cases hl;simpa using hs)⟩) (hS t)
 have grow:∀(base':Option Addr) (cap:Nat) (olds:List Value),a.eval (.tmp s)= .slice base' n cap->cap<n+m->(∀(i:Nat) (c:oH),cs[i]? =some c->∃x,c= .lit x∧olds[i]? =some x)->cs.length=n*esz->olds.length=n*esz->
   (Builtin.firstCells i.size n (.slice base' n cap)).run K.P w.drew= .ok olds.toArray w.drew->zL K base a get getB d o (.appendP esz bytes s y) w:=λbase' cap olds hv hc hold hcl hol hfc=>by
  have hr:=z0zz (P:=K.P) (ty:=o.type) w hu hd2 hd2' hi hz (x:=a.eval y') (news:=news) (olds:=olds) (n3 w) (hnews _ (.inr rfl)) hfc hc (by rw[hby];omega) (by omega);rw[<-hv] at hr;have hI':=E6 hI;have hcap:=grownCap_ge w (n+m) cap e;generalize grownCap w (n+m) cap e=C at*
  generalize hR:Builtin.zeroCells z.cells (C-(n+m))=R at*
  have hRs:R.size=(C-(n+m))*esz:=by rw[<-hR,size_zeroCells,hzs]
  have hxt:=vm hI' (.cells (olds.toArray++news.toArray++R) e) 0 (d.map .slot);refine⟨_,_,_,so ho hr,.inl rfl,uW g w.heap.size 0 (d.map .slot),by rw[hef];exact xk hI' _ _ _,by rw[hef];exact hsl _ _ hxt.keeps rfl λl _=>hxt.own l,?_⟩;rw[hef];simp only[Rep];refine⟨⟨_,_,rfl,by simp⟩,λl hl=> .inr ⟨_,C,rfl,hcap,by rw[List.length_append,hcl,n1.len,n2,Nat.add_mul],by simp[uW,hl],by simp[uW],?_,λj c hj=> ?_⟩⟩
  ·refine uM w.drew (olds.toArray++news.toArray++R) e (0,0) (by simp) _ _ ?_;have h3:(n+m)*esz+(C-(n+m))*esz=C*esz:=by rw[<-Nat.add_mul];congr 1;omega
   simp only[Array.size_append,List.size_toArray,hol,n2,hRs];have h4:n*esz+m*esz=(n+m)*esz:=(Nat.add_mul _ _ _).symm;omega
  have hcell:=World.cell?_alloc_new w.drew (olds.toArray++news.toArray++R) e j;rw[show w.drew.heap.size=w.heap.size from rfl] at hcell;have hget:∃x,c= .lit x∧(olds++news)[j]? =some x:=by
   by_cases hjn:j<cs.length
   ·rw[List.getElem?_append_left hjn] at hj;obtain⟨x,hx,ho⟩:=hold j c hj;exact⟨x,hx,by rw[List.getElem?_append_left (by omega)];exact ho⟩
   rw[List.getElem?_append_right (by omega)] at hj;obtain⟨x,hx,ho⟩:=hnl _ c hj;exact⟨x,hx,by rw[List.getElem?_append_right (by omega),hol,<-hcl];exact ho⟩
  obtain⟨x,hx,ho⟩:=hget;have hlt:=(List.getElem?_eq_some_iff.1 ho).1;refine⟨x,hx,?_⟩;rw[hcell,Array.getElem?_append_left (by simpa using hlt)];simpa using ho
 rcases hpv with⟨q,hv,rfl,rfl⟩|⟨b,cap,hv,h1,h2,h3,h4,h5,h6⟩
 ·by_cases hm0:m=0
  ·have hnews0:news=[]:=List.eq_nil_of_length_eq_zero (by rw[n2,hm0,Nat.zero_mul]);have hys0:ys=[]:=List.eq_nil_of_length_eq_zero (by rw[n1.len,hnews0];rfl);have hr:=yi (P:=K.P) (ty:=o.type) w hu hd2 hd2' hi (base:=q) (sLen:=0) (sCap:=0) (x:=a.eval y') (news:=news) (n3 w) (hnews _ (.inl rfl)) (by omega);rw[<-hv,hnews0] at hr;have hr':(Builtin.append_ #[t1,t2] o.type #[a.eval (.tmp s),a.eval y']).run K.P w= .ok (.slice q 0 0) w:=by
    rw[hr,hm0];cases q<;>simp[storeCells]
   refine⟨_,_,_,so ho hr',.inl rfl,g,by rw[hef];exact hI,by rw[hef];exact hsl g w (aP.refl _ _) rfl (λl _ b hb=>⟨hb,rfl,rfl⟩),?_⟩;rw[hef,hys0,hm0];simp only[Rep];exact⟨⟨q,0,rfl,by simp⟩,λl _=> .inl ⟨q,rfl,rfl,rfl⟩⟩
  exact grow q 0 [] hv (by omega) (by simp) (by simp) (by simp) (by
   cases q with
   |none=>simp[Builtin.firstCells]
   |some q=>simp only[Builtin.firstCells,Nat.zero_mul];exact uj w.drew q)
 by_cases hroom:n+m<=cap
 ·have hthere:w.there b (n*esz) news.length:=λj hj=>by
   have h7:n*esz+m*esz<=cap*esz:=by rw[<-Nat.add_mul];exact Nat.mul_le_mul_right _ hroom
   have:=h5 (n*esz+j) (by omega);rw[Nat.zero_add] at this;exact this
  have hst:=run_storeCells_cells (P:=K.P) b (n*esz) news 0 w (λj hj=>by simpa using(hthere j hj).1) (λj hj=>by simpa using(hthere j hj).2) hones;have hr:=yi (P:=K.P) (ty:=o.type) w hu hd2 hd2' hi (base:=some ⟨b,0,none⟩) (sLen:=n) (sCap:=cap) (x:=a.eval y') (news:=news) (n3 w) (hnews _ (.inl rfl)) hroom;rw[<-hv] at hr;simp only[hsz,Addr.add_mid,Nat.zero_add,Nat.add_zero] at hr hst;rw[hst] at hr;simp only[Result.andThen_ok] at hr;obtain⟨k1,k2,k3⟩:=Rt hI (o:=n*esz) (s1:=0) h3 (by omega) (by omega) (d.map .slot) news;refine⟨_,_,_,so ho hr,.inl rfl,uW g b 0 (d.map .slot),by rw[hef];exact k3 (by simp),by rw[hef];exact hsl _ _ k1 rfl k2,?_⟩;rw[hef];simp only[Rep];refine⟨⟨_,_,rfl,by simp⟩,λl hl=> .inr ⟨b,cap,rfl,hroom,by rw[List.length_append,h2,n1.len,n2,Nat.add_mul],by simp[uW,hl],by simp[uW],λj hj=>World.there_setCells h5 b (n*esz) news j hj,λj c hj=> ?_⟩⟩;by_cases hjn:j<cs.length
  ·rw[List.getElem?_append_left hjn] at hj;obtain⟨x,hx,hc⟩:=h6 j c hj;refine⟨x,hx,?_⟩;rw[World.cell?_setCells_out b news (n*esz) w ⟨b,j,none⟩ (λ_ _=> .inl (by show j<n*esz;omega))];exact hc
  rw[List.getElem?_append_right (by omega)] at hj;obtain⟨x,hx,hv'⟩:=hnl _ c hj;refine⟨x,hx,?_⟩;have hju:=(List.getElem?_eq_some_iff.1 hv').1;have:=World.cell?_setCells_in b news (n*esz) w (λj hj=>(hthere j hj).1) (j-cs.length) hju;rw[show n*esz+(j-cs.length)=j by omega] at this;rw[this,<-hv',List.getElem?_eq_getElem hju]
 obtain⟨r1,_⟩:=SB (K:=K) (g:=g) (o:=0) (k:=cs.length) h6;rw[List.drop_zero,List.take_length] at r1;exact grow _ cap (cs.map asV) hv (by omega) (λj c hj=>by
  obtain⟨x,rfl,_⟩:=h6 j c hj;exact⟨x,rfl,by rw[List.getElem?_map,hj];rfl⟩) h2 (by rw[List.length_map,h2])
  (run_firstCells_some (P:=K.P) w.drew i.size n ⟨b,0,none⟩ n cap (cs.map asV) (by rw[hsz,List.length_map,h2]) (λj v hv=>by rw[Addr.add_mid];exact r1 j v hv))
def SC:oH->Bool| .agg _=>false| .tup _=>false| .otup _ _ _ _ _=>false| .oagg _ _=>false| .undef=>false| .lit (.agg _)=>false| .lit (.tuple _)=>false|_=>true
theorem D8{c:oH}(h:SC c=true):ah c:=by unfold SC at h;unfold ah;split at h<;>simp_all
def z8g(K:Cx)(op:Op)(x:AOp):Bool:=
 match x with
 | .mv _ y=>z2v K op y
 | .pick c p q=>Qu K op c p q
 | .bin bo p q=>Xe K op bo p q
 | .eqF ks n p q=>Vf K op ks n p q
 | .eqnil n p q=>Mr K op n p q
 | .un uo p=>z7t K op uo p
 | .toInt k p=>Di K op (z7u K.P k) p
 | .toStr _ p=>Di K op (z6q K.P) p
 | .toBytes p=>Di K op (PJ K.P) p
 | .extractO x=>Pt op x
 | .build z ps=>EZ K op z ps&&z.all SC
 | .buildO z s=>EZ K op z [(0,1,.s s)]&&z.all SC
 | .boxO _ s=>Le K op none (.s s)
 | .buildSl esz n z ps=>AE K op esz n z ps&&z.all SC
 | .load k _ _ p=>EF K op k p
 | .store k _ _ p v=>MB K op k p v
 | .nilchk p=>V7 K op p
 | .buildBx _ esz n z ps=>(AE K op esz n z ps||(PH K op esz n z&&ps.isEmpty))&&z.all SC
 | .fieldAddr off p=>z5D K op off p
 | .idxArr n esz p i=>z4N K op n esz p i
 | .idxSl esz p i=>z3L K op esz p i
 | .slArr n esz p l h m=>Xc K op n esz p l h m
 | .slSl esz p l h m=>Lw K op esz p l h m
 | .slStr p l h=>LH K op p l h
 | .s2ap n p=>z7F K op n p
 | .alloc _ z=>Mk K op z
 | .box _ k _ p=>Le K op k p
 | .extract i p=>UO K op i p
 | .idxA k esz n p i=>PD K op k esz n p i
 | .idxStr p i=>QH K op p i
 | .call _ _ _=>false
 | .callv _ _ _ _=>false
 | .callm _ _ _ _ _=>false
 | .callw _ _ _ _ _=>false
 | .mkmap=>Vi op
 | .loadP k _ p=>EF K op (some k) p
 | .slP esz s h=>Lw K op esz (.s s) none (some h) none
 | .appendP esz by' s q=>Fs K op esz by' false (.s s) q
 | .len s p=>WE K op s p
 | .append esz by' s _ _ p q=>Fs K op esz by' s (.s p) q
 | .appendC esz by' s _ _ p q=>Fs K op esz by' s p q
 | .copy esz s _ _ p q=>Qd K op esz s p q
 | .appendB esz by' s _ _ p q=>Fs K op esz by' s p q
 | .mkfn f p q=>LL K op f p q
 | .unsup=>true
theorem z2a(hI:Inv K base g w getB)(hS:dI K g w get a){x:AOp}(h:z8g K o.op x=true)(hok:okp K.E get getB x):zL K base a get getB d o x w:=by
 cases x<;>simp only[z8g,Bool.and_eq_true,List.all_eq_true] at h
 case mv t y=>exact z7N hI hS t h
 case pick=>exact TO hI hS h hok
 case bin=>exact Zv hI hS h hok
 case eqF=>exact z2f hI hS h hok
 case eqnil=>exact S3 hI hS h hok
 case un=>exact z2y hI hS h hok
 case toInt=>exact SM hI hS h hok
 case toStr=>exact SJ hI hS h hok
 case toBytes=>exact OF hI hS h hok
 case extractO=>exact LJ hI hS h hok
 case build=>exact SH hI hS h.1 (λc hc=>D8 (h.2 c hc)) hok
 case buildO=>exact Qb hI hS h.1 (λc hc=>D8 (h.2 c hc)) hok
 case boxO=>exact WT hI hS h hok
 case buildSl=>exact Ov hI hS h.1 (λc hc=>D8 (h.2 c hc)) hok
 case load=>exact WD hI hS h hok
 case store=>exact Tg hI hS h hok
 case nilchk=>exact Pq hI hS h hok
 case buildBx id esz n z ps=>
  obtain⟨h1,h2⟩:=h;rw[Bool.or_eq_true] at h1;rcases h1 with h1|h1
  ·exact Og hI hS h1 (λc hc=>D8 (h2 c hc)) hok
  simp only[Bool.and_eq_true,List.isEmpty_iff] at h1;obtain⟨h1,rfl⟩:=h1;exact Wg hI hS h1 (λc hc=>D8 (h2 c hc)) hok
 case fieldAddr=>exact KH hI hS h hok
 case idxArr=>exact Pl hI hS h hok
 case idxSl=>exact SI hI hS h hok
 case slArr=>exact SZ hI hS h hok
 case slSl=>exact U7 hI hS h hok
 case slStr=>exact Ta hI hS h hok
 case s2ap=>exact W8 hI hS h hok
 case alloc=>exact SR hI hS h hok
 case box=>exact z4g hI hS h hok
 case extract=>exact N9 hI hS h hok
 case idxA=>exact TV hI hS h hok
 case idxStr=>exact P8 hI hS h hok
 case call=>cases h
 case callv=>cases h
 case callm=>cases h
 case callw=>cases h
 case mkmap=>exact SO hI hS h
 case loadP=>exact Tk hI hS h hok
 case slP=>exact z3d hI hS h hok
 case appendP=>exact Oy hI hS h hok
 case len=>exact Zz hI hS h hok
 case append=>exact Qg hI hS h hok
 case appendC=>exact OU hI hS h hok
 case copy=>exact VY hI hS h hok
 case appendB=>exact OQ hI hS h hok
 case mkfn=>exact Wq hI hS h
 case unsup=>exact hok.elim
end
def ek(P:Program)(f:FuncId):Prop:=∃fn,P.funcs[f]? =some fn∧fn.body.isSome=true∧(fn.name== "runtime.NumGoroutine")=false
def oK(K:Cx)(f:Nat)(c:aW):Prop:=
 ek K.P (K.nu f)∧∀(S:Nat->Nat) (w:World) (ds:List oH) (vs:List Value),(∀n∈K.N.gs,am K.toCon S w (K.E.T n) (K.N.gnum n) 0)->ag K.toCon S w ds vs->c.pre ds->
  Calls K.P (K.nu f) vs.toArray w λe w'=>∃v g',e= .returned v∧Fr w.heap.size (λ_=>False) w w'∧Rep K.toCon g' w' (some .ret) (c.post ds) v∧
   (∀b l,g'.ow b=some l->w.heap.size<=b∧b<w'.heap.size)∧∀b,b<w.heap.size->g'.S b=S b
section
variable {K : Cx} {base : aZ} {g g' : Gh} {w w' : World} {get : Nat -> oH} {getB : Nat -> Option (List oH)} {a : Act} {o : Oper} {d : Option Nat}
mutual
theorem Dm{g':Gh}{w':World}:∀(c:oH) (v:Value) (l l':Option Loc),aC c=true->Rep K.toCon g w l c v->Rep K.toCon g' w' l' c v
 | .lit x,v,_,_,_,h=>by simpa only[Rep] using h
 | .agg cs,v,_,_,hm,h=>by simp only[Rep,aC] at h hm⊢;obtain⟨a,rfl,h⟩:=h;exact⟨a,rfl,Ek cs _ hm h⟩
 | .tup cs,v,_,_,hm,h=>by simp only[Rep,aC] at h hm⊢;obtain⟨a,rfl,h⟩:=h;exact⟨a,rfl,Ek cs _ hm h⟩
 | .undef,_,_,_,_,_=>by simp[Rep]
 | .sl _ _ _ _,_,_,_,hm,_=>by simp[aC] at hm
 | .ep _,_,_,_,hm,_=>by simp[aC] at hm
 | .otup _ _ _ _ _,_,_,_,hm,_=>by simp[aC] at hm
 | .mp _,_,_,_,hm,_=>by simp[aC] at hm
 | .pv _ _ _ _,_,_,_,hm,_=>by simp[aC] at hm
 | .oagg _ _,_,_,_,hm,_=>by simp[aC] at hm
 | .fn _ _ _,_,_,_,hm,_=>by simp[aC] at hm
 | .bp _ _,_,_,_,hm,_=>by simp[aC] at hm
 | .bv _ _ _ _ _,_,_,_,hm,_=>by simp[aC] at hm
theorem Ek{g':Gh}{w':World}:∀(cs:List oH) (vs:List Value),aj cs=true->an K.toCon g w cs vs->an K.toCon g' w' cs vs
 |[],vs,_,h=>by simpa only[an] using h
 |c::cs,vs,hm,h=>by simp only[an,aj,Bool.and_eq_true] at h hm⊢;obtain⟨x,xs,rfl,h1,h2⟩:=h;exact⟨x,xs,rfl,Dm c x none none hm.1 h1,Ek cs xs hm.2 h2⟩
end
def Fo(g:Gh)(getB:Nat->Option (List oH))(bs:List Nat):Nat->Nat:=λb=>by classical exact if h:∃id,id∈bs∧g.mu id=some b then((getB h.choose).getD []).length else g.S b
theorem Nq(hI:Inv K base g w getB){bs:List Nat}{id b:Nat}(hid:id∈bs)(hb:g.mu id=some b):Fo g getB bs b=((getB id).getD []).length:=by unfold Fo;have h:∃id,id∈bs∧g.mu id=some b:=⟨id,hid,hb⟩;rw[dif_pos h];have:=hI.inj _ _ _ h.choose_spec.2 hb;rw[this]
theorem yD{bs:List Nat}{b:Nat}(h:∀id,id∈bs->g.mu id≠some b):Fo g getB bs b=g.S b:=by unfold Fo;rw[dif_neg];rintro⟨id,h1,h2⟩;exact h id h1 h2
theorem uI(hI:Inv K base g w getB)(bs:List Nat)(hbs:∀id∈bs,∃cs,getB id=some cs∧∀c∈cs,ak c=true):aP g.S w (Fo g getB bs) w:=λb i x hi hc=>by
 refine⟨?_,hc⟩;by_cases h:∃id,id∈bs∧g.mu id=some b
 ·obtain⟨id,h1,h2⟩:=h;obtain⟨cs,hcs,_⟩:=hbs id h1;obtain⟨b',k1,k2,_⟩:=hI.bxok id cs hcs;rw[h2] at k1;cases k1;omega
 rw[yD λid h1 h2=>h ⟨id,h1,h2⟩];exact hi
theorem Oo(hI:Inv K base g w getB){bs:List Nat}(hbs:∀id∈bs,∃cs,getB id=some cs∧∀c∈cs,ak c=true){c:oH}{v:Value}{l:Option Loc}(h:Rep K.toCon g w l c v)
  (hok:aU bs (λid=>if id∈bs then getB id else none) c):ap K.toCon (Fo g getB bs) w (bV (λid=>if id∈bs then(getB id).getD [] else []) c) v:=by
 have hk:=uI hI bs hbs;have box:∀{id b:Nat} {cs:List oH},id∈bs->getB id=some cs->g.mu id=some b->am K.toCon (Fo g getB bs) w cs b 0:=λ{id b cs} h1 h2 h3=>am.mk λi e he=>by obtain⟨b',k1,k2,k3⟩:=hI.bxok id cs h2;rw[h3] at k1;cases k1;obtain⟨⟨x,hx,hr⟩,_⟩:=k3 i e he;obtain⟨cs',hcs',hp⟩:=hbs id h1;rw[h2] at hcs';cases hcs';rw[Nat.zero_add];refine⟨?_,x,hx,ap.mono hk e x (Rep.pure e x _ (hp e (sj he)) hr)⟩;rw[Nq hI h1 h3,h2];exact(List.getElem?_eq_some_iff.1 he).1
 cases c with
 |sl m nl n cs=>simp only[bV];exact ap.mono hk _ _ (IE h)
 |lit x=>
  simp only[Rep] at h;subst h;by_cases hx:v= .slice none 0 0
  ·subst hx;simp only[bV,ap];exact .inr (by simp)
  have:bV (λid=>if id∈bs then(getB id).getD [] else []) (.lit v)= .lit v:=by
   unfold bV;split
   ·rename_i hh;cases hh
   ·rename_i hh;cases hh;exact absurd rfl hx
   ·rename_i hh;cases hh
   ·rename_i hh;cases hh
   rfl
  rw[this];simp[ap]
 |bp id off=>simp only[aU] at hok;obtain⟨h1,cs,h2,h3⟩:=hok;rw[if_pos h1] at h2;simp only[Rep] at h;obtain⟨b,hb,rfl⟩:=h;simp only[bV,if_pos h1,h2,Option.getD_some,ap];refine⟨b,off,rfl,?_⟩;have:=(box h1 h2 hb).drop off;rwa[Nat.zero_add] at this
 |bv id e off n cp=>
  simp only[aU] at hok;obtain⟨h1,cs,h2,h3⟩:=hok;rw[if_pos h1] at h2;simp only[Rep] at h;obtain⟨b,cap,o',hb,rfl,hcap,_,ho'⟩:=h;simp only[bV,if_pos h1,h2,Option.getD_some,ap];refine .inl ⟨b,o',cap,rfl,hcap,?_,by simp,by simp⟩;rcases ho' with rfl|⟨rfl,_⟩
  ·have:=((box h1 h2 hb).drop o').take (n*e);rwa[Nat.zero_add] at this
  rw[Nat.zero_mul,List.take_zero];simp[am]
 |_=>simp only[bV];exact ap.mono hk _ _ (Rep.pure _ _ l hok h)
theorem HD(hI:Inv K base g w getB){bs:List Nat}(hbs:∀id∈bs,∃cs,getB id=some cs∧∀c∈cs,ak c=true):∀{cs:List oH} {vs:List Value},an K.toCon g w cs vs->
  (∀c∈cs,aU bs (λid=>if id∈bs then getB id else none) c)->ag K.toCon (Fo g getB bs) w (cs.map (bV (λid=>if id∈bs then(getB id).getD [] else []))) vs
 |[],vs,h,_=>by simpa only[an,ag,List.map_nil] using h
 |c::cs,vs,h,hok=>by simp only[an] at h;obtain⟨x,xs,rfl,h1,h2⟩:=h;simp only[List.map_cons,ag];exact⟨x,xs,rfl,Oo hI hbs h1 (hok c (by simp)),HD hI hbs h2 (λc hc=>hok c (by simp[hc]))⟩
theorem L5(hI:Inv K base g w getB){bs:List Nat}(hbs:∀id∈bs,∃cs,getB id=some cs∧∀c∈cs,ak c=true){c:oH}{v:Value}{l:Option Loc}(h:Rep K.toCon g w l c v)
  (hok:aG bs (λid=>if id∈bs then getB id else none) c):ap K.toCon (Fo g getB bs) w (aS (λid=>if id∈bs then(getB id).getD [] else []) c) v:=by
 cases c with
 |fn f x y=>simp only[aG] at hok;simp only[Rep] at h;obtain⟨p,q,rfl,h1,h2⟩:=h;simp only[aS,ap];exact⟨p,q,rfl,HD hI hbs h1 hok.1,HD hI hbs h2 hok.2⟩
 |_=>exact Oo hI hbs h hok
theorem Nm(hI:Inv K base g w getB){bs:List Nat}(hbs:∀id∈bs,∃cs,getB id=some cs∧∀c∈cs,ak c=true):∀{cs:List oH} {vs:List Value},an K.toCon g w cs vs->
  (∀c∈cs,aG bs (λid=>if id∈bs then getB id else none) c)->ag K.toCon (Fo g getB bs) w (cs.map (aS (λid=>if id∈bs then(getB id).getD [] else []))) vs
 |[],vs,h,_=>by simpa only[an,ag,List.map_nil] using h
 |c::cs,vs,h,hok=>by simp only[an] at h;obtain⟨x,xs,rfl,h1,h2⟩:=h;simp only[List.map_cons,ag];exact⟨x,xs,rfl,L5 hI hbs h1 (hok c (by simp)),Nm hI hbs h2 (λc hc=>hok c (by simp[hc]))⟩
theorem HQ(hI:Inv K base g w getB)(hS:dI K g w get a){S:Nat->Nat}{g1:Gh}{w1:World}{D:oH}{v:Value}(hfr:Fr w.heap.size (λ_=>False) w w1)(hr:Rep K.toCon g1 w1 (some .ret) D v)
  (how:∀b l,g1.ow b=some l->w.heap.size<=b∧b<w1.heap.size) (hSS:∀b,b<w.heap.size->g1.S b=S b) (hpure:ak D=true) (hmem:S=g.S∨aC D=true):
  Pg K base a get getB d {val:=D} v w1:=by
 have hblk:∀b,b<w.heap.size->w1.heap[b]? =w.heap[b]? :=λb hb=>hfr.block b hb (λh=>h)
 let g2:Gh:={S:=λb=>if b<w.heap.size then g.S b else g1.S b,ow:=λb=>if b<w.heap.size then g.ow b else if g1.ow b=some .ret then d.map .slot else none,mu:=g.mu}
 have hkeep:aP g.S w g2.S w1:=λb i x hi hc=>by have hb:=World.block_lt_of_cell? w ⟨b,i,none⟩ hc;have hb':b<w.heap.size:=hb;exact⟨by simp only[g2,if_pos hb'];exact hi,by rw[World.cell?_of_block (w:=w) (a:=⟨b,i,none⟩) (hblk b hb')];exact hc⟩
 have hx:Ext g w g2 w1:=⟨hkeep,λ_ _ h=>h,λm b hb=>by
  have hlt:=(hI.owW b m hb).2;simp only[g2,if_pos hlt];exact⟨hb,trivial,(hblk b hlt)⟩⟩
 have hz:=hI.sz;have hinv:Inv K base g2 w1 getB:=by
  refine⟨hI.fr.trans (hfr.mono hz (λk _ h=>h.elim)),λb hb hw=> ?_,hI.inj,λid cs hc=> ?_,hI.nobx,λid b hb=> ?_,λb m hb=> ?_,λn hn=>am.mono hkeep _ _ _ (hI.glob n hn),hI.kp.trans hkeep,λid b cs ho hb hc hd=>by
   refine dy.keep (hI.obok id b cs ho hb hc hd) (hblk b (hI.muW id b hb).2.1) λk hk=> ?_;have hlt:=(hI.owW k _ hk).2;exact⟨by simp only[g2,if_pos hlt];exact hk,hblk k hlt⟩,hI.old⟩
  ·simp only[g2,if_pos (show b<w.heap.size by omega)];exact hI.sS b hb hw
  ·obtain⟨b,h1,h2,h3⟩:=hI.bxok id cs hc;have hlt:=(hI.muW id b h1).2.1;refine⟨b,h1,by simp only[g2,if_pos hlt];exact h2,λi c hi=> ?_⟩;obtain⟨⟨x,h4,h5⟩,h6⟩:=h3 i c hi;exact⟨⟨x,by rw[World.cell?_of_block (w:=w) (a:=⟨b,i,none⟩) (hblk b hlt)];exact h4,hx.rep h5⟩,by rw[World.frozen?_of_block (w:=w) (a:=⟨b,i,none⟩) (hblk b hlt)];exact h6⟩
  ·obtain⟨h1,h2,h3⟩:=hI.muW id b hb;exact⟨h1,Nat.lt_of_lt_of_le h2 hfr.size,by simp only[g2,if_pos h2];exact h3⟩
  simp only[g2] at hb;split at hb
  ·obtain⟨h1,h2⟩:=hI.owW b m hb;exact⟨h1,Nat.lt_of_lt_of_le h2 hfr.size⟩
  split at hb
  ·rename_i hret;obtain⟨h1,h2⟩:=how b _ hret;exact⟨.inl (by omega),h2⟩
  cases hb
 refine⟨g2,hinv,hx.slots hS,?_⟩;rcases hmem with rfl|hmem
 ·have hk2:aP g1.S w1 g2.S w1:=λb i x hi hc=>by
   refine⟨?_,hc⟩;simp only[g2];split
   ·rename_i hb;rw[<-hSS b hb];exact hi
   exact hi
  refine Rep.mono hk2 D v (some .ret) (d.map .slot) (λid hid=> ?_) (λm hm=>⟨.ret,rfl,λb hb=> ?_⟩) hr
  ·exfalso
   exact absurd hpure (by
    have:∀D:oH,ak D=true->aF D=[]:=by intro D;exact(pure_refs D)
    rw[this D hpure] at hid;cases hid)
  obtain⟨h1,h2⟩:=how b _ hb;refine⟨?_,?_,rfl⟩
  ·simp only[g2,if_neg (show ¬b<w.heap.size by omega),hb,if_true];exact hm
  simp only[g2,if_neg (show ¬b<w.heap.size by omega)]
 exact Dm D v _ _ hmem hr
where
 pure_refs:∀D:oH,ak D=true->aF D=[]
  | .undef,_=>rfl
  | .lit _,_=>rfl
  | .sl _ _ _ _,_=>rfl
  | .mp _,_=>rfl
  | .pv _ _ _ _,_=>rfl
  | .ep _,_=>rfl
  | .otup _ _ _ _ rest,h=>by simp only[ak] at h;simp only[aF];exact pure_refsL rest h
  | .oagg _ rest,h=>by simp only[ak] at h;simp only[aF];exact pure_refsL rest h
  | .agg cs,h=>by simp only[ak] at h;simp only[aF];exact pure_refsL cs h
  | .tup cs,h=>by simp only[ak] at h;simp only[aF];exact pure_refsL cs h
  | .fn _ x y,h=>by simp only[ak,Bool.and_eq_true] at h;simp only[aF,pure_refsL x h.1,pure_refsL y h.2,List.append_nil]
  | .bp _ _,h=>by simp[ak] at h
  | .bv _ _ _ _ _,h=>by simp[ak] at h
 pure_refsL:∀Ds:List oH,au Ds=true->pT Ds=[]
  |[],_=>rfl
  |c::cs,h=>by simp only[au,Bool.and_eq_true] at h;simp only[pT,pure_refs c h.1,pure_refsL cs h.2,List.append_nil]
def HZ(K:Cx)(op:Op)(f:Nat)(args:List Arg):Bool:=
 match op with
 | .call c=>(match c.callee with| .value (.func f')=>K.nu f==f'|_=>false)&&LL.argsOk K c.args.toList args
 |_=>false
def ET(K:Cx)(op:Op)(t:Arg)(args:List Arg):Bool:=
 match op with
 | .call c=>(match c.callee with| .value x=>rk K x t|_=>false)&&LL.argsOk K c.args.toList args
 |_=>false
theorem uH{P:Program}(w:World){f:FuncId}(h:ek P f)(args:Array Value):(callFunc f args).run P w= .ok (.enter f args) w:=by
 obtain⟨fn,h1,h2,h3⟩:=h;have h4:fn.body≠none:=λh=>by simp[h] at h2
 have h5:¬fn.name= "runtime.NumGoroutine" :=by simpa using h3
 simp[callFunc,h1,h5,h4]
theorem Oa(hI:Inv K base g w getB)(hS:dI K g w get a){f:Nat}(hV:oK K f (K.E.G f)){as:List oH}{bs:List Nat}{vs:List Value}(hr:an K.toCon g w as vs)(hok:bX K.E getB f as bs)
  {next:Act->World->Prop} {Q:Exit->Act->World->Prop} (hn:∀v w',Pg K base a get getB d {val:=cY K.E getB f as bs} v w'->next (a.put o.dst v) w') (hrun:(execOp a.eval o).run K.P w= .ok (.enter (K.nu f) vs.toArray) w):
  o.wp K.P a w next Q:=by
 obtain⟨h1,h2,h3,h4,h5⟩:=hok;unfold Oper.wp;rw[hrun,Oper.upon_enter];have hargs:=Nm hI h2 hr h1;refine(hV.2 (Fo g getB bs) w _ vs (λn hn=>am.mono (uI hI bs h2) _ _ _ (hI.glob n hn)) hargs h3).mono ?_;rintro e w' ⟨v,g1,rfl,hfr,hrep,how,hSS⟩;refine hn v w' (HQ hI hS hfr hrep how hSS h4 ?_);rcases h5 with rfl|h5
 ·left;funext b;exact yD (by simp)
 exact .inr h5
theorem Wm(hI:Inv K base g w getB)(hS:dI K g w get a){f:Nat}{args:List Arg}{bs:List Nat}(h:HZ K o.op f args=true)(hV:oK K f (K.E.G f))(hok:okp K.E get getB (.call f args bs))
  {next:Act->World->Prop} {Q:Exit->Act->World->Prop} (hn:∀v w',Pg K base a get getB d (eff K.E get getB (.call f args bs)) v w'->next (a.put o.dst v) w'):o.wp K.P a w next Q:=by
 unfold HZ at h;split at h
 ·rename_i c ho;simp only[Bool.and_eq_true] at h;obtain⟨hc,ha⟩:=h;split at hc
  ·rename_i f' hcal;simp only[beq_iff_eq] at hc;subst hc;obtain⟨_,hr⟩:=Am hI hS ha;refine Oa hI hS hV hr hok hn ?_;simp only[execOp,ho,resolve,hcal,Act.eval,Deferred.ofValue,Sem.run_bind,Sem.run_pure,Result.andThen_ok,invoke];rw[uH w hV.1];congr 2;apply Array.ext';simp
  cases hc
 cases h
theorem Tz(hI:Inv K base g w getB)(hS:dI K g w get a){f:Nat}{t:Arg}{args:List Arg}{bs:List Nat}(h:ET K o.op t args=true)(hV:oK K f (K.E.G f))(hok:okp K.E get getB (.callv f t args bs))
  {next:Act->World->Prop} {Q:Exit->Act->World->Prop} (hn:∀v w',Pg K base a get getB d (eff K.E get getB (.callv f t args bs)) v w'->next (a.put o.dst v) w'):o.wp K.P a w next Q:=by
 unfold ET at h;split at h
 ·rename_i c ho;simp only[Bool.and_eq_true] at h;obtain⟨hc,ha⟩:=h;split at hc
  ·rename_i x hcal;obtain⟨_,hr⟩:=Am hI hS ha;obtain⟨ht,hok⟩:=hok;have rt:=o6 hI hS hc;split at ht
   ·rename_i f' p q et;subst ht;rw[et] at rt hok;simp only[Rep] at rt;obtain⟨pv,qv,vt,hp,hq⟩:=rt;simp only[xX] at hok;have hef:eff K.E get getB (.callv f' t args bs)={val:=cY K.E getB f' (p++args.map (arg K.E get)++q) bs}:=by simp only[eff,et,xX]
    rw[hef] at hn;refine Oa hI hS hV ((hp.append hr).append hq) hok hn ?_;simp only[execOp,ho,resolve,hcal,vt,Deferred.ofValue,Sem.run_bind,Sem.run_pure,Result.andThen_ok,invoke];rw[uH w hV.1];congr 2;apply Array.ext';simp
   cases ht
  cases hc
 cases h
end
def dg:oH->List oH| .ep cs=>cs|_=>[]
def CM.ins(c:CM)(ds:List oH)(j:Nat):Option (List oH):=if j∈c.bx then some (dg (ds.getD j .undef)) else none
def CM.outs(c:CM)(ds:List oH)(j:Nat):Option (List oH):=if j∈c.bx++c.nb then some (c.out ds j) else none
def Wr(g:Gh)(b:Nat):Prop:=(∃j,g.mu j=some b)∨g.ow b≠none
def WR(K:Cx)(c:CM)(g:Gh)(w:World)(ds:List oH)(vs:List Value):Prop:=
 ds.length=vs.length∧∀i d v,ds[i]? =some d->vs[i]? =some v->if i∈c.bx then∃b,g.mu i=some b∧v= .pointer (some ⟨b,0,none⟩) else ap K.toCon g.S w d v
def ru(K:Cx)(f:Nat)(c:CM):Prop:=
 ek K.P (K.nu f)∧∀(g:Gh) (w:World) (ds:List oH) (vs:List Value),Inv K ⟨w,Wr g,g.S,[],g.mu⟩ g w (c.ins ds)->WR K c g w ds vs->c.pre ds->
  Calls K.P (K.nu f) vs.toArray w λe w'=>∃v g',e= .returned v∧Inv K ⟨w,Wr g,g.S,[],g.mu⟩ g' w' (c.outs ds)∧(∀j∈c.bx,g'.mu j=g.mu j)∧Rep K.toCon g' w' (some .ret) (c.post ds) v
section
variable {K : Cx} {base : aZ} {g g' : Gh} {w w' : World} {get : Nat -> oH} {getB : Nat -> Option (List oH)} {a : Act} {o : Oper} {d : Option Nat}
theorem dB:∀{l:List (Nat×Nat)} {k x:Nat},fnd l k=some x->(k,x)∈l
 |[],_,_,h=>by simp[fnd] at h
 |(k',y)::l,k,x,h=>by
  simp only[fnd] at h;split at h
  ·cases h;subst_vars;simp
  exact List.mem_cons_of_mem _ (dB h)
theorem ER:∀{l:List (Nat×Nat)} {k:Nat},k∈l.map (·.1)->∃x,fnd l k=some x
 |[],_,h=>by simp at h
 |(k',y)::l,k,h=>by
  simp only[List.map_cons,List.mem_cons] at h;simp only[fnd];by_cases hk:k=k'
  ·exact⟨y,by rw[if_pos hk]⟩
  rw[if_neg hk];exact ER (h.resolve_left hk)
theorem II{l:List (Nat×Nat)}{k:Nat}(h:k∉l.map (·.1)):fnd l k=none:=by
 cases hf:fnd l k with
 |none=>rfl
 |some x=>exact absurd (List.mem_map.2 ⟨_,dB hf,rfl⟩) h
theorem qE:∀{l:List (Nat×Nat)} {k x:Nat},(l.map (·.1)).Nodup->(k,x)∈l->fnd l k=some x
 |[],_,_,_,h=>by simp at h
 |(k',y)::l,k,x,hn,h=>by
  simp only[List.map_cons,List.nodup_cons] at hn;simp only[fnd];rcases List.mem_cons.1 h with h|h
  ·cases h;simp
  rw[if_neg (λ(e:k=k')=>hn.1 (e▸List.mem_map.2 ⟨_,h,rfl⟩))];exact qE hn.2 h
def swp(l:List (Nat×Nat)):List (Nat×Nat):=l.map λp=>(p.2,p.1)
theorem Ce(l:List (Nat×Nat)):(swp l).map (·.1)=l.map (·.2):=by simp[swp,Function.comp_def]
theorem vl{l:List (Nat×Nat)}{k x:Nat}:(k,x)∈swp l↔(x,k)∈l:=by
 simp only[swp,List.mem_map,Prod.exists,Prod.mk.injEq];constructor
 ·rintro⟨a,b,h,rfl,rfl⟩;exact h
 intro h;exact⟨x,k,h,rfl,rfl⟩
theorem P4{m:List (Nat×Nat)}(h:∀p∈m,500000<=p.2->500000<=p.1)(id:Nat):500000<=(fnd m id).getD id->500000<=id:=by
 cases hf:fnd m id with
 |none=>exact λh=>h
 |some y=>exact h _ (dB hf)
mutual
theorem Rep.ren{K:Con}{g g':Gh}{w w':World}{m:List (Nat×Nat)}(hk:aP g.S w g'.S w')(hp:∀id,500000<=(fnd m id).getD id->500000<=id):∀(d:oH) (v:Value) (l l':Option Loc),
  (∀id∈aF d,∀b,g.mu id=some b->g'.mu ((fnd m id).getD id)=some b)->(∀m',l'=some m'->∃m,l=some m∧aQ g w g' w' m m')->Rep K g w l d v->Rep K g' w' l' (Abs.ren m d) v
 | .undef,_,_,_,_,_,_=>by simp[Abs.ren,Rep]
 | .lit x,v,_,_,_,_,h=>by simpa[Abs.ren,Rep] using h
 | .agg cs,v,_,_,hr,_,h=>by simp only[Rep,Abs.ren] at h⊢;obtain⟨a,rfl,h⟩:=h;exact⟨a,rfl,an.ren hk hp cs _ (by simpa[aF] using hr) h⟩
 | .tup cs,v,_,_,hr,_,h=>by simp only[Rep,Abs.ren] at h⊢;obtain⟨a,rfl,h⟩:=h;exact⟨a,rfl,an.ren hk hp cs _ (by simpa[aF] using hr) h⟩
 | .sl md nl n cs,v,l,l',_,hl,h=>by simp only[Abs.ren];exact Rep.mono hk _ v l l' (by simp[aF]) hl h
 | .ep cs,v,l,l',_,hl,h=>by simp only[Abs.ren];exact Rep.mono hk _ v l l' (by simp[aF]) hl h
 | .otup _ _ _ _ _,v,_,_,_,_,_=>by simp[Abs.ren,Rep]
 | .oagg _ _,v,_,_,_,_,_=>by simp[Abs.ren,Rep]
 | .mp m,v,l,l',_,hl,h=>by simp only[Abs.ren];exact Rep.mono hk _ v l l' (by simp[aF]) hl h
 | .pv _ _ _ _,v,l,l',_,hl,h=>by simp only[Abs.ren];exact Rep.mono hk _ v l l' (by simp[aF]) hl h
 | .fn f x y,v,_,_,hr,_,h=>by simp only[Rep,Abs.ren] at h⊢;obtain⟨a,c,rfl,h1,h2⟩:=h;simp only[aF,List.mem_append] at hr;exact⟨a,c,rfl,an.ren hk hp x _ (λid hi=>hr id (.inl hi)) h1,an.ren hk hp y _ (λid hi=>hr id (.inr hi)) h2⟩
 | .bp id off,v,_,_,hr,_,h=>by simp only[Rep,Abs.ren] at h⊢;obtain⟨b,hb,rfl⟩:=h;exact⟨b,hr id (by simp[aF]) b hb,rfl⟩
 | .bv id e off n c,v,_,_,hr,_,h=>by simp only[Rep,Abs.ren] at h⊢;obtain⟨b,cap,o,hb,rfl,h1,h2,h3,h4⟩:=h;exact⟨b,cap,o,hr id (by simp[aF]) b hb,rfl,h1,h2,h3,λh=>h4 (hp id h)⟩
theorem an.ren{K:Con}{g g':Gh}{w w':World}{m:List (Nat×Nat)}(hk:aP g.S w g'.S w')(hp:∀id,500000<=(fnd m id).getD id->500000<=id):∀(ds:List oH) (vs:List Value),
  (∀id∈pT ds,∀b,g.mu id=some b->g'.mu ((fnd m id).getD id)=some b)->an K g w ds vs->an K g' w' (renL m ds) vs
 |[],_,_,h=>by simpa[an,renL] using h
 |c::cs,l,hr,h=>by simp only[an,renL] at h⊢;obtain⟨x,xs,rfl,h1,h2⟩:=h;simp only[pT,List.mem_append] at hr;exact⟨x,xs,rfl,Rep.ren hk hp c x none none (λid hi=>hr id (.inl hi)) (λ_ h=>by cases h) h1,an.ren hk hp cs xs (λid hi=>hr id (.inr hi)) h2⟩
end
theorem Ly(m:List (Nat×Nat)):∀(ds:List oH) (i:Nat),(renL m ds)[i]? =(ds[i]?).map (Abs.ren m)
 |[],i=>by simp[renL]
 |c::cs,0=>by simp[renL]
 |c::cs,i+1=>by simp[renL,Ly m cs i]
theorem IV(getB:Nat->Option (List oH))(ws:List (Nat×Nat)):∀(as:List oH) (j i:Nat),(cv getB ws j as)[i]? =(as[i]?).map λa=>match fnd ws (j+i) with|some id=> .ep ((getB id).getD [])|none=>aS (λ_=>[]) a
 |[],j,i=>by simp[cv]
 |x::as,j,0=>by simp only[cv,List.getElem?_cons_zero,Option.map_some,Nat.add_zero];cases fnd ws j<;>rfl
 |x::as,j,i+1=>by simp only[cv,List.getElem?_cons_succ];rw[IV getB ws as (j+1) i,show j+1+i=j+(i+1) by omega]
theorem IF{getB:Nat->Option (List oH)}{ws:List (Nat×Nat)}:∀{as:List oH} {j:Nat},iJ getB ws j as->∀i a,as[i]? =some a->match fnd ws (j+i) with|some id=>a= .bp id 0∧∃cs,getB id=some cs∧au cs=true|none=>aG [] (λ_=>none) a
 |[],_,_,i,a,h=>by simp at h
 |x::as,j,hok,0,a,h=>by simp only[List.getElem?_cons_zero,Option.some.injEq] at h;subst h;exact hok.1
 |x::as,j,hok,i+1,a,h=>by simp only[List.getElem?_cons_succ] at h;have:=IF hok.2 i a h;rwa[show j+1+i=j+(i+1) by omega] at this
def ghM(g:Gh)(ws:List (Nat×Nat)):Gh:=
 {S:=g.S
  ow:=λb=>match g.ow b with|some (.cell id i)=>(fnd (swp ws) id).map λj=> .cell j i|_=>none
  mu:=λj=>(fnd ws j).bind g.mu}
theorem GV{ws:List (Nat×Nat)}{j b:Nat}(h:(ghM g ws).mu j=some b):∃id,fnd ws j=some id∧g.mu id=some b:=by
 simp only[ghM] at h;cases hf:fnd ws j with
 |none=>rw[hf] at h;cases h
 |some id=>rw[hf] at h;exact⟨id,rfl,h⟩
theorem VX{ws:List (Nat×Nat)}{b:Nat}{l:Loc}(h:(ghM g ws).ow b=some l):∃id i j,g.ow b=some (.cell id i)∧(j,id)∈ws∧l= .cell j i:=by
 simp only[ghM] at h;split at h
 ·rename_i id i hb;cases hf:fnd (swp ws) id with
  |none=>rw[hf] at h;cases h
  |some j=>rw[hf] at h;simp only[Option.map_some,Option.some.injEq] at h;exact⟨id,i,j,hb,vl.1 (dB hf),h.symm⟩
 cases h
theorem Kh{ws:List (Nat×Nat)}{b:Nat}(h:g.ow b=none):(ghM g ws).ow b=none:=by simp[ghM,h]
theorem JT{ws:List (Nat×Nat)}(hn:(ws.map (·.2)).Nodup){b id i j:Nat}(hm:(j,id)∈ws)(h:g.ow b=some (.cell id i)):(ghM g ws).ow b=some (.cell j i):=by simp only[ghM,h];rw[qE (by rw[Ce];exact hn) (vl.2 hm)];rfl
theorem Rb(hI:Inv K base g w getB){ws:List (Nat×Nat)}{b:Nat}(h:Wr (ghM g ws) b):(base.w0.heap.size<=b∨base.W b)∧b<w.heap.size∧((∃j id,(j,id)∈ws∧g.mu id=some b)∨∃j id i,(j,id)∈ws∧g.ow b=some (.cell id i)):=by
 rcases h with⟨j,hj⟩|h
 ·obtain⟨id,h1,h2⟩:=GV hj;have:=hI.muW id b h2;exact⟨this.1,this.2.1,.inl ⟨j,id,dB h1,h2⟩⟩
 cases ho:(ghM g ws).ow b with
 |none=>exact absurd ho h
 |some l=>obtain⟨id,i,j,h1,h2,_⟩:=VX ho;have:=hI.owW b _ h1;exact⟨this.1,this.2,.inr ⟨j,id,i,h2,h1⟩⟩
theorem SN(hI:Inv K base g w getB){ws:List (Nat×Nat)}{as:List oH}{c:CM}(hok:iJ getB ws 0 as)(hbx:ws.map (·.1)=c.bx)(hn1:c.bx.Nodup)(hn:(ws.map (·.2)).Nodup)(hlt:∀j∈c.bx,j<as.length)(hlo:∀p∈ws,p.1<1000000):
  Inv K ⟨w,Wr (ghM g ws),(ghM g ws).S,[],(ghM g ws).mu⟩ (ghM g ws) w (c.ins (cv getB ws 0 as)):=by
 have box:∀j id,(j,id)∈ws->∃cs,getB id=some cs∧au cs=true∧c.ins (cv getB ws 0 as) j=some cs:=λj id hm=>by
  have hj:j∈c.bx:=by rw[<-hbx];exact List.mem_map.2 ⟨_,hm,rfl⟩
  have hf:fnd ws j=some id:=qE (by rw[hbx];exact hn1) hm;have hl:=hlt j hj;have:=IF hok j _ (List.getElem?_eq_getElem hl);rw[Nat.zero_add,hf] at this;obtain⟨_,cs,h1,h2⟩:=this;refine⟨cs,h1,h2,?_⟩;unfold CM.ins;rw[if_pos hj,List.getD_eq_getElem?_getD,IV,List.getElem?_eq_getElem hl,Nat.zero_add];simp only[Option.map_some,hf,h1,Option.getD_some,dg]
 have nofnd:∀j,j∉c.bx->fnd ws j=none:=λj hj=>II (by rw[hbx];exact hj);have inj1:∀j j' id,fnd ws j=some id->fnd ws j'=some id->j=j':=λj j' id h h'=>by have e1:=qE (l:=swp ws) (by rw[Ce];exact hn) (vl.2 (dB h));have e2:=qE (l:=swp ws) (by rw[Ce];exact hn) (vl.2 (dB h'));rw[e1] at e2;cases e2;rfl
 refine⟨Fr.refl _ _ _,λ_ _ _=>rfl,λi j b hi hj=> ?_,λj cs hc=> ?_,λj hj=> ?_,λj b hb=> ?_,λb l hb=> ?_,hI.glob,aP.refl _ _,λj b cs hj hb _ _=>by
  obtain⟨id,h1,_⟩:=GV hb;have:=hlo _ (dB h1);simp only at this;omega,λj b _ _ hb=>hb⟩
 ·obtain⟨x,h1,h2⟩:=GV hi;obtain⟨y,h3,h4⟩:=GV hj;have:=hI.inj x y b h2 h4;subst this;exact inj1 i j x h1 h3
 ·have hj:j∈c.bx:=by
   unfold CM.ins at hc;split at hc
   ·assumption
   cases hc
  obtain⟨id,hf⟩:=ER (l:=ws) (k:=j) (by rw[hbx];exact hj);obtain⟨cs',h1,h2,h3⟩:=box j id (dB hf);rw[hc] at h3;cases h3;obtain⟨b,k1,k2,k3⟩:=hI.bxok id cs h1;refine⟨b,by simp only[ghM,hf,Option.bind_some];exact k1,k2,λi e hi=> ?_⟩;obtain⟨⟨x,hx,hr⟩,hz⟩:=k3 i e hi;refine⟨⟨x,hx,?_⟩,hz⟩;refine Rep.mono (g:=g) (g':=ghM g ws) (aP.refl _ _) e x _ _ (λid' hid'=> ?_) (λm' hm'=> ?_) hr
  ·have:aF e=[]:=HQ.pure_refs e ((bE cs).1 h2 e (sj hi));rw[this] at hid';cases hid'
  cases hm';exact⟨_,rfl,λb' hb'=>⟨JT hn (dB hf) hb',rfl,rfl⟩⟩
 ·have hj':j∉c.bx:=λh=>by simp[CM.ins,h] at hj
  simp only[ghM,nofnd j hj',Option.bind_none]
 ·obtain⟨id,h1,h2⟩:=GV hb;have:=hI.muW id b h2;exact⟨.inr (.inl ⟨j,hb⟩),this.2.1,Kh this.2.2⟩
 obtain⟨id,i,j,h1,_,_⟩:=VX hb;exact⟨.inr (.inr (by rw[hb];simp)),(hI.owW b _ h1).2⟩
theorem PF(hI:Inv K base g w getB){ws:List (Nat×Nat)}{as:List oH}{vs:List Value}{c:CM}(hok:iJ getB ws 0 as)(hbx:ws.map (·.1)=c.bx)(hr:an K.toCon g w as vs):
  WR K c (ghM g ws) w (cv getB ws 0 as) vs:=by
 have hlen:∀(as:List oH) j,(cv getB ws j as).length=as.length:=λas=>by
  induction as with
  |nil=>intro j;rfl
  |cons x as ih=>intro j;simp only[cv,List.length_cons,ih]
 refine⟨by rw[hlen,hr.len],λi x v hx hv=> ?_⟩;rw[IV,Nat.zero_add] at hx;cases ha:as[i]? with
 |none=>rw[ha] at hx;cases hx
 |some y=>
  rw[ha] at hx;simp only[Option.map_some,Option.some.injEq] at hx;obtain⟨v',hv',hrep⟩:=hr.get i y ha;rw[hv] at hv';cases hv';have hk:=IF hok i y ha;rw[Nat.zero_add] at hk;by_cases hi:i∈c.bx
  ·rw[if_pos hi];obtain⟨id,hf⟩:=ER (l:=ws) (k:=i) (by rw[hbx];exact hi);rw[hf] at hk;obtain⟨rfl,_⟩:=hk;simp only[Rep] at hrep;obtain⟨b,hb,rfl⟩:=hrep;exact⟨b,by simp only[ghM,hf,Option.bind_some];exact hb,rfl⟩
  rw[if_neg hi];have hf:fnd ws i=none:=II (by rw[hbx];exact hi);rw[hf] at hk hx;simp only at hk hx;have h1:=L5 (bs:=[]) hI (λid hid=>by cases hid) hrep (by simpa using hk);have hS:Fo g getB []=g.S:=funext λb=>yD (by simp);rw[hS] at h1;rw[<-hx];simpa[ghM] using h1
theorem Sp(m:List (Nat×Nat))(f:Nat->Option (List oH))(id:Nat):∀l:List (Nat×Nat),lk (l.map λp=>(p.2,f p.1)) id=(fnd (swp l) id).map f
 |[]=>rfl
 |(k,x)::l=>by
  simp only[List.map_cons,lk,swp,fnd];split
  ·rfl
  exact Sp m f id l
theorem Ka(hI:Inv K base g w getB)(hS:dI K g w get a){ws ns:List (Nat×Nat)}{c:CM}(hbx:ws.map (·.1)=c.bx)(hns:ns.map (·.1)=c.nb)(hn1:(c.bx++c.nb).Nodup)
  (hn:(ws.map (·.2)).Nodup) (hn2:(ns.map (·.2)).Nodup) (hwb:∀p∈ws,∃cs,getB p.2=some cs) (hnb':∀p∈ns,getB p.2=none∧cx p.2) (hlo:∀p∈ws++ns,p.1<1000000∧p.2<1000000∧(500000<=p.1↔500000<=p.2)) {ds:List oH} {g1:Gh} {w1:World} {v:Value}
  (hI1:Inv K ⟨w,Wr (ghM g ws),(ghM g ws).S,[],(ghM g ws).mu⟩ g1 w1 (c.outs ds)) (hmu:∀j∈c.bx,g1.mu j=(ghM g ws).mu j) (hr:Rep K.toCon g1 w1 (some .ret) (c.post ds) v)
  (hr1:∀id∈aF (c.post ds),id∈c.bx++c.nb) (hr2:∀j∈c.bx++c.nb,∀id∈pT (c.out ds j),id∈c.bx++c.nb):
  Pg K base a get getB d {val:=Abs.ren (ws++ns) (c.post ds),bx:=(ws++ns).map λp=>(p.2,some (renL (ws++ns) (c.out ds p.1)))} v w1:=by
 classical
 have hz:=hI.sz;have hnb:∀p∈ns,getB p.2=none:=λp hp=>(hnb' p hp).1;have keys:(ws++ns).map (·.1)=c.bx++c.nb:=by rw[List.map_append,hbx,hns]
 have nkeys:((ws++ns).map (·.1)).Nodup:=by rw[keys];exact hn1
 have nids:((ws++ns).map (·.2)).Nodup:=by rw[List.map_append,List.nodup_append];refine⟨hn,hn2,λx hx y hy he=> ?_⟩;subst he;obtain⟨p,hp,rfl⟩:=List.mem_map.1 hx;obtain⟨q,hq,he⟩:=List.mem_map.1 hy;obtain⟨cs,hcs⟩:=hwb p hp;have:=hnb q hq;rw[he,hcs] at this;cases this
 have nsw:((swp (ws++ns)).map (·.1)).Nodup:=by rw[Ce];exact nids
 let N:Nat->Prop:=λb=>w.heap.size<=b∨Wr (ghM g ws) b
 have old:∀b,¬N b->b<w.heap.size∧¬Wr (ghM g ws) b:=λb h=>⟨Nat.lt_of_not_le λhh=>h (.inl hh),λhh=>h (.inr hh)⟩;have oldS:∀b,¬N b->g1.S b=g.S b:=λb h=>hI1.sS b (old b h).1 (old b h).2;have oldH:∀b,¬N b->w1.heap[b]? =w.heap[b]? :=λb h=>hI1.fr.block b (old b h).1 (old b h).2;have newW:∀b,N b->base.w0.heap.size<=b∨base.W b:=λb h=>h.elim (λh=> .inl (by omega)) (λh=>(Rb hI h).1);have muN:∀id b,g.mu id=some b->(∀p∈ws,p.2≠id)->¬N b:=λid b hb hid h=>by
  have h3:=hI.muW id b hb;rcases h with h|h
  ·omega
  rcases(Rb hI h).2.2 with⟨j,id',hm,hb'⟩|⟨j,id',i,hm,ho⟩
  ·exact hid _ hm (hI.inj _ _ _ hb' hb)
  rw[h3.2.2] at ho;cases ho
 have owN:∀l b,g.ow b=some l->(∀p∈ws,∀i,l≠ .cell p.2 i)->¬N b:=λl b hb hl h=>by
  have h3:=hI.owW b l hb;rcases h with h|h
  ·omega
  rcases(Rb hI h).2.2 with⟨j,id',hm,hb'⟩|⟨j,id',i,hm,ho⟩
  ·have:=(hI.muW _ _ hb').2.2;rw[hb] at this;cases this
  rw[hb] at ho;cases ho;exact hl _ hm i rfl
 have mu1:∀j b,g1.mu j=some b->N b∧b<w1.heap.size∧g1.ow b=none:=λj b h=>hI1.muW j b h;have ow1:∀b l,g1.ow b=some l->N b∧b<w1.heap.size:=λb l h=>hI1.owW b l h;have wmu:∀j id,(j,id)∈ws->g1.mu j=g.mu id:=λj id hm=>by
  have hj:j∈c.bx:=by rw[<-hbx];exact List.mem_map.2 ⟨_,hm,rfl⟩
  rw[hmu j hj];simp only[ghM];rw[qE (by rw[hbx];exact(List.nodup_append.1 hn1).1) hm];rfl
 let g2:Gh:=
  {S:=g1.S
   ow:=λb=>if N b then(match g1.ow b with|some (.cell j i)=>(fnd (ws++ns) j).map λid=> .cell id i|some .ret=>d.map .slot|_=>none) else g.ow b
   mu:=λid=>match fnd (swp (ws++ns)) id with|some j=>g1.mu j|none=>g.mu id}
 have hpar:∀id,500000<=(fnd (ws++ns) id).getD id->500000<=id:=P4 λp hp h=>(hlo p hp).2.2.2 h;have hk:aP g.S w g2.S w1:=hI1.kp;have hkr:aP g1.S w1 g2.S w1:=aP.refl _ _;have notin:∀id,fnd (swp (ws++ns)) id=none->∀p∈ws,p.2≠id:=λid h p hp he=>by obtain⟨x,hx⟩:=ER (l:=swp (ws++ns)) (k:=id) (by rw[Ce];exact List.mem_map.2 ⟨p,by simp[hp],he⟩);rw[h] at hx;cases hx
 have mu2:∀id b,g.mu id=some b->g2.mu id=some b:=λid b hb=>by
  simp only[g2];split
  ·rename_i j hf;have hm:=vl.1 (dB hf);rcases List.mem_append.1 hm with hm|hm
   ·rw[wmu j id hm];exact hb
   have:=hI.nobx id (hnb _ hm);rw[hb] at this;cases this
  exact hb
 have own2:∀l,(∀p∈ws,∀i,l≠ .cell p.2 i)->aQ g w g2 w1 l l:=λl hl b hb=>by have hN:=owN l b hb hl;exact⟨by simp only[g2,if_neg hN];exact hb,oldS b hN,(oldH b hN)⟩
 have rf:∀id,id∈c.bx++c.nb->∀b,g1.mu id=some b->g2.mu ((fnd (ws++ns) id).getD id)=some b:=λid hid b hb=>by obtain⟨id',hf⟩:=ER (l:=ws++ns) (k:=id) (by rw[keys];exact hid);have:=qE nsw (vl.2 (dB hf));rw[hf];simp only[g2,Option.getD_some,this];exact hb
 have hup:∀id,Kt getB ((ws++ns).map λp=>(p.2,some (renL (ws++ns) (c.out ds p.1)))) id=match fnd (swp (ws++ns)) id with|some j=>some (renL (ws++ns) (c.out ds j))|none=>getB id:=λid=>by unfold Kt;rw[Sp [] (λj=>some (renL (ws++ns) (c.out ds j))) id (ws++ns)];cases fnd (swp (ws++ns)) id<;>rfl
 refine⟨g2,⟨hI.fr.trans (hI1.fr.mono hz λk hk hW=>(Rb hI hW).1.resolve_left (by omega)),λb hb hw=> ?_,λi j b hi hj=> ?_,λid cs hc=> ?_,λid hid=> ?_,λid b hb=> ?_,λb l hb=> ?_,
  λn hn=>am.mono hk _ _ _ (hI.glob n hn),hI.kp.trans hk,λid b cs hid hb hc hd=> ?_,λid b h1 h2 hb=>by
  simp only[g2] at hb;split at hb
  ·rename_i j hj;rcases List.mem_append.1 (vl.1 (dB hj)) with hm|hm
   ·have e1:g1.mu j=(ghM g ws).mu j:=hmu j (by rw[<-hbx];exact List.mem_map.2 ⟨_,hm,rfl⟩);have e2:=qE (l:=ws) (by rw[hbx];exact(List.nodup_append.1 hn1).1) hm;rw[e1] at hb;simp only[ghM,e2,Option.bind_some] at hb;exact hI.old id b h1 h2 hb
   exact(hnb' _ hm).2.no h1 h2
  exact hI.old id b h1 h2 hb⟩,λs=> ?_,?_⟩
 ·have hN:¬N b:=λh=>(newW b h).elim (λh=>by omega) hw;show g1.S b=_;rw[oldS b hN];exact hI.sS b hb hw
 ·simp only[g2] at hi hj;split at hi
  ·rename_i x hx;split at hj
   ·rename_i y hy;have:=hI1.inj x y b hi hj;subst this;have e1:=qE nkeys (vl.1 (dB hx));have e2:=qE nkeys (vl.1 (dB hy));rw[e1] at e2;cases e2;rfl
   rename_i hy;exact absurd (mu1 x b hi).1 (muN j b hj (notin j hy))
  rename_i hx;split at hj
  ·rename_i y hy;exact absurd (mu1 y b hj).1 (muN i b hi (notin i hx))
  exact hI.inj i j b hi hj
 ·rw[hup] at hc;split at hc
  ·rename_i j hf;cases hc;have hm:=vl.1 (dB hf);have hjk:j∈c.bx++c.nb:=by rw[<-keys];exact List.mem_map.2 ⟨_,hm,rfl⟩
   obtain⟨b,k1,k2,k3⟩:=hI1.bxok j (c.out ds j) (by unfold CM.outs;rw[if_pos hjk]);refine⟨b,by simp only[g2,hf];exact k1,k2,λi e hi=> ?_⟩;rw[Ly] at hi;cases he:(c.out ds j)[i]? with
   |none=>rw[he] at hi;cases hi
   |some e'=>rw[he] at hi;simp only[Option.map_some,Option.some.injEq] at hi;subst hi;obtain⟨⟨x,hx,hrx⟩,hfz⟩:=k3 i e' he;refine⟨⟨x,hx,Rep.ren hkr hpar e' x (some (.cell j i)) _ (λid' hid'=>rf id' (hr2 j hjk id' (refsL_mem' (sj he) hid'))) (λm' hm'=> ?_) hrx⟩,hfz⟩;cases hm';refine⟨_,rfl,λb' hb'=>⟨?_,rfl,rfl⟩⟩;simp only[g2,if_pos (ow1 b' _ hb').1,hb',qE nkeys hm,Option.map_some]
  rename_i hf;obtain⟨b,k1,k2,k3⟩:=hI.bxok id cs hc;have hN:=muN id b k1 (notin id hf);refine⟨b,mu2 id b k1,by show g1.S b=0;rw[oldS b hN];exact k2,λi e hi=> ?_⟩;obtain⟨⟨x,hx,hrx⟩,hfz⟩:=k3 i e hi;refine⟨⟨x,by rw[World.cell?_of_block (w:=w) (a:=⟨b,i,none⟩) (oldH b hN)];exact hx,Rep.mono hk e x (some (.cell id i)) (some (.cell id i)) (λid' _ b' hb'=>mu2 id' b' hb') (λm' hm'=> ?_) hrx⟩,by rw[World.frozen?_of_block (w:=w) (a:=⟨b,i,none⟩) (oldH b hN)];exact hfz⟩;cases hm';exact⟨_,rfl,own2 _ λp hp i' he=>by cases he;exact notin _ hf p hp rfl⟩
 ·rw[hup] at hid;split at hid
  ·cases hid
  rename_i hf;simp only[g2,hf];exact hI.nobx id hid
 ·simp only[g2] at hb;split at hb
  ·rename_i j hf;obtain⟨h1,h2,h3⟩:=mu1 j b hb;refine⟨newW b h1,h2,?_⟩;simp only[g2,if_pos h1,h3]
  rename_i hf;obtain⟨h1,h2,h3⟩:=hI.muW id b hb;have hN:=muN id b hb (notin id hf);exact⟨h1,Nat.lt_of_lt_of_le h2 hI1.fr.size,by simp only[g2,if_neg hN];exact h3⟩
 ·simp only[g2] at hb;split at hb
  ·rename_i hN;cases ho:g1.ow b with
   |none=>rw[ho] at hb;cases hb
   |some l'=>exact⟨newW b hN,(ow1 b l' ho).2⟩
  obtain⟨h1,h2⟩:=hI.owW b l hb;exact⟨h1,Nat.lt_of_lt_of_le h2 hI1.fr.size⟩
 ·have hf:fnd (swp (ws++ns)) id=none:=II λh=>by
   rw[Ce] at h;obtain⟨p,hp,he⟩:=List.mem_map.1 h;have:=(hlo p hp).2.1;omega
  rw[hup,hf] at hc;simp only[g2,hf] at hb;have hN:=muN id b hb (notin id hf);refine dy.keep (hI.obok id b cs hid hb hc hd) (oldH b hN) λk hk'=> ?_;have hNk:=owN _ k hk' λp hp i he=>by cases he;exact notin _ hf p hp rfl
  exact⟨by simp only[g2,if_neg hNk];exact hk',oldH k hNk⟩
 ·exact Rep.mono hk _ _ (some (.slot s)) (some (.slot s)) (λid' _ b' hb'=>mu2 id' b' hb') (λm' hm'=>by
   cases hm';exact⟨_,rfl,own2 _ λp hp i' he=>by cases he⟩) (hS s)
 refine Rep.ren hkr hpar (c.post ds) v (some .ret) (d.map .slot) (λid' hid'=>rf id' (hr1 id' hid')) (λm' hm'=>⟨.ret,rfl,λb' hb'=>⟨?_,rfl,rfl⟩⟩) hr;simp only[g2,if_pos (ow1 b' _ hb').1,hb'];exact hm'
where
 refsL_mem':∀{cs:List oH} {c:oH} {id:Nat},c∈cs->id∈aF c->id∈pT cs
  |[],_,_,h,_=>by cases h
  |d::ds,c,id,h,hi=>by
   simp only[pT,List.mem_append];rcases List.mem_cons.1 h with rfl|h
   ·exact .inl hi
   exact .inr (refsL_mem' h hi)
theorem K9(hI:Inv K base g w getB)(hS:dI K g w get a){f:Nat}(hV:ru K f (K.E.M f)){as:List oH}{ws ns:List (Nat×Nat)}{vs:List Value}(hr:an K.toCon g w as vs)(hok:okM K.E getB f as ws ns)
  {next:Act->World->Prop} {Q:Exit->Act->World->Prop} (hn:∀v w',Pg K base a get getB d (fR K.E getB f as ws ns) v w'->next (a.put o.dst v) w') (hrun:(execOp a.eval o).run K.P w= .ok (.enter (K.nu f) vs.toArray) w):
  o.wp K.P a w next Q:=by
 obtain⟨h1,h2,h3,h4,h5,h6,h7,h8,hlo,h9,h10,h11⟩:=hok;unfold Oper.wp;rw[hrun,Oper.upon_enter];have hb1:=(List.nodup_append.1 h8).1;refine(hV.2 (ghM g ws) w _ vs (SN hI h1 h2 hb1 h3 h4 λp hp=>(hlo p (List.mem_append_left _ hp)).1) (PF hI h1 h2 hr) h9).mono ?_;rintro e w' ⟨v,g1,rfl,hI1,hmu,hrep⟩;refine hn v w' (Ka hI hS h2 h5 h8 h3 h6 (λp hp=> ?_) h7 hlo hI1 hmu hrep h10 h11);have hj:p.1∈(K.E.M f).bx:=by rw[<-h2];exact List.mem_map.2 ⟨_,hp,rfl⟩
 have:=IF h1 p.1 _ (List.getElem?_eq_getElem (h4 _ hj));rw[Nat.zero_add,qE (l:=ws) (k:=p.1) (x:=p.2) (by rw[h2];exact hb1) hp] at this;obtain⟨_,cs,hcs,_⟩:=this;exact⟨cs,hcs⟩
def yH(K:Cx)(op:Op)(f:Nat)(t:Option Arg)(args:List Arg):Bool:=match t with|none=>HZ K op f args|some t=>ET K op t args
theorem SE(hI:Inv K base g w getB)(hS:dI K g w get a){f:Nat}{t:Option Arg}{args:List Arg}{ws ns:List (Nat×Nat)}(h:yH K o.op f t args=true)(hV:ru K f (K.E.M f))(hok:okp K.E get getB (.callm f t args ws ns))
  {next:Act->World->Prop} {Q:Exit->Act->World->Prop} (hn:∀v w',Pg K base a get getB d (eff K.E get getB (.callm f t args ws ns)) v w'->next (a.put o.dst v) w'):o.wp K.P a w next Q:=by
 cases t with
 |none=>
  simp only[yH] at h;obtain⟨_,hok⟩:=hok;unfold HZ at h;split at h
  ·rename_i c ho;simp only[Bool.and_eq_true] at h;obtain⟨hc,ha⟩:=h;split at hc
   ·rename_i f' hcal;simp only[beq_iff_eq] at hc;subst hc;obtain⟨_,hr⟩:=Am hI hS ha;refine K9 hI hS hV hr hok hn ?_;simp only[execOp,ho,resolve,hcal,Act.eval,Deferred.ofValue,Sem.run_bind,Sem.run_pure,Result.andThen_ok,invoke];rw[uH w hV.1];congr 2;apply Array.ext';simp
   cases hc
  cases h
 |some t=>
  simp only[yH] at h;unfold ET at h;split at h
  ·rename_i c ho;simp only[Bool.and_eq_true] at h;obtain⟨hc,ha⟩:=h;split at hc
   ·rename_i x hcal;obtain⟨_,hr⟩:=Am hI hS ha;obtain⟨ht,hok⟩:=hok;have rt:=o6 hI hS hc;simp only at ht;split at ht
    ·rename_i f' p q et;subst ht;rw[et] at rt;simp only[et,xX] at hok;simp only[Rep] at rt;obtain⟨pv,qv,vt,hp,hq⟩:=rt;have hef:eff K.E get getB (.callm f' (some t) args ws ns)=fR K.E getB f' (p++args.map (arg K.E get)++q) ws ns:=by simp only[eff,et,xX]
     rw[hef] at hn;refine K9 hI hS hV ((hp.append hr).append hq) hok hn ?_;simp only[execOp,ho,resolve,hcal,vt,Deferred.ofValue,Sem.run_bind,Sem.run_pure,Result.andThen_ok,invoke];rw[uH w hV.1];congr 2;apply Array.ext';simp
    cases ht
   cases hc
  cases h
end
end Go.Abs
end