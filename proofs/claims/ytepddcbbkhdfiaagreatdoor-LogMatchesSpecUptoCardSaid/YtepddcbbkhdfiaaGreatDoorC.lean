/- Lemmas: an abstract interpreter, and what the functions compute. -/
import Derived.Test.YtepddcbbkhdfiaaGreatDoorB
set_option linter.unusedSimpArgs false
set_option linter.unusedVariables false
set_option linter.unusedSectionVars false
section
namespace Go.Abs

mutual
theorem z9b.isPure {K:Con} {S:Nat→Nat} {w:World}:∀(d:z0a) (v:Value),z9b K S w d v→z0b d=true
 | .undef,_,_=>rfl
 | .lit _,_,_=>rfl
 | .agg cs,v,h=>by simp only[z9b] at h;obtain⟨a,_,h⟩:=h;simp only[z0b];exact z5a.isPure cs _ h
 | .tup cs,v,h=>by simp only[z9b] at h;obtain⟨a,_,h⟩:=h;simp only[z0b];exact z5a.isPure cs _ h
 | .sl _ _ _ _,_,_=>rfl
 | .ep _,_,_=>rfl
 | .otup _ _ _ _ rest,v,h=>by
  simp only[z9b] at h
  obtain⟨a,x,xs,_,_,h1,h2⟩:=h
  simp only[z0b,z5a.isPure rest _ h2]
 | .oagg pre _ _ _ _ rest,v,h=>by
  simp only[z9b] at h
  obtain⟨a,ps,x,xs,_,_,h3,h1,h2⟩:=h
  simp only[z0b,z5a.isPure rest _ h2,z5a.isPure pre _ h3,Bool.and_self]
 | .fn f x y,v,h=>by simp only[z9b] at h;obtain⟨a,c,_,h1,h2⟩:=h;simp only[z0b,z5a.isPure x _ h1,z5a.isPure y _ h2,Bool.and_self]
 | .bp _ _,_,h=>by simp[z9b] at h
 | .bv _ _ _ _ _,_,h=>by simp[z9b] at h
theorem z5a.isPure {K:Con} {S:Nat→Nat} {w:World}:∀(ds:List z0a) (vs:List Value),z5a K S w ds vs→z8b ds=true
 |[],_,_=>rfl
 |c::cs,l,h=>by simp only[z5a] at h;obtain⟨x,xs,_,h1,h2⟩:=h;simp only[z8b,z9b.isPure c x h1,z5a.isPure cs xs h2,Bool.and_self]
end

theorem z8m (a b:List z0a):z8b (a++b)=(z8b a&&z8b b):=by
 induction a with
 |nil=>simp[z8b]
 |cons x a ih=>simp[z8b,ih,Bool.and_assoc]

section
variable {P : Program}

theorem z0ob (w:World) {t1 t2 ty e:TypeId} {i:TypeInfo} {d2:TypeDesc} (h1:P.underlying t1=some (.slice e)) (h2:P.underlying t2=some d2) (hd:d2= .string∨∃e',d2= .slice e') (hi:P.info? e=some i) {base:Option Addr} {sLen sCap m:Nat} {x:Value} {news:List Value}
  (hlen:(Builtin.lenOf x).run P w= .ok m w) (hnews:(Builtin.firstCells i.size m x).run P w= .ok news.toArray w) (hfit:sLen+m≤sCap):
  (Builtin.append_ #[t1,t2] ty #[.slice base sLen sCap,x]).run P w=(((match base with|some a=>storeCells (a.add (sLen*i.size)) news|none=>pure ()):Sem Unit).run P w).andThen fun _ w'=> .ok (.slice base (sLen+m) sCap) w':=by
 rcases hd with rfl|⟨e',rfl⟩
 ·cases base<;>simp[Builtin.append_,run_underlying h1,run_underlying h2,sizeOf,typeInfo,hi,hlen,hnews,hfit]
 ·cases base<;>simp[Builtin.append_,run_underlying h1,run_underlying h2,sizeOf,typeInfo,hi,hlen,hnews,hfit]

theorem z42b (w:World) {t1 t2 ty e:TypeId} {i:TypeInfo} {z:Value} {d2:TypeDesc} (h1:P.underlying t1=some (.slice e)) (h2:P.underlying t2=some d2) (hd:d2= .string∨∃e',d2= .slice e') (hi:P.info? e=some i) (hz0:i.zero=some z) {base:Option Addr} {sLen sCap m:Nat} {x:Value} {olds news:List Value}
  (hlen:(Builtin.lenOf x).run P w= .ok m w) (hnews:(Builtin.firstCells i.size m x).run P w.drew= .ok news.toArray w.drew) (holds:(Builtin.firstCells i.size sLen (.slice base sLen sCap)).run P w.drew= .ok olds.toArray w.drew)
  (hfit:sCap<sLen+m) (hb:(sLen+m)*i.bytes≤140737488355328) (h63:sLen+m≤9223372036854775807):
  (Builtin.append_ #[t1,t2] ty #[.slice base sLen sCap,x]).run P w= .ok (.slice (some ⟨w.heap.size,0,none⟩) (sLen+m) (grownCap w (sLen+m) sCap e))
   (w.drew.alloc (.cells (olds.toArray++news.toArray++Builtin.zeroCells z.cells (grownCap w (sLen+m) sCap e-(sLen+m))) e)):=by
 have hn:¬(sLen+m≤sCap):=by omega
 have h63':¬(9223372036854775807<((sLen:Int)+(m:Int))):=by omega
 have h48':¬(281474976710656<Builtin.nextslicecap (sLen+m) sCap*i.bytes):=by
  have:=growslice_fits hfit hb
  omega
 rcases hd with rfl|⟨e',rfl⟩
 ·simp[Builtin.append_,run_underlying h1,run_underlying h2,sizeOf,typeInfo,zeroValue,hi,hz0,hlen,hn,h63',h48',Question.forced,hnews,holds,newRow,grownCap]
  congr 2;apply Array.ext';simp
 ·simp[Builtin.append_,run_underlying h1,run_underlying h2,sizeOf,typeInfo,zeroValue,hi,hz0,hlen,hn,h63',h48',Question.forced,hnews,holds,newRow,grownCap]
  congr 2;apply Array.ext';simp

end

section
variable {K : Cx} {base : z4f} {g g' : Gh} {w w' : World} {get : Nat → z0a} {getB : Nat → Option (List z0a)} {a : Act} {o : Oper} {d : Option Nat}

def z7Rb (K:Cx) (op:Op) (esz bytes:Nat) (str:Bool) (x y:Arg):Bool:=
 match op with
 | .call c=>(match c.callee,c.args.toList,c.argTypes.toList with
  | .builtin .append,[x',y'],[t1,t2]=>(match K.P.underlying t1 with
    |some (.slice e)=>(match K.P.info? e with
      |some i=>(i.size==esz)&&(i.bytes==bytes)&&(match i.zero with|some z=>z.cells.size==esz|none=>false)
      |none=>false)
    |_=>false)&&(if str then z1lb K.P t2 z4Db else z1lb K.P t2 z9Zc)&&z7wa K x' x&&z7wa K y' y
  |_,_,_=>false)
 |_=>false

theorem z4Dc (hI:Inv K base g w getB) (hS:z3v K g w get a) {esz:Nat} {str:Bool} {b:Option Nat} {y:Arg} {y':Operand} (hy:z7wa K y' y=true)
  (hok:if str then isS (arg K.E get y)∧esz=1 else okS esz b (bxc getB b) (arg K.E get y)):
  ∃news:List Value,z2b K.toCon g w (z0c (bxl getB b) (arg K.E get y)) news∧news.length=z7e (arg K.E get y)*esz∧
   (∀w1:World,(Builtin.lenOf (a.eval y')).run K.P w1= .ok (z7e (arg K.E get y)) w1)∧
   (∀m w1,m≤z7e (arg K.E get y)→(w1=w∨w1=w.drew)→(Builtin.firstCells esz m (a.eval y')).run K.P w1= .ok (news.take (m*esz)).toArray w1):=by
 have ry:=z3qa hI hS hy
 cases str with
 |true=>
  simp only[if_true] at hok
  obtain⟨hs,rfl⟩:=hok
  obtain⟨ex,vx⟩:=z0Ob ry hs
  generalize asS (arg K.E get y)=s at*
  rw[ex,vx]
  refine⟨s.data.toList.map fun c=> .int .u8 c.toNat,by simp only[z0c];exact z68c _,by simp only[z7e,List.length_map,z8je,Nat.mul_one],fun w1=>by simp[Builtin.lenOf,z7e],fun m w1 hm _=> ?_⟩
  simp only[Builtin.firstCells,Sem.run_pure,Nat.mul_one]
  congr 1
  apply Array.ext'
  simp only[Array.toList_map,List.toList_toArray]
  rw[←List.map_take]
  congr 1
  have:s.extract 0 m=ByteArray.mk ((s.data.toList.drop 0).take (m-0)).toArray:=by
   have:=ByteArray.extract_mk s.data.toList 0 m
   rw[←this]
  rw[this]
  simp
 |false=>
  simp only[Bool.false_eq_true,if_false] at hok
  obtain⟨vs,h1,h2,h3⟩:=z1Rc hI hok ry
  refine⟨vs,h1,h2,fun w1=> ?_,fun m w1 hm hw=> ?_⟩
  ·rcases h3 with⟨q,e,_,e0⟩|⟨bk,o,cap,e,_⟩
   ·rw[e,e0];rfl
   ·rw[e];rfl
  ·rcases h3 with⟨q,e,e1,e0⟩|⟨bk,o,cap,e,_,hr⟩
   ·rw[e,e1]
    have hm0:m=0:=by omega
    cases q with
    |none=>simp[Builtin.firstCells]
    |some q=>
     simp only[Builtin.firstCells,hm0,Nat.zero_mul,List.take_nil]
     exact z5Pa w1 q
   ·rw[e]
    have hcell:∀j v,(vs.take (m*esz))[j]? =some v→w1.cell? ((⟨bk,o,none⟩:Addr).add j)=some v:=fun j v hv=>by
     rw[List.getElem?_take] at hv
     rw[Addr.add_mid]
     split at hv
     ·rcases hw with rfl|rfl
      ·exact hr j v hv
      ·exact hr j v hv
     ·cases hv
    have hl:(vs.take (m*esz)).length=m*esz:=by
     rw[List.length_take,h2]
     exact Nat.min_eq_left (Nat.mul_le_mul_right _ hm)
    have:=run_loadCells_list (P:=K.P) w1 ⟨bk,o,none⟩ (vs.take (m*esz)) hcell
    rw[hl] at this
    exact this

theorem z3r {α:Type} {l:List α} (p:α→Prop) (h:∀(i:Nat) x,l[i]? =some x→p x):∀x∈l,p x:=fun x hx=>by
 obtain⟨i,hi,rfl⟩:=List.mem_iff_getElem.1 hx
 exact h i _ (List.getElem?_eq_getElem hi)

theorem z8fe {cs:List z0a} {vs:List Value} (h:z2b K.toCon g w cs vs) (hc:∀c∈cs,z8a c):∀x∈vs,x.oneCell'=true:=z3r _ fun i x hx=>by
 have hl:=h.len
 have hi:=(List.getElem?_eq_some_iff.1 hx).1
 obtain⟨y,hy,hr⟩:=h.get i cs[i] (List.getElem?_eq_getElem (by omega))
 rw[hx] at hy;cases hy
 exact z8q hr (hc _ (List.getElem_mem _))

theorem z76b (hI:Inv K base g w getB) (hS:z3v K g w get a) {esz n m cap:Nat} {nlr:Option Bool} {cs ys:List z0a} {olds news:List Value} {R:Array Value} {e:TypeId} {sl:List (Nat×z0a)}
  (hS':∀g1 w1,Ext g w g1 w1→z3v K g1 w1 get a→z3v K g1 w1 (upd get sl) a) (hnl:nlr≠some true) (hcap:n+m≤cap) (hold:z2b K.toCon g w cs olds) (hp1:z8b cs=true) (ho:olds.length=n*esz)
  (hnew:z2b K.toCon g w ys news) (hp2:z8b ys=true) (hn:news.length=m*esz) (hR:R.size=(cap-(n+m))*esz):
  z0rc K base a get getB d {val:= .sl (.own esz) nlr (n+m) (cs++ys),sl:=sl} (.slice (some ⟨w.heap.size,0,none⟩) (n+m) cap) (w.drew.alloc (.cells (olds.toArray++news.toArray++R) e)):=by
 have hI':=z8Kb hI
 have hx:=z84a hI' (.cells (olds.toArray++news.toArray++R) e) ((n+m)*esz) (d.map .slot)
 have hx':Ext g w (z2Ya g w.heap.size ((n+m)*esz) (d.map .slot)) (w.drew.alloc (.cells (olds.toArray++news.toArray++R) e)):=
  ⟨hx.keeps,hx.mu,hx.own⟩
 have hall:=hold.append hnew
 refine⟨z2Ya g w.heap.size ((n+m)*esz) (d.map .slot),z2fb hI' _ _ _,hS' _ _ hx' (hx'.slots hS),?_⟩
 have hlen:(cs++ys).length=(n+m)*esz:=by rw[hall.len,List.length_append,ho,hn,Nat.add_mul]
 simp only[Rep]
 refine⟨?_,fun l hl=> .inr ⟨_,cap,rfl,hcap,hlen,by simp[z2Ya],by simp[z2Ya,hl],?_⟩⟩
 ·simp only[z9b]
  refine .inl ⟨_,_,_,rfl,hcap,z4b.mk fun i c hi=> ?_,hnl,by simp⟩
  have hlt:=(List.getElem?_eq_some_iff.1 hi).1
  obtain⟨v,hv,hrv⟩:=hall.get i c hi
  refine⟨by simp[z2Ya];omega,v,?_,z9b.mono hx'.keeps c v (Rep.pure c v none ((z4i (cs++ys)).1 (by rw[z8m,hp1,hp2];rfl) c (z3ya hi)) hrv)⟩
  rw[Nat.zero_add]
  have:=World.cell?_alloc_new w.drew (olds.toArray++news.toArray++R) e i
  rw[show w.drew.heap.size=w.heap.size from rfl] at this
  rw[this,Array.getElem?_append_left (by
   have:=(List.getElem?_eq_some_iff.1 hv).1
   simpa using this)]
  simpa using hv
 ·refine z9Ma w.drew (olds.toArray++news.toArray++R) e (0,0) (by simp) _ _ ?_
  have h3:(n+m)*esz+(cap-(n+m))*esz=cap*esz:=by rw[←Nat.add_mul];congr 1;omega
  simp only[Array.size_append,List.size_toArray,ho,hn,hR]
  have h4:n*esz+m*esz=(n+m)*esz:=(Nat.add_mul _ _ _).symm
  omega

theorem z1Xb {op:Op} {esz bytes:Nat} {str:Bool} {x y:Arg} (h:z7Rb K op esz bytes str x y=true):
  ∃x' y' t1 t2 e i z d2,op= .call {callee:= .builtin .append,args:= #[x',y'],argTypes:= #[t1,t2]}∧K.P.underlying t1=some (.slice e)∧K.P.info? e=some i∧i.size=esz∧i.bytes=bytes∧i.zero=some z∧z.cells.size=esz∧
   K.P.underlying t2=some d2∧(d2= .string∨∃e',d2= .slice e')∧z7wa K x' x=true∧z7wa K y' y=true:=by
 unfold z7Rb at h
 split at h
 ·rename_i c
  split at h
  ·rename_i x' y' t1 t2 hc hargs hts
   obtain⟨callee,args,ts⟩:=c
   simp only at hc hargs hts
   subst hc
   have:=z8Od hargs
   subst this
   have:=z8Od hts
   subst this
   simp only[Bool.and_eq_true] at h
   obtain⟨⟨⟨h,ht2⟩,hx⟩,hy⟩:=h
   have hd2:∃d2,K.P.underlying t2=some d2∧(d2= .string∨∃e',d2= .slice e'):=by
    cases str with
    |true=>
     simp only[if_true] at ht2
     obtain⟨D,hu,hD⟩:=z7ya ht2
     have:=z26a hD
     subst this
     exact⟨_,hu,.inl rfl⟩
    |false=>
     simp only[Bool.false_eq_true,if_false] at ht2
     obtain⟨D,hu,hD⟩:=z7ya ht2
     obtain⟨e,rfl⟩:=z6ac hD
     exact⟨_,hu,.inr ⟨_,rfl⟩⟩
   obtain⟨d2,hd2,hd2'⟩:=hd2
   split at h
   ·rename_i e he
    split at h
    ·rename_i i hi
     simp only[Bool.and_eq_true,beq_iff_eq] at h
     obtain⟨⟨h1,h2⟩,h3⟩:=h
     split at h3
     ·rename_i z hz
      simp only[beq_iff_eq] at h3
      exact⟨x',y',t1,t2,e,i,z,d2,rfl,he,hi,h1,h2,hz,h3,hd2,hd2',hx,hy⟩
     ·cases h3
    ·cases h
   ·cases h
  ·cases h
 ·cases h

theorem z2Na {x' y':Operand} {t1 t2:TypeId} (ho:o.op= .call {callee:= .builtin .append,args:= #[x',y'],argTypes:= #[t1,t2]}) {v:Value} {w1:World}
  (hr:(Builtin.append_ #[t1,t2] o.type #[a.eval x',a.eval y']).run K.P w= .ok v w1):(execOp a.eval o).run K.P w= .ok (.value v) w1:=by
 simp only[execOp,ho,resolve,Sem.run_bind,Sem.run_pure,Result.andThen_ok,invoke,builtin]
 simp[hr]

theorem z0bc {esz bytes:Nat} {str:Bool} {nlr b:Option _} {X Y:z0a} (hok:okp.okApp getB esz bytes str nlr b X Y) (hm:0<z7e Y):nlr≠some true:=by
 intro e
 subst e
 obtain⟨_,_,_,h,_⟩:=hok
 simp only at h
 split at h
 ·omega
 ·cases h

theorem z1pc (hI:Inv K base g w getB) (hS:z3v K g w get a) {esz bytes:Nat} {str:Bool} {nlr:Option Bool} {b:Option Nat} {x y:Arg} (h:z7Rb K o.op esz bytes str x y=true) (hok:okp K.E get getB (.appendC esz bytes str nlr b x y)):
  z51a K base a get getB d o (.appendC esz bytes str nlr b x y) w:=by
 obtain⟨x',y',t1,t2,e,i,z,d2,ho,hu,hi,hsz,hby,hz,hzs,hd2,hd2',hx,hy⟩:=z1Xb h
 obtain⟨hx0,hap⟩:=hok
 have rx:=z3qa hI hS hx
 split at hx0
 ·rename_i nl n cs ex
  have hlen:=hx0
  have hap':=hap
  obtain⟨hy0,hbytes,h40,hnl,hcells⟩:=hap
  rw[ex] at rx hbytes h40 hnl hap'
  obtain⟨news,n1,n2,n3,n4⟩:=z4Dc hI hS hy hy0
  generalize hm:z7e (arg K.E get y)=m at*
  simp only[z7e] at hbytes h40
  have hnews:∀w1,(w1=w∨w1=w.drew)→(Builtin.firstCells i.size m (a.eval y')).run K.P w1= .ok news.toArray w1:=fun w1 hw=>by
   have:=n4 m w1 (Nat.le_refl _) hw
   rw[List.take_of_length_le (by rw[n2];exact Nat.le_refl _)] at this
   rw[hsz];exact this
  have hpy:z8b (z0c (bxl getB b) (arg K.E get y))=true:=(z4i _).2 fun c hc=>(hcells c hc).1
  have hef:eff K.E get getB (.appendC esz bytes str nlr b x y)={val:= .sl (if n=0 then .own esz else .plain) nlr (n+m) (cs++z0c (bxl getB b) (arg K.E get y))}:=by simp only[eff,ex,hm];rfl
  have grow:∀(base':Option Addr) (cap:Nat) (olds:List Value),a.eval x'= .slice base' n cap→cap<n+m→z2b K.toCon g w cs olds→z8b cs=true→olds.length=n*esz→
    (Builtin.firstCells i.size n (.slice base' n cap)).run K.P w.drew= .ok olds.toArray w.drew→0<m→z51a K base a get getB d o (.appendC esz bytes str nlr b x y) w:=fun base' cap olds hv hc hold hpc hol hfc hm0=>by
   have hr:=z42b (P:=K.P) (ty:=o.type) w hu hd2 hd2' hi hz (x:=a.eval y') (news:=news) (olds:=olds) (n3 w) (hnews _ (.inr rfl)) hfc hc (by rw[hby];omega) (by omega)
   rw[←hv] at hr
   refine⟨_,_,_,z2Na ho hr,.inl rfl,?_⟩
   rw[hef]
   have fin:∀v w',z0rc K base a get getB d {val:= .sl (.own esz) nlr (n+m) (cs++z0c (bxl getB b) (arg K.E get y))} v w'→
     z0rc K base a get getB d {val:= .sl (if n=0 then .own esz else .plain) nlr (n+m) (cs++z0c (bxl getB b) (arg K.E get y))} v w':=fun v w' hgood=>by
    by_cases hn0:n=0
    ·rw[if_pos hn0];exact hgood
    ·rw[if_neg hn0]
     obtain⟨g',h1,h2,h3⟩:=hgood
     exact⟨g',h1,h2,Rep.dem _ h3⟩
   exact fin _ _ (z76b hI hS (fun _ _ _ h=>h) (z0bc hap' (by rw[hm];exact hm0)) (grownCap_ge _ _ _ _) hold hpc hol n1 hpy n2 (by rw[size_zeroCells,hzs]))
  simp only[Rep,z9b] at rx
  rcases rx with⟨bk,off,cap,vx,hcap,hc,hnlx,hclip⟩|⟨q,vx,rfl,rfl,hnlx⟩
  ·have hcapn:=hclip trivial
   obtain⟨olds,v1,v2,v3⟩:=hc.vals
   have hol:olds.length=n*esz:=by rw[←v2.len,hlen]
   have hfc:(Builtin.firstCells i.size n (.slice (some ⟨bk,off,none⟩) n cap)).run K.P w.drew= .ok olds.toArray w.drew:=
    run_firstCells_some (P:=K.P) w.drew i.size n ⟨bk,off,none⟩ n cap olds (by rw[hsz,hol]) (fun j v hv=>by rw[Addr.add_mid];exact v1 j v hv)
   by_cases hm0:m=0
   ·have hnews0:news=[]:=List.eq_nil_of_length_eq_zero (by rw[n2,hm0,Nat.zero_mul])
    have hys0:z0c (bxl getB b) (arg K.E get y)=[]:=List.eq_nil_of_length_eq_zero (by rw[n1.len,hnews0];rfl)
    have hr:=z0ob (P:=K.P) (ty:=o.type) w hu hd2 hd2' hi (base:=some ⟨bk,off,none⟩) (sLen:=n) (sCap:=cap) (x:=a.eval y') (news:=news) (n3 w) (hnews _ (.inl rfl)) (by omega)
    rw[←vx,hnews0] at hr
    simp only[storeCells,Sem.run_pure,Result.andThen_ok] at hr
    refine⟨_,_,_,z2Na ho hr,.inl rfl,?_⟩
    rw[hef,hys0]
    have hnlr:nlr≠some true:=by
     intro e
     subst e
     simp only at hnl
     split at hnl
     ·rename_i hsl;cases hsl;exact hnlx rfl
     ·cases hnl
    by_cases hn0:n=0
    ·have hcs0:cs=[]:=List.eq_nil_of_length_eq_zero (by rw[hlen,hn0,Nat.zero_mul])
     rw[if_pos hn0,hcs0]
     refine⟨g,hI,hS,?_⟩
     subst hn0 hm0
     simp only[Rep,z9b,List.append_nil,Nat.add_zero]
     exact⟨.inl ⟨bk,off,cap,rfl,by omega,by simp[z4b],hnlr,by simp⟩,fun l hl=> .inl (.inr ⟨⟨some ⟨bk,off,none⟩,by rw[hcapn]⟩,trivial⟩)⟩
    ·rw[if_neg hn0]
     refine⟨g,hI,hS,?_⟩
     subst hm0
     simp only[Rep,z9b,List.append_nil,Nat.add_zero]
     exact .inl ⟨bk,off,cap,rfl,hcap,hc,hnlr,by simp⟩
   ·exact grow _ cap olds vx (by omega) v2 (z5a.isPure _ _ v3) hol hfc (by omega)
  ·by_cases hm0:m=0
   ·have hnews0:news=[]:=List.eq_nil_of_length_eq_zero (by rw[n2,hm0,Nat.zero_mul])
    have hys0:z0c (bxl getB b) (arg K.E get y)=[]:=List.eq_nil_of_length_eq_zero (by rw[n1.len,hnews0];rfl)
    have hr:=z0ob (P:=K.P) (ty:=o.type) w hu hd2 hd2' hi (base:=q) (sLen:=0) (sCap:=0) (x:=a.eval y') (news:=news) (n3 w) (hnews _ (.inl rfl)) (by omega)
    rw[←vx,hnews0] at hr
    have hr:(Builtin.append_ #[t1,t2] o.type #[a.eval x',a.eval y']).run K.P w= .ok (.slice q (0+m) 0) w:=by
     rw[hr];cases q<;>simp[storeCells]
    refine⟨_,_,_,z2Na ho hr,.inl rfl,?_⟩
    rw[hef,hys0,if_pos rfl]
    refine⟨g,hI,hS,?_⟩
    subst hm0
    simp only[Rep,z9b,List.append_nil,Nat.add_zero]
    refine⟨.inr ⟨q,rfl,trivial,trivial,?_⟩,fun l hl=> .inl (.inr ⟨⟨q,rfl⟩,trivial⟩)⟩
    intro e
    cases q with
    |none=>
     simp only[Option.isSome_none] at e hnlx
     subst e
     simp only at hnl
     split at hnl
     ·rename_i hsl;cases hsl;exact hnlx rfl
     ·omega
    |some q=>
     simp only[Option.isSome_some] at e hnlx
     subst e
     simp only at hnl
     split at hnl
     ·rename_i hsl;cases hsl;exact hnlx rfl
     ·cases hnl
   ·exact grow q 0 [] vx (by omega) (by simp[z2b]) rfl (by simp) (by
     cases q with
     |none=>simp[Builtin.firstCells]
     |some q=>simp only[Builtin.firstCells,Nat.zero_mul];exact z5Pa w.drew q) (by omega)
 ·cases hx0

theorem z5wc (hI:Inv K base g w getB) (hS:z3v K g w get a) {esz bytes:Nat} {str:Bool} {nlr:Option Bool} {b:Option Nat} {x:Nat} {y:Arg} (h:z7Rb K o.op esz bytes str (.s x) y=true) (hok:okp K.E get getB (.append esz bytes str nlr b x y)):
  z51a K base a get getB d o (.append esz bytes str nlr b x y) w:=by
 obtain⟨x',y',t1,t2,e,i,z,d2,ho,hu,hi,hsz,hby,hz,hzs,hd2,hd2',hx,hy⟩:=z1Xb h
 have:=z02a hx
 subst this
 obtain⟨hx0,hap⟩:=hok
 have rx:=z3Gb hS x
 split at hx0
 ·rename_i e0 nl n cs ex
  subst hx0
  have hap':=hap
  obtain⟨hy0,hbytes,h40,hnl,hcells⟩:=hap
  rw[ex] at rx hbytes h40 hnl hap'
  obtain⟨news,n1,n2,n3,n4⟩:=z4Dc hI hS hy hy0
  generalize hm:z7e (arg K.E get y)=m at*
  simp only[z7e] at hbytes h40
  have hnews:∀w1,(w1=w∨w1=w.drew)→(Builtin.firstCells i.size m (a.eval y')).run K.P w1= .ok news.toArray w1:=fun w1 hw=>by
   have:=n4 m w1 (Nat.le_refl _) hw
   rw[List.take_of_length_le (by rw[n2];exact Nat.le_refl _)] at this
   rw[hsz];exact this
  have hpy:z8b (z0c (bxl getB b) (arg K.E get y))=true:=(z4i _).2 fun c hc=>(hcells c hc).1
  have hones:=z8fe n1 fun c hc=>(hcells c hc).2
  have hef:eff K.E get getB (.append e0 bytes str nlr b x y)={val:= .sl (.own e0) nlr (n+m) (cs++z0c (bxl getB b) (arg K.E get y)),sl:=[(x,dem (get x))]}:=by simp only[eff,ex,hm];rfl
  have hsl:∀g1 w1,z3v K g1 w1 get a→z3v K g1 w1 (upd get [(x,dem (get x))]) a:=fun g1 w1 hslots s=>by
   simp only[upd,lk]
   by_cases hs:s=x
   ·rw[if_pos hs,hs];exact Rep.dem _ (hslots x)
   ·simp only[if_neg hs,Option.getD_none];exact hslots s
  have grow:∀(base':Option Addr) (cap:Nat) (olds:List Value),a.eval (.tmp x)= .slice base' n cap→cap<n+m→z2b K.toCon g w cs olds→z8b cs=true→olds.length=n*e0→
    (Builtin.firstCells i.size n (.slice base' n cap)).run K.P w.drew= .ok olds.toArray w.drew→0<m→z51a K base a get getB d o (.append e0 bytes str nlr b x y) w:=fun base' cap olds hv hc hold hpc hol hfc hm0=>by
   have hr:=z42b (P:=K.P) (ty:=o.type) w hu hd2 hd2' hi hz (x:=a.eval y') (news:=news) (olds:=olds) (n3 w) (hnews _ (.inr rfl)) hfc hc (by rw[hby];omega) (by omega)
   rw[←hv] at hr
   refine⟨_,_,_,z2Na ho hr,.inl rfl,?_⟩
   rw[hef]
   exact z76b hI hS (fun g1 w1 _ h=>hsl g1 w1 h) (z0bc hap' (by rw[hm];exact hm0)) (grownCap_ge _ _ _ _) hold hpc hol n1 hpy n2 (by rw[size_zeroCells,hzs])
  simp only[Rep] at rx
  obtain⟨rp,hown⟩:=rx
  simp only[z9b] at rp
  by_cases hm0:m=0
  ·
   have hnews0:news=[]:=List.eq_nil_of_length_eq_zero (by rw[n2,hm0,Nat.zero_mul])
   have hys0:z0c (bxl getB b) (arg K.E get y)=[]:=List.eq_nil_of_length_eq_zero (by rw[n1.len,hnews0];rfl)
   have hvx:∃p cap,a.eval (.tmp x)= .slice p n cap∧n≤cap:=by
    rcases rp with⟨bk,off,cap,vx,hcap,_⟩|⟨q,vx,rfl,_⟩
    ·exact⟨_,_,vx,hcap⟩
    ·exact⟨_,_,vx,Nat.le_refl _⟩
   obtain⟨p,cap,vx,hcap⟩:=hvx
   have hr:=z0ob (P:=K.P) (ty:=o.type) w hu hd2 hd2' hi (base:=p) (sLen:=n) (sCap:=cap) (x:=a.eval y') (news:=news) (n3 w) (hnews _ (.inl rfl)) (by omega)
   rw[←vx,hnews0] at hr
   have hr':(Builtin.append_ #[t1,t2] o.type #[a.eval (.tmp x),a.eval y']).run K.P w= .ok (a.eval (.tmp x)) w:=by
    rw[hr,vx,hm0]
    cases p<;>simp[storeCells]
   obtain⟨g',h1,h2,h3,_⟩:=z5db hI hS x (d.map .slot)
   refine⟨_,_,_,z2Na ho hr',.inl rfl,?_⟩
   rw[hef,hys0,hm0,List.append_nil,Nat.add_zero]
   refine⟨g',h1,h2,?_⟩
   rw[ex] at h3
   simp only[Rep] at h3⊢
   refine⟨?_,h3.2⟩
   have h31:=h3.1
   simp only[z9b] at h31⊢
   rcases h31 with⟨bk,off,cap,q1,q2,q3,q4,q5⟩|⟨q,q1,q2,q3,q4⟩
   ·refine .inl ⟨bk,off,cap,q1,q2,q3,?_,q5⟩
    intro e1
    subst e1
    simp only at hnl
    split at hnl
    ·rename_i hsl';cases hsl';exact q4 rfl
    ·cases hnl
   ·refine .inr ⟨q,q1,q2,q3,?_⟩
    intro e1
    cases q with
    |none=>
     simp only[Option.isSome_none] at e1 q4
     subst e1
     simp only at hnl
     split at hnl
     ·rename_i hsl';cases hsl';exact q4 rfl
     ·omega
    |some q=>
     simp only[Option.isSome_some] at e1 q4
     subst e1
     simp only at hnl
     split at hnl
     ·rename_i hsl';cases hsl';exact q4 rfl
     ·cases hnl
  ·rcases rp with⟨bk,off,cap,vx,hcap,hc,hnlx,_⟩|⟨q,vx,rfl,rfl,hnlx⟩
   ·rw[vx] at hown
    rcases hown (.slot x) rfl with(hz0|⟨⟨p,hz0⟩,hcs0⟩)|hO
    ·simp at hz0
    ·simp only[Value.slice.injEq] at hz0
     obtain⟨_,rfl,rfl⟩:=hz0
     subst hcs0
     have hfc0:(Builtin.firstCells i.size 0 (.slice (some ⟨bk,off,none⟩) 0 0)).run K.P w.drew= .ok ([]:List Value).toArray w.drew:=by
      simp only[Builtin.firstCells,Nat.zero_mul]
      exact z5Pa w.drew _
     exact grow _ 0 [] vx (by omega) (by simp[z2b]) rfl (by simp) hfc0 (by omega)
    ·obtain⟨b',cap',q1,q2,q3,q4,q5,q6⟩:=hO
     simp only[Value.slice.injEq,Option.some.injEq,Addr.mk.injEq] at q1
     obtain⟨⟨rfl,rfl,_⟩,_,rfl⟩:=q1
     obtain⟨olds,v1,v2,v3⟩:=hc.vals
     have hol:olds.length=n*e0:=by rw[←v2.len,q3]
     have q6t:w.there bk (n*e0) (cap*e0-n*e0):=fun j hj=>by
      have:=q6 (n*e0+j) (by omega)
      rw[Nat.zero_add] at this
      exact this
     by_cases hroom:n+m≤cap
     ·have hthere:w.there bk (n*e0) news.length:=fun j hj=>by
       have:n*e0+m*e0≤cap*e0:=by rw[←Nat.add_mul];exact Nat.mul_le_mul_right _ hroom
       exact q6t j (by omega)
      have hst:=run_storeCells_cells (P:=K.P) bk (n*e0) news 0 w (fun j hj=>by simpa using(hthere j hj).1) (fun j hj=>by simpa using(hthere j hj).2) hones
      have hr:=z0ob (P:=K.P) (ty:=o.type) w hu hd2 hd2' hi (base:=some ⟨bk,0,none⟩) (sLen:=n) (sCap:=cap) (x:=a.eval y') (news:=news) (n3 w) (hnews _ (.inl rfl)) hroom
      rw[←vx] at hr
      simp only[hsz,Addr.add_mid,Nat.zero_add,Nat.add_zero] at hr hst
      rw[hst] at hr
      simp only[Result.andThen_ok] at hr
      obtain⟨k1,k2,k3⟩:=z61c hI q5 q4 q6t (d.map .slot) news n2 hroom
      refine⟨_,_,_,z2Na ho hr,.inl rfl,?_⟩
      rw[hef]
      refine⟨z2Ya g bk ((n+m)*e0) (d.map .slot),k3 (by simp),fun s=> ?_,?_⟩
      ·simp only[upd,lk]
       by_cases hs:s=x
       ·subst hs
        simp only[if_true,Option.getD_some,ex,Abs.dem,Rep]
        have:z9b K.toCon g.S w (.sl .plain nl n cs) (a.tmps.getD s undef):=by
         have hh:=hS s
         rw[ex] at hh
         simp only[Rep] at hh
         exact hh.1
        exact z9b.mono k1 _ _ this
       ·simp only[if_neg hs,Option.getD_none]
        exact Rep.mono k1 _ _ _ _ (fun _ _ _ h=>h) (fun l hl=>⟨l,hl,k2 l (by cases hl;simpa using hs)⟩) (hS s)
      ·simp only[Rep]
       have hlen:(cs++z0c (bxl getB b) (arg K.E get y)).length=(n+m)*e0:=by rw[List.length_append,q3,n1.len,n2,Nat.add_mul]
       refine⟨?_,fun l hl=> .inr ⟨bk,cap,rfl,hroom,hlen,by simp[z2Ya],by simp[z2Ya,hl],?_⟩⟩
       ·simp only[z9b]
        refine .inl ⟨bk,0,cap,rfl,hroom,z4b.mk fun j c hj=> ?_,z0bc hap' (by rw[hm];omega),by simp⟩
        have hlt:=(List.getElem?_eq_some_iff.1 hj).1
        refine⟨by simp[z2Ya];omega,?_⟩
        rw[Nat.zero_add]
        by_cases hjn:j<cs.length
        ·rw[List.getElem?_append_left hjn] at hj
         obtain⟨q,⟨u,hu,hp⟩⟩:=hc.get j c hj
         rw[Nat.zero_add] at q hu
         obtain⟨_,hu'⟩:=k1 bk j u q hu
         exact⟨u,hu',z9b.mono k1 c u hp⟩
        ·rw[List.getElem?_append_right (by omega)] at hj
         obtain⟨u,hu,hru⟩:=n1.get _ c hj
         have hju:j-cs.length<news.length:=(List.getElem?_eq_some_iff.1 hu).1
         refine⟨u,?_,z9b.mono k1 c u (Rep.pure c u none ((z4i _).1 hpy c (z3ya hj)) hru)⟩
         have:=World.cell?_setCells_in bk news (n*e0) w (fun j hj=>(hthere j hj).1) (j-cs.length) hju
         rw[show n*e0+(j-cs.length)=j by omega] at this
         rw[this,←hu,List.getElem?_eq_getElem hju]
       ·intro j hj
        exact World.there_setCells q6 bk (n*e0) news j hj
     ·have hfc:(Builtin.firstCells i.size n (.slice (some ⟨bk,0,none⟩) n cap)).run K.P w.drew= .ok olds.toArray w.drew:=
       run_firstCells_some (P:=K.P) w.drew i.size n ⟨bk,0,none⟩ n cap olds (by rw[hsz,hol]) (fun j v hv=>by rw[Addr.add_mid];exact v1 j v hv)
      exact grow _ cap olds vx (by omega) v2 (z5a.isPure _ _ v3) hol hfc (by omega)
   ·exact grow q 0 [] vx (by omega) (by simp[z2b]) rfl (by simp) (by
     cases q with
     |none=>simp[Builtin.firstCells]
     |some q=>simp only[Builtin.firstCells,Nat.zero_mul];exact z5Pa w.drew q) (by omega)
 ·cases hx0

end
end Go.Abs
end

section
namespace Go.Abs

section
variable {K : Cx} {base : z4f} {g g' : Gh} {w w' : World} {get : Nat → z0a} {getB : Nat → Option (List z0a)} {a : Act} {o : Oper} {d : Option Nat}

def z2wc (K:Cx) (op:Op) (esz:Nat) (str:Bool) (x y:Arg):Bool:=
 match op with
 | .call c=>(match c.callee,c.args.toList,c.argTypes.toList with
  | .builtin .copy,[x',y'],[t1,_]=>(match K.P.underlying t1 with|some (.slice e)=>z9Oa K.P e esz|_=>false)&&z7wa K x' x&&z7wa K y' y
  |_,_,_=>false)
 |_=>false

theorem z58c {P:Program} (w:World) {t1 t2 ty e:TypeId} {esz:Nat} (h1:P.underlying t1=some (.slice e)) (hs:z9Oa P e esz=true) {bk o dLen dCap m:Nat} {x:Value} {news:List Value}
  (hlen:(Builtin.lenOf x).run P w= .ok m w) (hnews:(Builtin.firstCells esz (Nat.min m dLen) x).run P w= .ok news.toArray w) (ht:w.there bk o news.length) (h1c:∀v∈news,v.oneCell'=true):
  (Builtin.copy_ #[t1,t2] ty #[.slice (some ⟨bk,o,none⟩) dLen dCap,x]).run P w= .ok (.int .i64 (Nat.min m dLen:Nat)) (w.setCells bk o news):=by
 have hst:=run_storeCells_cells (P:=P) bk o news 0 w (fun j hj=>by simpa using(ht j hj).1) (fun j hj=>by simpa using(ht j hj).2) h1c
 simp only[Nat.add_zero] at hst
 simp[Builtin.copy_,run_underlying h1,run_sizeOf w hs,hlen,hnews,hst,goInt]

theorem z40c (hI:Inv K base g w getB) (hS:z3v K g w get a) {esz:Nat} {str:Bool} {db:Nat} {b:Option Nat} {x y:Arg} (h:z2wc K o.op esz str x y=true) (hok:okp K.E get getB (.copy esz str db b x y)):z51a K base a get getB d o (.copy esz str db b x y) w:=by
 unfold z2wc at h
 split at h
 ·rename_i c ho
  split at h
  ·rename_i x' y' t1 t2 hc hargs hts
   obtain⟨callee,args,ts⟩:=c
   simp only at hc hargs hts
   subst hc
   have:=z8Od hargs
   subst this
   have:=z8Od hts
   subst this
   simp only[Bool.and_eq_true] at h
   obtain⟨⟨h,hx⟩,hy⟩:=h
   split at h
   ·rename_i e hu
    obtain⟨hob,hx0,hy0,hcells⟩:=hok
    have rx:=z3qa hI hS hx
    split at hx0
    ·rename_i id e' off n cp ex
     obtain⟨rfl,rfl,cs,hcs,hfit⟩:=hx0
     rw[ex] at rx
     simp only[Rep] at rx
     obtain⟨bk,cap,o',hbk,vx,hcap,_,ho'⟩:=rx
     obtain⟨news,n1,n2,n3,n4⟩:=z4Dc hI hS hy hy0
     generalize hm:z7e (arg K.E get y)=m at*
     have hf:=n4 (Nat.min m n) w (Nat.min_le_left _ _) (.inl rfl)
     have hones:=z8fe n1 fun c hc=>(hcells c hc).1
     have hle:(Nat.min m n)*e'≤m*e':=Nat.mul_le_mul_right _ (Nat.min_le_left _ _)
     have hle2:(Nat.min m n)*e'≤n*e':=Nat.mul_le_mul_right _ (Nat.min_le_right _ _)
     have htl:(news.take (Nat.min m n*e')).length=Nat.min m n*e':=by rw[List.length_take,n2];exact Nat.min_eq_left hle
     have hthere:w.there bk o' (news.take (Nat.min m n*e')).length:=by
      rw[htl]
      rcases ho' with rfl|⟨rfl,_⟩
      ·exact z6yb hI hcs hbk o' _ (by omega)
      ·intro j hj;simp at hj
     have hr:=z58c (P:=K.P) (ty:=o.type) (t2:=t2) w hu h (dCap:=cap) (n3 w) hf hthere (fun v hv=>hones v (List.mem_of_mem_take hv))
     rw[←vx] at hr
     have hrun:(execOp a.eval o).run K.P w= .ok (.value (.int .i64 (Nat.min m n:Nat))) (w.setCells bk o' (news.take (Nat.min m n*e'))):=by
      simp only[execOp,ho,resolve,Sem.run_bind,Sem.run_pure,Result.andThen_ok,invoke,builtin]
      simp[hr]
     have hbx:bxl getB (some id)=cs:=by simp[bxl,bxc,hcs]
     have hef:eff K.E get getB (.copy e' str id b x y)={val:= .lit (.int .i64 (Nat.min m n:Nat)),bx:=[(id,some (splice cs off ((z0c (bxl getB b) (arg K.E get y)).take (Nat.min m n*e'))))]}:=by
      simp only[eff,ex,hbx,hm]
     refine⟨_,_,_,hrun,.inl rfl,?_⟩
     rw[hef]
     have n1':=n1.take (Nat.min m n*e')
     have hlen':=n1'.len
     have hown:∀c∈(z0c (bxl getB b) (arg K.E get y)).take (Nat.min m n*e'),z5b c=false:=fun c hc=>(hcells c (List.mem_of_mem_take hc)).2
     generalize hds:(z0c (bxl getB b) (arg K.E get y)).take (Nat.min m n*e')=ds at*
     generalize hvs:news.take (Nat.min m n*e')=vs at*
     rcases ho' with rfl|⟨rfl,_⟩
     ·obtain⟨bk',k1,k2,k3⟩:=z0nb hI hob hcs o' vs ds hlen' (by omega) (fun i c u hc hu=>by
       obtain⟨u',hu',hr'⟩:=n1'.get i c hc
       rw[hu] at hu';cases hu'
       exact z29a _ (hown c (z3ya hc)) hr')
      rw[hbk] at k1;cases k1
      exact⟨g,k3,k2.slots hS,z6Ma _ _⟩
     ·have hz:Nat.min m 0=0:=Nat.min_zero m
      have hvs0:vs=[]:=List.eq_nil_of_length_eq_zero (by rw[htl,hz,Nat.zero_mul])
      have hds0:ds=[]:=List.eq_nil_of_length_eq_zero (by rw[hlen',hvs0];rfl)
      rw[hvs0,hds0]
      have hsp:splice cs off ([]:List z0a)=cs:=by simp[splice]
      rw[hsp]
      have hup:z9Qb getB [(id,some cs)]=getB:=funext fun j=>by
       rw[z61b]
       split
       ·rename_i hj;rw[hj,hcs]
       ·rfl
      exact⟨g,by rw[hup];exact hI,hS,z6Ma _ _⟩
    ·cases hx0
   ·cases h
  ·cases h
 ·cases h

theorem z9oc (hI:Inv K base g w getB) (hS:z3v K g w get a) {esz bytes:Nat} {str:Bool} {id:Nat} {b:Option Nat} {x y:Arg} (h:z7Rb K o.op esz bytes str x y=true) (hok:okp K.E get getB (.appendB esz bytes str id b x y)):
  z51a K base a get getB d o (.appendB esz bytes str id b x y) w:=by
 obtain⟨x',y',t1,t2,e,i,z,d2,ho,hu,hi,hsz,hby,hz,hzs,hd2,hd2',hx,hy⟩:=z1Xb h
 obtain⟨hob,hx0,hy0,hcells⟩:=hok
 have rx:=z3qa hI hS hx
 split at hx0
 ·rename_i id' e' off n c ex
  obtain⟨rfl,rfl,⟨cs,hcs,hfit⟩,hc,hc0⟩:=hx0
  rw[ex] at rx
  simp only[Rep] at rx
  obtain⟨bk,cap,o',hbk,vx,hcap,hccap,ho',hxc⟩:=rx
  have hoo:o'=off:=ho'.resolve_right (by omega)
  subst hoo
  obtain⟨news,n1,n2,n3,n4⟩:=z4Dc hI hS hy hy0
  generalize hm:z7e (arg K.E get y)=m at*
  have hnews:(Builtin.firstCells i.size m (a.eval y')).run K.P w= .ok news.toArray w:=by
   have:=n4 m w (Nat.le_refl _) (.inl rfl)
   rw[List.take_of_length_le (by rw[n2];exact Nat.le_refl _)] at this
   rw[hsz];exact this
  have hones:=z8fe n1 fun c hc=>(hcells c hc).1
  have hfit':o'+n*e'+m*e'≤cs.length:=by rw[Nat.add_assoc,←Nat.add_mul];exact hfit
  have hthere:w.there bk (o'+n*e') news.length:=z6yb hI hcs hbk _ _ (by rw[n2];exact hfit')
  have hst:=run_storeCells_cells (P:=K.P) bk (o'+n*e') news 0 w (fun j hj=>by simpa using(hthere j hj).1) (fun j hj=>by simpa using(hthere j hj).2) hones
  have hr:=z0ob (P:=K.P) (ty:=o.type) w hu hd2 hd2' hi (base:=some ⟨bk,o',none⟩) (sLen:=n) (sCap:=cap) (x:=a.eval y') (news:=news) (n3 w) hnews (by omega)
  rw[←vx] at hr
  simp only[hsz,Addr.add_mid,Nat.add_zero] at hr hst
  rw[hst] at hr
  simp only[Result.andThen_ok] at hr
  have hbx:bxl getB (some id')=cs:=by simp[bxl,bxc,hcs]
  have hef:eff K.E get getB (.appendB e' bytes str id' b x y)={val:= .bv id' e' o' (n+m) c,bx:=[(id',some (splice cs (o'+n*e') (z0c (bxl getB b) (arg K.E get y))))]}:=by
   simp only[eff,ex,hbx,hm]
  refine⟨_,_,_,z2Na ho hr,.inl rfl,?_⟩
  rw[hef]
  obtain⟨bk',k1,k2,k3⟩:=z0nb hI hob hcs (o'+n*e') news _ n1.len (by rw[n1.len,n2];exact hfit') (fun i c u hc hu=>by
   obtain⟨u',hu',hr'⟩:=n1.get i c hc
   rw[hu] at hu';cases hu'
   exact z29a _ (hcells c (z3ya hc)).2 hr')
  rw[hbk] at k1;cases k1
  exact⟨g,k3,k2.slots hS,by simp only[Rep];exact⟨bk,cap,o',hbk,rfl,by omega,hccap,.inl rfl,hxc⟩⟩
 ·cases hx0


/-! ### clearing -/
def z7Hc:z0a→Bool| .agg _=>false| .tup _=>false| .otup _ _ _ _ _=>false| .oagg _ _ _ _ _ _=>false| .undef=>false| .lit (.agg _)=>false| .lit (.tuple _)=>false|_=>true
theorem z5wb {c:z0a} (h:z7Hc c=true):z8a c:=by
 unfold z7Hc at h
 unfold z8a
 split at h<;>simp_all

def z5kd (K:Cx) (op:Op) (x:AOp):Bool:=
 match x with
 | .mv _ y=>z7vd K op y
 | .pick c p q=>z7xc K op c p q
 | .bin bo p q=>z06c K op bo p q
 | .eqb .. =>false
 | .eqF ks n p q=>z1Wc K op ks n p q
 | .eqnil n p q=>z5dc K op n p q
 | .un uo p=>z2ud K op uo p
 | .toInt k p=>z8Qa K op (z4vd K.P k) p
 | .toStr _ p=>z8Qa K op (z5rd K.P) p
 | .toBytes p=>z8Qa K op (z7tc K.P) p
 | .same .. =>false
 | .mark .. =>false
 | .extractO .. =>false
 | .build z ps=>z5Ab K op z ps&&z.all z7Hc
 | .buildO .. =>false
 | .storeO .. =>false
 | .buildSl esz n z ps=>z1cb K op esz n z ps&&z.all z7Hc
 | .load k _ _ p=>z23b K op k p
 | .store k _ _ p v=>z6Ab K op k p v
 | .nilchk p=>z01c K op p
 | .buildBx _ esz n z ps=>(z1cb K op esz n z ps||(z4tc K op esz n z&&ps.isEmpty))&&z.all z7Hc
 | .fieldAddr off p=>z7Cd K op off p
 | .idxArr n esz p i=>z6Kd K op n esz p i
 | .idxSl esz p i=>z8Id K op esz p i
 | .slArr n esz p l h m=>z75c K op n esz p l h m
 | .slSl esz p l h m=>z78b K op esz p l h m
 | .slCap .. =>false
 | .slStr p l h=>z89b K op p l h
 | .s2ap n p=>z2Ed K op n p
 | .alloc _ z=>z9cc K op z
 | .box _ k _ p=>z8Vc K op k p
 | .extract i p=>z7Tc K op i p
 | .field .. =>false
 | .idxA k esz n p i=>z1tc K op k esz n p i
 | .idxStr p i=>z7yc K op p i
 | .call _ _ _=>false
 | .callv _ _ _ _=>false
 | .callm _ _ _ _ _=>false
 | .callw _ _ _ _ _=>false
 | .newB .. =>false
 | .bld _ _ _ _ _=>false
 | .len s p=>z43c K op s p
 | .append esz by' s _ _ p q=>z7Rb K op esz by' s (.s p) q
 | .appendC esz by' s _ _ p q=>z7Rb K op esz by' s p q
 | .copy esz s _ _ p q=>z2wc K op esz s p q
 | .appendB esz by' s _ _ p q=>z7Rb K op esz by' s p q
 | .clearB .. =>false
 | .min2 .. =>false
 | .max2 .. =>false
 | .mkfn f p q=>z0ac K op f p q
 | .unsup=>true

theorem z3fd (hI:Inv K base g w getB) (hS:z3v K g w get a) {x:AOp} (h:z5kd K o.op x=true) (hok:okp K.E get getB x):z51a K base a get getB d o x w:=by
 cases x<;>simp only[z5kd,Bool.and_eq_true,List.all_eq_true] at h
 case mv t y=>exact z9Kd hI hS t h
 case pick=>exact z0Oc hI hS h hok
 case bin=>exact z1cd hI hS h hok
 case eqb=>cases h
 case eqF=>exact z6jd hI hS h hok
 case eqnil=>exact z8Jc hI hS h hok
 case un=>exact z1yd hI hS h hok
 case toInt=>exact z7Ic hI hS h hok
 case toStr=>exact z5Ic hI hS h hok
 case toBytes=>exact z1oc hI hS h hok
 case same=>cases h
 case mark=>cases h
 case extractO=>cases h
 case build=>exact z3Ic hI hS h.1 (fun c hc=>z5wb (h.2 c hc)) hok
 case buildO=>cases h
 case storeO=>cases h
 case buildSl=>exact z3nc hI hS h.1 (fun c hc=>z5wb (h.2 c hc)) hok
 case load=>exact z33c hI hS h hok
 case store=>exact z0Lc hI hS h hok
 case nilchk=>exact z9rc hI hS h hok
 case buildBx id esz n z ps=>
  obtain⟨h1,h2⟩:=h
  rw[Bool.or_eq_true] at h1
  rcases h1 with h1|h1
  ·exact z0mc hI hS h1 (fun c hc=>z5wb (h2 c hc)) hok
  ·simp only[Bool.and_eq_true,List.isEmpty_iff] at h1
   obtain⟨h1,rfl⟩:=h1
   exact z71c hI hS h1 (fun c hc=>z5wb (h2 c hc)) hok
 case fieldAddr=>exact z15b hI hS h hok
 case idxArr=>exact z5rc hI hS h hok
 case idxSl=>exact z4Ic hI hS h hok
 case slArr=>exact z6Jc hI hS h hok
 case slSl=>exact z1Vc hI hS h hok
 case slCap=>cases h
 case slStr=>exact z3Kc hI hS h hok
 case s2ap=>exact z35c hI hS h hok
 case alloc=>exact z1Jc hI hS h hok
 case box=>exact z2kd hI hS h hok
 case extract=>exact z4lc hI hS h hok
 case field=>cases h
 case idxA=>exact z6Oc hI hS h hok
 case idxStr=>exact z6vc hI hS h hok
 case call=>cases h
 case callv=>cases h
 case callm=>cases h
 case callw=>cases h
 case newB=>cases h
 case bld=>cases h
 case len=>exact z4cd hI hS h hok
 case append=>exact z5wc hI hS h hok
 case appendC=>exact z1pc hI hS h hok
 case copy=>exact z40c hI hS h hok
 case appendB=>exact z9oc hI hS h hok
 case clearB=>cases h
 case min2=>cases h
 case max2=>cases h
 case mkfn=>exact z42c hI hS h
 case unsup=>exact hok.elim

end
end Go.Abs
end

section
namespace Go.Abs

def z4z (P:Program) (f:FuncId):Prop:=∃fn,P.funcs[f]? =some fn∧fn.body.isSome=true∧(fn.name== "runtime.NumGoroutine")=false

def z1a (K:Cx) (f:Nat) (c:z1f):Prop:=
 z4z K.P (K.nu f)∧∀(S:Nat→Nat) (w:World) (ds:List z0a) (vs:List Value),(∀n∈K.N.gs,z4b K.toCon S w (K.E.T n) (K.N.gnum n) 0)→z5a K.toCon S w ds vs→c.pre ds→
  Calls K.P (K.nu f) vs.toArray w fun e w'=>∃v g',e= .returned v∧Fr w.heap.size (fun _=>False) w w'∧Rep K.toCon g' w' (some .ret) (c.post ds) v∧
   (∀b l,g'.ow b=some l→w.heap.size≤b∧b<w'.heap.size)∧∀b,b<w.heap.size→g'.S b=S b

section
variable {K : Cx} {base : z4f} {g g' : Gh} {w w' : World} {get : Nat → z0a} {getB : Nat → Option (List z0a)} {a : Act} {o : Oper} {d : Option Nat}

mutual
theorem z42a {g':Gh} {w':World}:∀(c:z0a) (v:Value) (l l':Option Loc),z6c c=true→Rep K.toCon g w l c v→Rep K.toCon g' w' l' c v
 | .lit x,v,_,_,_,h=>by simpa only[Rep] using h
 | .agg cs,v,_,_,hm,h=>by
  simp only[Rep,z6c] at h hm⊢
  obtain⟨a,rfl,h⟩:=h
  exact⟨a,rfl,z5xb cs _ hm h⟩
 | .tup cs,v,_,_,hm,h=>by
  simp only[Rep,z6c] at h hm⊢
  obtain⟨a,rfl,h⟩:=h
  exact⟨a,rfl,z5xb cs _ hm h⟩
 | .undef,_,_,_,_,_=>by simp[Rep]
 | .sl _ _ _ _,_,_,_,hm,_=>by simp[z6c] at hm
 | .ep _,_,_,_,hm,_=>by simp[z6c] at hm
 | .otup _ _ _ _ _,_,_,_,hm,_=>by simp[z6c] at hm
 | .oagg _ _ _ _ _ _,_,_,_,hm,_=>by simp[z6c] at hm
 | .fn _ _ _,_,_,_,hm,_=>by simp[z6c] at hm
 | .bp _ _,_,_,_,hm,_=>by simp[z6c] at hm
 | .bv _ _ _ _ _,_,_,_,hm,_=>by simp[z6c] at hm
theorem z5xb {g':Gh} {w':World}:∀(cs:List z0a) (vs:List Value),z7a cs=true→z2b K.toCon g w cs vs→z2b K.toCon g' w' cs vs
 |[],vs,_,h=>by simpa only[z2b] using h
 |c::cs,vs,hm,h=>by
  simp only[z2b,z7a,Bool.and_eq_true] at h hm⊢
  obtain⟨x,xs,rfl,h1,h2⟩:=h
  exact⟨x,xs,rfl,z42a c x none none hm.1 h1,z5xb cs xs hm.2 h2⟩
end

noncomputable def z3Cb (g:Gh) (getB:Nat→Option (List z0a)) (bs:List Nat):Nat→Nat:=fun b=>by
 classical exact if h:∃id,id∈bs∧g.mu id=some b then((getB h.choose).getD []).length else g.S b

theorem z7hc (hI:Inv K base g w getB) {bs:List Nat} {id b:Nat} (hid:id∈bs) (hb:g.mu id=some b):z3Cb g getB bs b=((getB id).getD []).length:=by
 unfold z3Cb
 have h:∃id,id∈bs∧g.mu id=some b:=⟨id,hid,hb⟩
 rw[dif_pos h]
 have:=hI.inj _ _ _ h.choose_spec.2 hb
 rw[this]
theorem z92a {bs:List Nat} {b:Nat} (h:∀id,id∈bs→g.mu id≠some b):z3Cb g getB bs b=g.S b:=by
 unfold z3Cb
 rw[dif_neg]
 rintro⟨id,h1,h2⟩
 exact h id h1 h2

theorem z3Ma (hI:Inv K base g w getB) (bs:List Nat) (hbs:∀id∈bs,∃cs,getB id=some cs∧∀c∈cs,z0b c=true):z9d g.S w (z3Cb g getB bs) w:=fun b i x hi hc=>by
 refine⟨?_,hc⟩
 by_cases h:∃id,id∈bs∧g.mu id=some b
 ·obtain⟨id,h1,h2⟩:=h
  obtain⟨cs,hcs,_⟩:=hbs id h1
  obtain⟨b',k1,k2,_⟩:=hI.bxok id cs hcs
  rw[h2] at k1;cases k1
  omega
 ·rw[z92a fun id h1 h2=>h ⟨id,h1,h2⟩]
  exact hi

theorem z8mc (hI:Inv K base g w getB) {bs:List Nat} (hbs:∀id∈bs,∃cs,getB id=some cs∧∀c∈cs,z0b c=true) {c:z0a} {v:Value} {l:Option Loc} (h:Rep K.toCon g w l c v)
  (hok:z8e bs (fun id=>if id∈bs then getB id else none) c):z9b K.toCon (z3Cb g getB bs) w (z1k (fun id=>if id∈bs then(getB id).getD [] else []) c) v:=by
 have hk:=z3Ma hI bs hbs
 have box:∀{id b:Nat} {cs:List z0a},id∈bs→getB id=some cs→g.mu id=some b→z4b K.toCon (z3Cb g getB bs) w cs b 0:=fun {id b cs} h1 h2 h3=>z4b.mk fun i e he=>by
  obtain⟨b',k1,k2,k3⟩:=hI.bxok id cs h2
  rw[h3] at k1;cases k1
  obtain⟨⟨x,hx,hr⟩,_⟩:=k3 i e he
  obtain⟨cs',hcs',hp⟩:=hbs id h1
  rw[h2] at hcs';cases hcs'
  rw[Nat.zero_add]
  refine⟨?_,x,hx,z9b.mono hk e x (Rep.pure e x _ (hp e (z3ya he)) hr)⟩
  rw[z7hc hI h1 h3,h2]
  exact(List.getElem?_eq_some_iff.1 he).1
 cases c with
 |sl m nl n cs=>
  simp only[z1k];exact z9b.mono hk _ _ (z7Ub h)
 |lit x=>
  simp only[Rep] at h
  subst h
  by_cases hx:v= .slice none 0 0
  ·subst hx
   simp only[z1k,z9b]
   exact .inr (by simp)
  ·have:z1k (fun id=>if id∈bs then(getB id).getD [] else []) (.lit v)= .lit v:=by
    unfold z1k
    split
    ·rename_i hh;cases hh
    ·rename_i hh;cases hh;exact absurd rfl hx
    ·rename_i hh;cases hh
    ·rename_i hh;cases hh
    ·rfl
   rw[this]
   simp[z9b]
 |bp id off=>
  simp only[z8e] at hok
  obtain⟨h1,cs,h2,h3⟩:=hok
  rw[if_pos h1] at h2
  simp only[Rep] at h
  obtain⟨b,hb,rfl⟩:=h
  simp only[z1k,if_pos h1,h2,Option.getD_some,z9b]
  refine⟨b,off,rfl,?_⟩
  have:=(box h1 h2 hb).drop off
  rwa[Nat.zero_add] at this
 |bv id e off n cp=>
  simp only[z8e] at hok
  obtain⟨h1,cs,h2,h3⟩:=hok
  rw[if_pos h1] at h2
  simp only[Rep] at h
  obtain⟨b,cap,o',hb,rfl,hcap,_,ho'⟩:=h
  simp only[z1k,if_pos h1,h2,Option.getD_some,z9b]
  refine .inl ⟨b,o',cap,rfl,hcap,?_,by simp,by simp⟩
  rcases ho' with rfl|⟨rfl,_⟩
  ·have:=((box h1 h2 hb).drop o').take (n*e)
   rwa[Nat.zero_add] at this
  ·rw[Nat.zero_mul,List.take_zero];simp[z4b]
 |_=>simp only[z1k];exact z9b.mono hk _ _ (Rep.pure _ _ l hok h)

theorem z8Ob (hI:Inv K base g w getB) {bs:List Nat} (hbs:∀id∈bs,∃cs,getB id=some cs∧∀c∈cs,z0b c=true):∀{cs:List z0a} {vs:List Value},z2b K.toCon g w cs vs→
  (∀c∈cs,z8e bs (fun id=>if id∈bs then getB id else none) c)→z5a K.toCon (z3Cb g getB bs) w (cs.map (z1k (fun id=>if id∈bs then(getB id).getD [] else []))) vs
 |[],vs,h,_=>by simpa only[z2b,z5a,List.map_nil] using h
 |c::cs,vs,h,hok=>by
  simp only[z2b] at h
  obtain⟨x,xs,rfl,h1,h2⟩:=h
  simp only[List.map_cons,z5a]
  exact⟨x,xs,rfl,z8mc hI hbs h1 (hok c (by simp)),z8Ob hI hbs h2 (fun c hc=>hok c (by simp[hc]))⟩

theorem z6bc (hI:Inv K base g w getB) {bs:List Nat} (hbs:∀id∈bs,∃cs,getB id=some cs∧∀c∈cs,z0b c=true) {c:z0a} {v:Value} {l:Option Loc} (h:Rep K.toCon g w l c v)
  (hok:z0d bs (fun id=>if id∈bs then getB id else none) c):z9b K.toCon (z3Cb g getB bs) w (z5e (fun id=>if id∈bs then(getB id).getD [] else []) c) v:=by
 cases c with
 |fn f x y=>
  simp only[z0d] at hok
  simp only[Rep] at h
  obtain⟨p,q,rfl,h1,h2⟩:=h
  simp only[z5e,z9b]
  exact⟨p,q,rfl,z8Ob hI hbs h1 hok.1,z8Ob hI hbs h2 hok.2⟩
 |_=>exact z8mc hI hbs h hok

theorem z4hc (hI:Inv K base g w getB) {bs:List Nat} (hbs:∀id∈bs,∃cs,getB id=some cs∧∀c∈cs,z0b c=true):∀{cs:List z0a} {vs:List Value},z2b K.toCon g w cs vs→
  (∀c∈cs,z0d bs (fun id=>if id∈bs then getB id else none) c)→z5a K.toCon (z3Cb g getB bs) w (cs.map (z5e (fun id=>if id∈bs then(getB id).getD [] else []))) vs
 |[],vs,h,_=>by simpa only[z2b,z5a,List.map_nil] using h
 |c::cs,vs,h,hok=>by
  simp only[z2b] at h
  obtain⟨x,xs,rfl,h1,h2⟩:=h
  simp only[List.map_cons,z5a]
  exact⟨x,xs,rfl,z6bc hI hbs h1 (hok c (by simp)),z4hc hI hbs h2 (fun c hc=>hok c (by simp[hc]))⟩

theorem z0r {w w':World} {b:Nat} (h:w'.heap[b]? =w.heap[b]?) {o n:Nat} (ht:w.there b o n):w'.there b o n:=fun j hj=>by
 obtain⟨h1,h2⟩:=ht j hj
 exact⟨by rw[World.cell?_of_block (w:=w) (a:=⟨b,o+j,none⟩) h];exact h1,by rw[World.frozen?_of_block (w:=w) (a:=⟨b,o+j,none⟩) h];exact h2⟩

theorem z2Qb (hI:Inv K base g w getB) (hS:z3v K g w get a) {S:Nat→Nat} {g1:Gh} {w1:World} {D:z0a} {v:Value} (hfr:Fr w.heap.size (fun _=>False) w w1) (hr:Rep K.toCon g1 w1 (some .ret) D v)
  (how:∀b l,g1.ow b=some l→w.heap.size≤b∧b<w1.heap.size) (hSS:∀b,b<w.heap.size→g1.S b=S b) (hpure:z0b D=true) (hmem:S=g.S∨z6c D=true):
  z0rc K base a get getB d {val:=D} v w1:=by
 have hblk:∀b,b<w.heap.size→w1.heap[b]? =w.heap[b]? :=fun b hb=>hfr.block b hb (fun h=>h)
 let g2:Gh:={S:=fun b=>if b<w.heap.size then g.S b else g1.S b,ow:=fun b=>if b<w.heap.size then g.ow b else if g1.ow b=some .ret then d.map .slot else none,mu:=g.mu}
 have hkeep:z9d g.S w g2.S w1:=fun b i x hi hc=>by
  have hb:=World.block_lt_of_cell? w ⟨b,i,none⟩ hc
  have hb':b<w.heap.size:=hb
  exact⟨by simp only[g2,if_pos hb'];exact hi,by rw[World.cell?_of_block (w:=w) (a:=⟨b,i,none⟩) (hblk b hb')];exact hc⟩
 have hx:Ext g w g2 w1:=⟨hkeep,fun _ _ h=>h,fun m b hb=>by
  have hlt:=(hI.owW b m hb).2
  simp only[g2,if_pos hlt]
  exact⟨hb,trivial,fun o n ht=>z0r (hblk b hlt) ht⟩⟩
 have hz:=hI.sz
 have hinv:Inv K base g2 w1 getB:=by
  refine⟨hI.fr.trans (hfr.mono hz (fun k _ h=>h.elim)),fun b hb hw=> ?_,hI.inj,fun id cs hc=> ?_,hI.nobx,fun id b hb=> ?_,fun b m hb=> ?_,fun n hn=>z4b.mono hkeep _ _ _ (hI.glob n hn),hI.kp.trans hkeep,fun id b cs ho hb hc hd=>by
   refine z9t.keep (hI.obok id b cs ho hb hc hd) (hblk b (hI.muW id b hb).2.1) fun k hk=> ?_
   have hlt:=(hI.owW k _ hk).2
   exact⟨by simp only[g2,if_pos hlt];exact hk,hblk k hlt⟩,hI.old⟩
  ·simp only[g2,if_pos (show b<w.heap.size by omega)];exact hI.sS b hb hw
  ·obtain⟨b,h1,h2,h3⟩:=hI.bxok id cs hc
   have hlt:=(hI.muW id b h1).2.1
   refine⟨b,h1,by simp only[g2,if_pos hlt];exact h2,fun i c hi=> ?_⟩
   obtain⟨⟨x,h4,h5⟩,h6⟩:=h3 i c hi
   exact⟨⟨x,by rw[World.cell?_of_block (w:=w) (a:=⟨b,i,none⟩) (hblk b hlt)];exact h4,hx.rep h5⟩,by rw[World.frozen?_of_block (w:=w) (a:=⟨b,i,none⟩) (hblk b hlt)];exact h6⟩
  ·obtain⟨h1,h2,h3⟩:=hI.muW id b hb
   exact⟨h1,Nat.lt_of_lt_of_le h2 hfr.size,by simp only[g2,if_pos h2];exact h3⟩
  ·simp only[g2] at hb
   split at hb
   ·obtain⟨h1,h2⟩:=hI.owW b m hb
    exact⟨h1,Nat.lt_of_lt_of_le h2 hfr.size⟩
   ·split at hb
    ·rename_i hret
     obtain⟨h1,h2⟩:=how b _ hret
     exact⟨.inl (by omega),h2⟩
    ·cases hb
 refine⟨g2,hinv,hx.slots hS,?_⟩
 rcases hmem with rfl|hmem
 ·have hk2:z9d g1.S w1 g2.S w1:=fun b i x hi hc=>by
   refine⟨?_,hc⟩
   simp only[g2]
   split
   ·rename_i hb;rw[←hSS b hb];exact hi
   ·exact hi
  refine Rep.mono hk2 D v (some .ret) (d.map .slot) (fun id hid=> ?_) (fun m hm=>⟨.ret,rfl,fun b hb=> ?_⟩) hr
  ·exfalso
   exact absurd hpure (by
    have:∀D:z0a,z0b D=true→z3d D=[]:=by
     intro D
     exact(pure_refs D)
    rw[this D hpure] at hid
    cases hid)
  ·obtain⟨h1,h2⟩:=how b _ hb
   refine⟨?_,?_,fun _ _ h=>h⟩
   ·simp only[g2,if_neg (show ¬b<w.heap.size by omega),hb,if_true];exact hm
   ·simp only[g2,if_neg (show ¬b<w.heap.size by omega)]
 ·exact z42a D v _ _ hmem hr
where
 pure_refs:∀D:z0a,z0b D=true→z3d D=[]
  | .undef,_=>rfl
  | .lit _,_=>rfl
  | .sl _ _ _ _,_=>rfl
  | .ep _,_=>rfl
  | .otup _ _ _ _ rest,h=>by simp only[z0b] at h;simp only[z3d];exact pure_refsL rest h
  | .oagg pre _ _ _ _ rest,h=>by simp only[z0b,Bool.and_eq_true] at h;simp only[z3d,pure_refsL pre h.1,pure_refsL rest h.2,List.append_nil]
  | .agg cs,h=>by simp only[z0b] at h;simp only[z3d];exact pure_refsL cs h
  | .tup cs,h=>by simp only[z0b] at h;simp only[z3d];exact pure_refsL cs h
  | .fn _ x y,h=>by simp only[z0b,Bool.and_eq_true] at h;simp only[z3d,pure_refsL x h.1,pure_refsL y h.2,List.append_nil]
  | .bp _ _,h=>by simp[z0b] at h
  | .bv _ _ _ _ _,h=>by simp[z0b] at h
 pure_refsL:∀Ds:List z0a,z8b Ds=true→z6b Ds=[]
  |[],_=>rfl
  |c::cs,h=>by simp only[z8b,Bool.and_eq_true] at h;simp only[z6b,pure_refs c h.1,pure_refsL cs h.2,List.append_nil]

def z2Rb (K:Cx) (op:Op) (f:Nat) (args:List Arg):Bool:=
 match op with
 | .call c=>(match c.callee with| .value (.func f')=>K.nu f==f'|_=>false)&&z0ac.argsOk K c.args.toList args
 |_=>false
def z1Ab (K:Cx) (op:Op) (t:Arg) (args:List Arg):Bool:=
 match op with
 | .call c=>(match c.callee with| .value x=>z7wa K x t|_=>false)&&z0ac.argsOk K c.args.toList args
 |_=>false

theorem z2Ma {P:Program} (w:World) {f:FuncId} (h:z4z P f) (args:Array Value):(callFunc f args).run P w= .ok (.enter f args) w:=by
 obtain⟨fn,h1,h2,h3⟩:=h
 have h4:fn.body≠none:=fun h=>by simp[h] at h2
 have h5:¬fn.name= "runtime.NumGoroutine" :=by simpa using h3
 simp[callFunc,h1,h5,h4]

theorem z5lc (hI:Inv K base g w getB) (hS:z3v K g w get a) {f:Nat} (hV:z1a K f (K.E.G f)) {as:List z0a} {bs:List Nat} {vs:List Value} (hr:z2b K.toCon g w as vs) (hok:z3k K.E getB f as bs)
  {next:Act→World→Prop} {Q:Exit→Act→World→Prop} (hn:∀v w',z0rc K base a get getB d {val:=z6q K.E getB f as bs} v w'→next (a.put o.dst v) w') (hrun:(execOp a.eval o).run K.P w= .ok (.enter (K.nu f) vs.toArray) w):
  o.wp K.P a w next Q:=by
 obtain⟨h1,h2,h3,h4,h5⟩:=hok
 unfold Oper.wp
 rw[hrun,Oper.upon_enter]
 have hargs:=z4hc hI h2 hr h1
 refine(hV.2 (z3Cb g getB bs) w _ vs (fun n hn=>z4b.mono (z3Ma hI bs h2) _ _ _ (hI.glob n hn)) hargs h3).mono ?_
 rintro e w' ⟨v,g1,rfl,hfr,hrep,how,hSS⟩
 refine hn v w' (z2Qb hI hS hfr hrep how hSS h4 ?_)
 rcases h5 with rfl|h5
 ·left
  funext b
  exact z92a (by simp)
 ·exact .inr h5

theorem z12c (hI:Inv K base g w getB) (hS:z3v K g w get a) {f:Nat} {args:List Arg} {bs:List Nat} (h:z2Rb K o.op f args=true) (hV:z1a K f (K.E.G f)) (hok:okp K.E get getB (.call f args bs))
  {next:Act→World→Prop} {Q:Exit→Act→World→Prop} (hn:∀v w',z0rc K base a get getB d (eff K.E get getB (.call f args bs)) v w'→next (a.put o.dst v) w'):o.wp K.P a w next Q:=by
 unfold z2Rb at h
 split at h
 ·rename_i c ho
  simp only[Bool.and_eq_true] at h
  obtain⟨hc,ha⟩:=h
  split at hc
  ·rename_i f' hcal
   simp only[beq_iff_eq] at hc
   subst hc
   obtain⟨_,hr⟩:=z6ab hI hS ha
   refine z5lc hI hS hV hr hok hn ?_
   simp only[execOp,ho,resolve,hcal,Act.eval,Deferred.ofValue,Sem.run_bind,Sem.run_pure,Result.andThen_ok,invoke]
   rw[z2Ma w hV.1]
   congr 2
   apply Array.ext'
   simp
  ·cases hc
 ·cases h

theorem z9Mc (hI:Inv K base g w getB) (hS:z3v K g w get a) {f:Nat} {t:Arg} {args:List Arg} {bs:List Nat} (h:z1Ab K o.op t args=true) (hV:z1a K f (K.E.G f)) (hok:okp K.E get getB (.callv f t args bs))
  {next:Act→World→Prop} {Q:Exit→Act→World→Prop} (hn:∀v w',z0rc K base a get getB d (eff K.E get getB (.callv f t args bs)) v w'→next (a.put o.dst v) w'):o.wp K.P a w next Q:=by
 unfold z1Ab at h
 split at h
 ·rename_i c ho
  simp only[Bool.and_eq_true] at h
  obtain⟨hc,ha⟩:=h
  split at hc
  ·rename_i x hcal
   obtain⟨_,hr⟩:=z6ab hI hS ha
   obtain⟨ht,hok⟩:=hok
   have rt:=z3qa hI hS hc
   split at ht
   ·rename_i f' p q et
    subst ht
    rw[et] at rt hok
    simp only[Rep] at rt
    obtain⟨pv,qv,vt,hp,hq⟩:=rt
    simp only[z9f] at hok
    have hef:eff K.E get getB (.callv f' t args bs)={val:=z6q K.E getB f' (p++args.map (arg K.E get)++q) bs}:=by simp only[eff,et,z9f]
    rw[hef] at hn
    refine z5lc hI hS hV ((hp.append hr).append hq) hok hn ?_
    simp only[execOp,ho,resolve,hcal,vt,Deferred.ofValue,Sem.run_bind,Sem.run_pure,Result.andThen_ok,invoke]
    rw[z2Ma w hV.1]
    congr 2
    apply Array.ext'
    simp
   ·cases ht
  ·cases hc
 ·cases h

end
end Go.Abs
end

section
namespace Go.Abs

def z4s:z0a→List z0a| .ep cs=>cs|_=>[]
def CM.ins (c:CM) (ds:List z0a) (j:Nat):Option (List z0a):=if j∈c.bx then some (z4s (ds.getD j .undef)) else none
def CM.outs (c:CM) (ds:List z0a) (j:Nat):Option (List z0a):=if j∈c.bx++c.nb then some (c.out ds j) else none

def Wr (g:Gh) (b:Nat):Prop:=(∃j,g.mu j=some b)∨g.ow b≠none

def z54c (K:Cx) (c:CM) (g:Gh) (w:World) (ds:List z0a) (vs:List Value):Prop:=
 ds.length=vs.length∧∀i d v,ds[i]? =some d→vs[i]? =some v→if i∈c.bx then∃b,g.mu i=some b∧v= .pointer (some ⟨b,0,none⟩) else z9b K.toCon g.S w d v

def z0Na (K:Cx) (f:Nat) (c:CM):Prop:=
 z4z K.P (K.nu f)∧∀(g:Gh) (w:World) (ds:List z0a) (vs:List Value),Inv K ⟨w,Wr g,g.S,[],g.mu⟩ g w (c.ins ds)→z54c K c g w ds vs→c.pre ds→
  Calls K.P (K.nu f) vs.toArray w fun e w'=>∃v g',e= .returned v∧Inv K ⟨w,Wr g,g.S,[],g.mu⟩ g' w' (c.outs ds)∧(∀j∈c.bx,g'.mu j=g.mu j)∧Rep K.toCon g' w' (some .ret) (c.post ds) v

section
variable {K : Cx} {base : z4f} {g g' : Gh} {w w' : World} {get : Nat → z0a} {getB : Nat → Option (List z0a)} {a : Act} {o : Oper} {d : Option Nat}

theorem z5u:∀{l:List (Nat×Nat)} {k x:Nat},fnd l k=some x→(k,x)∈l
 |[],_,_,h=>by simp[fnd] at h
 |(k',y)::l,k,x,h=>by
  simp only[fnd] at h
  split at h
  ·cases h;subst_vars;simp
  ·exact List.mem_cons_of_mem _ (z5u h)
theorem z0Ab:∀{l:List (Nat×Nat)} {k:Nat},k∈l.map (·.1)→∃x,fnd l k=some x
 |[],_,h=>by simp at h
 |(k',y)::l,k,h=>by
  simp only[List.map_cons,List.mem_cons] at h
  simp only[fnd]
  by_cases hk:k=k'
  ·exact⟨y,by rw[if_pos hk]⟩
  ·rw[if_neg hk];exact z0Ab (h.resolve_left hk)
theorem z1Vb {l:List (Nat×Nat)} {k:Nat} (h:k∉l.map (·.1)):fnd l k=none:=by
 cases hf:fnd l k with
 |none=>rfl
 |some x=>exact absurd (List.mem_map.2 ⟨_,z5u hf,rfl⟩) h
theorem z6wa:∀{l:List (Nat×Nat)} {k x:Nat},(l.map (·.1)).Nodup→(k,x)∈l→fnd l k=some x
 |[],_,_,_,h=>by simp at h
 |(k',y)::l,k,x,hn,h=>by
  simp only[List.map_cons,List.nodup_cons] at hn
  simp only[fnd]
  rcases List.mem_cons.1 h with h|h
  ·cases h;simp
  ·rw[if_neg (fun(e:k=k')=>hn.1 (e▸List.mem_map.2 ⟨_,h,rfl⟩))]
   exact z6wa hn.2 h
def swp (l:List (Nat×Nat)):List (Nat×Nat):=l.map fun p=>(p.2,p.1)
theorem z8lb (l:List (Nat×Nat)):(swp l).map (·.1)=l.map (·.2):=by simp[swp,Function.comp_def]
theorem z4Pa {l:List (Nat×Nat)} {k x:Nat}:(k,x)∈swp l↔(x,k)∈l:=by
 simp only[swp,List.mem_map,Prod.exists,Prod.mk.injEq]
 constructor
 ·rintro⟨a,b,h,rfl,rfl⟩;exact h
 ·intro h;exact⟨x,k,h,rfl,rfl⟩

theorem z2vc {m:List (Nat×Nat)} (h:∀p∈m,500000≤p.2→500000≤p.1) (id:Nat):500000≤(fnd m id).getD id→500000≤id:=by
 cases hf:fnd m id with
 |none=>exact fun h=>h
 |some y=>exact h _ (z5u hf)
/-! ### The same value by other numbers of boxes -/
mutual
theorem Rep.ren {K:Con} {g g':Gh} {w w':World} {m:List (Nat×Nat)} (hk:z9d g.S w g'.S w') (hp:∀id,500000≤(fnd m id).getD id→500000≤id):∀(d:z0a) (v:Value) (l l':Option Loc),
  (∀id∈z3d d,∀b,g.mu id=some b→g'.mu ((fnd m id).getD id)=some b)→(∀m',l'=some m'→∃m,l=some m∧z8f g w g' w' m m')→Rep K g w l d v→Rep K g' w' l' (Abs.ren m d) v
 | .undef,_,_,_,_,_,_=>by simp[Abs.ren,Rep]
 | .lit x,v,_,_,_,_,h=>by simpa[Abs.ren,Rep] using h
 | .agg cs,v,_,_,hr,_,h=>by
  simp only[Rep,Abs.ren] at h⊢
  obtain⟨a,rfl,h⟩:=h
  exact⟨a,rfl,z2b.ren hk hp cs _ (by simpa[z3d] using hr) h⟩
 | .tup cs,v,_,_,hr,_,h=>by
  simp only[Rep,Abs.ren] at h⊢
  obtain⟨a,rfl,h⟩:=h
  exact⟨a,rfl,z2b.ren hk hp cs _ (by simpa[z3d] using hr) h⟩
 | .sl md nl n cs,v,l,l',_,hl,h=>by
  simp only[Abs.ren]
  exact Rep.mono hk _ v l l' (by simp[z3d]) hl h
 | .ep cs,v,l,l',_,hl,h=>by
  simp only[Abs.ren]
  exact Rep.mono hk _ v l l' (by simp[z3d]) hl h
 | .otup _ _ _ _ _,v,_,_,_,_,_=>by simp[Abs.ren,Rep]
 | .oagg _ _ _ _ _ _,v,_,_,_,_,_=>by simp[Abs.ren,Rep]
 | .fn f x y,v,_,_,hr,_,h=>by
  simp only[Rep,Abs.ren] at h⊢
  obtain⟨a,c,rfl,h1,h2⟩:=h
  simp only[z3d,List.mem_append] at hr
  exact⟨a,c,rfl,z2b.ren hk hp x _ (fun id hi=>hr id (.inl hi)) h1,z2b.ren hk hp y _ (fun id hi=>hr id (.inr hi)) h2⟩
 | .bp id off,v,_,_,hr,_,h=>by
  simp only[Rep,Abs.ren] at h⊢
  obtain⟨b,hb,rfl⟩:=h
  exact⟨b,hr id (by simp[z3d]) b hb,rfl⟩
 | .bv id e off n c,v,_,_,hr,_,h=>by
  simp only[Rep,Abs.ren] at h⊢
  obtain⟨b,cap,o,hb,rfl,h1,h2,h3,h4⟩:=h
  exact⟨b,cap,o,hr id (by simp[z3d]) b hb,rfl,h1,h2,h3,fun h=>h4 (hp id h)⟩
theorem z2b.ren {K:Con} {g g':Gh} {w w':World} {m:List (Nat×Nat)} (hk:z9d g.S w g'.S w') (hp:∀id,500000≤(fnd m id).getD id→500000≤id):∀(ds:List z0a) (vs:List Value),
  (∀id∈z6b ds,∀b,g.mu id=some b→g'.mu ((fnd m id).getD id)=some b)→z2b K g w ds vs→z2b K g' w' (renL m ds) vs
 |[],_,_,h=>by simpa[z2b,renL] using h
 |c::cs,l,hr,h=>by
  simp only[z2b,renL] at h⊢
  obtain⟨x,xs,rfl,h1,h2⟩:=h
  simp only[z6b,List.mem_append] at hr
  exact⟨x,xs,rfl,Rep.ren hk hp c x none none (fun id hi=>hr id (.inl hi)) (fun _ h=>by cases h) h1,z2b.ren hk hp cs xs (fun id hi=>hr id (.inr hi)) h2⟩
end
theorem z09b (m:List (Nat×Nat)):∀(ds:List z0a) (i:Nat),(renL m ds)[i]? =(ds[i]?).map (Abs.ren m)
 |[],i=>by simp[renL]
 |c::cs,0=>by simp[renL]
 |c::cs,i+1=>by simp[renL,z09b m cs i]

/-! ### The callee's view -/
theorem z4Wb (getB:Nat→Option (List z0a)) (ws:List (Nat×Nat)):∀(as:List z0a) (j i:Nat),(z7n getB ws j as)[i]? =(as[i]?).map fun a=>match fnd ws (j+i) with|some id=> .ep ((getB id).getD [])|none=>z5e (fun _=>[]) a
 |[],j,i=>by simp[z7n]
 |x::as,j,0=>by simp only[z7n,List.getElem?_cons_zero,Option.map_some,Nat.add_zero];cases fnd ws j<;>rfl
 |x::as,j,i+1=>by
  simp only[z7n,List.getElem?_cons_succ]
  rw[z4Wb getB ws as (j+1) i,show j+1+i=j+(i+1) by omega]
theorem z9Ub {getB:Nat→Option (List z0a)} {ws:List (Nat×Nat)}:∀{as:List z0a} {j:Nat},z9S getB ws j as→∀i a,as[i]? =some a→match fnd ws (j+i) with|some id=>a= .bp id 0∧∃cs,getB id=some cs∧z8b cs=true|none=>z0d [] (fun _=>none) a
 |[],_,_,i,a,h=>by simp at h
 |x::as,j,hok,0,a,h=>by
  simp only[List.getElem?_cons_zero,Option.some.injEq] at h
  subst h
  exact hok.1
 |x::as,j,hok,i+1,a,h=>by
  simp only[List.getElem?_cons_succ] at h
  have:=z9Ub hok.2 i a h
  rwa[show j+1+i=j+(i+1) by omega] at this

def ghM (g:Gh) (ws:List (Nat×Nat)):Gh:=
 {S:=g.S
  ow:=fun b=>match g.ow b with|some (.cell id i)=>(fnd (swp ws) id).map fun j=> .cell j i|_=>none
  mu:=fun j=>(fnd ws j).bind g.mu}

theorem z3Kb {ws:List (Nat×Nat)} {j b:Nat} (h:(ghM g ws).mu j=some b):∃id,fnd ws j=some id∧g.mu id=some b:=by
 simp only[ghM] at h
 cases hf:fnd ws j with
 |none=>rw[hf] at h;cases h
 |some id=>rw[hf] at h;exact⟨id,rfl,h⟩
theorem z30c {ws:List (Nat×Nat)} {b:Nat} {l:Loc} (h:(ghM g ws).ow b=some l):∃id i j,g.ow b=some (.cell id i)∧(j,id)∈ws∧l= .cell j i:=by
 simp only[ghM] at h
 split at h
 ·rename_i id i hb
  cases hf:fnd (swp ws) id with
  |none=>rw[hf] at h;cases h
  |some j=>
   rw[hf] at h
   simp only[Option.map_some,Option.some.injEq] at h
   exact⟨id,i,j,hb,z4Pa.1 (z5u hf),h.symm⟩
 ·cases h
theorem z33b {ws:List (Nat×Nat)} {b:Nat} (h:g.ow b=none):(ghM g ws).ow b=none:=by simp[ghM,h]
theorem z21b {ws:List (Nat×Nat)} (hn:(ws.map (·.2)).Nodup) {b id i j:Nat} (hm:(j,id)∈ws) (h:g.ow b=some (.cell id i)):(ghM g ws).ow b=some (.cell j i):=by
 simp only[ghM,h]
 rw[z6wa (by rw[z8lb];exact hn) (z4Pa.2 hm)]
 rfl

theorem z5Ac (hI:Inv K base g w getB) {ws:List (Nat×Nat)} {b:Nat} (h:Wr (ghM g ws) b):(base.w0.heap.size≤b∨base.W b)∧b<w.heap.size∧((∃j id,(j,id)∈ws∧g.mu id=some b)∨∃j id i,(j,id)∈ws∧g.ow b=some (.cell id i)):=by
 rcases h with⟨j,hj⟩|h
 ·obtain⟨id,h1,h2⟩:=z3Kb hj
  have:=hI.muW id b h2
  exact⟨this.1,this.2.1,.inl ⟨j,id,z5u h1,h2⟩⟩
 ·cases ho:(ghM g ws).ow b with
  |none=>exact absurd ho h
  |some l=>
   obtain⟨id,i,j,h1,h2,_⟩:=z30c ho
   have:=hI.owW b _ h1
   exact⟨this.1,this.2,.inr ⟨j,id,i,h2,h1⟩⟩

theorem z8Ic (hI:Inv K base g w getB) {ws:List (Nat×Nat)} {as:List z0a} {c:CM} (hok:z9S getB ws 0 as) (hbx:ws.map (·.1)=c.bx) (hn1:c.bx.Nodup) (hn:(ws.map (·.2)).Nodup) (hlt:∀j∈c.bx,j<as.length) (hlo:∀p∈ws,p.1<1000000):
  Inv K ⟨w,Wr (ghM g ws),(ghM g ws).S,[],(ghM g ws).mu⟩ (ghM g ws) w (c.ins (z7n getB ws 0 as)):=by
 have box:∀j id,(j,id)∈ws→∃cs,getB id=some cs∧z8b cs=true∧c.ins (z7n getB ws 0 as) j=some cs:=fun j id hm=>by
  have hj:j∈c.bx:=by rw[←hbx];exact List.mem_map.2 ⟨_,hm,rfl⟩
  have hf:fnd ws j=some id:=z6wa (by rw[hbx];exact hn1) hm
  have hl:=hlt j hj
  have:=z9Ub hok j _ (List.getElem?_eq_getElem hl)
  rw[Nat.zero_add,hf] at this
  obtain⟨_,cs,h1,h2⟩:=this
  refine⟨cs,h1,h2,?_⟩
  unfold CM.ins
  rw[if_pos hj,List.getD_eq_getElem?_getD,z4Wb,List.getElem?_eq_getElem hl,Nat.zero_add]
  simp only[Option.map_some,hf,h1,Option.getD_some,z4s]
 have nofnd:∀j,j∉c.bx→fnd ws j=none:=fun j hj=>z1Vb (by rw[hbx];exact hj)
 have inj1:∀j j' id,fnd ws j=some id→fnd ws j'=some id→j=j':=fun j j' id h h'=>by
  have e1:=z6wa (l:=swp ws) (by rw[z8lb];exact hn) (z4Pa.2 (z5u h))
  have e2:=z6wa (l:=swp ws) (by rw[z8lb];exact hn) (z4Pa.2 (z5u h'))
  rw[e1] at e2;cases e2;rfl
 refine⟨Fr.refl _ _ _,fun _ _ _=>rfl,fun i j b hi hj=> ?_,fun j cs hc=> ?_,fun j hj=> ?_,fun j b hb=> ?_,fun b l hb=> ?_,hI.glob,z9d.refl _ _,fun j b cs hj hb _ _=>by
  obtain⟨id,h1,_⟩:=z3Kb hb
  have:=hlo _ (z5u h1)
  simp only at this
  omega,fun j b _ _ hb=>hb⟩
 ·obtain⟨x,h1,h2⟩:=z3Kb hi
  obtain⟨y,h3,h4⟩:=z3Kb hj
  have:=hI.inj x y b h2 h4
  subst this
  exact inj1 i j x h1 h3
 ·have hj:j∈c.bx:=by
   unfold CM.ins at hc
   split at hc
   ·assumption
   ·cases hc
  obtain⟨id,hf⟩:=z0Ab (l:=ws) (k:=j) (by rw[hbx];exact hj)
  obtain⟨cs',h1,h2,h3⟩:=box j id (z5u hf)
  rw[hc] at h3;cases h3
  obtain⟨b,k1,k2,k3⟩:=hI.bxok id cs h1
  refine⟨b,by simp only[ghM,hf,Option.bind_some];exact k1,k2,fun i e hi=> ?_⟩
  obtain⟨⟨x,hx,hr⟩,hz⟩:=k3 i e hi
  refine⟨⟨x,hx,?_⟩,hz⟩
  refine Rep.mono (g:=g) (g':=ghM g ws) (z9d.refl _ _) e x _ _ (fun id' hid'=> ?_) (fun m' hm'=> ?_) hr
  ·have:z3d e=[]:=z2Qb.pure_refs e ((z4i cs).1 h2 e (z3ya hi))
   rw[this] at hid';cases hid'
  ·cases hm'
   exact⟨_,rfl,fun b' hb'=>⟨z21b hn (z5u hf) hb',rfl,fun _ _ h=>h⟩⟩
 ·have hj':j∉c.bx:=fun h=>by simp[CM.ins,h] at hj
  simp only[ghM,nofnd j hj',Option.bind_none]
 ·obtain⟨id,h1,h2⟩:=z3Kb hb
  have:=hI.muW id b h2
  exact⟨.inr (.inl ⟨j,hb⟩),this.2.1,z33b this.2.2⟩
 ·obtain⟨id,i,j,h1,_,_⟩:=z30c hb
  exact⟨.inr (.inr (by rw[hb];simp)),(hI.owW b _ h1).2⟩

theorem z2tc (hI:Inv K base g w getB) {ws:List (Nat×Nat)} {as:List z0a} {vs:List Value} {c:CM} (hok:z9S getB ws 0 as) (hbx:ws.map (·.1)=c.bx) (hr:z2b K.toCon g w as vs):
  z54c K c (ghM g ws) w (z7n getB ws 0 as) vs:=by
 have hlen:∀(as:List z0a) j,(z7n getB ws j as).length=as.length:=fun as=>by
  induction as with
  |nil=>intro j;rfl
  |cons x as ih=>intro j;simp only[z7n,List.length_cons,ih]
 refine⟨by rw[hlen,hr.len],fun i x v hx hv=> ?_⟩
 rw[z4Wb,Nat.zero_add] at hx
 cases ha:as[i]? with
 |none=>rw[ha] at hx;cases hx
 |some y=>
  rw[ha] at hx
  simp only[Option.map_some,Option.some.injEq] at hx
  obtain⟨v',hv',hrep⟩:=hr.get i y ha
  rw[hv] at hv';cases hv'
  have hk:=z9Ub hok i y ha
  rw[Nat.zero_add] at hk
  by_cases hi:i∈c.bx
  ·rw[if_pos hi]
   obtain⟨id,hf⟩:=z0Ab (l:=ws) (k:=i) (by rw[hbx];exact hi)
   rw[hf] at hk
   obtain⟨rfl,_⟩:=hk
   simp only[Rep] at hrep
   obtain⟨b,hb,rfl⟩:=hrep
   exact⟨b,by simp only[ghM,hf,Option.bind_some];exact hb,rfl⟩
  ·rw[if_neg hi]
   have hf:fnd ws i=none:=z1Vb (by rw[hbx];exact hi)
   rw[hf] at hk hx
   simp only at hk hx
   have h1:=z6bc (bs:=[]) hI (fun id hid=>by cases hid) hrep (by simpa using hk)
   have hS:z3Cb g getB []=g.S:=funext fun b=>z92a (by simp)
   rw[hS] at h1
   rw[←hx]
   simpa[ghM] using h1

/-! ### Behind such a call -/
theorem z6Gc (m:List (Nat×Nat)) (f:Nat→Option (List z0a)) (id:Nat):∀l:List (Nat×Nat),lk (l.map fun p=>(p.2,f p.1)) id=(fnd (swp l) id).map f
 |[]=>rfl
 |(k,x)::l=>by
  simp only[List.map_cons,lk,swp,fnd]
  split
  ·rfl
  ·exact z6Gc m f id l

theorem z62b (hI:Inv K base g w getB) (hS:z3v K g w get a) {ws ns:List (Nat×Nat)} {c:CM} (hbx:ws.map (·.1)=c.bx) (hns:ns.map (·.1)=c.nb) (hn1:(c.bx++c.nb).Nodup)
  (hn:(ws.map (·.2)).Nodup) (hn2:(ns.map (·.2)).Nodup) (hwb:∀p∈ws,∃cs,getB p.2=some cs) (hnb':∀p∈ns,getB p.2=none∧z1n p.2) (hlo:∀p∈ws++ns,p.1<1000000∧p.2<1000000∧(500000≤p.1↔500000≤p.2)) {ds:List z0a} {g1:Gh} {w1:World} {v:Value}
  (hI1:Inv K ⟨w,Wr (ghM g ws),(ghM g ws).S,[],(ghM g ws).mu⟩ g1 w1 (c.outs ds)) (hmu:∀j∈c.bx,g1.mu j=(ghM g ws).mu j) (hr:Rep K.toCon g1 w1 (some .ret) (c.post ds) v)
  (hr1:∀id∈z3d (c.post ds),id∈c.bx++c.nb) (hr2:∀j∈c.bx++c.nb,∀id∈z6b (c.out ds j),id∈c.bx++c.nb):
  z0rc K base a get getB d {val:=Abs.ren (ws++ns) (c.post ds),bx:=(ws++ns).map fun p=>(p.2,some (renL (ws++ns) (c.out ds p.1)))} v w1:=by
 classical
 have hz:=hI.sz
 have hnb:∀p∈ns,getB p.2=none:=fun p hp=>(hnb' p hp).1
 have keys:(ws++ns).map (·.1)=c.bx++c.nb:=by rw[List.map_append,hbx,hns]
 have nkeys:((ws++ns).map (·.1)).Nodup:=by rw[keys];exact hn1
 have nids:((ws++ns).map (·.2)).Nodup:=by
  rw[List.map_append,List.nodup_append]
  refine⟨hn,hn2,fun x hx y hy he=> ?_⟩
  subst he
  obtain⟨p,hp,rfl⟩:=List.mem_map.1 hx
  obtain⟨q,hq,he⟩:=List.mem_map.1 hy
  obtain⟨cs,hcs⟩:=hwb p hp
  have:=hnb q hq
  rw[he,hcs] at this;cases this
 have nsw:((swp (ws++ns)).map (·.1)).Nodup:=by rw[z8lb];exact nids
 let N:Nat→Prop:=fun b=>w.heap.size≤b∨Wr (ghM g ws) b
 have old:∀b,¬N b→b<w.heap.size∧¬Wr (ghM g ws) b:=fun b h=>⟨Nat.lt_of_not_le fun hh=>h (.inl hh),fun hh=>h (.inr hh)⟩
 have oldS:∀b,¬N b→g1.S b=g.S b:=fun b h=>hI1.sS b (old b h).1 (old b h).2
 have oldH:∀b,¬N b→w1.heap[b]? =w.heap[b]? :=fun b h=>hI1.fr.block b (old b h).1 (old b h).2
 have newW:∀b,N b→base.w0.heap.size≤b∨base.W b:=fun b h=>h.elim (fun h=> .inl (by omega)) (fun h=>(z5Ac hI h).1)
 have muN:∀id b,g.mu id=some b→(∀p∈ws,p.2≠id)→¬N b:=fun id b hb hid h=>by
  have h3:=hI.muW id b hb
  rcases h with h|h
  ·omega
  ·rcases(z5Ac hI h).2.2 with⟨j,id',hm,hb'⟩|⟨j,id',i,hm,ho⟩
   ·exact hid _ hm (hI.inj _ _ _ hb' hb)
   ·rw[h3.2.2] at ho;cases ho
 have owN:∀l b,g.ow b=some l→(∀p∈ws,∀i,l≠ .cell p.2 i)→¬N b:=fun l b hb hl h=>by
  have h3:=hI.owW b l hb
  rcases h with h|h
  ·omega
  ·rcases(z5Ac hI h).2.2 with⟨j,id',hm,hb'⟩|⟨j,id',i,hm,ho⟩
   ·have:=(hI.muW _ _ hb').2.2
    rw[hb] at this;cases this
   ·rw[hb] at ho;cases ho;exact hl _ hm i rfl
 have mu1:∀j b,g1.mu j=some b→N b∧b<w1.heap.size∧g1.ow b=none:=fun j b h=>hI1.muW j b h
 have ow1:∀b l,g1.ow b=some l→N b∧b<w1.heap.size:=fun b l h=>hI1.owW b l h
 have wmu:∀j id,(j,id)∈ws→g1.mu j=g.mu id:=fun j id hm=>by
  have hj:j∈c.bx:=by rw[←hbx];exact List.mem_map.2 ⟨_,hm,rfl⟩
  rw[hmu j hj]
  simp only[ghM]
  rw[z6wa (by rw[hbx];exact(List.nodup_append.1 hn1).1) hm]
  rfl
 let g2:Gh:=
  {S:=g1.S
   ow:=fun b=>if N b then(match g1.ow b with|some (.cell j i)=>(fnd (ws++ns) j).map fun id=> .cell id i|some .ret=>d.map .slot|_=>none) else g.ow b
   mu:=fun id=>match fnd (swp (ws++ns)) id with|some j=>g1.mu j|none=>g.mu id}
 have hpar:∀id,500000≤(fnd (ws++ns) id).getD id→500000≤id:=z2vc fun p hp h=>(hlo p hp).2.2.2 h
 have hk:z9d g.S w g2.S w1:=hI1.kp
 have hkr:z9d g1.S w1 g2.S w1:=z9d.refl _ _
 have notin:∀id,fnd (swp (ws++ns)) id=none→∀p∈ws,p.2≠id:=fun id h p hp he=>by
  obtain⟨x,hx⟩:=z0Ab (l:=swp (ws++ns)) (k:=id) (by rw[z8lb];exact List.mem_map.2 ⟨p,by simp[hp],he⟩)
  rw[h] at hx;cases hx
 have mu2:∀id b,g.mu id=some b→g2.mu id=some b:=fun id b hb=>by
  simp only[g2]
  split
  ·rename_i j hf
   have hm:=z4Pa.1 (z5u hf)
   rcases List.mem_append.1 hm with hm|hm
   ·rw[wmu j id hm];exact hb
   ·have:=hI.nobx id (hnb _ hm)
    rw[hb] at this;cases this
  ·exact hb
 have own2:∀l,(∀p∈ws,∀i,l≠ .cell p.2 i)→z8f g w g2 w1 l l:=fun l hl b hb=>by
  have hN:=owN l b hb hl
  exact⟨by simp only[g2,if_neg hN];exact hb,oldS b hN,fun o n ht=>z0r (oldH b hN) ht⟩
 have rf:∀id,id∈c.bx++c.nb→∀b,g1.mu id=some b→g2.mu ((fnd (ws++ns) id).getD id)=some b:=fun id hid b hb=>by
  obtain⟨id',hf⟩:=z0Ab (l:=ws++ns) (k:=id) (by rw[keys];exact hid)
  have:=z6wa nsw (z4Pa.2 (z5u hf))
  rw[hf]
  simp only[g2,Option.getD_some,this]
  exact hb
 have hup:∀id,z9Qb getB ((ws++ns).map fun p=>(p.2,some (renL (ws++ns) (c.out ds p.1)))) id=match fnd (swp (ws++ns)) id with|some j=>some (renL (ws++ns) (c.out ds j))|none=>getB id:=fun id=>by
  unfold z9Qb
  rw[z6Gc [] (fun j=>some (renL (ws++ns) (c.out ds j))) id (ws++ns)]
  cases fnd (swp (ws++ns)) id<;>rfl
 refine⟨g2,⟨hI.fr.trans (hI1.fr.mono hz fun k hk hW=>(z5Ac hI hW).1.resolve_left (by omega)),fun b hb hw=> ?_,fun i j b hi hj=> ?_,fun id cs hc=> ?_,fun id hid=> ?_,fun id b hb=> ?_,fun b l hb=> ?_,
  fun n hn=>z4b.mono hk _ _ _ (hI.glob n hn),hI.kp.trans hk,fun id b cs hid hb hc hd=> ?_,fun id b h1 h2 hb=>by
  simp only[g2] at hb
  split at hb
  ·rename_i j hj
   rcases List.mem_append.1 (z4Pa.1 (z5u hj)) with hm|hm
   ·have e1:g1.mu j=(ghM g ws).mu j:=hmu j (by rw[←hbx];exact List.mem_map.2 ⟨_,hm,rfl⟩)
    have e2:=z6wa (l:=ws) (by rw[hbx];exact(List.nodup_append.1 hn1).1) hm
    rw[e1] at hb
    simp only[ghM,e2,Option.bind_some] at hb
    exact hI.old id b h1 h2 hb
   ·exact(hnb' _ hm).2.no h1 h2
  ·exact hI.old id b h1 h2 hb⟩,fun s=> ?_,?_⟩
 ·have hN:¬N b:=fun h=>(newW b h).elim (fun h=>by omega) hw
  show g1.S b=_
  rw[oldS b hN]
  exact hI.sS b hb hw
 ·simp only[g2] at hi hj
  split at hi
  ·rename_i x hx
   split at hj
   ·rename_i y hy
    have:=hI1.inj x y b hi hj
    subst this
    have e1:=z6wa nkeys (z4Pa.1 (z5u hx))
    have e2:=z6wa nkeys (z4Pa.1 (z5u hy))
    rw[e1] at e2;cases e2;rfl
   ·rename_i hy
    exact absurd (mu1 x b hi).1 (muN j b hj (notin j hy))
  ·rename_i hx
   split at hj
   ·rename_i y hy
    exact absurd (mu1 y b hj).1 (muN i b hi (notin i hx))
   ·exact hI.inj i j b hi hj
 ·rw[hup] at hc
  split at hc
  ·rename_i j hf
   cases hc
   have hm:=z4Pa.1 (z5u hf)
   have hjk:j∈c.bx++c.nb:=by rw[←keys];exact List.mem_map.2 ⟨_,hm,rfl⟩
   obtain⟨b,k1,k2,k3⟩:=hI1.bxok j (c.out ds j) (by unfold CM.outs;rw[if_pos hjk])
   refine⟨b,by simp only[g2,hf];exact k1,k2,fun i e hi=> ?_⟩
   rw[z09b] at hi
   cases he:(c.out ds j)[i]? with
   |none=>rw[he] at hi;cases hi
   |some e'=>
    rw[he] at hi
    simp only[Option.map_some,Option.some.injEq] at hi
    subst hi
    obtain⟨⟨x,hx,hrx⟩,hfz⟩:=k3 i e' he
    refine⟨⟨x,hx,Rep.ren hkr hpar e' x (some (.cell j i)) _ (fun id' hid'=>rf id' (hr2 j hjk id' (refsL_mem' (z3ya he) hid'))) (fun m' hm'=> ?_) hrx⟩,hfz⟩
    cases hm'
    refine⟨_,rfl,fun b' hb'=>⟨?_,rfl,fun _ _ h=>h⟩⟩
    simp only[g2,if_pos (ow1 b' _ hb').1,hb',z6wa nkeys hm,Option.map_some]
  ·rename_i hf
   obtain⟨b,k1,k2,k3⟩:=hI.bxok id cs hc
   have hN:=muN id b k1 (notin id hf)
   refine⟨b,mu2 id b k1,by show g1.S b=0;rw[oldS b hN];exact k2,fun i e hi=> ?_⟩
   obtain⟨⟨x,hx,hrx⟩,hfz⟩:=k3 i e hi
   refine⟨⟨x,by rw[World.cell?_of_block (w:=w) (a:=⟨b,i,none⟩) (oldH b hN)];exact hx,Rep.mono hk e x (some (.cell id i)) (some (.cell id i)) (fun id' _ b' hb'=>mu2 id' b' hb') (fun m' hm'=> ?_) hrx⟩,by rw[World.frozen?_of_block (w:=w) (a:=⟨b,i,none⟩) (oldH b hN)];exact hfz⟩
   cases hm'
   exact⟨_,rfl,own2 _ fun p hp i' he=>by cases he;exact notin _ hf p hp rfl⟩
 ·rw[hup] at hid
  split at hid
  ·cases hid
  ·rename_i hf
   simp only[g2,hf]
   exact hI.nobx id hid
 ·simp only[g2] at hb
  split at hb
  ·rename_i j hf
   obtain⟨h1,h2,h3⟩:=mu1 j b hb
   refine⟨newW b h1,h2,?_⟩
   simp only[g2,if_pos h1,h3]
  ·rename_i hf
   obtain⟨h1,h2,h3⟩:=hI.muW id b hb
   have hN:=muN id b hb (notin id hf)
   exact⟨h1,Nat.lt_of_lt_of_le h2 hI1.fr.size,by simp only[g2,if_neg hN];exact h3⟩
 ·simp only[g2] at hb
  split at hb
  ·rename_i hN
   cases ho:g1.ow b with
   |none=>rw[ho] at hb;cases hb
   |some l'=>exact⟨newW b hN,(ow1 b l' ho).2⟩
  ·obtain⟨h1,h2⟩:=hI.owW b l hb
   exact⟨h1,Nat.lt_of_lt_of_le h2 hI1.fr.size⟩
 ·have hf:fnd (swp (ws++ns)) id=none:=z1Vb fun h=>by
   rw[z8lb] at h
   obtain⟨p,hp,he⟩:=List.mem_map.1 h
   have:=(hlo p hp).2.1
   omega
  rw[hup,hf] at hc
  simp only[g2,hf] at hb
  have hN:=muN id b hb (notin id hf)
  refine z9t.keep (hI.obok id b cs hid hb hc hd) (oldH b hN) fun k hk'=> ?_
  have hNk:=owN _ k hk' fun p hp i he=>by cases he;exact notin _ hf p hp rfl
  exact⟨by simp only[g2,if_neg hNk];exact hk',oldH k hNk⟩
 ·exact Rep.mono hk _ _ (some (.slot s)) (some (.slot s)) (fun id' _ b' hb'=>mu2 id' b' hb') (fun m' hm'=>by
   cases hm'
   exact⟨_,rfl,own2 _ fun p hp i' he=>by cases he⟩) (hS s)
 ·refine Rep.ren hkr hpar (c.post ds) v (some .ret) (d.map .slot) (fun id' hid'=>rf id' (hr1 id' hid')) (fun m' hm'=>⟨.ret,rfl,fun b' hb'=>⟨?_,rfl,fun _ _ h=>h⟩⟩) hr
  simp only[g2,if_pos (ow1 b' _ hb').1,hb']
  exact hm'
where
 refsL_mem':∀{cs:List z0a} {c:z0a} {id:Nat},c∈cs→id∈z3d c→id∈z6b cs
  |[],_,_,h,_=>by cases h
  |d::ds,c,id,h,hi=>by
   simp only[z6b,List.mem_append]
   rcases List.mem_cons.1 h with rfl|h
   ·exact .inl hi
   ·exact .inr (refsL_mem' h hi)

theorem z46b (hI:Inv K base g w getB) (hS:z3v K g w get a) {f:Nat} (hV:z0Na K f (K.E.M f)) {as:List z0a} {ws ns:List (Nat×Nat)} {vs:List Value} (hr:z2b K.toCon g w as vs) (hok:okM K.E getB f as ws ns)
  {next:Act→World→Prop} {Q:Exit→Act→World→Prop} (hn:∀v w',z0rc K base a get getB d (z6H K.E getB f as ws ns) v w'→next (a.put o.dst v) w') (hrun:(execOp a.eval o).run K.P w= .ok (.enter (K.nu f) vs.toArray) w):
  o.wp K.P a w next Q:=by
 obtain⟨h1,h2,h3,h4,h5,h6,h7,h8,hlo,h9,h10,h11⟩:=hok
 unfold Oper.wp
 rw[hrun,Oper.upon_enter]
 have hb1:=(List.nodup_append.1 h8).1
 refine(hV.2 (ghM g ws) w _ vs (z8Ic hI h1 h2 hb1 h3 h4 fun p hp=>(hlo p (List.mem_append_left _ hp)).1) (z2tc hI h1 h2 hr) h9).mono ?_
 rintro e w' ⟨v,g1,rfl,hI1,hmu,hrep⟩
 refine hn v w' (z62b hI hS h2 h5 h8 h3 h6 (fun p hp=> ?_) h7 hlo hI1 hmu hrep h10 h11)
 have hj:p.1∈(K.E.M f).bx:=by rw[←h2];exact List.mem_map.2 ⟨_,hp,rfl⟩
 have:=z9Ub h1 p.1 _ (List.getElem?_eq_getElem (h4 _ hj))
 rw[Nat.zero_add,z6wa (l:=ws) (k:=p.1) (x:=p.2) (by rw[h2];exact hb1) hp] at this
 obtain⟨_,cs,hcs,_⟩:=this
 exact⟨cs,hcs⟩

def z33a (K:Cx) (op:Op) (f:Nat) (t:Option Arg) (args:List Arg):Bool:=match t with|none=>z2Rb K op f args|some t=>z1Ab K op t args

theorem z8Hc (hI:Inv K base g w getB) (hS:z3v K g w get a) {f:Nat} {t:Option Arg} {args:List Arg} {ws ns:List (Nat×Nat)} (h:z33a K o.op f t args=true) (hV:z0Na K f (K.E.M f)) (hok:okp K.E get getB (.callm f t args ws ns))
  {next:Act→World→Prop} {Q:Exit→Act→World→Prop} (hn:∀v w',z0rc K base a get getB d (eff K.E get getB (.callm f t args ws ns)) v w'→next (a.put o.dst v) w'):o.wp K.P a w next Q:=by
 cases t with
 |none=>
  simp only[z33a] at h
  obtain⟨_,hok⟩:=hok
  unfold z2Rb at h
  split at h
  ·rename_i c ho
   simp only[Bool.and_eq_true] at h
   obtain⟨hc,ha⟩:=h
   split at hc
   ·rename_i f' hcal
    simp only[beq_iff_eq] at hc
    subst hc
    obtain⟨_,hr⟩:=z6ab hI hS ha
    refine z46b hI hS hV hr hok hn ?_
    simp only[execOp,ho,resolve,hcal,Act.eval,Deferred.ofValue,Sem.run_bind,Sem.run_pure,Result.andThen_ok,invoke]
    rw[z2Ma w hV.1]
    congr 2
    apply Array.ext'
    simp
   ·cases hc
  ·cases h
 |some t=>
  simp only[z33a] at h
  unfold z1Ab at h
  split at h
  ·rename_i c ho
   simp only[Bool.and_eq_true] at h
   obtain⟨hc,ha⟩:=h
   split at hc
   ·rename_i x hcal
    obtain⟨_,hr⟩:=z6ab hI hS ha
    obtain⟨ht,hok⟩:=hok
    have rt:=z3qa hI hS hc
    simp only at ht
    split at ht
    ·rename_i f' p q et
     subst ht
     rw[et] at rt
     simp only[et,z9f] at hok
     simp only[Rep] at rt
     obtain⟨pv,qv,vt,hp,hq⟩:=rt
     have hef:eff K.E get getB (.callm f' (some t) args ws ns)=z6H K.E getB f' (p++args.map (arg K.E get)++q) ws ns:=by simp only[eff,et,z9f]
     rw[hef] at hn
     refine z46b hI hS hV ((hp.append hr).append hq) hok hn ?_
     simp only[execOp,ho,resolve,hcal,vt,Deferred.ofValue,Sem.run_bind,Sem.run_pure,Result.andThen_ok,invoke]
     rw[z2Ma w hV.1]
     congr 2
     apply Array.ext'
     simp
    ·cases ht
   ·cases hc
  ·cases h

end
end Go.Abs
end

section
namespace Go.Abs

structure z6a where
 dst:Option Nat
 guard:Option (Nat×Bool)
 op:AOp
 deriving Inhabited

section
variable {E : Env} {get get' : Nat → z0a} {getB getB' : Nat → Option (List z0a)}

theorem z2a {y:Arg} (h:∀s∈y.rd,get s=get' s):arg E get y=arg E get' y:=by
 cases y with
 |s n=>exact h n (by simp[Arg.rd])
 |_=>rfl
theorem z2c {y:Option Arg} {n:Nat} (h:∀s∈rdO y,get s=get' s):bnd E get y n=bnd E get' y n:=by
 cases y with
 |none=>rfl
 |some y=>simp only[bnd];rw[z2a h]
theorem z3b {y:Option Arg} {n:Nat} (h:∀s∈rdO y,get s=get' s):z2g E get y n=z2g E get' y n:=by
 cases y with
 |none=>rfl
 |some y=>simp only[z2g];rw[z2a h]
theorem z4g {ys:List Arg} (h:∀s∈rdL ys,get s=get' s):ys.map (arg E get)=ys.map (arg E get'):=
 List.map_congr_left fun y hy=>z2a fun s hs=>h s (List.mem_flatMap.2 ⟨y,hy,hs⟩)
theorem z9j {ys:List Arg} (h:∀s∈rdL ys,get s=get' s):(ys.map fun y=>dem (arg E get y))=ys.map fun y=>dem (arg E get' y):=
 List.map_congr_left fun y hy=>by rw[z2a fun s hs=>h s (List.mem_flatMap.2 ⟨y,hy,hs⟩)]
theorem z3e:∀{ps:List (Nat×Nat×Arg)} {z:List z0a},(∀s∈rdL (ps.map (·.2.2)),get s=get' s)→z5g E get ps z=z5g E get' ps z
 |[],_,_=>rfl
 |(off,k,y)::ps,z,h=>by
  simp only[List.map_cons,rdL,List.flatMap_cons,List.mem_append] at h
  simp only[z5g]
  rw[z2a fun s hs=>h s (.inl hs)]
  exact z3e fun s hs=>h s (.inr hs)
theorem z7c:∀{ps:List (Nat×Nat×Arg)} {n:Nat},(∀s∈rdL (ps.map (·.2.2)),get s=get' s)→z1e E get ps n=z1e E get' ps n
 |[],_,_=>rfl
 |(off,k,y)::ps,n,h=>by
  simp only[List.map_cons,rdL,List.flatMap_cons,List.mem_append] at h
  simp only[z1e]
  rw[z2a fun s hs=>h s (.inl hs),z7c fun s hs=>h s (.inr hs)]
theorem z2d {b:Option Nat} (h:∀i∈b.toList,getB i=getB' i):bxc getB b=bxc getB' b:=by
 cases b with
 |none=>rfl
 |some i=>exact h i (by simp)
theorem z7b {b:Option Nat} (h:∀i∈b.toList,getB i=getB' i):bxl getB b=bxl getB' b:=by unfold bxl;rw[z2d h]
theorem z8d {f:Nat} {as:List z0a} {bs:List Nat} (h:∀i∈bs,getB i=getB' i):z3k E getB f as bs=z3k E getB' f as bs∧z6q E getB f as bs=z6q E getB' f as bs:=by
 have h1:(fun id=>if id∈bs then getB id else none)=fun id=>if id∈bs then getB' id else none:=funext fun id=>by
  split
  ·rename_i hi;exact h id hi
  ·rfl
 have h2:(fun id=>if id∈bs then(getB id).getD [] else [])=fun id=>if id∈bs then(getB' id).getD [] else []:=funext fun id=>by
  split
  ·rename_i hi;rw[h id hi]
  ·rfl
 have h3:(∀id∈bs,∃cs,getB id=some cs∧∀c∈cs,z0b c=true)=(∀id∈bs,∃cs,getB' id=some cs∧∀c∈cs,z0b c=true):=by
  apply propext
  constructor
  ·intro hh id hi;rw[←h id hi];exact hh id hi
  ·intro hh id hi;rw[h id hi];exact hh id hi
 refine⟨?_,by unfold z6q;rw[h2]⟩
 unfold z3k
 simp only[h1,h2,h3]

theorem z0i {ws:List (Nat×Nat)} (h:∀p∈ws,getB p.2=getB' p.2):∀(as:List z0a) (j:Nat),z7n getB ws j as=z7n getB' ws j as∧z9S getB ws j as=z9S getB' ws j as
 |[],_=>⟨rfl,rfl⟩
 |a::as,j=>by
  obtain⟨h1,h2⟩:=z0i h as (j+1)
  simp only[z7n,z9S,h1,h2]
  cases hf:fnd ws j with
  |none=>exact⟨rfl,rfl⟩
  |some id=>simp only[h _ (z5u hf),and_self]
theorem z8u {f:Nat} {as:List z0a} {ws ns:List (Nat×Nat)} (h:∀i∈(ws++ns).map (·.2),getB i=getB' i):okM E getB f as ws ns=okM E getB' f as ws ns∧z6H E getB f as ws ns=z6H E getB' f as ws ns:=by
 obtain⟨h1,h2⟩:=z0i (ws:=ws) (fun p hp=>h p.2 (List.mem_map.2 ⟨p,by simp[hp],rfl⟩)) as 0
 have h3:(∀p∈ns,getB p.2=none∧z1n p.2)=(∀p∈ns,getB' p.2=none∧z1n p.2):=by
  apply propext
  constructor
  ·intro hh p hp;rw[←h p.2 (List.mem_map.2 ⟨p,by simp[hp],rfl⟩)];exact hh p hp
  ·intro hh p hp;rw[h p.2 (List.mem_map.2 ⟨p,by simp[hp],rfl⟩)];exact hh p hp
 unfold okM z6H
 simp only[h1,h2,h3,and_self]

theorem z9r {f:Nat} {as:List z0a} {ws ns:List (Nat×Nat)} (h:∀i∈(ws++ns).map (·.2),getB i=getB' i):okW E getB f as ws ns=okW E getB' f as ws ns∧z2K E getB f as ws ns=z2K E getB' f as ws ns:=by
 have h1:(∀p∈ws,∃cs,getB p.2=some cs∧z0T ws cs)=(∀p∈ws,∃cs,getB' p.2=some cs∧z0T ws cs):=by
  apply propext
  constructor
  ·intro hh p hp;rw[←h p.2 (List.mem_map.2 ⟨p,by simp[hp],rfl⟩)];exact hh p hp
  ·intro hh p hp;rw[h p.2 (List.mem_map.2 ⟨p,by simp[hp],rfl⟩)];exact hh p hp
 have h3:(∀p∈ns,getB p.2=none∧z1n p.2)=(∀p∈ns,getB' p.2=none∧z1n p.2):=by
  apply propext
  constructor
  ·intro hh p hp;rw[←h p.2 (List.mem_map.2 ⟨p,by simp[hp],rfl⟩)];exact hh p hp
  ·intro hh p hp;rw[h p.2 (List.mem_map.2 ⟨p,by simp[hp],rfl⟩)];exact hh p hp
 have mem:∀{l:List (Nat×Nat)} {k x:Nat},fnd l k=some x→(k,x)∈l:=fun {l}=>by
  induction l with
  |nil=>intro k x h;simp[fnd] at h
  |cons p l ih=>
   intro k x h
   obtain⟨k',y⟩:=p
   simp only[fnd] at h
   split at h
   ·cases h;subst_vars;simp
   ·exact List.mem_cons_of_mem _ (ih h)
 have h2:z2u getB ws=z2u getB' ws:=funext fun j=>by
  unfold z2u
  cases hf:fnd ws j with
  |none=>rfl
  |some id=>simp only[h id (List.mem_map.2 ⟨(j,id),by simp[mem hf],rfl⟩)]
 unfold okW z2K
 simp only[h1,h2,h3,and_self]

theorem z3o {b:Option Nat} {n:Nat} {p:z0a} (h:∀i∈b.toList,getB i=getB' i) (hp:∀id off,p= .bp id off→b=some id→getB id=getB' id):z1o getB b n p=z1o getB' b n p:=by
 unfold z1o
 cases p with
 |bp id off=>
  simp only
  apply propext
  constructor
  ·rintro⟨rfl,h1⟩;rw[hp id off rfl rfl] at h1;exact⟨rfl,h1⟩
  ·rintro⟨rfl,h1⟩;rw[←hp id off rfl rfl] at h1;exact⟨rfl,h1⟩
 |_=>rfl

theorem z7d {id b:Nat} {p q:Prop} (h:id=b→p=q):(id=b∧p)=(id=b∧q):=by
 apply propext
 constructor
 ·rintro⟨rfl,h1⟩;rw[h rfl] at h1;exact⟨rfl,h1⟩
 ·rintro⟨rfl,h1⟩;rw[←h rfl] at h1;exact⟨rfl,h1⟩

theorem z5k (x:AOp) (hs:∀s∈x.rdS,get s=get' s) (hb:∀i∈x.rdB,getB i=getB' i):eff E get getB x=eff E get' getB' x∧okp E get getB x=okp E get' getB' x:=by
 cases x<;>simp only[AOp.rdS,AOp.rdB,List.mem_append,or_imp,forall_and,List.mem_cons,List.not_mem_nil,or_false,false_imp_iff,implies_true,forall_eq,and_true] at hs hb
 case mv take y=>
  have h1:=z2a (E:=E) hs
  refine⟨?_,rfl⟩
  cases take<;>cases y<;>simp only[eff,h1]<;>simp_all [Arg.rd]
 case pick c p q=>
  obtain⟨⟨h1,h2⟩,h3⟩:=hs
  simp only[eff,okp,z2a (E:=E) h1,z2a (E:=E) h2,z2a (E:=E) h3,and_self]
 case bin=>simp only[eff,okp,z2a (E:=E) hs.1,z2a (E:=E) hs.2,and_self]
 case eqb=>simp only[eff,okp,z2a (E:=E) hs.1,z2a (E:=E) hs.2,and_self]
 case eqF=>simp only[eff,okp,z2a (E:=E) hs.1,z2a (E:=E) hs.2,and_self]
 case eqnil=>simp only[eff,okp,z2a (E:=E) hs.1,z2a (E:=E) hs.2,and_self]
 case un=>simp only[eff,okp,z2a (E:=E) hs,and_self]
 case toInt=>simp only[eff,okp,z2a (E:=E) hs,and_self]
 case toStr=>simp only[eff,okp,z2a (E:=E) hs,z7b hb,z2d hb,and_self]
 case toBytes=>simp only[eff,okp,z2a (E:=E) hs,and_self]
 case same=>simp only[eff,okp,z2a (E:=E) hs,and_self]
 case mark=>simp only[eff,okp,hs,and_self]
 case extractO=>simp only[eff,okp,hs,and_self]
 case buildO z ps i s=>
  obtain⟨hs0,hs⟩:=hs
  have hs':∀s'∈rdL ((ps++[((i,1,Arg.s s):Nat×Nat×Arg)]).map (·.2.2)),(fun n=>dem (get n)) s'=(fun n=>dem (get' n)) s':=fun s h=>congrArg dem (hs s h)
  simp only[eff,okp,hs0,z3e (E:=E) hs',z7c (E:=E) hs',and_self]
 case storeO k b p s=>
  have h1:=z2a (E:=E) hs.2
  have h3:bxl getB (some b)=bxl getB' (some b):=z7b (by simpa using hb)
  refine⟨by simp only[eff,hs.1,h1,h3],?_⟩
  simp only[okp,hs.1,h1]
  congr 1
  congr 1
  split
  ·exact z7d fun e=>by rw[e,hb]
  ·rfl
 case build=>
  have hs':∀s∈rdL _,(fun n=>dem (get n)) s=(fun n=>dem (get' n)) s:=fun s h=>congrArg dem (hs s h)
  simp only[eff,okp,z3e (E:=E) hs',z7c (E:=E) hs',and_self]
 case buildSl=>simp only[eff,okp,z3e (E:=E) hs,z7c (E:=E) hs,and_self]
 case load k b take y=>
  have h1:=z2a (E:=E) hs
  have h2:=z7b hb
  refine⟨?_,?_⟩
  ·have h3:∀p,z6d getB b p=z6d getB' b p:=fun p=>by cases p<;>simp only[z6d,h2]
   cases k<;>cases take<;>simp only[eff,h1,h3,h2]
  ·simp only[okp,h1]
   exact congrArg (· ∧_) (z3o hb (fun id _ _ e=>hb id (by simp[e])))
 case store k b take p v=>
  have h1:=z2a (E:=E) hs.1
  have h2:=z2a (E:=E) hs.2
  have h3:bxl getB (some b)=bxl getB' (some b):=z7b (by simpa using hb)
  refine⟨?_,?_⟩
  ·cases k<;>cases take<;>cases v<;>simp only[eff,h1,h2,h3]<;>simp_all [Arg.rd]
  ·simp only[okp,h1,h2]
   congr 1
   congr 1
   split
   ·rename_i id off e
    exact z7d fun e=>by rw[e,hb]
   ·rfl
 case nilchk=>simp only[eff,okp,z2a (E:=E) hs,and_self]
 case buildBx=>simp only[eff,okp,z3e (E:=E) hs,z7c (E:=E) hs,hb,and_self]
 case fieldAddr=>simp only[eff,okp,z2a (E:=E) hs,and_self]
 case idxArr=>simp only[eff,okp,z2a (E:=E) hs.1,z2a (E:=E) hs.2,and_self]
 case idxSl=>simp only[eff,okp,z2a (E:=E) hs.1,z2a (E:=E) hs.2,and_self]
 case slArr=>
  obtain⟨⟨⟨h1,h2⟩,h3⟩,h4⟩:=hs
  simp only[eff,okp,z2a (E:=E) h1,z2c (E:=E) h2,z2c (E:=E) h3,z2c (E:=E) h4,z3b (E:=E) h2,z3b (E:=E) h3,z3b (E:=E) h4,and_self]
 case slSl=>
  obtain⟨⟨⟨h1,h2⟩,h3⟩,h4⟩:=hs
  simp only[eff,okp,z2a (E:=E) h1,z2c (E:=E) h2,z2c (E:=E) h3,z2c (E:=E) h4,z3b (E:=E) h2,z3b (E:=E) h3,z3b (E:=E) h4,and_self]
 case slCap esz x lo hi=>
  obtain⟨⟨h1,h2⟩,h3⟩:=hs
  have g2:∀s∈rdO (some lo),get s=get' s:=h2
  have g3:∀s∈rdO (some hi),get s=get' s:=h3
  simp only[eff,okp,z2a (E:=E) h1,z2a (E:=E) h2,z2a (E:=E) h3,z3b (E:=E) g2,z3b (E:=E) g3,z2c (E:=E) g3,and_self]
 case slStr=>
  obtain⟨⟨h1,h2⟩,h3⟩:=hs
  simp only[eff,okp,z2a (E:=E) h1,z2c (E:=E) h2,z2c (E:=E) h3,z3b (E:=E) h2,z3b (E:=E) h3,and_self]
 case s2ap=>simp only[eff,okp,z2a (E:=E) hs,and_self]
 case alloc=>simp only[eff,okp,hb,and_self]
 case box id k take y=>
  have h1:=z2a (E:=E) hs
  refine⟨?_,by simp only[okp,h1,hb]⟩
  cases k<;>cases take<;>cases y<;>simp only[eff,h1]<;>simp_all [Arg.rd]
 case extract=>simp only[eff,okp,z2a (E:=E) hs,and_self]
 case field=>simp only[eff,okp,z2a (E:=E) hs,and_self]
 case idxA=>simp only[eff,okp,z2a (E:=E) hs.1,z2a (E:=E) hs.2,and_self]
 case idxStr=>simp only[eff,okp,z2a (E:=E) hs.1,z2a (E:=E) hs.2,and_self]
 case call f as bs=>simp only[eff,okp,z4g (E:=E) hs,(z8d (E:=E) hb).1,(z8d (E:=E) hb).2,and_self]
 case callv f t as bs=>simp only[eff,okp,z2a (E:=E) hs.1,z4g (E:=E) hs.2,(z8d (E:=E) hb).1,(z8d (E:=E) hb).2,and_self]
 case callm f t as ws ns=>
  have h1:=z4g (E:=E) hs.2
  obtain⟨h2,h3⟩:=z8u (E:=E) (f:=f) (as:=match t with|none=>as.map (arg E get')|some t=>z9f (arg E get' t) (as.map (arg E get'))) hb
  cases t with
  |none=>simp only[eff,okp,h1];exact⟨h3,by rw[h2]⟩
  |some t=>
   have h4:=z2a (E:=E) (y:=t) (by simpa[rdO] using hs.1)
   simp only[eff,okp,h1,h4]
   exact⟨h3,by rw[h2]⟩
 case callw f t as ws ns=>
  have h1:=z4g (E:=E) hs.2
  obtain⟨h2,h3⟩:=z9r (E:=E) (f:=f) (as:=match t with|none=>as.map (arg E get')|some t=>z9f (arg E get' t) (as.map (arg E get'))) hb
  cases t with
  |none=>simp only[eff,okp,h1];exact⟨h3,by rw[h2]⟩
  |some t=>
   have h4:=z2a (E:=E) (y:=t) (by simpa[rdO] using hs.1)
   simp only[eff,okp,h1,h4]
   exact⟨h3,by rw[h2]⟩
 case len=>simp only[eff,okp,z2a (E:=E) hs,and_self]
 case append=>simp only[eff,okp,okp.okApp,hs.1,z2a (E:=E) hs.2,z7b hb,z2d hb,and_self]
 case appendC=>simp only[eff,okp,okp.okApp,z2a (E:=E) hs.1,z2a (E:=E) hs.2,z7b hb,z2d hb,and_self]
 case copy esz str db b p q=>
  have h1:=z2a (E:=E) hs.1
  have h2:=z2a (E:=E) hs.2
  have h3:bxl getB (some db)=bxl getB' (some db):=z7b (by simpa using hb.1)
  have h4:=z7b hb.2
  have h5:=z2d hb.2
  refine⟨?_,?_⟩
  ·simp only[eff,h1,h2,h3,h4]
  ·simp only[okp,h1,h2,h4,h5]
   congr 1
   congr 1
   split
   ·exact z7d fun e=>by rw[e,hb.1]
   ·rfl
 case clearB esz db p=>
  have h1:=z2a (E:=E) hs
  have h3:bxl getB (some db)=bxl getB' (some db):=z7b (by simpa using hb)
  refine⟨?_,?_⟩
  ·simp only[eff,h1,h3]
  ·simp only[okp,h1]
   congr 1
   split
   ·rw[hb]
   ·rfl
 case appendB esz by' str db b p q=>
  have h1:=z2a (E:=E) hs.1
  have h2:=z2a (E:=E) hs.2
  have h3:bxl getB (some db)=bxl getB' (some db):=z7b (by simpa using hb.1)
  have h4:=z7b hb.2
  have h5:=z2d hb.2
  refine⟨?_,?_⟩
  ·simp only[eff,h1,h2,h3,h4]
  ·simp only[okp,h1,h2,h4,h5]
   congr 1
   congr 1
   split
   ·exact z7d fun e=>by rw[hb.1]
   ·rfl
 case min2=>simp only[eff,okp,z2a (E:=E) hs.1,z2a (E:=E) hs.2,and_self]
 case max2=>simp only[eff,okp,z2a (E:=E) hs.1,z2a (E:=E) hs.2,and_self]
 case mkfn=>simp only[eff,okp,z9j (E:=E) hs.1,z9j (E:=E) hs.2,and_self]
 case newB=>simp only[eff,okp,hb,and_self]
 case bld=>simp only[eff,okp,z2a (E:=E) hs.1,z2a (E:=E) hs.2,hb.1,z7b hb.2,z2d hb.2,and_self]
 case unsup=>exact⟨rfl,rfl⟩

end
end Go.Abs
end
