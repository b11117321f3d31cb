/- Lemmas: an abstract interpreter, and what the functions compute. -/
import Derived.Test.YtigghpdomoedhaaDoorO
import Derived.Test.YtigghpdomoedhaaDoorL
import Derived.Test.YtigghpdomoedhaaDoorM
set_option linter.unusedSimpArgs false
set_option linter.unusedVariables false
set_option linter.unusedSectionVars false
section
namespace Go.Abs
def z82 (p:z9n) (k:z2d) (now:Int):Int:=if 0<(z0la p k.ty).life then min (min (k.fin-k.beg) (z30-now)) (z0la p k.ty).life else min (k.fin-k.beg) (z30-now)
def z9J (p:z9n) (s:List UInt8) (now i:Int) (k:z2d):z2d:=⟨0,k.ty,drv s z9xa [],k.uses,now,now+z82 p k now,k.ver+1,i,false⟩
def z46a (k:z2d):z2d:={k with uses:=z9va k.uses 176}
theorem fit0 {p:z9n} {l:List z2d} {now i:Int} (h:z36 p l now i=0):0≤now∧now<z30∧∃k,z80 l i=some k∧z4T k now=true∧z1R l i=none∧z0Ga p k.ty 1=true∧z7ea k.uses (z3ba p k.ty)=true∧k.ver≠z7N:=by
 unfold z36 at h
 split at h
 ·cases h
 ·rename_i h0
  split at h
  ·rename_i h1
   cases hg:z80 l i with
   |none=>rw[hg] at h;cases h
   |some k=>
    rw[hg] at h
    simp only[z2tc] at h
    split at h
    ·rename_i h2
     split at h
     ·cases h
     ·rename_i h3
      split at h
      ·rename_i h4
       split at h
       ·rename_i h5
        split at h
        ·cases h
        ·rename_i h6
         refine⟨by omega,h1,k,rfl,h2,?_,h4,h5,h6⟩
         cases hn:z1R l i with
         |none=>rfl
         |some j=>rw[hn] at h3;exact absurd rfl h3
       ·cases h
      ·cases h
    ·cases h
  ·cases h
theorem z1Wb (x:BitVec 64):BitVec.ofInt 64 (W (x.toNat:Int))=x:=by
 apply BitVec.eq_of_toNat_eq
 have hx:=x.isLt
 rw[BitVec.toNat_ofInt]
 unfold W IntKind.wrap
 simp only[IntKind.bits,IntKind.signed]
 simp
 omega
theorem z7ob (u:Int):z7ea (z9va u 176) 956=true:=by
 have h1:z9va u 176=W ((BitVec.ofInt 64 u&&&BitVec.ofInt 64 176).toNat:Int):=rfl
 have h0:∀a:Int,z5ha a 956=W ((BitVec.ofInt 64 a&&& ~~~BitVec.ofInt 64 956).toNat:Int):=fun _=>rfl
 rw[z7ea,h0,h1,z1Wb,BitVec.and_assoc,show BitVec.ofInt 64 176&&& ~~~BitVec.ofInt 64 956=0#64 by decide,BitVec.and_zero]
 rfl
theorem z73a {k:z2d} (h:okK k=true):okK (z46a k)=true:=by
 simp only[okK,z46a,Bool.and_eq_true] at h⊢
 obtain⟨⟨⟨⟨⟨⟨h1,h2⟩,h3⟩,h4⟩,h5⟩,h6⟩,h7⟩:=h
 exact⟨⟨⟨⟨⟨⟨h1,h2⟩,z7ob _⟩,h4⟩,h5⟩,h6⟩,h7⟩
theorem z5Nb {l:List z2d} {m:Nat} {k:z2d} (h:∀x,l[m]? =some x→x.id=k.id):(l.set m k).map (·.id)=l.map (·.id):=by
 induction l generalizing m with
 |nil=>rfl
 |cons a l ih=>
  cases m with
  |zero=>simp[h a rfl]
  |succ m=>simp[ih (fun x hx=>h x (by simpa using hx))]
theorem z8qa {l:List z2d}:srt l↔(l.map (·.id)).Pairwise (· <·):=by rw[List.pairwise_map];rfl
structure GotK (l:List z2d) (i:Int) (k:z2d):Prop where
 mem:k∈l
 id:k.id=i
 bse:z40 l i=true
 lb:lbK l i<l.length
 at':z3g l (lbK l i)=k
theorem z1Kc {l:List z2d} (hs:srt l) {i:Int} {k:z2d} (h:z80 l i=some k):GotK l i k:=by
 have hb:=z0Ma hs i
 rw[h] at hb
 split at hb
 ·rename_i hb1
  refine⟨z4K h,z1va h,hb1,?_,(Option.some.inj hb).symm⟩
  simp only[z40,Bool.and_eq_true,decide_eq_true_eq] at hb1;exact hb1.1
 ·cases hb
def z9ja (l:List z2d) (i:Int) (k:z2d):List z2d:=l.set (lbK l i) (z46a k)
theorem z2Ua {l:List z2d} {i:Int} {k:z2d} (h:GotK l i k):(z9ja l i k).map (·.id)=l.map (·.id):=by
 refine z5Nb fun x hx=> ?_
 have:=h.at'
 rw[z3g,List.getD,hx] at this
 have:x=k:=this
 rw[this];rfl
theorem z25a {t:z2k} (hv:z9pa t) {i:Int} {k:z2d} (h:z80 t.keys i=some k):z7aa t (z46a k)=(⟨t.next,z9ja t.keys i k⟩,0):=by
 obtain⟨tk,_,_,hk⟩:=z8q hv
 have g:=z1Kc tk.1 h
 obtain⟨h1,h2,h3,h4⟩:=hk k g.mem
 have e:(z46a k).id=i:=g.id
 rw[z7aa,if_pos ⟨z73a h1,h4⟩,e,if_pos g.bse];rfl
theorem z19a {t:z2k} (hv:z9pa t) {i:Int} {k:z2d} (h:z80 t.keys i=some k):tOk ⟨t.next,z9ja t.keys i k⟩:=by
 obtain⟨tk,hl,_,_⟩:=z8q hv
 have g:=z1Kc tk.1 h
 refine⟨?_,?_⟩
 ·show srt (z9ja t.keys i k)
  rw[z8qa,z2Ua g,←z8qa];exact tk.1
 ·show(z9ja t.keys i k).length≤_
  rw[z9ja,List.length_set];omega
theorem z2ra {k:z2d} (h:okK k=true):(0≤k.ty∧k.ty≤31)∧k.val.length=32∧z7ea k.uses 956=true∧(0≤k.beg∧k.beg≤k.fin)∧(0≤k.fin∧k.fin≤z30)∧(1≤k.ver∧k.ver≤z7N)∧(0≤k.par∧k.par≤z7N):=by
 simp only[okK,inB,Bool.and_eq_true,decide_eq_true_eq,beq_iff_eq] at h
 obtain⟨⟨⟨⟨⟨⟨h1,h2⟩,h3⟩,h4⟩,h5⟩,h6⟩,h7⟩:=h
 exact⟨h1,h2,h3,h4,h5,h6,h7⟩
theorem z6ua {p:z9n} {k:z2d} {now:Int} (h:okK k=true) (hl:z4T k now=true) (h0:0≤now) (h1:now<z30):1≤z82 p k now∧z82 p k now≤k.fin-k.beg∧now+z82 p k now≤z30∧(0<(z0la p k.ty).life→z82 p k now≤(z0la p k.ty).life):=by
 simp only[z4T,Bool.and_eq_true,decide_eq_true_eq] at hl
 unfold z82
 split<;>omega
theorem z3ka {p:z9n} {s:List UInt8} {k:z2d} {now i next:Int} (h:okK k=true) (hl:z4T k now=true) (h0:0≤now) (h1:now<z30) (hv:k.ver≠z7N) (hi:0<i) (hn:i<next) (hx:next≤z7N) (hd:(drv s z9xa []).length=32):okK (z9J p s now i k)=true:=by
 obtain⟨r1,r2,r3,r4,r5,r6,r7⟩:=z2ra h
 obtain⟨l1,l2,l3,_⟩:=z6ua (p:=p) h hl h0 h1
 rw[show okK (z9J p s now i k)=(inB k.ty 0 31&&((drv s z9xa []).length==32)&&z7ea k.uses 956&&inB now 0 (now+z82 p k now)&&inB (now+z82 p k now) 0 z30&&inB (k.ver+1) 1 z7N&&inB i 0 z7N) from rfl]
 simp only[inB,Bool.and_eq_true,decide_eq_true_eq,beq_iff_eq]
 refine⟨⟨⟨⟨⟨⟨r1,hd⟩,r3⟩,?_⟩,?_⟩,?_⟩,?_⟩<;>omega
end Go.Abs
end

section
namespace Go.Abs
def z6ob (l:List z2d) (i:Int):z2d:=(z80 l i).getD z8Sb
def z5yb (p:z9n) (t:z2k) (s:List UInt8) (now i:Int):z2k:=⟨t.next+1,z9ja t.keys i (z6ob t.keys i)++[{z9J p s now i (z6ob t.keys i) with id:=t.next}]⟩
structure RotO where
 t:z2k
 s:List UInt8
 id:Int
 e:Int
def z1M (p:z9n) (t:z2k) (s:List UInt8) (now i:Int):RotO:=
 if z36 p t.keys now i=0 then(if t.keys.length<4096∧t.next<z7N then⟨z5yb p t s now i,drv s z6aa [],t.next,0⟩ else⟨⟨0,[]⟩,[],0,2⟩) else⟨⟨0,[]⟩,[],0,z36 p t.keys now i⟩
def gSd (d:z2a):List UInt8:=match d with| .agg (x::_)=>gS x|_=>[]
def z1ra:z4a:=⟨fun ds=>∃(na nb nc nl:Option Bool) (p:z9n) (t:z2k) (s:List UInt8) (now i:Int),z4Q p∧z2N t∧s.length<1000000000∧ds=[.agg (z4n na nb nc p),.agg (z0d nl t),.agg [st s],i64 now,i64 i],
 fun ds=>let r:=z1M (z69 (gCs (nth ds 0))) (z7D (gCs (nth ds 1))) (gSd (nth ds 2)) (asI (nth ds 3)) (asI (nth ds 4));.tup [.agg (z0d none r.t),.agg [st r.s],i64 r.id,i64 r.e]⟩
theorem z6sa {na nb nc nl:Option Bool} {p:z9n} {t:z2k} {s:List UInt8} (now i:Int) (hp:z4Q p) (h:z2N t) (hs:s.length<1000000000):z1ra.pre [.agg (z4n na nb nc p),.agg (z0d nl t),.agg [st s],i64 now,i64 i]=True:=eq_true ⟨na,nb,nc,nl,p,t,s,now,i,hp,h,hs,rfl⟩
@[simp] theorem z5Na (s:List UInt8):gSd (.agg [st s])=s:=by simp[gSd]
theorem z95 (na nb nc nl:Option Bool) (p:z9n) (t:z2k) (s:List UInt8) (now i:Int):z1ra.post [.agg (z4n na nb nc p),.agg (z0d nl t),.agg [st s],i64 now,i64 i]= .tup [.agg (z0d none (z1M p t s now i).t),.agg [st (z1M p t s now i).s],i64 (z1M p t s now i).id,i64 (z1M p t s now i).e]:=by
 show(let r:=z1M (z69 (z4n na nb nc p)) (z7D (z0d nl t)) (gSd (.agg [st s])) now i;z2a.tup [.agg (z0d none r.t),.agg [st r.s],i64 r.id,i64 r.e])=_
 rw[z7t,z0k,z5Na]
def z3fa:z4a:=⟨z1ra.pre,fun ds=>let r:=z1M (z69 (gCs (nth ds 0))) (z7D (gCs (nth ds 1))) (gSd (nth ds 2)) (asI (nth ds 3)) (asI (nth ds 4));.agg (z0d none r.t++[st r.s,i64 r.id,.sl .plain none 0 [],i64 r.e])⟩
theorem z7kb {na nb nc nl:Option Bool} {p:z9n} {t:z2k} {s:List UInt8} (now i:Int) (hp:z4Q p) (h:z2N t) (hs:s.length<1000000000):z3fa.pre [.agg (z4n na nb nc p),.agg (z0d nl t),.agg [st s],i64 now,i64 i]=True:=eq_true ⟨na,nb,nc,nl,p,t,s,now,i,hp,h,hs,rfl⟩
theorem z3Aa (na nb nc nl:Option Bool) (p:z9n) (t:z2k) (s:List UInt8) (now i:Int):z3fa.post [.agg (z4n na nb nc p),.agg (z0d nl t),.agg [st s],i64 now,i64 i]= .agg (z0d none (z1M p t s now i).t++[st (z1M p t s now i).s,i64 (z1M p t s now i).id,.sl .plain none 0 [],i64 (z1M p t s now i).e]):=by
 show(let r:=z1M (z69 (z4n na nb nc p)) (z7D (z0d nl t)) (gSd (.agg [st s])) now i;z2a.agg (z0d none r.t++[st r.s,i64 r.id,.sl .plain none 0 [],i64 r.e]))=_
 rw[z7t,z0k,z5Na]
def z2ja:z4a:=⟨fun ds=>∃e:Int,ds=[i64 e],fun ds=> .tup [.agg (z0d none ⟨0,[]⟩),.agg [st []],i64 0,nth ds 0]⟩
@[simp] theorem z9ac (e:Int):z2ja.pre [i64 e]=True:=eq_true ⟨e,rfl⟩
@[simp] theorem z7Za (e:Int):z2ja.post [i64 e]= .tup [.agg (z0d none ⟨0,[]⟩),.agg [st []],i64 0,i64 e]:=rfl
structure z7Ac (p:z9n) (t:z2k) (s:List UInt8) (now i:Int) (k:z2d):Prop where
 now0:0≤now
 now1:now<z30
 got:z80 t.keys i=some k
 live:z4T k now=true
 has:z0Ga p k.ty 1=true
 sub:z7ea k.uses (z3ba p k.ty)=true
 ver:k.ver≠z7N
 key:z6ob t.keys i=k
 ok:okK k=true
 i0:0<i
 i1:i<t.next
 n1:t.next≤z7N
 nxt:z1R t.keys i=none
theorem z4Pc {p:z9n} {t:z2k} (s:List UInt8) {now i:Int} (hv:z9pa t) (h:z36 p t.keys now i=0):∃k,z7Ac p t s now i k:=by
 obtain⟨h0,h1,k,h2,h3,h4,h5,h6,h7⟩:=fit0 h
 obtain⟨tk,hl,hn,hk⟩:=z8q hv
 obtain⟨a1,a2,a3,a4⟩:=hk k (z4K h2)
 have e:=z1va h2
 exact⟨k,h0,h1,h2,h3,h5,h6,h7,by rw[z6ob,h2];rfl,a1,by omega,by omega,hn.2,h4⟩
theorem z8hc {p:z9n} {t:z2k} {s:List UInt8} {now i:Int} {k:z2d} (g:z7Ac p t s now i k):ckK t.keys now i=k:=by
 have h0:=g.now0
 rw[ckK,if_neg (by omega),if_pos g.now1,g.got];rfl
theorem z2ya {p:z9n} {t:z2k} {s:List UInt8} {now i:Int} {k:z2d} (g:z7Ac p t s now i k):z0S ⟨t.next,z9ja t.keys i k⟩ (z9J p s now i k)=
  if t.keys.length<4096∧t.next<z7N then(z5yb p t s now i,t.next,0) else(⟨0,[]⟩,0,2):=by
 have e:(z9ja t.keys i k).length=t.keys.length:=by simp[z9ja]
 have hf:okK (z9J p s now i k)=true:=z3ka g.ok g.live g.now0 g.now1 g.ver g.i0 g.i1 g.n1 (z61 _ _ _)
 rw[z0S,if_pos ⟨hf,g.i1⟩]
 show(if(z9ja t.keys i k).length<4096∧t.next<z7N then _ else _)=_
 rw[e,z5yb,g.key]
theorem z4La {k:z2d} (h:kOk k):kOk (z46a k):=⟨h.1,h.2.1,h.2.2.1,z4Da _ _,h.2.2.2.2⟩
theorem z21a {k:z2d} (h:okK k=true) (hi:z1n k.id) (hu:z1n k.uses):kOk k:=by
 obtain⟨r1,r2,r3,r4,r5,r6,r7⟩:=z2ra h
 have hm:z30=1099511627776:=rfl
 have ht:z7N=2147483647:=rfl
 refine⟨hi,⟨by omega,by omega⟩,by omega,hu,⟨by omega,by omega⟩,⟨by omega,by omega⟩,⟨by omega,by omega⟩,⟨by omega,by omega⟩⟩
theorem z1xa {p:z9n} {t:z2k} {s:List UInt8} {now i:Int} {k:z2d} (g:z7Ac p t s now i k) (hk:kOk k):kOk (z9J p s now i k):=
 z21a (z3ka g.ok g.live g.now0 g.now1 g.ver g.i0 g.i1 g.n1 (z61 _ _ _)) ⟨by show-9223372036854775808≤(0:Int);omega,by show(0:Int)≤9223372036854775807;omega⟩ hk.2.2.2.1
end Go.Abs
end

section
namespace Go.Abs
theorem z9kc {p:z9n} {t:z2k} {s:List UInt8} {now i:Int} (h:(z1M p t s now i).e=0):z36 p t.keys now i=0∧(t.keys.length<4096∧t.next<z7N)∧z1M p t s now i=⟨z5yb p t s now i,drv s z6aa [],t.next,0⟩:=by
 unfold z1M at h⊢
 by_cases hf:z36 p t.keys now i=0
 ·rw[if_pos hf] at h⊢
  by_cases hc:t.keys.length<4096∧t.next<z7N
  ·rw[if_pos hc];exact⟨hf,hc,rfl⟩
  ·rw[if_neg hc] at h;exact absurd h (by show ¬(2:Int)=0;omega)
 ·rw[if_neg hf] at h;exact absurd h hf
theorem z3Na (l:List z2d) (i:Int) (k:z2d):(z9ja l i k).length=l.length:=by simp[z9ja]
theorem z2Oa {l:List z2d} {i:Int} {k x:z2d} (h:x∈z9ja l i k):x∈l∨x=z46a k:=List.mem_or_eq_of_mem_set h
theorem z6Na (p:z9n) (s:List UInt8) (now i n:Int) (k:z2d):okK {z9J p s now i k with id:=n}=okK (z9J p s now i k):=rfl
theorem z2hb {p:z9n} {t:z2k} {s:List UInt8} {now i:Int} (hg:z2N t) (hf:z36 p t.keys now i=0) (hc:t.keys.length<4096∧t.next<z7N):z2N (z5yb p t s now i):=by
 obtain⟨hv,ha⟩:=hg
 obtain⟨k,g⟩:=z4Pc (p:=p) s hv hf
 obtain⟨tk,hl,hn,hk⟩:=z8q hv
 have hfr:okK (z9J p s now i k)=true:=z3ka g.ok g.live g.now0 g.now1 g.ver g.i0 g.i1 g.n1 (z61 _ _ _)
 have gk:=z1Kc tk.1 g.got
 have htn:z7N=2147483647:=rfl
 have hko:=ha.2.2 k (z4K g.got)
 have e:z5yb p t s now i=⟨t.next+1,z9ja t.keys i k++[{z9J p s now i k with id:=t.next}]⟩:=by rw[z5yb,g.key]
 rw[e]
 refine⟨?_,?_,⟨?_,?_⟩,?_⟩
 ·show okT _=true
  simp only[okT,Bool.and_eq_true,decide_eq_true_eq,List.length_append,z3Na,List.length_singleton]
  refine⟨⟨by omega,by omega,by omega⟩,z7zb (fun x hx=> ?_) ?_⟩
  ·rcases List.mem_append.1 hx with hx|hx
   ·rcases z2Oa hx with hx|rfl
    ·obtain⟨a1,a2,a3,a4⟩:=hk x hx;exact⟨a1,a2,by omega,by omega⟩
    ·obtain⟨a1,a2,a3,a4⟩:=hk k gk.mem
     exact⟨z73a a1,a2,by show k.id<_;omega,by show k.par<_;omega⟩
   ·rw[List.mem_singleton.1 hx]
    exact⟨(z6Na ..).trans hfr,by show 0<t.next;omega,by show t.next<t.next+1;omega,by show i<t.next+1;have:=g.i1;omega⟩
  ·rw[z8qa,List.map_append,z2Ua gk,List.pairwise_append]
   refine⟨z8qa.1 tk.1,List.pairwise_singleton _ _,fun a hm b hb=> ?_⟩
   obtain⟨x,hx,rfl⟩:=List.mem_map.1 hm
   have:b=t.next:=by simpa using hb
   rw[this]
   exact(hk x hx).2.2.1
 ·show(z9ja t.keys i k++_).length≤9223372036854775807
  rw[List.length_append,z3Na];simp;omega
 ·show _≤t.next+1;omega
 ·show t.next+1≤_;omega
 ·intro x hx
  rcases List.mem_append.1 hx with hx|hx
  ·rcases z2Oa hx with hx|rfl
   ·exact ha.2.2 x hx
   ·exact z4La hko
  ·rw[List.mem_singleton.1 hx]
   exact z21a ((z6Na ..).trans hfr) ⟨by show _≤t.next;omega,by show t.next≤_;omega⟩ hko.2.2.2.1
theorem z3ca {p:z9n} {t:z2k} {s:List UInt8} {now i:Int} (hg:z2N t) (h:(z1M p t s now i).e=0):z2N (z1M p t s now i).t∧(z1M p t s now i).s.length=32:=by
 obtain⟨h1,h2,h3⟩:=z9kc h
 rw[h3]
 exact⟨z2hb hg h1 h2,z61 _ _ _⟩
structure AllO where
 t:z2k
 s:List UInt8
 m:List Int
 e:Int
def z0aa (p:z9n) (now:Int):List Int→z2k→List UInt8→List Int→AllO
 |[],t,s,m=>⟨t,s,m,0⟩
 |i::l,t,s,m=>if(z1M p t s now i).e=0 then z0aa p now l (z1M p t s now i).t (z1M p t s now i).s (m++[(z1M p t s now i).id]) else⟨⟨0,[]⟩,[],[],(z1M p t s now i).e⟩
/-! ### Keys that end soon -/
def z28b (p:z9n) (l:List z2d) (now ahead:Int) (k:z2d):Bool:= !(z1R l k.id).isSome&&z4T k now&&z0Ga p k.ty 1&&decide (k.fin≤now+ahead)
def z6ka (p:z9n) (l:List z2d) (now ahead:Int) (n:Nat):List Int:=((l.take n).filter (z28b p l now ahead)).map (·.id)
def z1ca (p:z9n) (l:List z2d) (now ahead:Int):List Int:=if 0≤now∧0≤ahead∧now≤z30∧ahead≤z30 then z6ka p l now ahead l.length else []
theorem z1Fb {p:z9n} {l:List z2d} {now ahead:Int} {n:Nat} (h:n<l.length) (hf:z28b p l now ahead (z3g l n)=true):z6ka p l now ahead (n+1)=z6ka p l now ahead n++[(z3g l n).id]:=by
 rw[z6ka,List.take_add_one,List.filter_append,List.map_append,←z6ka,List.getElem?_eq_getElem h,←z0Y h]
 simp[hf]
theorem z5Gb {p:z9n} {l:List z2d} {now ahead:Int} {n:Nat} (h:n<l.length) (hf:z28b p l now ahead (z3g l n)=false):z6ka p l now ahead (n+1)=z6ka p l now ahead n:=by
 rw[z6ka,List.take_add_one,List.filter_append,List.map_append,←z6ka,List.getElem?_eq_getElem h,←z0Y h]
 simp[hf]
theorem z3Ka (p:z9n) (l:List z2d) (now ahead:Int) (n:Nat):(z6ka p l now ahead n).length≤l.length:=by
 rw[z6ka,List.length_map]
 exact Nat.le_trans (List.length_filter_le _ _) (by simp;omega)
end Go.Abs
end

section
namespace Go.Abs
def newV (p:z9n) (t:z2k) (v:List UInt8) (now i:Int):z2k:=⟨t.next+1,z9ja t.keys i (z6ob t.keys i)++[⟨t.next,(z6ob t.keys i).ty,v,(z6ob t.keys i).uses,now,now+z82 p (z6ob t.keys i) now,(z6ob t.keys i).ver+1,i,false⟩]⟩
theorem z3rc (p:z9n) (t:z2k) (s:List UInt8) (now i:Int):z5yb p t s now i=newV p t (drv s z9xa []) now i:=rfl
def p00:z9n:=⟨[],[⟨[97],25,50⟩],[],[]⟩
def v00:List UInt8:=List.replicate 32 7
def k00:z2d:=⟨1,0,v00,24,10,40,1,0,false⟩
def t00:z2k:=⟨2,[k00]⟩
def k01:z2d:=⟨1,0,v00,16,10,40,1,0,false⟩
def k02 (v:List UInt8):z2d:=⟨2,0,v,24,30,60,2,1,false⟩
def u00 (v:List UInt8):z2k:=⟨3,[k01,k02 v]⟩
theorem z3Oc (v:List UInt8):newV p00 t00 v 30 1=u00 v:=by rfl
theorem z7Dc:z36 p00 t00.keys 30 1=0:=by rfl
theorem z2nc:z36 p00 t00.keys 40 1=13:=by rfl
theorem z7dc (v:List UInt8):z36 p00 (u00 v).keys 30 1=12:=by rfl
theorem z4fc (v:List UInt8):z1R (u00 v).keys 1=some 2:=by rfl
theorem z5Pc (v:List UInt8):z1R (u00 v).keys 2=none:=by rfl
theorem z0Fc (v:List UInt8):z80 (u00 v).keys 1=some k01:=by rfl
theorem z3ab:z4Q p00:=⟨by decide,by decide,by decide⟩
theorem z3Ba:z2N t00:=by
 refine⟨by show okT t00=true;rfl,by show 1≤9223372036854775807;omega,⟨by decide,by decide⟩,fun k h=> ?_⟩
 rw[List.mem_singleton.1 h]
 exact⟨⟨by decide,by decide⟩,⟨by decide,by decide⟩,by decide,⟨by decide,by decide⟩,⟨by decide,by decide⟩,⟨by decide,by decide⟩,⟨by decide,by decide⟩,⟨by decide,by decide⟩⟩
theorem z5sb (s:List UInt8):z1M p00 t00 s 30 1=⟨u00 (drv s z9xa []),drv s z6aa [],2,0⟩:=by
 rw[z1M,if_pos z7Dc,if_pos (by decide),z3rc,z3Oc];rfl
theorem z3Sc (v s:List UInt8):z1M p00 (u00 v) s 30 1=⟨⟨0,[]⟩,[],0,12⟩:=by
 rw[z1M,if_neg (by rw[z7dc];omega),z7dc]
theorem z0Nc (s:List UInt8):z1M p00 t00 s 40 1=⟨⟨0,[]⟩,[],0,13⟩:=by
 rw[z1M,if_neg (by rw[z2nc];omega),z2nc]
theorem z29b (s:List UInt8):z2N (u00 (drv s z9xa [])):=by
 have h:=z3ca (p:=p00) (s:=s) (now:=30) (i:=1) z3Ba (by rw[z5sb])
 rw[z5sb] at h
 exact h.1
theorem z1Cb (v:List UInt8):z7Ua (u00 v).keys 1=some [1,2]:=by
 rw[z7Ua,z0Fc,Option.map_some,z6R (z4fc v),z6Q (z5Pc v)]
theorem z4Sc (v:List UInt8):z0zb (u00 v).keys 1=some 2:=by rw[z0zb,z1Cb];rfl
theorem z9Ec (s:List UInt8):z0aa p00 30 [1] t00 s []=⟨u00 (drv s z9xa []),drv s z6aa [],[2],0⟩:=by
 rw[z0aa,z5sb,if_pos rfl,z0aa];rfl
theorem z7Ic:z1ca p00 t00.keys 30 10=[1]:=by rfl
end Go.Abs
end
