/- Lemmas. -/
import Derived.Orders
import Derived.Deep.MidRow
import Derived.Laws.IdiomStrings
import Derived.Laws.BytesArg
import Derived.Laws.AppendOwn
import Derived.KernelRfl
import Derived.Maps.OwnSet
noncomputable section
set_option linter.all false
namespace Go.Abs
inductive cH where
 |plain|clip
 |own (esz:Nat)
 deriving Inhabited
inductive oH where
 |undef
 |lit (v:Value)
 |agg (cs:List oH)
 |tup (vs:List oH)
 |sl (m:cH) (nl:Option Bool) (n:Nat) (cs:List oH)
 |bp (id off:Nat)
 |bv (id e off n c:Nat)
 |ep (cs:List oH)
 |fn (f:Nat) (first caps:List oH)
 |otup (esz:Nat) (nl:Option Bool) (n:Nat) (cs rest:List oH)
 |oagg (m:List (List UInt8×List UInt8)) (rest:List oH)
 |mp (m:List (List UInt8×List UInt8))
 |pv (o:Option (Option Addr×Nat)) (e n:Nat) (cs:List oH)
 deriving Inhabited
structure Con where
 P:Program
 nu:Nat->FuncId
 globs:List (Nat×List oH)
 mkt:TypeId:=0
 met:TypeId:=0
inductive Loc where
 |slot (s:Nat)
 |cell (id i:Nat)
 |ret
 deriving DecidableEq
structure Gh where
 S:Nat->Nat
 ow:Nat->Option Loc
 mu:Nat->Option Nat
mutual
def ap(K:Con)(S:Nat->Nat)(w:World):oH->Value->Prop
 | .undef,_=>True
 | .lit x,v=>v=x
 | .agg cs,v=>∃a:Array Value,v= .agg a∧ag K S w cs a.toList
 | .tup cs,v=>∃a:Array Value,v= .tuple a∧ag K S w cs a.toList
 | .sl m nl n cs,v=>
   (∃b o cap,v= .slice (some ⟨b,o,none⟩) n cap∧n<=cap∧am K S w cs b o∧nl≠some true∧(m= .clip->cap=n))∨
   (∃q:Option Addr,v= .slice q 0 0∧n=0∧cs=[]∧nl≠some q.isSome)
 | .ep cs,v=>∃b o,v= .pointer (some ⟨b,o,none⟩)∧am K S w cs b o
 | .fn f x y,v=>∃a c:Array Value,v= .func (.func (K.nu f)) a c∧ag K S w x a.toList∧ag K S w y c.toList
 | .otup _ nl n cs rest,v=>∃(a:Array Value) (x:Value) (xs:List Value),v= .tuple a∧a.toList=x::xs∧
   ((∃b o cap,x= .slice (some ⟨b,o,none⟩) n cap∧n<=cap∧am K S w cs b o∧nl≠some true)∨(∃q:Option Addr,x= .slice q 0 0∧n=0∧cs=[]∧nl≠some q.isSome))∧ag K S w rest xs
 | .oagg _ rest,v=>∃(a:Array Value) (x:Value) (xs:List Value),v= .agg a∧a.toList=x::xs∧(∃b,x= .map (some b))∧ag K S w rest xs
 | .mp _,v=>∃b,v= .map (some b)
 | .pv o _ n _,v=>∃q cap,v= .slice q n cap∧∀p,o=some p->p=(q,cap)
 | .bp _ _,_=>False
 | .bv _ _ _ _ _,_=>False
def ag(K:Con)(S:Nat->Nat)(w:World):List oH->List Value->Prop
 |[],l=>l=[]
 |c::cs,l=>∃x xs,l=x::xs∧ap K S w c x∧ag K S w cs xs
def am(K:Con)(S:Nat->Nat)(w:World):List oH->Nat->Nat->Prop
 |[],_,_=>True
 |c::cs,b,o=>o<S b∧(∃x,w.cell? ⟨b,o,none⟩=some x∧ap K S w c x)∧am K S w cs b (o+1)
end
def cz(g:Gh)(w:World)(l:Loc)(esz n len:Nat)(v:Value):Prop:=
 ∃b cap,v= .slice (some ⟨b,0,none⟩) n cap∧n<=cap∧len=n*esz∧g.S b=n*esz∧g.ow b=some l∧w.there b 0 (cap*esz)
def mpD(m:List (List UInt8×List UInt8)):DataW Unit:=m.foldl (λD p=>D.put (.string p.1) (.lit (.string p.2))) (.map [])
def z1C(K:Con)(g:Gh)(w:World)(l:Loc)(m:List (List UInt8×List UInt8))(v:Value):Prop:=
 ∃b,v= .map (some b)∧g.ow b=some l∧w.ownsMap K.P K.mkt (plainElem K.P K.met) b m.length (mpD m)
def kO(g:Gh)(w:World)(l:Loc)(e n:Nat)(cs:List oH)(v:Value):Prop:=
 (∃q,v= .slice q 0 0∧n=0∧cs=[])∨∃b cap,v= .slice (some ⟨b,0,none⟩) n cap∧n<=cap∧cs.length=n*e∧g.ow b=some l∧g.S b=0∧w.there b 0 (cap*e)∧∀i c,cs[i]? =some c->∃x,c= .lit x∧w.cell? ⟨b,i,none⟩=some x
mutual
def Rep(K:Con)(g:Gh)(w:World):Option Loc->oH->Value->Prop
 |l,.sl (.own esz) nl n cs,v=>ap K g.S w (.sl .plain nl n cs) v∧∀l',l=some l'->(v= .slice none 0 0∨(∃a,v= .slice a 0 0)∧cs=[])∨cz g w l' esz n cs.length v
 |_,.bp id off,v=>∃b,g.mu id=some b∧v= .pointer (some ⟨b,off,none⟩)
 |_,.bv id _ off n c,v=>∃b cap o,g.mu id=some b∧v= .slice (some ⟨b,o,none⟩) n cap∧n<=cap∧c<=cap∧(o=off∨(n=0∧c=0))∧(500000<=id->c=cap)
 |_,.agg cs,v=>∃a:Array Value,v= .agg a∧an K g w cs a.toList
 |_,.tup cs,v=>∃a:Array Value,v= .tuple a∧an K g w cs a.toList
 |_,.fn f x y,v=>∃a c:Array Value,v= .func (.func (K.nu f)) a c∧an K g w x a.toList∧an K g w y c.toList
 |_,.undef,_=>True
 |_,.lit x,v=>v=x
 |_,.sl .plain nl n cs,v=>ap K g.S w (.sl .plain nl n cs) v
 |_,.sl .clip nl n cs,v=>ap K g.S w (.sl .clip nl n cs) v
 |_,.ep cs,v=>ap K g.S w (.ep cs) v
 |l,.otup esz nl n cs rest,v=>∃(a:Array Value) (x:Value) (xs:List Value),v= .tuple a∧a.toList=x::xs∧
   (ap K g.S w (.sl .plain nl n cs) x∧∀l',l=some l'->(x= .slice none 0 0∨(∃a,x= .slice a 0 0)∧cs=[])∨cz g w l' esz n cs.length x)∧an K g w rest xs
 |l,.oagg m rest,v=>∃(a:Array Value) (x:Value) (xs:List Value),v= .agg a∧a.toList=x::xs∧((∃b,x= .map (some b))∧∀l',l=some l'->z1C K g w l' m x)∧an K g w rest xs
 |l,.mp m,v=>(∃b,v= .map (some b))∧∀l',l=some l'->z1C K g w l' m v
 |l,.pv o e n cs,v=>(∃q cap,v= .slice q n cap∧∀p,o=some p->p=(q,cap))∧∀l',l=some l'->kO g w l' e n cs v
def an(K:Con)(g:Gh)(w:World):List oH->List Value->Prop
 |[],l=>l=[]
 |c::cs,l=>∃x xs,l=x::xs∧Rep K g w none c x∧an K g w cs xs
end
def dem:oH->oH
 | .sl (.own _) nl n cs=> .sl .plain nl n cs
 | .otup _ nl n cs rest=> .tup (.sl .plain nl n cs::rest)
 | .oagg _ rest=> .agg (.undef::rest)
 | .mp _=> .undef
 | .pv (some (q,cap)) _ n _=> .lit (.slice q n cap)
 | .pv none _ _ _=> .undef
 |v=>v
def aP(S:Nat->Nat)(w:World)(S':Nat->Nat)(w':World):Prop:=
 ∀b i x,i<S b->w.cell? ⟨b,i,none⟩=some x->i<S' b∧w'.cell? ⟨b,i,none⟩=some x
theorem aP.refl(S:Nat->Nat)(w:World):aP S w S w:=λ_ _ _ h h'=>⟨h,h'⟩
theorem aP.trans{S S' S'':Nat->Nat}{w w' w'':World}(h:aP S w S' w')(h':aP S' w' S'' w''):aP S w S'' w'':=
 λb i x hi hc=>let⟨h1,h2⟩:=h b i x hi hc;h' b i x h1 h2
mutual
theorem ap.mono{K:Con}{S S':Nat->Nat}{w w':World}(hk:aP S w S' w'):∀(d:oH) (v:Value),ap K S w d v->ap K S' w' d v
 | .undef,_,_=>by simp[ap]
 | .lit x,v,h=>by simpa[ap] using h
 | .agg cs,v,h=>by simp only[ap] at h⊢;obtain⟨a,rfl,h⟩:=h;exact⟨a,rfl,ag.mono hk cs _ h⟩
 | .tup cs,v,h=>by simp only[ap] at h⊢;obtain⟨a,rfl,h⟩:=h;exact⟨a,rfl,ag.mono hk cs _ h⟩
 | .sl m nl n cs,v,h=>by
  simp only[ap] at h⊢;rcases h with⟨b,o,cap,rfl,h1,h2,h3⟩|h
  ·exact .inl ⟨b,o,cap,rfl,h1,am.mono hk cs _ _ h2,h3⟩
  exact .inr h
 | .ep cs,v,h=>by simp only[ap] at h⊢;obtain⟨b,o,rfl,h⟩:=h;exact⟨b,o,rfl,am.mono hk cs _ _ h⟩
 | .fn f x y,v,h=>by simp only[ap] at h⊢;obtain⟨a,c,rfl,h1,h2⟩:=h;exact⟨a,c,rfl,ag.mono hk x _ h1,ag.mono hk y _ h2⟩
 | .otup esz nl n cs rest,v,h=>by
  simp only[ap] at h⊢;obtain⟨a,x,xs,rfl,h0,h1,h2⟩:=h;refine⟨a,x,xs,rfl,h0,?_,ag.mono hk rest _ h2⟩;rcases h1 with⟨b,o,cap,rfl,k1,k2,k3⟩|h1
  ·exact .inl ⟨b,o,cap,rfl,k1,am.mono hk cs _ _ k2,k3⟩
  exact .inr h1
 | .oagg m rest,v,h=>by simp only[ap] at h⊢;obtain⟨a,x,xs,rfl,h0,h1,h2⟩:=h;exact⟨a,x,xs,rfl,h0,h1,ag.mono hk rest _ h2⟩
 | .mp _,_,h=>by simpa[ap] using h
 | .pv _ _ _ _,_,h=>by simpa only[ap] using h
 | .bp _ _,_,h=>by simp[ap] at h
 | .bv _ _ _ _ _,_,h=>by simp[ap] at h
theorem ag.mono{K:Con}{S S':Nat->Nat}{w w':World}(hk:aP S w S' w'):∀(ds:List oH) (vs:List Value),ag K S w ds vs->ag K S' w' ds vs
 |[],_,h=>by simpa[ag] using h
 |c::cs,l,h=>by simp only[ag] at h⊢;obtain⟨x,xs,rfl,h1,h2⟩:=h;exact⟨x,xs,rfl,ap.mono hk c x h1,ag.mono hk cs xs h2⟩
theorem am.mono{K:Con}{S S':Nat->Nat}{w w':World}(hk:aP S w S' w'):∀(ds:List oH) (b o:Nat),am K S w ds b o->am K S' w' ds b o
 |[],_,_,_=>by simp[am]
 |c::cs,b,o,h=>by simp only[am] at h⊢;obtain⟨h0,⟨x,hx,h1⟩,h2⟩:=h;obtain⟨k1,k2⟩:=hk b o x h0 hx;exact⟨k1,⟨x,k2,ap.mono hk c x h1⟩,am.mono hk cs b (o+1) h2⟩
end
theorem Ld{w w':World}{b:Nat}(h:w'.heap[b]? =w.heap[b]?){o n:Nat}(ht:w.there b o n):w'.there b o n:=λj hj=>by obtain⟨h1,h2⟩:=ht j hj;exact⟨by rw[World.cell?_of_block (w:=w) (a:=⟨b,o+j,none⟩) h];exact h1,by rw[World.frozen?_of_block (w:=w) (a:=⟨b,o+j,none⟩) h];exact h2⟩
def aQ(g:Gh)(w:World)(g':Gh)(w':World)(l l':Loc):Prop:=
 ∀b,g.ow b=some l->g'.ow b=some l'∧g'.S b=g.S b∧w'.heap[b]? =w.heap[b]?
theorem cz.mono{g g':Gh}{w w':World}{l l':Loc}(h:aQ g w g' w' l l'){esz n len:Nat}{v:Value}(ho:cz g w l esz n len v):cz g' w' l' esz n len v:=by obtain⟨b,cap,rfl,h1,h2,h3,h4,h5⟩:=ho;obtain⟨k1,k2,k3⟩:=h b h4;exact⟨b,cap,rfl,h1,h2,by rw[k2,h3],k1,Ld k3 h5⟩
theorem z1C.mono{K:Con}{g g':Gh}{w w':World}{l l':Loc}(h:aQ g w g' w' l l'){m:List (List UInt8×List UInt8)}{v:Value}(ho:z1C K g w l m v):z1C K g' w' l' m v:=by obtain⟨b,rfl,h1,es,c,h2,h3⟩:=ho;obtain⟨k1,_,k3⟩:=h b h1;exact⟨b,rfl,k1,es,c,k3.trans h2,h3⟩
theorem kO.mono{g g':Gh}{w w':World}{l l':Loc}(h:aQ g w g' w' l l'){e n:Nat}{cs:List oH}{v:Value}(ho:kO g w l e n cs v):kO g' w' l' e n cs v:=by
 rcases ho with ho|⟨b,cap,rfl,h1,h2,h3,h4,h5,h6⟩
 ·exact .inl ho
 obtain⟨k1,k2,k3⟩:=h b h3;exact .inr ⟨b,cap,rfl,h1,h2,k1,by rw[k2,h4],Ld k3 h5,λi c hi=>by
  obtain⟨x,e,hx⟩:=h6 i c hi;exact⟨x,e,by rw[World.cell?_of_block (w:=w) (a:=⟨b,i,none⟩) k3];exact hx⟩⟩
mutual
def aF:oH->List Nat
 | .bp id _=>[id]
 | .bv id _ _ _ _=>[id]
 | .agg cs=>pT cs
 | .tup cs=>pT cs
 | .fn _ x y=>pT x++pT y
 | .otup _ _ _ _ rest=>pT rest
 | .oagg _ rest=>pT rest
 |_=>[]
def pT:List oH->List Nat
 |[]=>[]
 |c::cs=>aF c++pT cs
end
mutual
theorem Rep.mono{K:Con}{g g':Gh}{w w':World}(hk:aP g.S w g'.S w'):∀(d:oH) (v:Value) (l l':Option Loc),
  (∀id∈aF d,∀b,g.mu id=some b->g'.mu id=some b)->(∀m',l'=some m'->∃m,l=some m∧aQ g w g' w' m m')->Rep K g w l d v->Rep K g' w' l' d v
 | .undef,_,_,_,_,_,_=>by simp[Rep]
 | .lit x,v,_,_,_,_,h=>by simpa[Rep] using h
 | .agg cs,v,_,_,hr,_,h=>by simp only[Rep] at h⊢;obtain⟨a,rfl,h⟩:=h;exact⟨a,rfl,an.mono hk cs _ (by simpa[aF] using hr) h⟩
 | .tup cs,v,_,_,hr,_,h=>by simp only[Rep] at h⊢;obtain⟨a,rfl,h⟩:=h;exact⟨a,rfl,an.mono hk cs _ (by simpa[aF] using hr) h⟩
 | .sl (.own esz) nl n cs,v,l,l',_,hl,h=>by simp only[Rep] at h⊢;obtain⟨h1,h2⟩:=h;refine⟨ap.mono hk _ _ h1,λm' hm'=> ?_⟩;obtain⟨m,rfl,h3⟩:=hl m' hm';exact(h2 m rfl).imp id (cz.mono h3)
 | .sl .plain nl n cs,v,_,_,_,_,h=>by simp only[Rep] at h⊢;exact ap.mono hk _ _ h
 | .sl .clip nl n cs,v,_,_,_,_,h=>by simp only[Rep] at h⊢;exact ap.mono hk _ _ h
 | .ep cs,v,_,_,_,_,h=>by simp only[Rep] at h⊢;exact ap.mono hk _ _ h
 | .fn f x y,v,_,_,hr,_,h=>by simp only[Rep] at h⊢;obtain⟨a,c,rfl,h1,h2⟩:=h;simp only[aF,List.mem_append] at hr;exact⟨a,c,rfl,an.mono hk x _ (λid hi=>hr id (.inl hi)) h1,an.mono hk y _ (λid hi=>hr id (.inr hi)) h2⟩
 | .otup esz nl n cs rest,v,l,l',hr,hl,h=>by simp only[Rep] at h⊢;obtain⟨a,x,xs,rfl,h0,⟨h1,h3⟩,h2⟩:=h;refine⟨a,x,xs,rfl,h0,⟨ap.mono hk _ _ h1,λm' hm'=> ?_⟩,an.mono hk rest _ (by simpa[aF] using hr) h2⟩;obtain⟨m,rfl,h4⟩:=hl m' hm';exact(h3 m rfl).imp id (cz.mono h4)
 | .oagg m rest,v,l,l',hr,hl,h=>by simp only[Rep] at h⊢;obtain⟨a,x,xs,rfl,h0,⟨h1,h3⟩,h2⟩:=h;refine⟨a,x,xs,rfl,h0,⟨h1,λm' hm'=> ?_⟩,an.mono hk rest _ (by simpa[aF] using hr) h2⟩;obtain⟨m,rfl,h4⟩:=hl m' hm';exact z1C.mono h4 (h3 m rfl)
 | .mp m,v,l,l',_,hl,h=>by simp only[Rep] at h⊢;refine⟨h.1,λm' hm'=> ?_⟩;obtain⟨m,rfl,h3⟩:=hl m' hm';exact z1C.mono h3 (h.2 m rfl)
 | .pv o e n cs,v,l,l',_,hl,h=>by simp only[Rep] at h⊢;refine⟨h.1,λm' hm'=> ?_⟩;obtain⟨m,rfl,h3⟩:=hl m' hm';exact kO.mono h3 (h.2 m rfl)
 | .bp id off,v,_,_,hr,_,h=>by simp only[Rep] at h⊢;obtain⟨b,hb,rfl⟩:=h;exact⟨b,hr id (by simp[aF]) b hb,rfl⟩
 | .bv id e off n c,v,_,_,hr,_,h=>by simp only[Rep] at h⊢;obtain⟨b,cap,o,hb,rfl,h1⟩:=h;exact⟨b,cap,o,hr id (by simp[aF]) b hb,rfl,h1⟩
theorem an.mono{K:Con}{g g':Gh}{w w':World}(hk:aP g.S w g'.S w'):∀(ds:List oH) (vs:List Value),
  (∀id∈pT ds,∀b,g.mu id=some b->g'.mu id=some b)->an K g w ds vs->an K g' w' ds vs
 |[],_,_,h=>by simpa[an] using h
 |c::cs,l,hr,h=>by simp only[an] at h⊢;obtain⟨x,xs,rfl,h1,h2⟩:=h;simp only[pT,List.mem_append] at hr;exact⟨x,xs,rfl,Rep.mono hk c x none none (λid hi=>hr id (.inl hi)) (λ_ h=>by cases h) h1,an.mono hk cs xs (λid hi=>hr id (.inr hi)) h2⟩
end
theorem Eu:∀(a b:List oH),pT (a++b)=pT a++pT b
 |[],b=>rfl
 |c::cs,b=>by simp only[List.cons_append,pT,Eu cs b,List.append_assoc]
theorem Rep.loc{K:Con}{g:Gh}{w:World}{l:Option Loc}(l':Option Loc){d:oH}{v:Value}(hd:(∀e nl n cs,d≠ .sl (.own e) nl n cs)∧(∀e nl n cs r,d≠ .otup e nl n cs r)∧(∀m r,d≠ .oagg m r)∧(∀m,d≠ .mp m)∧∀o e n cs,d≠ .pv o e n cs)(h:Rep K g w l d v):Rep K g w l' d v:=by
 cases d with
 |sl m nl n cs=>
  cases m with
  |own e=>exact absurd rfl (hd.1 e nl n cs)
  |plain=>simp only[Rep] at h⊢;exact h
  |clip=>simp only[Rep] at h⊢;exact h
 |undef=>simp[Rep]
 |otup e nl n cs r=>exact absurd rfl (hd.2.1 e nl n cs r)
 |oagg m r=>exact absurd rfl (hd.2.2.1 m r)
 |mp m=>exact absurd rfl (hd.2.2.2.1 m)
 |pv o e n cs=>exact absurd rfl (hd.2.2.2.2 o e n cs)
 |_=>simp only[Rep] at h⊢;exact h
theorem Rep.dem{K:Con}{g:Gh}{w:World}{l:Option Loc}(l':Option Loc){d:oH}{v:Value}(h:Rep K g w l d v):Rep K g w l' (dem d) v:=by
 cases d with
 |sl m nl n cs=>
  cases m<;>simp only[Abs.dem,Rep] at h⊢
  ·exact h
  ·exact h
  exact h.1
 |otup e nl n cs rest=>simp only[Rep] at h;obtain⟨a,x,xs,rfl,h0,h1,h2⟩:=h;simp only[Abs.dem,Rep,an];exact⟨a,rfl,x,xs,h0,h1.1,h2⟩
 |oagg m rest=>simp only[Rep] at h;obtain⟨a,x,xs,rfl,h0,h1,h2⟩:=h;simp only[Abs.dem,Rep,an];exact⟨a,rfl,x,xs,h0,trivial,h2⟩
 |mp m=>simp[Abs.dem,Rep]
 |pv o e n cs=>
  cases o with
  |none=>simp[Abs.dem,Rep]
  |some p=>simp only[Rep] at h;obtain⟨⟨q,cap,rfl,h1⟩,_⟩:=h;cases h1 p rfl;simp[Abs.dem,Rep]
 |_=>exact Rep.loc l' (by simp[Abs.dem]) h
mutual
def ak:oH->Bool
 | .bp _ _=>false
 | .bv _ _ _ _ _=>false
 | .agg cs=>au cs
 | .tup cs=>au cs
 | .fn _ x y=>au x&&au y
 | .otup _ _ _ _ rest=>au rest
 | .oagg _ rest=>au rest
 |_=>true
def au:List oH->Bool
 |[]=>true
 |c::cs=>ak c&&au cs
end
theorem bE:∀(cs:List oH),au cs=true↔∀c∈cs,ak c=true
 |[]=>by simp[au]
 |c::cs=>by simp[au,bE cs]
mutual
theorem Rep.pure{K:Con}{g:Gh}{w:World}:∀(d:oH) (v:Value) (l:Option Loc),ak d=true->Rep K g w l d v->ap K g.S w d v
 | .undef,_,_,_,_=>by simp[ap]
 | .lit x,v,_,_,h=>by simpa[ap,Rep] using h
 | .agg cs,v,_,hp,h=>by simp only[Rep,ap,ak] at h hp⊢;obtain⟨a,rfl,h⟩:=h;exact⟨a,rfl,an.pure cs _ hp h⟩
 | .tup cs,v,_,hp,h=>by simp only[Rep,ap,ak] at h hp⊢;obtain⟨a,rfl,h⟩:=h;exact⟨a,rfl,an.pure cs _ hp h⟩
 | .sl (.own esz) nl n cs,v,l,_,h=>by
  simp only[Rep] at h;obtain⟨h1,_⟩:=h;simp only[ap] at h1⊢;rcases h1 with⟨b,o,cap,h1,h2,h3,h4,_⟩|h1
  ·exact .inl ⟨b,o,cap,h1,h2,h3,h4,by simp⟩
  exact .inr h1
 | .sl .plain nl n cs,v,_,_,h=>by simpa only[Rep] using h
 | .sl .clip nl n cs,v,_,_,h=>by simpa only[Rep] using h
 | .ep cs,v,_,_,h=>by simpa only[Rep] using h
 | .fn f x y,v,_,hp,h=>by simp only[Rep,ap,ak,Bool.and_eq_true] at h hp⊢;obtain⟨a,c,rfl,h1,h2⟩:=h;exact⟨a,c,rfl,an.pure x _ hp.1 h1,an.pure y _ hp.2 h2⟩
 | .otup esz nl n cs rest,v,_,hp,h=>by
  simp only[Rep,ak] at h hp;obtain⟨a,x,xs,rfl,h0,⟨h1,_⟩,h2⟩:=h;simp only[ap] at h1⊢;refine⟨a,x,xs,rfl,h0,?_,an.pure rest _ hp h2⟩;rcases h1 with⟨b,o,cap,h1,h2,h3,h4,_⟩|h1
  ·exact .inl ⟨b,o,cap,h1,h2,h3,h4⟩
  exact .inr h1
 | .oagg m rest,v,_,hp,h=>by simp only[Rep,ap,ak] at h hp⊢;obtain⟨a,x,xs,rfl,h0,h1,h2⟩:=h;exact⟨a,x,xs,rfl,h0,h1.1,an.pure rest _ hp h2⟩
 | .mp _,_,_,_,h=>by simp only[Rep,ap] at h⊢;exact h.1
 | .pv _ _ _ _,_,_,_,h=>by simp only[Rep,ap] at h⊢;exact h.1
 | .bp _ _,_,_,hp,_=>by simp[ak] at hp
 | .bv _ _ _ _ _,_,_,hp,_=>by simp[ak] at hp
theorem an.pure{K:Con}{g:Gh}{w:World}:∀(ds:List oH) (vs:List Value),au ds=true->an K g w ds vs->ag K g.S w ds vs
 |[],_,_,h=>by simpa[ag,an] using h
 |c::cs,l,hp,h=>by simp only[an,ag,au,Bool.and_eq_true] at h hp⊢;obtain⟨x,xs,rfl,h1,h2⟩:=h;exact⟨x,xs,rfl,Rep.pure c x none hp.1 h1,an.pure cs xs hp.2 h2⟩
end
mutual
theorem ap.rep{K:Con}{g:Gh}{w:World}:∀(d:oH) (v:Value),ap K g.S w d v->Rep K g w none d v
 | .undef,_,_=>by simp[Rep]
 | .lit x,v,h=>by simpa[ap,Rep] using h
 | .agg cs,v,h=>by simp only[Rep,ap] at h⊢;obtain⟨a,rfl,h⟩:=h;exact⟨a,rfl,ag.rep cs _ h⟩
 | .tup cs,v,h=>by simp only[Rep,ap] at h⊢;obtain⟨a,rfl,h⟩:=h;exact⟨a,rfl,ag.rep cs _ h⟩
 | .sl (.own esz) nl n cs,v,h=>by
  simp only[Rep,ap] at h⊢;refine⟨?_,λ_ h=>by cases h⟩;rcases h with⟨b,o,cap,h1,h2,h3,h4,_⟩|h
  ·exact .inl ⟨b,o,cap,h1,h2,h3,h4,by simp⟩
  exact .inr h
 | .sl .plain nl n cs,v,h=>by simpa only[Rep] using h
 | .sl .clip nl n cs,v,h=>by simpa only[Rep] using h
 | .ep cs,v,h=>by simpa only[Rep] using h
 | .fn f x y,v,h=>by simp only[Rep,ap] at h⊢;obtain⟨a,c,rfl,h1,h2⟩:=h;exact⟨a,c,rfl,ag.rep x _ h1,ag.rep y _ h2⟩
 | .otup esz nl n cs rest,v,h=>by
  simp only[ap] at h;obtain⟨a,x,xs,rfl,h0,h1,h2⟩:=h;simp only[Rep,ap];refine⟨a,x,xs,rfl,h0,⟨?_,λ_ h=>by cases h⟩,ag.rep rest _ h2⟩;rcases h1 with⟨b,o,cap,h1,h2,h3,h4⟩|h1
  ·exact .inl ⟨b,o,cap,h1,h2,h3,h4,by simp⟩
  exact .inr h1
 | .oagg m rest,v,h=>by simp only[Rep,ap] at h⊢;obtain⟨a,x,xs,rfl,h0,h1,h2⟩:=h;exact⟨a,x,xs,rfl,h0,⟨h1,λ_ h=>by cases h⟩,ag.rep rest _ h2⟩
 | .mp _,_,h=>by simpa[Rep,ap] using h
 | .pv _ _ _ _,_,h=>by simp only[Rep,ap] at h⊢;exact⟨h,λ_ h=>by cases h⟩
 | .bp _ _,_,h=>by simp[ap] at h
 | .bv _ _ _ _ _,_,h=>by simp[ap] at h
theorem ag.rep{K:Con}{g:Gh}{w:World}:∀(ds:List oH) (vs:List Value),ag K g.S w ds vs->an K g w ds vs
 |[],_,h=>by simpa[ag,an] using h
 |c::cs,l,h=>by simp only[an,ag] at h⊢;obtain⟨x,xs,rfl,h1,h2⟩:=h;exact⟨x,xs,rfl,ap.rep c x h1,ag.rep cs xs h2⟩
end
theorem ap.dem{K:Con}{g:Gh}{w:World}(l:Option Loc){d:oH}{v:Value}(h:ap K g.S w d v):Rep K g w l (dem d) v:=Rep.dem l (ap.rep d v h)
structure aW where
 pre:List oH->Prop
 post:List oH->oH
structure CM where
 bx:List Nat
 nb:List Nat
 pre:List oH->Prop
 post:List oH->oH
 out:List oH->Nat->List oH
structure CW where
 hold:List Nat
 bx:List Nat
 nb:List Nat
 pre:List oH->(Nat->List oH)->Prop
 post:List oH->(Nat->List oH)->oH
 out:List oH->(Nat->List oH)->Nat->List oH
structure ItC where
 pre:List oH->List oH->Prop
 el:List oH->List oH->Nat->Option (List oH)
 lv:List Nat:=[]
structure Env where
 G:Nat->aW
 T:Nat->List oH
 M:Nat->CM:=λ_=>⟨[],[],λ_=>False,λ_=> .undef,λ_ _=>[]⟩
 I:Nat->ItC:=λ_=>{pre:=λ_ _=>False,el:=λ_ _ _=>none}
 C:Nat->CW:=λ_=>⟨[],[],[],λ_ _=>False,λ_ _=> .undef,λ_ _ _=>[]⟩
inductive Arg where
 |s (n:Nat)
 |c (d:oH)
 |g (n:Nat)
 deriving Inhabited
inductive LK where
 |int (k:IntKind)
 |bool
 |str
 deriving DecidableEq,Inhabited
inductive AOp where
 |mv (take:Bool) (x:Arg)
 |pick (c a b:Arg)
 |bin (op:BinOp) (x y:Arg)
 |eqF (ks:List LK) (neg:Bool) (x y:Arg)
 |eqnil (neg:Bool) (x y:Arg)
 |un (op:UnOp) (x:Arg)
 |toInt (k:IntKind) (x:Arg)
 |toStr (b:Option Nat) (x:Arg)
 |toBytes (x:Arg)
 |extractO (x:Nat)
 |buildO (zero:List oH) (s:Nat)
 |boxO (id s:Nat)
 |build (zero:List oH) (parts:List (Nat×Nat×Arg))
 |buildSl (esz n:Nat) (zero:List oH) (parts:List (Nat×Nat×Arg))
 |load (k b:Option Nat) (take:Bool) (x:Arg)
 |store (k:Option Nat) (b:Nat) (take:Bool) (a v:Arg)
 |fieldAddr (off:Nat) (x:Arg)
 |nilchk (x:Arg)
 |buildBx (id esz n:Nat) (zero:List oH) (parts:List (Nat×Nat×Arg))
 |idxArr (n esz:Nat) (x i:Arg)
 |idxSl (esz:Nat) (x i:Arg)
 |slArr (n esz:Nat) (x:Arg) (lo hi mx:Option Arg)
 |slSl (esz:Nat) (x:Arg) (lo hi mx:Option Arg)
 |slStr (x:Arg) (lo hi:Option Arg)
 |s2ap (n:Nat) (x:Arg)
 |alloc (id:Nat) (zero:List oH)
 |box (id:Nat) (k:Option Nat) (take:Bool) (x:Arg)
 |extract (i:Nat) (x:Arg)
 |idxA (k:Option Nat) (esz n:Nat) (x i:Arg)
 |idxStr (x i:Arg)
 |call (f:Nat) (args:List Arg) (bs:List Nat)
 |callv (f:Nat) (t:Arg) (args:List Arg) (bs:List Nat)
 |callm (f:Nat) (t:Option Arg) (args:List Arg) (ws ns:List (Nat×Nat))
 |callw (f:Nat) (t:Option Arg) (args:List Arg) (ws ns:List (Nat×Nat))
 |len (str:Bool) (x:Arg)
 |append (esz bytes:Nat) (str:Bool) (nlr:Option Bool) (b:Option Nat) (x:Nat) (y:Arg)
 |appendC (esz bytes:Nat) (str:Bool) (nlr:Option Bool) (b:Option Nat) (x:Arg) (y:Arg)
 |appendB (esz bytes:Nat) (str:Bool) (id:Nat) (b:Option Nat) (x y:Arg)
 |copy (esz:Nat) (str:Bool) (d:Nat) (b:Option Nat) (x y:Arg)
 |mkfn (f:Nat) (first caps:List Arg)
 |mkmap
 |loadP (k s:Nat) (x:Arg)
 |slP (esz s:Nat) (hi:Arg)
 |appendP (esz bytes s:Nat) (y:Arg)
 |unsup
 deriving Inhabited
def asV:oH->Value| .lit v=>v|_=>undef
def asI:oH->Int| .lit (.int _ n)=>n|_=>0
def asB:oH->Bool| .lit (.bool b)=>b|_=>false
def asS:oH->ByteArray| .lit (.string s)=>s|_=> .empty
def isB:oH->Prop| .lit (.bool _)=>True|_=>False
def isI:oH->Prop| .lit (.int _ _)=>True|_=>False
def z5E(k:IntKind):oH->Prop| .lit (.int k' _)=>k=k'|_=>False
def isS:oH->Prop| .lit (.string _)=>True|_=>False
def z1m:oH->Prop| .sl _ _ _ _=>True| .bv _ _ _ _ _=>True| .lit (.slice _ _ _)=>True|_=>False
def ah:oH->Prop| .agg _=>False| .tup _=>False| .otup _ _ _ _ _=>False| .oagg _ _=>False| .undef=>False| .lit (.agg _)=>False| .lit (.tuple _)=>False|_=>True
def ao:oH->Bool| .sl (.own _) _ _ _=>true| .otup _ _ _ _ _=>true| .oagg _ _=>true| .mp _=>true| .pv _ _ _ _=>true|_=>false
theorem AF:∀d:oH,ao (dem d)=false:=λd=>by
 cases d with
 |sl m _ _ _=>cases m<;>rfl
 |pv o _ _ _=>cases o<;>rfl
 |_=>rfl
def aA:oH->List oH| .agg cs=>cs|v=>[v]
def cN(k:Option Nat)(v:oH):List oH:=match k with|none=>[dem v]|some _=>aA v
def isK(k:Option Nat)(v:oH):Prop:=
 match k with
 |none=>ah v
 |some n=>match v with| .agg cs=>cs.length=n∧(∀c∈cs,ah c)∧(∀c∈cs,ao c=false)|_=>False
mutual
def aC:oH->Bool
 | .lit _=>true
 | .agg cs=>aj cs
 | .tup cs=>aj cs
 |_=>false
def aj:List oH->Bool
 |[]=>true
 |c::cs=>aC c&&aj cs
end
def splice{α:Type}(l:List α)(o:Nat)(xs:List α):List α:=l.take o++xs++l.drop (o+xs.length)
def bc:oH->Nat| .sl _ _ n _=>n| .bv _ _ _ n _=>n| .lit (.string s)=>s.size| .lit (.slice _ n _)=>n|_=>0
def az(bx:List oH):oH->List oH
 | .sl _ _ _ cs=>cs
 | .bv _ e off n _=>(bx.drop off).take (n*e)
 | .lit (.string s)=>s.data.toList.map λc=> .lit (.int .u8 c.toNat)
 |_=>[]
def okS(esz:Nat)(b:Option Nat)(bx:Option (List oH)):oH->Prop
 | .sl _ _ n cs=>cs.length=n*esz
 | .bv id e off n _=>b=some id∧e=esz∧(∃cs,bx=some cs∧off+n*e<=cs.length)
 | .lit (.slice none 0 0)=>True
 |_=>False
def z1F(op:BinOp)(k:IntKind)(a b:Int):Value:=
 match op with
 | .add=> .int k (k.wrap (a+b))
 | .sub=> .int k (k.wrap (a-b))
 | .mul=> .int k (k.wrap (a*b))
 | .quo=> .int k (k.wrap (a.tdiv b))
 | .rem=> .int k (a.tmod b)
 | .and=> .int k (k.wrap (BitVec.ofInt k.bits a&&&BitVec.ofInt k.bits b).toNat)
 | .or=> .int k (k.wrap (BitVec.ofInt k.bits a|||BitVec.ofInt k.bits b).toNat)
 | .xor=> .int k (k.wrap (BitVec.ofInt k.bits a^^^BitVec.ofInt k.bits b).toNat)
 | .andNot=> .int k (k.wrap (BitVec.ofInt k.bits a&&& ~~~BitVec.ofInt k.bits b).toNat)
 | .eql=> .bool (a==b)
 | .neq=> .bool (a !=b)
 | .lss=> .bool (a<b)
 | .leq=> .bool (a<=b)
 | .gtr=> .bool (a>b)
 | .geq=> .bool (a≥b)
 | .shl=> .int k (k.wrap (a*2^(min b.toNat k.bits)))
 | .shr=> .int k (a.fdiv (2^(min b.toNat k.bits)))
def z5ja(op:BinOp)(a b:ByteArray):Value:=
 match op with
 | .add=> .string (a++b)
 | .eql=> .bool (a.toList==b.toList)
 | .neq=> .bool !(a.toList==b.toList)
 | .lss=> .bool (Op.bytesLess a.toList b.toList)
 | .leq=> .bool (Op.bytesLess a.toList b.toList||a.toList==b.toList)
 | .gtr=> .bool !(Op.bytesLess a.toList b.toList||a.toList==b.toList)
 | .geq=> .bool !(Op.bytesLess a.toList b.toList)
 |_=>undef
def aE(op:BinOp)(x y:oH):oH:=
 match x,y with
 | .lit (.int k a),.lit (.int _ b)=> .lit (z1F op k a b)
 | .lit (.string a),.lit (.string b)=> .lit (z5ja op a b)
 |_,_=> .undef
def oV(op:BinOp)(x y:oH):Prop:=
 match x,y with
 | .lit (.int k _),.lit (.int k' b)=>
  (match op with
   | .shl| .shr=>0<=b
   | .quo| .rem=>k=k'∧b≠0
   |_=>k=k')
 | .lit (.string a),.lit (.string b)=>
  (match op with
   | .add=>((a.size+b.size:Nat):Int)<=9223372036854775807
   | .eql| .neq| .lss| .leq| .gtr| .geq=>True
   |_=>False)
 |_,_=>False
def unV(op:UnOp)(x:oH):oH:=
 match op,x with
 | .neg,.lit (.int k n)=> .lit (.int k (k.wrap (0-n)))
 | .xor,.lit (.int k n)=> .lit (.int k (k.wrap (BitVec.ofInt k.bits (if k.signed then-1 else k.max)^^^BitVec.ofInt k.bits n).toNat))
 | .not,.lit (.bool b)=> .lit (.bool !b)
 |_,_=> .undef
def iF(op:UnOp)(x:oH):Prop:=
 match op,x with
 | .neg,.lit (.int _ _)=>True
 | .xor,.lit (.int _ _)=>True
 | .not,.lit (.bool _)=>True
 |_,_=>False
def cvV(k:IntKind)(x:oH):oH:= .lit (.int k (k.wrap (asI x)))
def z8la:LK->oH->Prop
 | .int k,.lit (.int k' _)=>k=k'
 | .bool,.lit (.bool _)=>True
 | .str,.lit (.string _)=>True
 |_,_=>False
def cu:List LK->List oH->Prop
 |[],[]=>True
 |k::ks,c::cs=>z8la k c∧cu ks cs
 |_,_=>False
def z0qa:LK->oH->oH->Bool
 | .int _,x,y=>asI x==asI y
 | .bool,x,y=>asB x==asB y
 | .str,x,y=>(asS x).data.toList==(asS y).data.toList
def dk:List LK->List oH->List oH->Bool
 |k::ks,x::xs,y::ys=>z0qa k x y&&dk ks xs ys
 |_,_,_=>true
def FN(cs:List oH):ByteArray:=⟨(cs.map λc=>UInt8.ofNat (asI c).toNat).toArray⟩
def Ia(l:List UInt8):List oH:=l.map λc=> .lit (.int .u8 c.toNat)
def bV(bx:Nat->List oH):oH->oH
 | .sl _ nl n cs=> .sl .plain nl n cs
 | .lit (.slice none 0 0)=> .sl .plain (some true) 0 []
 | .bp id off=> .ep ((bx id).drop off)
 | .bv id e off n _=> .sl .plain (some false) n (((bx id).drop off).take (n*e))
 |v=>v
def aS(bx:Nat->List oH):oH->oH
 | .fn f x y=> .fn f (x.map (bV bx)) (y.map (bV bx))
 |v=>bV bx v
def aU(bs:List Nat)(bx:Nat->Option (List oH)):oH->Prop
 | .bp id off=>id∈bs∧∃cs,bx id=some cs∧off<=cs.length
 | .bv id e off n _=>id∈bs∧∃cs,bx id=some cs∧off+n*e<=cs.length
 |v=>ak v=true
def aG(bs:List Nat)(bx:Nat->Option (List oH)):oH->Prop
 | .fn _ x y=>(∀v∈x,aU bs bx v)∧(∀v∈y,aU bs bx v)
 |v=>aU bs bx v
def hdA(l:List oH):oH:=l.headD .undef
structure Eff where
 val:oH
 sl:List (Nat×oH):=[]
 bx:List (Nat×Option (List oH)):=[]
def cx(id:Nat):Prop:=id<400000∨(500000<=id∧id<1000000)
@[simp] theorem dA(id:Nat):cx id=(id<400000∨(500000<=id∧id<1000000)):=rfl
theorem cx.lt{id:Nat}(h:cx id):id<1000000:=by rw[dA] at h;omega
theorem cx.no{id:Nat}(h:cx id){P:Prop}(h1:400000<=id)(h2:id<500000):P:=by rw[dA] at h;omega
section
variable (E : Env) (get : Nat -> oH) (getB : Nat -> Option (List oH))
def arg:Arg->oH
 | .s n=>get n
 | .c d=>d
 | .g n=> .ep (E.T n)
def bxc(b:Option Nat):Option (List oH):=b.bind getB
def bxl(b:Option Nat):List oH:=(bxc getB b).getD []
def bnd(o:Option Arg)(d:Nat):Nat:=match o with|none=>d|some a=>(asI (arg E get a)).toNat
def bn(o:Option Arg)(m:Nat):Prop:=match o with|none=>True|some a=>isI (arg E get a)∧0<=asI (arg E get a)∧asI (arg E get a)<=m
def bO:List (Nat×Nat×Arg)->List oH->List oH
 |[],z=>z
 |(off,k,a)::r,z=>bO r (splice z off (aA (arg E get a)))
def BP:List (Nat×Nat×Arg)->Nat->Prop
 |[],_=>True
 |(off,k,a)::r,n=>(aA (arg E get a)).length=k∧off+k<=n∧(∀c∈aA (arg E get a),ah c)∧BP r n
def aL(b:Option Nat):oH->List oH
 | .bp _ off=>(bxl getB b).drop off
 | .ep cs=>cs
 |_=>[]
def cA(b:Option Nat)(n:Nat):oH->Prop
 | .bp id off=>b=some id∧∃cs,getB id=some cs∧off+n<=cs.length
 | .ep cs=>b=none∧n<=cs.length
 |_=>False
def bX(f:Nat)(as:List oH)(bs:List Nat):Prop:=
 (∀a∈as,aG bs (λid=>if id∈bs then getB id else none) a)∧
 (∀id∈bs,∃cs,getB id=some cs∧∀c∈cs,ak c=true)∧
 (let ds:=as.map (aS (λid=>if id∈bs then(getB id).getD [] else []))
  (E.G f).pre ds∧ak ((E.G f).post ds)=true∧(bs=[]∨aC ((E.G f).post ds)=true))
def cY(f:Nat)(as:List oH)(bs:List Nat):oH:=(E.G f).post (as.map (aS (λid=>if id∈bs then(getB id).getD [] else [])))
def fnd:List (Nat×Nat)->Nat->Option Nat
 |[],_=>none
 |(k,x)::l,s=>if s=k then some x else fnd l s
mutual
def ren(m:List (Nat×Nat)):oH->oH
 | .bp id off=> .bp ((fnd m id).getD id) off
 | .bv id e off n c=> .bv ((fnd m id).getD id) e off n c
 | .agg cs=> .agg (renL m cs)
 | .tup cs=> .tup (renL m cs)
 | .fn f x y=> .fn f (renL m x) (renL m y)
 | .otup _ _ _ _ _=> .undef
 | .oagg _ _=> .undef
 |v=>v
def renL(m:List (Nat×Nat)):List oH->List oH
 |[]=>[]
 |c::cs=>ren m c::renL m cs
end
def cv(ws:List (Nat×Nat)):Nat->List oH->List oH
 |_,[]=>[]
 |j,a::as=>(match fnd ws j with|some id=> .ep ((getB id).getD [])|none=>aS (λ_=>[]) a)::cv ws (j+1) as
def iJ(ws:List (Nat×Nat)):Nat->List oH->Prop
 |_,[]=>True
 |j,a::as=>(match fnd ws j with|some id=>a= .bp id 0∧∃cs,getB id=some cs∧au cs=true|none=>aG [] (λ_=>none) a)∧iJ ws (j+1) as
def okM(f:Nat)(as:List oH)(ws ns:List (Nat×Nat)):Prop:=
 iJ getB ws 0 as∧ws.map (·.1)=(E.M f).bx∧(ws.map (·.2)).Nodup∧(∀j∈(E.M f).bx,j<as.length)∧ns.map (·.1)=(E.M f).nb∧(ns.map (·.2)).Nodup∧(∀p∈ns,getB p.2=none∧cx p.2)∧
 ((E.M f).bx++(E.M f).nb).Nodup∧(∀p∈ws++ns,p.1<1000000∧p.2<1000000∧(500000<=p.1↔500000<=p.2))∧
 (let ds:=cv getB ws 0 as
  (E.M f).pre ds∧(∀id∈aF ((E.M f).post ds),id∈(E.M f).bx++(E.M f).nb)∧(∀j∈(E.M f).bx++(E.M f).nb,∀id∈pT ((E.M f).out ds j),id∈(E.M f).bx++(E.M f).nb))
def fR(f:Nat)(as:List oH)(ws ns:List (Nat×Nat)):Eff:=
 let ds:=cv getB ws 0 as
 {val:=ren (ws++ns) ((E.M f).post ds),bx:=(ws++ns).map λp=>(p.2,some (renL (ws++ns) ((E.M f).out ds p.1)))}
def Wk(ws:List (Nat×Nat))(a:oH):oH:=match aF a with|[]=>aS (λ_=>[]) a|_=>ren (ws.map λp=>(p.2,p.1)) a
def z3T(ws:List (Nat×Nat))(a:oH):Prop:=match aF a with|[]=>aG [] (λ_=>none) a|l=>∀id∈l,id∈ws.map (·.2)
def bU(ws:List (Nat×Nat)):Bool:=ws.any λp=>decide (400000<=p.1)&&decide (p.1<500000)
def gv(ws:List (Nat×Nat))(cs:List oH):Prop:=if bU ws=true then∀id∈pT cs,id∈ws.map (·.2) else au cs=true
def wIn(ws:List (Nat×Nat))(cs:List oH):List oH:=if bU ws=true then renL (ws.map λp=>(p.2,p.1)) cs else cs
def Ky(ws:List (Nat×Nat))(j:Nat):List oH:=match fnd ws j with|some id=>wIn ws ((getB id).getD [])|none=>[]
def okW(f:Nat)(as:List oH)(ws ns:List (Nat×Nat)):Prop:=
 (∀a∈as,z3T ws a)∧(∀p∈ws,∃cs,getB p.2=some cs∧gv ws cs)∧ws.map (·.1)=(E.C f).bx∧(ws.map (·.2)).Nodup∧ns.map (·.1)=(E.C f).nb∧(ns.map (·.2)).Nodup∧(∀p∈ns,getB p.2=none∧cx p.2)∧
 ((E.C f).bx++(E.C f).nb).Nodup∧(∀p∈ws++ns,p.1<1000000∧p.2<1000000∧(500000<=p.1↔500000<=p.2))∧
 (let ds:=as.map (Wk ws)
  (∀j∈(E.C f).bx,(400000<=j∧j<500000)∨∃i∈(E.C f).hold,∃d,ds[i]? =some d∧j∈aF d)∧(E.C f).pre ds (Ky getB ws)∧(∀id∈aF ((E.C f).post ds (Ky getB ws)),id∈(E.C f).bx++(E.C f).nb)∧
  (∀j∈(E.C f).bx++(E.C f).nb,∀id∈pT ((E.C f).out ds (Ky getB ws) j),id∈(E.C f).bx++(E.C f).nb))
def gk(f:Nat)(as:List oH)(ws ns:List (Nat×Nat)):Eff:=
 let ds:=as.map (Wk ws)
 {val:=ren (ws++ns) ((E.C f).post ds (Ky getB ws)),bx:=(ws++ns).map λp=>(p.2,some (renL (ws++ns) ((E.C f).out ds (Ky getB ws) p.1)))}
def xX(x:oH)(as:List oH):List oH:=match x with| .fn _ p q=>p++as++q|_=>[]
def pvN:oH->Nat| .pv _ _ n _=>n|_=>0
def pvC:oH->List oH| .pv _ _ _ cs=>cs|_=>[]
def jZ(cs:List oH):Prop:=∀c∈cs,ah c∧∃x,c= .lit x
def eff:AOp->Eff
 | .mv take x=>match take,x with
  |true,.s n=>{val:=get n,sl:=[(n,dem (get n))]}
  |true,.c d=>{val:=d}
  |_,x=>{val:=dem (arg E get x)}
 | .pick c a b=>{val:=if asB (arg E get c) then dem (arg E get a) else dem (arg E get b)}
 | .bin op x y=>{val:=aE op (arg E get x) (arg E get y)}
 | .eqF ks neg x y=>{val:= .lit (.bool (dk ks (aA (arg E get x)) (aA (arg E get y)) !=neg))}
 | .eqnil neg x y=>
  {val:=match arg E get x,arg E get y with
    | .lit (.slice none 0 0),.sl _ (some b) _ _=> .lit (.bool (b !=neg))
    | .sl _ (some b) _ _,.lit (.slice none 0 0)=> .lit (.bool (b !=neg))
    |_,_=> .undef}
 | .un op x=>{val:=unV op (arg E get x)}
 | .toInt k x=>{val:=cvV k (arg E get x)}
 | .toStr b x=>{val:= .lit (.string (FN (az (bxl getB b) (arg E get x))))}
 | .toBytes x=>{val:= .sl (.own 1) (some false) (asS (arg E get x)).size (Ia (asS (arg E get x)).data.toList)}
 | .extractO x=>{val:=match get x with| .otup e nl n cs _=> .sl (.own e) nl n cs|_=> .undef,sl:=[(x,dem (get x))]}
 | .buildO z s=>{val:=match get s with| .mp m=> .oagg m (z.drop 1)|_=> .undef,sl:=[(s,dem (get s))]}
 | .boxO id s=>{val:= .bp id 0,sl:=[(s,dem (get s))],bx:=[(id,some (match get s with| .oagg m rest=> .mp m::rest|_=>[]))]}
 | .build z parts=>{val:= .agg (bO E (λn=>dem (get n)) parts z)}
 | .buildSl esz n z parts=>{val:= .sl (.own esz) (some false) n (bO E get parts z)}
 | .load k b take x=>
  let cs:=aL getB b (arg E get x)
  match k with
  |some n=>{val:= .agg (cs.take n)}
  |none=>match take,b,arg E get x with
   |true,some id,.bp _ off=>{val:=hdA cs,bx:=[(id,some ((bxl getB b).set off (dem (hdA cs))))]}
   |_,_,_=>{val:=dem (hdA cs)}
 | .store k b take a v=>
  let off:=match arg E get a with| .bp _ off=>off|_=>0
  match k,take,v with
  |none,true,.s n=>{val:= .undef,sl:=[(n,dem (get n))],bx:=[(b,some (splice (bxl getB (some b)) off [get n]))]}
  |_,_,v=>{val:= .undef,bx:=[(b,some (splice (bxl getB (some b)) off (cN k (arg E get v))))]}
 | .nilchk x=>{val:=match arg E get x with| .bp id off=> .bp id off| .ep cs=> .ep cs|_=> .undef}
 | .buildBx id esz n z parts=>{val:= .bv id esz 0 n n,bx:=[(id,some (bO E get parts z))]}
 | .fieldAddr o x=>{val:=match arg E get x with| .bp id off=> .bp id (off+o)| .ep cs=> .ep (cs.drop o)|_=> .undef}
 | .idxArr _ esz x i=>
  {val:=match arg E get x with
    | .bp id off=> .bp id (off+(asI (arg E get i)).toNat*esz)
    | .ep cs=> .ep (cs.drop ((asI (arg E get i)).toNat*esz))
    |_=> .undef}
 | .idxSl esz x i=>
  {val:=match arg E get x with
    | .bv id _ off _ _=> .bp id (off+(asI (arg E get i)).toNat*esz)
    | .sl _ _ _ cs=> .ep (cs.drop ((asI (arg E get i)).toNat*esz))
    | .lit (.slice (some ⟨b,o,none⟩) _ _)=> .lit (.pointer (some ⟨b,o+(asI (arg E get i)).toNat*esz,none⟩))
    |_=> .undef}
 | .slArr n esz x lo hi mx=>
  let l:=bnd E get lo 0
  let h:=bnd E get hi n
  let m:=bnd E get mx n
  {val:=match arg E get x with
    | .bp id off=> .bv id esz (off+l*esz) (h-l) (m-l)
    | .ep cs=> .sl .plain (some false) (h-l) ((cs.drop (l*esz)).take ((h-l)*esz))
    |_=> .undef}
 | .slSl esz x lo hi mx=>
  let l:=bnd E get lo 0
  {val:=match arg E get x with
    | .bv id e off n c=> .bv id e (off+l*esz) (bnd E get hi n-l) ((match mx with|none=>c|some _=>bnd E get mx n)-l)
    | .sl _ nl n cs=> .sl (match mx with|none=> .plain|some _=>if bnd E get mx n=bnd E get hi n then .clip else .plain) nl (bnd E get hi n-l) ((cs.drop (l*esz)).take ((bnd E get hi n-l)*esz))
    | .lit (.slice none 0 0)=> .lit (.slice none 0 0)
    |_=> .undef}
 | .slStr x lo hi=>
  let s:=asS (arg E get x)
  {val:= .lit (.string (s.extract (bnd E get lo 0) (bnd E get hi s.size)))}
 | .s2ap _ x=>{val:=match arg E get x with| .bv id _ off _ _=> .bp id off| .sl _ _ _ cs=> .ep cs|_=> .undef}
 | .alloc id z=>{val:= .bp id 0,bx:=[(id,some z)]}
 | .box id k take x=>match k,take,x with
  |none,true,.s n=>{val:= .bp id 0,sl:=[(n,dem (get n))],bx:=[(id,some [get n])]}
  |_,_,x=>{val:= .bp id 0,bx:=[(id,some (cN k (arg E get x)))]}
 | .extract i x=>{val:=match dem (arg E get x) with| .tup vs=>dem (vs.getD i .undef)|_=> .undef}
 | .idxA k esz _ x i=>
  {val:=match arg E get x,k with
    | .agg cs,none=>dem (cs.getD ((asI (arg E get i)).toNat*esz) .undef)
    | .agg cs,some n=> .agg ((cs.drop ((asI (arg E get i)).toNat*esz)).take n)
    |_,_=> .undef}
 | .idxStr x i=>{val:= .lit (.int .u8 ((asS (arg E get x)).data.toList.getD (asI (arg E get i)).toNat 0).toNat)}
 | .call f args bs=>{val:=cY E getB f (args.map (arg E get)) bs}
 | .callv f t args bs=>{val:=cY E getB f (xX (arg E get t) (args.map (arg E get))) bs}
 | .callm f t args ws ns=>fR E getB f (match t with|none=>args.map (arg E get)|some t=>xX (arg E get t) (args.map (arg E get))) ws ns
 | .callw f t args ws ns=>gk E getB f (match t with|none=>args.map (arg E get)|some t=>xX (arg E get t) (args.map (arg E get))) ws ns
 | .len _ x=>{val:= .lit (.int .i64 (bc (arg E get x)))}
 | .append esz _ _ nlr b x y=>
  let ys:=az (bxl getB b) (arg E get y)
  {val:= .sl (.own esz) nlr (bc (get x)+bc (arg E get y)) (az [] (get x)++ys),sl:=[(x,dem (get x))]}
 | .appendC esz _ _ nlr b x y=>
  let ys:=az (bxl getB b) (arg E get y)
  {val:= .sl (if bc (arg E get x)=0 then .own esz else .plain) nlr (bc (arg E get x)+bc (arg E get y)) (az [] (arg E get x)++ys)}
 | .appendB esz _ _ id b x y=>
  match arg E get x with
  | .bv _ _ off n c=>{val:= .bv id esz off (n+bc (arg E get y)) c,bx:=[(id,some (splice (bxl getB (some id)) (off+n*esz) (az (bxl getB b) (arg E get y))))]}
  |_=>{val:= .undef}
 | .copy esz _ d b x y=>
  match arg E get x with
  | .bv _ _ off n _=>
   let k:=min (bc (arg E get y)) n
   {val:= .lit (.int .i64 k),bx:=[(d,some (splice (bxl getB (some d)) off ((az (bxl getB b) (arg E get y)).take (k*esz))))]}
  |_=>{val:= .undef}
 | .mkfn f x y=>{val:= .fn f (x.map λa=>dem (arg E get a)) (y.map λa=>dem (arg E get a))}
 | .mkmap=>{val:= .mp []}
 | .loadP k s x=>{val:=match get s,arg E get x with| .pv _ _ _ cs,.lit (.pointer (some ⟨_,o,none⟩))=> .agg ((cs.drop o).take k)|_,_=> .undef}
 | .slP esz s hi=>{val:=match get s with| .pv o e _ cs=> .pv o e (asI (arg E get hi)).toNat (cs.take ((asI (arg E get hi)).toNat*esz))|_=> .undef,sl:=[(s,dem (get s))]}
 | .appendP esz _ s y=>{val:= .pv none esz (pvN (get s)+bc (arg E get y)) (pvC (get s)++az [] (arg E get y)),sl:=[(s,dem (get s))]}
 | .unsup=>{val:= .undef}
def okp:AOp->Prop
 | .mv _ _=>True
 | .pick c _ _=>isB (arg E get c)
 | .bin op x y=>oV op (arg E get x) (arg E get y)
 | .eqF ks _ x y=>
  match arg E get x,arg E get y with
  | .agg xs,.agg ys=>cu ks xs∧cu ks ys
  |_,_=>False
 | .eqnil _ x y=>
  match arg E get x,arg E get y with
  | .lit (.slice none 0 0),.sl _ (some _) _ _=>True
  | .sl _ (some _) _ _,.lit (.slice none 0 0)=>True
  |_,_=>False
 | .un op x=>iF op (arg E get x)
 | .toInt _ x=>isI (arg E get x)
 | .toStr b x=>okS 1 b (bxc getB b) (arg E get x)∧(∀c∈az (bxl getB b) (arg E get x),z5E .u8 c)
 | .toBytes x=>isS (arg E get x)
 | .extractO x=>match get x with| .otup _ _ _ _ _=>True|_=>False
 | .buildO z s=>z≠[]∧(match get s with| .mp _=>True|_=>False)
 | .boxO id s=>cx id∧getB id=none∧(match get s with| .oagg _ rest=>∀c∈rest,ao c=false|_=>False)
 | .build z parts=>BP E (λn=>dem (get n)) parts z.length
 | .buildSl esz n z parts=>z.length=n*esz∧BP E get parts z.length∧au (bO E get parts z)=true
 | .load k b take x=>cA getB b (k.getD 1) (arg E get x)∧(take=true->∀id,b=some id->id<1000000)
 | .store k b _ a v=>b<1000000∧
  (match arg E get a with| .bp id off=>id=b∧∃cs,getB id=some cs∧off+k.getD 1<=cs.length|_=>False)∧isK k (arg E get v)
 | .nilchk x=>match arg E get x with| .bp _ _=>True| .ep _=>True|_=>False
 | .buildBx id esz n z parts=>cx id∧getB id=none∧z.length=n*esz∧BP E get parts z.length∧∀c∈bO E get parts z,ao c=false
 | .fieldAddr o x=>match arg E get x with| .bp _ _=>True| .ep cs=>o<=cs.length|_=>False
 | .idxArr n _ x i=>(match arg E get x with| .bp _ _=>True| .ep _=>True|_=>False)∧isI (arg E get i)∧0<=asI (arg E get i)∧asI (arg E get i)<n
 | .idxSl esz x i=>(match arg E get x with| .bv _ e _ _ _=>e=esz| .sl _ _ _ _=>True| .lit (.slice (some ⟨_,_,none⟩) _ _)=>True|_=>False)∧isI (arg E get i)∧0<=asI (arg E get i)∧asI (arg E get i)<bc (arg E get x)
 | .slArr n _ x lo hi mx=>
  (match arg E get x with| .bp _ _=>True| .ep _=>True|_=>False)∧(mx.isSome=true->hi.isSome=true)∧
  bn E get mx n∧bn E get hi (bnd E get mx n)∧bn E get lo (bnd E get hi n)∧bnd E get hi n<=n
 | .slSl esz x lo hi mx=>
  (match arg E get x with| .bv _ e _ _ _=>e=esz| .sl _ _ _ _=>True| .lit (.slice none 0 0)=>True|_=>False)∧(mx.isSome=true->hi.isSome=true)∧
  bn E get mx (bc (arg E get x))∧bn E get hi (bnd E get mx (bc (arg E get x)))∧bn E get lo (bnd E get hi (bc (arg E get x)))
 | .slStr x lo hi=>isS (arg E get x)∧bn E get hi (asS (arg E get x)).size∧bn E get lo (bnd E get hi (asS (arg E get x)).size)
 | .s2ap n x=>match arg E get x with| .bv _ _ _ k _=>n<=k∧0<n| .sl _ _ k _=>n<=k∧0<n|_=>False
 | .alloc id _=>cx id∧getB id=none
 | .box id k _ x=>cx id∧getB id=none∧isK k (arg E get x)
 | .extract i x=>match dem (arg E get x) with| .tup vs=>i<vs.length|_=>False
 | .idxA k esz n x i=>(match arg E get x with| .agg cs=>(asI (arg E get i)).toNat*esz+k.getD 1<=cs.length|_=>False)∧isI (arg E get i)∧0<=asI (arg E get i)∧asI (arg E get i)<n
 | .idxStr x i=>isS (arg E get x)∧isI (arg E get i)∧0<=asI (arg E get i)∧asI (arg E get i)<(asS (arg E get x)).size
 | .call f args bs=>bX E getB f (args.map (arg E get)) bs
 | .callv f t args bs=>(match arg E get t with| .fn f' _ _=>f'=f|_=>False)∧bX E getB f (xX (arg E get t) (args.map (arg E get))) bs
 | .callm f t args ws ns=>(match t with|none=>True|some t=>match arg E get t with| .fn f' _ _=>f'=f|_=>False)∧
  okM E getB f (match t with|none=>args.map (arg E get)|some t=>xX (arg E get t) (args.map (arg E get))) ws ns
 | .callw f t args ws ns=>(match t with|none=>True|some t=>match arg E get t with| .fn f' _ _=>f'=f|_=>False)∧
  okW E getB f (match t with|none=>args.map (arg E get)|some t=>xX (arg E get t) (args.map (arg E get))) ws ns
 | .len str x=>if str then isS (arg E get x) else z1m (arg E get x)
 | .append esz bytes str nlr b x y=>(match get x with| .sl (.own e) _ _ _=>e=esz|_=>False)∧okApp esz bytes str nlr b (get x) (arg E get y)
 | .appendC esz bytes str nlr b x y=>(match arg E get x with| .sl .clip _ n cs=>cs.length=n*esz|_=>False)∧okApp esz bytes str nlr b (arg E get x) (arg E get y)
 | .appendB esz _ str id b x y=>id<1000000∧
  (match arg E get x with| .bv i e off n c=>i=id∧e=esz∧(∃cs,getB id=some cs∧off+(n+bc (arg E get y))*e<=cs.length)∧n+bc (arg E get y)<=c∧0<c|_=>False)∧
  (if str then isS (arg E get y)∧esz=1 else okS esz b (bxc getB b) (arg E get y))∧(∀c∈az (bxl getB b) (arg E get y),ah c∧ao c=false)
 | .copy esz str d b x y=>d<1000000∧
  (match arg E get x with| .bv id e off n _=>id=d∧e=esz∧∃cs,getB id=some cs∧off+n*e<=cs.length|_=>False)∧
  (if str then isS (arg E get y)∧esz=1 else okS esz b (bxc getB b) (arg E get y))∧(∀c∈az (bxl getB b) (arg E get y),ah c∧ao c=false)
 | .mkfn _ _ _=>True
 | .mkmap=>True
 | .loadP k s x=>match get s,arg E get x with| .pv (some (some ⟨b,0,none⟩,_)) _ _ cs,.lit (.pointer (some ⟨b',o,none⟩))=>b'=b∧o+k<=cs.length∧0<k|_,_=>False
 | .slP esz s hi=>match get s with| .pv _ e n _=>e=esz∧isI (arg E get hi)∧0<=asI (arg E get hi)∧asI (arg E get hi)<=n|_=>False
 | .appendP esz bytes s y=>(match get s with| .pv _ e _ _=>e=esz| .sl (.own e) _ 0 []=>e=esz|_=>False)∧okS esz none none (arg E get y)∧
  (pvN (get s)+bc (arg E get y))*bytes<=1099511627776∧pvN (get s)+bc (arg E get y)<=1099511627776∧jZ (az [] (arg E get y))
 | .unsup=>False
where
 okApp (esz bytes:Nat) (str:Bool) (nlr:Option Bool) (b:Option Nat) (x y:oH):Prop:=
  (if str then isS y∧esz=1 else okS esz b (bxc getB b) y)∧
  (bc x+bc y)*bytes<=1099511627776∧bc x+bc y<=1099511627776∧
  (match nlr with
   |none=>True
   |some false=>(match x with| .sl _ (some false) _ _=>True|_=>0<bc y)
   |some true=>(match x with| .sl _ (some true) _ _=>bc y=0|_=>False))∧
  (∀c∈az (bxl getB b) y,ak c=true∧ah c)
end
def Arg.rd:Arg->List Nat| .s n=>[n]|_=>[]
def rdO:Option Arg->List Nat|some a=>a.rd|none=>[]
def rdL(l:List Arg):List Nat:=l.flatMap Arg.rd
def AOp.rdS:AOp->List Nat
 | .nilchk x| .mv _ x| .un _ x| .toInt _ x| .toStr _ x| .toBytes x| .load _ _ _ x| .fieldAddr _ x| .s2ap _ x| .box _ _ _ x| .extract _ x| .len _ x=>x.rd
 | .pick c a b=>c.rd++a.rd++b.rd
 | .bin _ x y| .eqF _ _ x y| .eqnil _ x y| .store _ _ _ x y| .idxArr _ _ x y| .idxSl _ x y| .idxA _ _ _ x y| .idxStr x y| .appendC _ _ _ _ _ x y| .appendB _ _ _ _ _ x y| .copy _ _ _ _ x y=>x.rd++y.rd
 | .build _ ps| .buildSl _ _ _ ps| .buildBx _ _ _ _ ps=>rdL (ps.map (·.2.2))
 | .buildO _ s| .boxO _ s=>[s]
 | .loadP _ s x| .slP _ s x| .appendP _ _ s x=>s::x.rd
 | .slArr _ _ x l h m| .slSl _ x l h m=>x.rd++rdO l++rdO h++rdO m
 | .slStr x l h=>x.rd++rdO l++rdO h
 | .alloc _ _| .mkmap| .unsup=>[]
 | .extractO x=>[x]
 | .call _ as _=>rdL as
 | .callv _ t as _=>t.rd++rdL as
 | .callm _ t as _ _=>rdO t++rdL as
 | .callw _ t as _ _=>rdO t++rdL as
 | .append _ _ _ _ _ x y=>x::y.rd
 | .mkfn _ x y=>rdL x++rdL y
def AOp.rdB:AOp->List Nat
 | .toStr b _| .load _ b _ _| .append _ _ _ _ b _ _| .appendC _ _ _ _ b _ _=>b.toList
 | .store _ b _ _ _=>[b]
 | .alloc id _| .box id _ _ _| .boxO id _| .buildBx id _ _ _ _=>[id]
 | .call _ _ bs| .callv _ _ _ bs=>bs
 | .callm _ _ _ ws ns=>(ws++ns).map (·.2)
 | .callw _ _ _ ws ns=>(ws++ns).map (·.2)
 | .copy _ _ d b _ _=>d::b.toList
 | .appendB _ _ _ d b _ _=>d::b.toList
 |_=>[]
def AOp.wrS:AOp->List Nat
 | .mv true (.s n)=>[n]
 | .store none _ true _ (.s n)=>[n]
 | .box _ none true (.s n)=>[n]
 | .append _ _ _ _ _ x _=>[x]
 | .buildO _ s| .boxO _ s| .slP _ s _| .appendP _ _ s _=>[s]
 | .extractO x=>[x]
 |_=>[]
def AOp.wrB:AOp->List Nat
 | .load none (some id) true _=>[id]
 | .store _ b _ _ _=>[b]
 | .alloc id _| .box id _ _ _| .boxO id _| .buildBx id _ _ _ _=>[id]
 | .copy _ _ d _ _ _=>[d]
 | .appendB _ _ _ d _ _ _=>[d]
 | .callm _ _ _ ws ns=>(ws++ns).map (·.2)
 | .callw _ _ _ ws ns=>(ws++ns).map (·.2)
 |_=>[]
def lk{α:Type}:List (Nat×α)->Nat->Option α
 |[],_=>none
 |(k,x)::l,s=>if s=k then some x else lk l s
structure ASt where
 org:List (Nat×oH)
 env:List (Nat×oH)
 box:List (Nat×Option (List oH))
def ASt.get(st:ASt)(s:Nat):oH:=
 match lk st.env s with
 |some d=>d
 |none=>dem ((lk st.org s).getD .undef)
def ASt.getB(st:ASt)(id:Nat):Option (List oH):=(lk st.box id).join
structure aZ where
 w0:World
 W:Nat->Prop
 S0:Nat->Nat
 dl:List Deferred:=[]
 mu0:Nat->Option Nat:=λ_=>none
structure Fr (B:Nat) (W:Nat->Prop) (w w':World):Prop where
 os:w'.os=w.os
 tape:w'.tape=w.tape
 output:w'.output=w.output
 size:w.heap.size<=w'.heap.size
 block:∀k,k<B->¬W k->w'.heap[k]? =w.heap[k]?
theorem Fr.refl(B:Nat)(W:Nat->Prop)(w:World):Fr B W w w:=⟨rfl,rfl,rfl,Nat.le_refl _,λ_ _ _=>rfl⟩
theorem Fr.trans{B:Nat}{W:Nat->Prop}{a b c:World}(h:Fr B W a b)(k:Fr B W b c):Fr B W a c:=
 ⟨k.os.trans h.os,k.tape.trans h.tape,k.output.trans h.output,Nat.le_trans h.size k.size,λi hi hw=>(k.block i hi hw).trans (h.block i hi hw)⟩
theorem Fr.mono{B B':Nat}{W W':Nat->Prop}{a b:World}(h:Fr B W a b)(hB:B'<=B)(hW:∀k,k<B'->W k->W' k):Fr B' W' a b:=
 ⟨h.os,h.tape,h.output,h.size,λi hi hw=>h.block i (Nat.lt_of_lt_of_le hi hB) (λh'=>hw (hW i hi h'))⟩
structure mR where
 gnum:Nat->Nat
 gs:List Nat
structure Cx extends Con where
 N:mR
 E:Env
 bt:TypeId:=0
 b5:TypeId:=0
 bf:Nat->FuncId:=λ_=>0
def dy(bt b5:TypeId)(ow:Nat->Option Loc)(w:World)(b id:Nat):Prop:=
 ∃p v,w.heap[b]? =some (.cells #[p,v] bt (0,0))∧(p= .pointer none∨p= .pointer (some ⟨b,0,none⟩))∧(v= .slice none 0 0∨∃k n cap c,v= .slice (some ⟨k,0,none⟩) n cap∧ow k=some (.cell id 1)∧w.heap[k]? =some (.cells c b5 (0,0))∧c.size=cap∧cap<=maxLen∧n<=cap)
theorem dy.keep{bt b5:TypeId}{ow ow':Nat->Option Loc}{w w':World}{b id:Nat}(h:dy bt b5 ow w b id)(hb:w'.heap[b]? =w.heap[b]?)(hk:∀k,ow k=some (.cell id 1)->ow' k=some (.cell id 1)∧w'.heap[k]? =w.heap[k]?):dy bt b5 ow' w' b id:=by
 obtain⟨p,v,h1,hp,h2⟩:=h;refine⟨p,v,by rw[hb];exact h1,hp,?_⟩;rcases h2 with h2|⟨k,n,cap,c,h2,h3,h4,h5⟩
 ·exact .inl h2
 obtain⟨k1,k2⟩:=hk k h3;exact .inr ⟨k,n,cap,c,h2,k1,by rw[k2];exact h4,h5⟩
structure Inv (K:Cx) (base:aZ) (g:Gh) (w:World) (bx:Nat->Option (List oH)):Prop where
 fr:Fr base.w0.heap.size base.W base.w0 w
 sS:∀b,b<base.w0.heap.size->¬base.W b->g.S b=base.S0 b
 inj:∀i j b,g.mu i=some b->g.mu j=some b->i=j
 bxok:∀id cs,bx id=some cs->∃b,g.mu id=some b∧g.S b=0∧∀i d,cs[i]? =some d->(∃x,w.cell? ⟨b,i,none⟩=some x∧Rep K.toCon g w (some (.cell id i)) d x)∧w.frozen? ⟨b,i,none⟩=false
 nobx:∀id,bx id=none->g.mu id=none
 muW:∀id b,g.mu id=some b->(base.w0.heap.size<=b∨base.W b)∧b<w.heap.size∧g.ow b=none
 owW:∀b l,g.ow b=some l->(base.w0.heap.size<=b∨base.W b)∧b<w.heap.size
 glob:∀n∈K.N.gs,am K.toCon g.S w (K.E.T n) (K.N.gnum n) 0
 kp:aP base.S0 base.w0 g.S w
 obok:∀id b cs,1000000<=id->g.mu id=some b->bx id=some cs->hdA (cs.drop 1)≠ .undef->dy K.bt K.b5 g.ow w b id
 old:∀id b,400000<=id->id<500000->g.mu id=some b->base.mu0 id=some b
def dI(K:Cx)(g:Gh)(w:World)(get:Nat->oH)(a:Act):Prop:=
 ∀s,Rep K.toCon g w (some (.slot s)) (get s) (a.tmps.getD s undef)
def aZ.S(base:aZ):Nat->Nat:=λb=>by classical exact if b<base.w0.heap.size∧¬base.W b then base.S0 b else 0
def kS(K:Cx)(base:aZ)(st:ASt)(a:Act):Prop:=∀s d,lk st.org s=some d->ap K.toCon base.S base.w0 d (a.tmps.getD s undef)
def Rel(K:Cx)(base:aZ)(n:Nat)(st:ASt)(a:Act)(w:World):Prop:=
 ∃g,Inv K base g w st.getB∧dI K g w st.get a∧kS K base st a∧a.defers=base.dl∧a.tmps.size=n
theorem an.len{K:Con}{g:Gh}{w:World}:∀{ds:List oH} {vs:List Value},an K g w ds vs->ds.length=vs.length
 |[],_,h=>by simp only[an] at h;subst h;rfl
 |_::_,_,h=>by simp only[an] at h;obtain⟨x,xs,rfl,_,h2⟩:=h;simp[an.len h2]
theorem an.get{K:Con}{g:Gh}{w:World}:∀{ds:List oH} {vs:List Value},an K g w ds vs->∀(i:Nat) (d:oH),ds[i]? =some d->∃v,vs[i]? =some v∧Rep K g w none d v
 |[],_,h,i,d,hd=>by simp at hd
 |c::cs,l,h,i,d,hd=>by
  simp only[an] at h;obtain⟨x,xs,rfl,h1,h2⟩:=h;cases i with
  |zero=>simp at hd;subst hd;exact⟨x,by simp,h1⟩
  |succ i=>simp at hd;obtain⟨v,hv,hr⟩:=an.get h2 i d hd;exact⟨v,by simpa using hv,hr⟩
theorem an.mk{K:Con}{g:Gh}{w:World}:∀{ds:List oH} {vs:List Value},ds.length=vs.length->(∀(i:Nat) (d:oH) (v:Value),ds[i]? =some d->vs[i]? =some v->Rep K g w none d v)->an K g w ds vs
 |[],[],_,_=>by simp[an]
 |[],_::_,h,_=>by simp at h
 |_::_,[],h,_=>by simp at h
 |c::cs,x::xs,h,hr=>by simp only[an];exact⟨x,xs,rfl,hr 0 c x (by simp) (by simp),an.mk (by simpa using h) (λi d v hd hv=>hr (i+1) d v (by simpa using hd) (by simpa using hv))⟩
theorem an.append{K:Con}{g:Gh}{w:World}{ds ds':List oH}{vs vs':List Value}(h:an K g w ds vs)(h':an K g w ds' vs'):an K g w (ds++ds') (vs++vs'):=by
 refine an.mk (by simp[h.len,h'.len]) λi d v hd hv=> ?_;rcases Nat.lt_or_ge i ds.length with hi|hi
 ·rw[List.getElem?_append_left hi] at hd;rw[List.getElem?_append_left (h.len▸hi)] at hv;obtain⟨v',hv',hr⟩:=h.get i d hd;rw[hv] at hv';cases hv';exact hr
 rw[List.getElem?_append_right hi] at hd;rw[List.getElem?_append_right (h.len▸hi)] at hv;rw[<-h.len] at hv;obtain⟨v',hv',hr⟩:=h'.get _ d hd;rw[hv] at hv';cases hv';exact hr
theorem an.take{K:Con}{g:Gh}{w:World}{ds:List oH}{vs:List Value}(n:Nat)(h:an K g w ds vs):an K g w (ds.take n) (vs.take n):=by
 refine an.mk (by simp[h.len]) λi d v hd hv=> ?_;rw[List.getElem?_take] at hd hv;split at hd
 ·rename_i hi;rw[if_pos hi] at hv;obtain⟨v',hv',hr⟩:=h.get i d hd;rw[hv] at hv';cases hv';exact hr
 cases hd
theorem an.drop{K:Con}{g:Gh}{w:World}{ds:List oH}{vs:List Value}(n:Nat)(h:an K g w ds vs):an K g w (ds.drop n) (vs.drop n):=by refine an.mk (by simp[h.len]) λi d v hd hv=> ?_;rw[List.getElem?_drop] at hd hv;obtain⟨v',hv',hr⟩:=h.get _ d hd;rw[hv] at hv';cases hv';exact hr
theorem ag.mk{K:Con}{S:Nat->Nat}{w:World}:∀{ds:List oH} {vs:List Value},ds.length=vs.length->(∀(i:Nat) (d:oH) (v:Value),ds[i]? =some d->vs[i]? =some v->ap K S w d v)->ag K S w ds vs
 |[],[],_,_=>by simp[ag]
 |[],_::_,h,_=>by simp at h
 |_::_,[],h,_=>by simp at h
 |c::cs,x::xs,h,hr=>by simp only[ag];exact⟨x,xs,rfl,hr 0 c x (by simp) (by simp),ag.mk (by simpa using h) (λi d v hd hv=>hr (i+1) d v (by simpa using hd) (by simpa using hv))⟩
theorem am.get{K:Con}{S:Nat->Nat}{w:World}:∀{ds:List oH} {b o:Nat},am K S w ds b o->∀i d,ds[i]? =some d->o+i<S b∧∃x,w.cell? ⟨b,o+i,none⟩=some x∧ap K S w d x
 |[],_,_,_,i,d,hd=>by simp at hd
 |c::cs,b,o,h,i,d,hd=>by
  simp only[am] at h;obtain⟨h0,h1,h2⟩:=h;cases i with
  |zero=>simp at hd;subst hd;exact⟨h0,h1⟩
  |succ i=>simp at hd;have:=am.get h2 i d hd;rw[show o+1+i=o+(i+1) by omega] at this;exact this
theorem am.mk{K:Con}{S:Nat->Nat}{w:World}:∀{ds:List oH} {b o:Nat},(∀i d,ds[i]? =some d->o+i<S b∧∃x,w.cell? ⟨b,o+i,none⟩=some x∧ap K S w d x)->am K S w ds b o
 |[],_,_,_=>by simp[am]
 |c::cs,b,o,h=>by simp only[am];have h0:=h 0 c (by simp);simp only[Nat.add_zero] at h0;refine⟨h0.1,h0.2,am.mk λi d hd=> ?_⟩;have:=h (i+1) d (by simpa using hd);rw[show o+(i+1)=o+1+i by omega] at this;exact this
theorem am.drop{K:Con}{S:Nat->Nat}{w:World}{ds:List oH}{b o:Nat}(h:am K S w ds b o)(n:Nat):am K S w (ds.drop n) b (o+n):=
 am.mk λi d hd=>by rw[List.getElem?_drop] at hd;have:=h.get _ d hd;rw[show o+(n+i)=o+n+i by omega] at this;exact this
theorem am.take{K:Con}{S:Nat->Nat}{w:World}{ds:List oH}{b o:Nat}(h:am K S w ds b o)(n:Nat):am K S w (ds.take n) b o:=
 am.mk λi d hd=>by
  rw[List.getElem?_take] at hd;split at hd
  ·exact h.get i d hd
  cases hd
theorem am.vals{K:Con}{g:Gh}{w:World}{ds:List oH}{b o:Nat}(h:am K g.S w ds b o):∃vs,w.rangeAt b o vs∧an K g w ds vs∧ag K g.S w ds vs:=by
 have hs:∀i,i<ds.length->∃x,w.cell? ⟨b,o+i,none⟩=some x∧ap K g.S w (ds.getD i .undef) x:=λi hi=>by have:=(h.get i _ (List.getElem?_eq_getElem hi)).2;simpa[List.getD,List.getElem?_eq_getElem hi] using this
 let f:Nat->Value:=λi=>(w.cell? ⟨b,o+i,none⟩).getD undef
 have hl:∀i d v,ds[i]? =some d->((List.range ds.length).map f)[i]? =some v->ap K g.S w d v:=λi d v hd hv=>by have hi:i<ds.length:=(List.getElem?_eq_some_iff.1 hd).1;obtain⟨x,hx,hp⟩:=hs i hi;rw[List.getElem?_map,List.getElem?_range hi] at hv;simp only[Option.map_some,f,hx,Option.getD_some,Option.some.injEq] at hv;subst hv;simpa[List.getD,hd] using hp
 refine⟨(List.range ds.length).map f,λj v hv=> ?_,an.mk (by simp) (λi d v hd hv=>ap.rep d v (hl i d v hd hv)),ag.mk (by simp) hl⟩;have hj:j<ds.length:=by have:=(List.getElem?_eq_some_iff.1 hv).1;simpa using this
 obtain⟨x,hx,_⟩:=hs j hj;rw[List.getElem?_map,List.getElem?_range hj] at hv;simp only[Option.map_some,f,hx,Option.getD_some,Option.some.injEq] at hv;subst hv;exact hx
theorem aI{α:Type}(l m:List (Nat×α))(s:Nat):lk (l++m) s=(lk l s).or (lk m s):=by
 induction l with
 |nil=>simp[lk]
 |cons x l ih=>obtain⟨k,d⟩:=x;simp only[List.cons_append,lk];split<;>simp_all
def z5w(x v:Value):Bool:=
 match x,v with
 | .int k n,.int k' n'=>decide (k=k')&&decide (n=n')
 | .bool b,.bool b'=>b==b'
 | .string s,.string s'=>s.data.toList==s'.data.toList
 | .slice none 0 0,.slice none 0 0=>true
 | .pointer none,.pointer none=>true
 | .nilFunc,.nilFunc=>true
 | .nilIface,.nilIface=>true
 | .map none,.map none=>true
 |_,_=>false
theorem Y7{x v:Value}(h:z5w x v=true):x=v:=by unfold z5w at h;split at h<;>simp_all;rename_i s s';cases s;cases s';simp_all
def z2D:Value->Bool
 | .slice none 0 0=>true
 |_=>false
theorem z5e{v:Value}(h:z2D v=true):v= .slice none 0 0:=by
 unfold z2D at h;split at h
 ·rfl
 cases h
mutual
def AL:oH->Value->Bool
 | .lit x,v=>z5w x v
 | .sl _ nl n cs,v=>z2D v&&(nl !=some false)&&(n==0)&&cs.isEmpty
 | .agg ds,v=>match v with| .agg vs=>yA ds vs.toList|_=>false
 | .undef,_=>true
 | .tup _,_=>false
 | .bp _ _,_=>false
 | .bv _ _ _ _ _,_=>false
 | .ep _,_=>false
 | .mp _,_=>false
 | .pv _ _ _ _,_=>false
 | .otup _ _ _ _ _,_=>false
 | .oagg _ _,_=>false
 | .fn _ _ _,_=>false
def yA:List oH->List Value->Bool
 |[],vs=>vs.isEmpty
 |d::ds,vs=>match vs with|v::vs=>AL d v&&yA ds vs|[]=>false
end
mutual
theorem EV{K:Con}{g:Gh}{w:World}:∀(d:oH) (v:Value) (l:Option Loc),AL d v=true->Rep K g w l d v
 | .lit x,v,l,h=>by simp only[AL] at h;simp only[Rep];exact(Y7 h).symm
 | .sl m nl n cs,v,l,h=>by simp only[AL,Bool.and_eq_true,beq_iff_eq,bne_iff_ne,List.isEmpty_iff] at h;obtain⟨⟨⟨h1,h3⟩,rfl⟩,rfl⟩:=h;have:=z5e h1;subst this;cases m<;>simp[Rep,ap,h3]
 | .agg ds,v,l,h=>by
  simp only[AL] at h;split at h
  ·rename_i vs;simp only[Rep];exact⟨vs,rfl,ye _ _ h⟩
  cases h
 | .undef,_,_,_=>by simp[Rep]
 | .tup _,v,_,h=>by simp[AL] at h
 | .bp _ _,v,_,h=>by simp[AL] at h
 | .bv _ _ _ _ _,v,_,h=>by simp[AL] at h
 | .ep _,v,_,h=>by simp[AL] at h
 | .mp _,v,_,h=>by simp[AL] at h
 | .pv _ _ _ _,v,_,h=>by simp[AL] at h
 | .otup _ _ _ _ _,v,_,h=>by simp[AL] at h
 | .oagg _ _,v,_,h=>by simp[AL] at h
 | .fn _ _ _,v,_,h=>by simp[AL] at h
theorem ye{K:Con}{g:Gh}{w:World}:∀(ds:List oH) (vs:List Value),yA ds vs=true->an K g w ds vs
 |[],vs,h=>by simpa[yA,an] using h
 |d::ds,vs,h=>by
  simp only[yA] at h;split at h
  ·rename_i v vs;simp only[Bool.and_eq_true] at h;simp only[an];exact⟨v,vs,rfl,EV d v none h.1,ye ds vs h.2⟩
  cases h
end
def rk(K:Cx):Operand->Arg->Bool
 | .tmp t,.s n=>t==n
 | .const v,.c d=>AL d v
 | .global b,.g n=>(K.N.gnum n==b)&&K.N.gs.contains n
 | .func f,.c (.fn n [] [])=>K.nu n==f
 |_,_=>false
section
variable {K : Cx} {base : aZ} {g : Gh} {w : World} {get : Nat -> oH} {getB : Nat -> Option (List oH)} {a : Act}
theorem o6(hI:Inv K base g w getB)(hS:dI K g w get a){x:Operand}{y:Arg}(h:rk K x y=true):Rep K.toCon g w none (arg K.E get y) (a.eval x):=by
 unfold rk at h;split at h
 ·simp only[beq_iff_eq] at h;subst h;simp only[arg,Act.eval];exact Rep.mono (aP.refl _ _) _ _ _ none (λ_ _ _ h=>h) (by simp) (hS _)
 ·exact EV _ _ _ h
 ·simp only[Bool.and_eq_true,beq_iff_eq,List.contains_iff_mem] at h;obtain⟨rfl,hn⟩:=h;simp only[arg,Act.eval,Rep,ap];exact⟨_,_,rfl,hI.glob _ hn⟩
 ·simp only[beq_iff_eq] at h;subst h;simp only[arg,Act.eval,Rep,an];exact⟨_,_,rfl,rfl,rfl⟩
 cases h
theorem Bp(hS:dI K g w get a)(n:Nat):Rep K.toCon g w (some (.slot n)) (get n) (a.eval (.tmp n)):=by simpa[Act.eval] using hS n
def upd(get:Nat->oH)(l:List (Nat×oH))(s:Nat):oH:=(lk l s).getD (get s)
def Kt(getB:Nat->Option (List oH))(l:List (Nat×Option (List oH)))(id:Nat):Option (List oH):=match lk l id with|some x=>x|none=>getB id
def Pg(K:Cx)(base:aZ)(a:Act)(get:Nat->oH)(getB:Nat->Option (List oH))(d:Option Nat)(e:Eff)(v:Value)(w':World):Prop:=
 ∃g',Inv K base g' w' (Kt getB e.bx)∧dI K g' w' (upd get e.sl) a∧Rep K.toCon g' w' (d.map .slot) e.val v
theorem VP(hI:Inv K base g w getB)(hS:dI K g w get a){d:Option Nat}{x:oH}{v:Value}(h:Rep K.toCon g w (d.map .slot) x v):Pg K base a get getB d {val:=x} v w:=
 ⟨g,hI,hS,h⟩
theorem vL(l:Option Loc)(v:Value):Rep K.toCon g w l (.lit v) v:=by simp[Rep]
theorem Hb{l:Option Loc}{d:oH}{v:Value}(h:Rep K.toCon g w l d v)(hd:isI d):∃k,d= .lit (.int k (asI d))∧v= .int k (asI d):=by
 unfold isI at hd;split at hd
 ·simp only[Rep] at h;subst h;exact⟨_,rfl,rfl⟩
 cases hd
theorem GA{l:Option Loc}{d:oH}{v:Value}(h:Rep K.toCon g w l d v)(hd:isB d):d= .lit (.bool (asB d))∧v= .bool (asB d):=by
 unfold isB at hd;split at hd
 ·simp only[Rep] at h;subst h;exact⟨rfl,rfl⟩
 cases hd
theorem Jn{l:Option Loc}{d:oH}{v:Value}(h:Rep K.toCon g w l d v)(hd:isS d):d= .lit (.string (asS d))∧v= .string (asS d):=by
 unfold isS at hd;split at hd
 ·simp only[Rep] at h;subst h;exact⟨rfl,rfl⟩
 cases hd
theorem xA{P:Program}(w:World)(op:BinOp)(t:TypeId)(x y:Operand){u v:Value}(h:match u,v with| .nilIface,.nilIface=>False| .agg _,.agg _=>False|_,_=>True):
  (eqGuard op t x y u v).run P w= .ok () w:=by
 unfold eqGuard;cases op<;>simp<;>(split<;>first|rfl|(simp at h))
theorem z5K{P:Program}(w:World)(op:BinOp)(t:TypeId)(x y:Operand){d e:oH}{u v:Value}(hu:d= .lit u)(hv:e= .lit v)(hok:oV op d e):
  ((do eqGuard op t x y u v;binOp op t u v):Sem Value).run P w= .ok (asV (aE op d e)) w∧aE op d e= .lit (asV (aE op d e)):=by
 subst hu hv;unfold oV at hok;split at hok
 ·rename_i k m k' n h1 h2;cases h1;cases h2;have hg:=xA (P:=P) w op t x y (u:= .int k m) (v:= .int k' n) trivial;simp only[Sem.run_bind,hg,Result.andThen_ok];cases op<;>simp only[] at hok
  case shl=>simp[binOp,Op.shift,aE,z1F,asV,show ¬n<0 by omega]
  case shr=>simp[binOp,Op.shift,aE,z1F,asV,show ¬n<0 by omega]
  case quo=>obtain⟨rfl,hn⟩:=hok;simp[binOp,Op.intDiv,aE,z1F,asV,hn]
  case rem=>obtain⟨rfl,hn⟩:=hok;simp[binOp,Op.intDiv,aE,z1F,asV,hn]
  all_goals (subst hok;simp[binOp,Op.intArith,Op.intBits,Op.intCmp,aE,z1F,asV])
 ·rename_i m n h1 h2;cases h1;cases h2;have hg:=xA (P:=P) w op t x y (u:= .string m) (v:= .string n) trivial;simp only[Sem.run_bind,hg,Result.andThen_ok];cases op<;>simp only[] at hok
  case add=>
   have:¬((m.size:Int)+n.size>IntKind.i64.max):=by simp[IntKind.max,IntKind.signed,IntKind.bits] at hok⊢;omega
   simp[binOp,Op.stringOp,aE,z5ja,asV];simpa using this
  all_goals simp[binOp,Op.stringOp,aE,z5ja,asV]
 cases hok
theorem z83{P:Program}(w:World)(op:UnOp){d:oH}{u:Value}(hu:d= .lit u)(hok:iF op d):(Op.unary op u).run P w= .ok (asV (unV op d)) w∧unV op d= .lit (asV (unV op d)):=by
 subst hu;unfold iF at hok;split at hok
 ·rename_i k n h;cases h;simp[Op.unary,Op.intArith,unV,asV]
 ·rename_i k n h;cases h;simp[Op.unary,Op.intBits,unV,asV]
 ·rename_i b h;cases h;simp[Op.unary,unV,asV]
 cases hok
theorem Va{op:BinOp}{d e:oH}(h:oV op d e):(∃u,d= .lit u)∧∃v,e= .lit v:=by
 unfold oV at h;split at h
 ·exact⟨⟨_,rfl⟩,⟨_,rfl⟩⟩
 ·exact⟨⟨_,rfl⟩,⟨_,rfl⟩⟩
 cases h
theorem Z1{op:UnOp}{d:oH}(h:iF op d):∃u,d= .lit u:=by
 unfold iF at h;split at h
 ·exact⟨_,rfl⟩
 ·exact⟨_,rfl⟩
 ·exact⟨_,rfl⟩
 cases h
theorem Mx{l:Option Loc}{d:oH}{v u:Value}(h:Rep K.toCon g w l d v)(hd:d= .lit u):v=u:=by subst hd;simpa[Rep] using h
end
section
variable {K : Cx} {base : aZ} {g g' : Gh} {w w' : World} {get : Nat -> oH} {getB : Nat -> Option (List oH)} {a : Act}
structure Ext (g:Gh) (w:World) (g':Gh) (w':World):Prop where
 keeps:aP g.S w g'.S w'
 mu:∀id b,g.mu id=some b->g'.mu id=some b
 own:∀l,aQ g w g' w' l l
theorem Ext.rep(h:Ext g w g' w'){l:Option Loc}{d:oH}{v:Value}(hr:Rep K.toCon g w l d v):Rep K.toCon g' w' l d v:=
 Rep.mono h.keeps d v l l (λid _ b hb=>h.mu id b hb) (λm hm=>⟨m,hm,h.own m⟩) hr
theorem Ext.slots(h:Ext g w g' w')(hs:dI K g w get a):dI K g' w' get a:=λs=>h.rep (hs s)
theorem Ext.refl(g:Gh)(w:World):Ext g w g w:=⟨aP.refl _ _,λ_ _ h=>h,λ_ _ h=>⟨h,rfl,rfl⟩⟩
theorem EM:Ext g w g w.drew:=⟨λ_ _ _ h h'=>⟨h,h'⟩,λ_ _ h=>h,λ_ _ h=>⟨h,rfl,rfl⟩⟩
theorem E6(h:Inv K base g w getB):Inv K base g w.drew getB:=
 ⟨h.fr.trans ⟨rfl,rfl,rfl,Nat.le_refl _,λ_ _ _=>rfl⟩,h.sS,h.inj,λid cs hc=>by
  obtain⟨b,h1,h2,h3⟩:=h.bxok id cs hc;exact⟨b,h1,h2,λi d hi=>by obtain⟨⟨x,h4,h5⟩,h6⟩:=h3 i d hi;exact⟨⟨x,h4,EM.rep h5⟩,h6⟩⟩,
  h.nobx,h.muW,h.owW,λn hn=>am.mono EM.keeps _ _ _ (h.glob n hn),h.kp.trans EM.keeps,h.obok,h.old⟩
def uW(g:Gh)(b n:Nat)(l:Option Loc):Gh:={g with S:=λx=>if x=b then n else g.S x,ow:=λx=>if x=b then l else g.ow x}
def Bk(g:Gh)(id b:Nat):Gh:={g with mu:=λx=>if x=id then some b else g.mu x}
theorem uM(w:World)(C:Array Value)(e:TypeId)(fr:Nat×Nat)(hfr:∀i,i<C.size->¬(fr.1<=i∧i<fr.2))(o n:Nat)(h:o+n<=C.size):(w.alloc (.cells C e fr)).there w.heap.size o n:=by
 intro j hj;rw[World.cell?_alloc_mark];obtain⟨lo,hi⟩:=fr;rw[World.frozen?_alloc_mark];refine⟨by simp;omega,?_⟩;have:=hfr (o+j) (by omega);simp only[Bool.and_eq_false_iff,decide_eq_false_iff_not];simp only[not_and] at this;by_cases h1:lo<=o+j
 ·exact .inr (this h1)
 exact .inl h1
theorem heap_alloc{w:World}(o:Obj){b:Nat}(hb:b<w.heap.size):(w.alloc o).heap[b]? =w.heap[b]? :=show(w.heap.push o)[b]? =w.heap[b]? by rw[Array.getElem?_push,if_neg (Nat.ne_of_lt hb)]
theorem rn(b:Nat):∀(vs:List Value) (o:Nat) (w:World) (k:Nat),k≠b->(w.setCells b o vs).heap[k]? =w.heap[k]?
 |[],_,_,_,_=>rfl
 |v::r,o,w,k,h=>by rw[World.setCells,rn b r (o+1) _ k h];simp only[World.setCell,Array.getElem?_modify];rw[if_neg (by simpa using λe=>h e.symm)]
theorem O2(w:World)(o:Obj)(x:Addr)(h:x.block<w.heap.size):(w.alloc o).frozen? x=w.frozen? x:=World.frozen?_alloc_old w o x (Nat.ne_of_lt h)
theorem Inv.sz(h:Inv K base g w getB):base.w0.heap.size<=w.heap.size:=h.fr.size
theorem vm(h:Inv K base g w getB)(o:Obj)(n:Nat)(l:Option Loc):Ext g w (uW g w.heap.size n l) (w.alloc o):=by
 refine⟨λb i x hi hc=> ?_,λ_ _ h=>h,λm b hb=> ?_⟩
 ·have hb:b<w.heap.size:=World.block_lt_of_cell? w ⟨b,i,none⟩ hc;refine⟨?_,?_⟩
  ·simp only[uW,if_neg (Nat.ne_of_lt hb)];exact hi
  rw[World.cell?_alloc_lt _ _ _ hb];exact hc
 have hlt:=(h.owW b m hb).2;simp only[uW,if_neg (Nat.ne_of_lt hlt)];exact⟨hb,trivial,heap_alloc o hlt⟩
theorem xk(h:Inv K base g w getB)(o:Obj)(n:Nat)(l:Option Loc):Inv K base (uW g w.heap.size n l) (w.alloc o) getB:=by
 have hx:=vm h o n l;have hz:=h.sz;refine⟨h.fr.trans ⟨rfl,rfl,rfl,by simp,λk hk _=> ?_⟩,λb hb hw=> ?_,h.inj,λid cs hc=> ?_,h.nobx,λid b hb=> ?_,λb m hb=> ?_,λn hn=>am.mono hx.keeps _ _ _ (h.glob n hn),h.kp.trans hx.keeps,λid b cs ho hb hc hd=> ?_,h.old⟩
 ·exact(show(w.heap.push o)[k]? =w.heap[k]? by rw[Array.getElem?_push,if_neg (by omega)])
 ·simp only[uW,if_neg (show ¬b=w.heap.size by omega)];exact h.sS b hb hw
 ·obtain⟨b,h1,h2,h3⟩:=h.bxok id cs hc;have hlt:=(h.muW id b h1).2.1;refine⟨b,h1,by simp only[uW,if_neg (Nat.ne_of_lt hlt)];exact h2,λi d hi=> ?_⟩;obtain⟨⟨x,h4,h5⟩,h6⟩:=h3 i d hi;exact⟨⟨x,by rw[World.cell?_alloc_lt _ _ _ hlt];exact h4,hx.rep h5⟩,by rw[O2 _ _ _ hlt];exact h6⟩
 ·obtain⟨h1,h2,h3⟩:=h.muW id b hb;refine⟨h1,by simp;omega,?_⟩;simp only[uW,if_neg (Nat.ne_of_lt h2)];exact h3
 ·simp only[uW] at hb;split at hb
  ·subst_vars;exact⟨.inl hz,by simp⟩
  obtain⟨h1,h2⟩:=h.owW b m hb;exact⟨h1,by simp;omega⟩
 have old:∀k,k<w.heap.size->(w.alloc o).heap[k]? =w.heap[k]? :=λk hk=>(show(w.heap.push o)[k]? =w.heap[k]? by rw[Array.getElem?_push,if_neg (by omega)]);refine dy.keep (h.obok id b cs ho hb hc hd) (old b (h.muW id b hb).2.1) λk hk=> ?_;have hlt:=(h.owW k _ hk).2;exact⟨by simp only[uW,if_neg (Nat.ne_of_lt hlt)];exact hk,old k hlt⟩
theorem z6i(h:Inv K base g w getB)(id:Nat)(hid:getB id=none)(C:Array Value)(e:TypeId)(cs:List oH)
  (hc:∀i d,cs[i]? =some d->∃x,C[i]? =some x∧Rep K.toCon g w (some (.cell id i)) d x)
  (hob:1000000<=id->hdA (cs.drop 1)≠ .undef->dy K.bt K.b5 (uW g w.heap.size 0 none).ow (w.alloc (.cells C e)) w.heap.size id) (hno:400000<=id->id<500000->False):
  Ext g w (Bk (uW g w.heap.size 0 none) id w.heap.size) (w.alloc (.cells C e))∧
  Inv K base (Bk (uW g w.heap.size 0 none) id w.heap.size) (w.alloc (.cells C e)) (Kt getB [(id,some cs)]):=by
 have hx0:=vm h (.cells C e) 0 none;have hi0:=xk h (.cells C e) 0 none;have hz:=h.sz;have hmu:g.mu id=none:=h.nobx id hid;have hx:Ext g w (Bk (uW g w.heap.size 0 none) id w.heap.size) (w.alloc (.cells C e)):=by
  refine⟨hx0.keeps,λj b hb=> ?_,hx0.own⟩;simp only[Bk,uW];split
  ·subst_vars;rw[hmu] at hb;cases hb
  exact hb
 refine⟨hx,hi0.fr,hi0.sS,λi j b hi hj=> ?_,λj ds hj=> ?_,λj hj=> ?_,λj b hb=> ?_,hi0.owW,λn hn=>am.mono hx.keeps _ _ _ (h.glob n hn),h.kp.trans hx.keeps,λj b es ho hb hc hd=> ?_,λj b h1 h2 hb=>by
  simp only[Bk] at hb;split at hb
  ·subst_vars;exact(hno h1 h2).elim
  exact h.old j b h1 h2 hb⟩
 ·simp only[Bk,uW] at hi hj;split at hi<;>split at hj
  ·subst_vars;rfl
  ·cases hi;have:=(h.muW j _ hj).2.1;omega
  ·cases hj;have:=(h.muW i _ hi).2.1;omega
  exact h.inj i j b hi hj
 ·simp only[Kt,lk] at hj;split at hj
  ·rename_i x hx';split at hx'
   ·rename_i e';subst e';cases hx';cases hj;refine⟨w.heap.size,by simp[Bk],by simp[uW,Bk],λi d hi=> ?_⟩;obtain⟨x,h1,h2⟩:=hc i d hi;exact⟨⟨x,by rw[World.cell?_alloc_new];exact h1,hx.rep h2⟩,by simp⟩
   cases hx'
  rename_i hne;split at hne
  ·cases hne
  rename_i hne';obtain⟨b,h1,h2,h3⟩:=hi0.bxok j ds hj;refine⟨b,by simp only[Bk,if_neg hne'];exact h1,h2,λi d hi=> ?_⟩;obtain⟨b',k1,k2,k3⟩:=h.bxok j ds hj;have:b'=b:=by have:=h1;simp only[uW] at this;rw[k1] at this;cases this;rfl
  subst this;obtain⟨⟨x,h4,h5⟩,h6⟩:=k3 i d hi;have hlt:=(h.muW j b' k1).2.1;exact⟨⟨x,by rw[World.cell?_alloc_lt _ _ _ hlt];exact h4,hx.rep h5⟩,by rw[O2 _ _ _ hlt];exact h6⟩
 ·simp only[Kt,lk] at hj;split at hj
  ·rename_i x hx';split at hx'
   ·cases hx';cases hj
   cases hx'
  rename_i hne;split at hne
  ·cases hne
  rename_i hne';simp only[Bk,if_neg hne'];exact h.nobx j hj
 ·simp only[Bk] at hb;split at hb
  ·cases hb;exact⟨.inl hz,by simp,by simp[uW,Bk]⟩
  exact hi0.muW j b hb
 by_cases hne:j=id
 ·subst hne;simp only[Bk,if_true,Option.some.injEq] at hb;simp only[Kt,lk,if_true,Option.some.injEq] at hc;subst hb;subst hc;exact hob ho hd
 simp only[Bk,if_neg hne] at hb;simp only[Kt,lk,if_neg hne] at hc;exact hi0.obok j b es ho hb hc hd
theorem H7(h:Inv K base g w getB)(id:Nat)(hob:cx id)(hid:getB id=none)(C:Array Value)(e:TypeId)(cs:List oH)
  (hc:∀i d,cs[i]? =some d->∃x,C[i]? =some x∧Rep K.toCon g w (some (.cell id i)) d x):
  Ext g w (Bk (uW g w.heap.size 0 none) id w.heap.size) (w.alloc (.cells C e))∧
  Inv K base (Bk (uW g w.heap.size 0 none) id w.heap.size) (w.alloc (.cells C e)) (Kt getB [(id,some cs)]):=
 z6i h id hid C e cs hc (λh=>by have:=hob.lt;omega) λh1 h2=>hob.no h1 h2
theorem TN(h:Inv K base g w getB){id b:Nat}(hb:g.mu id=some b)(hS:g.S b=0)(o:Nat)(vs:List Value):Ext g w g (w.setCells b o vs):=by refine⟨λb' i x hi hc=>⟨hi,?_⟩,λ_ _ h=>h,λm b' hb'=>⟨hb',rfl,rn b vs o w b' λe=>by subst e;rw[(h.muW id b' hb).2.2] at hb';cases hb'⟩⟩;rw[World.cell?_setCells_out b vs o w ⟨b',i,none⟩ (λe _=>by simp at e;subst e;omega)];exact hc
theorem sQ(b:Nat):∀(vs:List Value) (o:Nat) (w:World),(w.setCells b o vs).heap.size=w.heap.size
 |[],_,_=>rfl
 |v::r,o,w=>by rw[World.setCells,sQ b r];simp
theorem Dx(b:Nat):∀(vs:List Value) (o:Nat) (w:World),(w.setCells b o vs).os=w.os∧(w.setCells b o vs).tape=w.tape∧(w.setCells b o vs).output=w.output
 |[],_,_=>⟨rfl,rfl,rfl⟩
 |v::r,o,w=>by rw[World.setCells];obtain⟨h1,h2,h3⟩:=Dx b r (o+1) (w.setCell ⟨b,o,none⟩ v);exact⟨h1,h2,h3⟩
theorem IU{B:Nat}{W:Nat->Prop}(w:World)(b o:Nat)(vs:List Value)(hb:B<=b∨W b):Fr B W w (w.setCells b o vs):=by
 obtain⟨h1,h2,h3⟩:=Dx b vs o w;refine⟨h1,h2,h3,by rw[sQ];exact Nat.le_refl _,λk hk hw=>rn b vs o w k (λe=> ?_)⟩;subst e;rcases hb with hb|hb
 ·omega
 exact hw hb
theorem F0(h:Inv K base g w getB){id:Nat}{cs:List oH}(hob:id<1000000)(hid:getB id=some cs)(o:Nat)(vs:List Value)(ds:List oH)(hlen:ds.length=vs.length)(hfit:o+ds.length<=cs.length)
  (hr:∀i d v,ds[i]? =some d->vs[i]? =some v->Rep K.toCon g w (some (.cell id (o+i))) d v):
  ∃b,g.mu id=some b∧Ext g w g (w.setCells b o vs)∧Inv K base g (w.setCells b o vs) (Kt getB [(id,some (splice cs o ds))]):=by
 obtain⟨b,hb,hS,hcells⟩:=h.bxok id cs hid;have hx:=TN h hb hS o vs;have hthere:∀j,j<vs.length->(w.cell? ⟨b,o+j,none⟩).isSome=true:=λj hj=>by obtain⟨⟨x,hx,_⟩,_⟩:=hcells (o+j) (cs[o+j]'(by omega)) (List.getElem?_eq_getElem (by omega));rw[hx];rfl
 refine⟨b,hb,hx,h.fr.trans (IU w b o vs (h.muW id b hb).1),h.sS,h.inj,λj es hj=> ?_,λj hj=> ?_,λj b' hb'=> ?_,λb' m hb'=> ?_,λn hn=>am.mono hx.keeps _ _ _ (h.glob n hn),h.kp.trans hx.keeps,λj b' es ho hb' hc hd=> ?_,h.old⟩
 ·simp only[Kt,lk] at hj;by_cases hjid:j=id
  ·subst hjid;simp only[if_true] at hj;cases hj;refine⟨b,hb,hS,λi d hi=>⟨?_,?_⟩⟩
   ·by_cases hin:o<=i∧i<o+vs.length
    ·obtain⟨h1,h2⟩:=hin;obtain⟨k,rfl⟩:=Nat.exists_eq_add_of_le h1;have hk:k<vs.length:=by omega
     refine⟨vs[k],by rw[World.cell?_setCells_in b vs o w hthere k hk],?_⟩;have hdk:ds[k]? =some d:=by unfold splice at hi;rw[List.append_assoc,List.getElem?_append_right (by simp;omega),List.length_take,Nat.min_eq_left (by omega),Nat.add_sub_cancel_left,List.getElem?_append_left (by omega)] at hi;exact hi
     exact hx.rep (hr k d _ hdk (List.getElem?_eq_getElem hk))
    have hold:cs[i]? =some d:=by
     unfold splice at hi;rcases Nat.lt_or_ge i o with h1|h1
     ·rw[List.append_assoc,List.getElem?_append_left (by simp;omega),List.getElem?_take,if_pos h1] at hi;exact hi
     rw[List.getElem?_append_right (by simp;omega),List.getElem?_drop] at hi;simp only[List.length_append,List.length_take] at hi;rw[show o+ds.length+(i-(min o cs.length+ds.length))=i by omega] at hi;exact hi
    obtain⟨⟨x,h4,h5⟩,_⟩:=hcells i d hold;refine⟨x,?_,hx.rep h5⟩;rw[World.cell?_setCells_out b vs o w ⟨b,i,none⟩ (λ_ _=>by
     show i<o∨o+vs.length<=i;omega)]
    exact h4
   rw[World.frozen?_setCells];have hlt:i<cs.length:=by have:=(List.getElem?_eq_some_iff.1 hi).1;simp[splice] at this;omega
   exact(hcells i _ (List.getElem?_eq_getElem hlt)).2
  simp only[if_neg hjid] at hj;obtain⟨b',h1,h2,h3⟩:=h.bxok j es hj;have hne:b'≠b:=λe=>hjid (h.inj j id b (e▸h1) hb);refine⟨b',h1,h2,λi d hi=> ?_⟩;obtain⟨⟨x,h4,h5⟩,h6⟩:=h3 i d hi;refine⟨⟨x,?_,hx.rep h5⟩,by rw[World.frozen?_setCells];exact h6⟩;rw[World.cell?_setCells_out b vs o w ⟨b',i,none⟩ (λe=>absurd e hne)];exact h4
 ·simp only[Kt,lk] at hj;by_cases hjid:j=id
  ·subst hjid;simp at hj
  simp only[if_neg hjid] at hj;exact h.nobx j hj
 ·obtain⟨h1,h2,h3⟩:=h.muW j b' hb';exact⟨h1,by rw[sQ];exact h2,h3⟩
 ·obtain⟨h1,h2⟩:=h.owW b' m hb';exact⟨h1,by rw[sQ];exact h2⟩
 have hne:j≠id:=by omega
 simp only[Kt,lk,if_neg hne] at hc;refine dy.keep (h.obok j b' es ho hb' hc hd) (rn b vs o w b' λe=>hne (h.inj j id b (e▸hb') hb)) λk hk=>⟨hk,rn b vs o w k λe=> ?_⟩;subst e;rw[(h.muW id k hb).2.2] at hk;cases hk
end
section
variable {K : Cx} {base : aZ} {g g' : Gh} {w w' : World} {get : Nat -> oH} {getB : Nat -> Option (List oH)} {a : Act}
def wT(g:Gh)(l0 l1:Loc):Gh:={g with ow:=λb=>if g.ow b=some l0 then some l1 else g.ow b}
theorem Vc{l0 l1 m:Loc}(h:m≠l0):aQ g w (wT g l0 l1) w m m:=λb hb=>by refine⟨?_,rfl,rfl⟩;simp only[wT];rw[if_neg (λe=>h (by rw[hb] at e;cases e;rfl))];exact hb
theorem SY{l0 l1:Loc}:aQ g w (wT g l0 l1) w l0 l1:=λb hb=>⟨by simp[wT,hb],rfl,rfl⟩
theorem CS{l0 l1:Loc}{l:Option Loc}(hl:l≠some l0){d:oH}{v:Value}(h:Rep K.toCon g w l d v):Rep K.toCon (wT g l0 l1) w l d v:=
 Rep.mono (g:=g) (g':=wT g l0 l1) (aP.refl g.S w) d v l l (λ_ _ _ h=>h) (λm hm=>⟨m,hm,Vc (l0:=l0) (by rintro rfl;exact hl hm)⟩) h
theorem ta{l0 l1:Loc}{d:oH}{v:Value}(h:Rep K.toCon g w (some l0) d v):Rep K.toCon (wT g l0 l1) w (some l1) d v:=
 Rep.mono (g:=g) (g':=wT g l0 l1) (aP.refl g.S w) d v (some l0) (some l1) (λ_ _ _ h=>h) (λm hm=>⟨l0,rfl,by cases hm;exact SY⟩) h
theorem Nu{l0 l1:Loc}(l:Option Loc){d:oH}{v:Value}(h:Rep K.toCon g w (some l0) d v):Rep K.toCon (wT g l0 l1) w l (dem d) v:=
 Rep.dem l (ta h)
theorem B1(h:Inv K base g w getB)(s:Nat)(l1:Loc):Inv K base (wT g (.slot s) l1) w getB:=by
 refine⟨h.fr,h.sS,h.inj,λid cs hc=> ?_,h.nobx,λid b hb=> ?_,λb m hb=> ?_,h.glob,h.kp,λid b cs ho hb hc hd=> ?_,h.old⟩
 ·obtain⟨b,h1,h2,h3⟩:=h.bxok id cs hc;refine⟨b,h1,h2,λi d hi=> ?_⟩;obtain⟨⟨x,h4,h5⟩,h6⟩:=h3 i d hi;exact⟨⟨x,h4,CS (by simp) h5⟩,h6⟩
 ·obtain⟨h1,h2,h3⟩:=h.muW id b hb;exact⟨h1,h2,by simp[wT,h3]⟩
 ·simp only[wT] at hb;split at hb
  ·rename_i he;exact h.owW b _ he
  exact h.owW b m hb
 refine dy.keep (h.obok id b cs ho hb hc hd) rfl λk hk=>⟨?_,rfl⟩;simp only[wT];rw[if_neg (by rw[hk];simp)];exact hk
theorem Qn(hS:dI K g w get a)(s:Nat)(l1:Loc):dI K (wT g (.slot s) l1) w (upd get [(s,dem (get s))]) a:=λt=>by
 simp only[upd,lk];by_cases ht:t=s
 ·subst ht;simp only[if_true,Option.getD_some];exact Nu _ (hS t)
 simp only[if_neg ht,Option.getD_none];exact CS (by simpa using ht) (hS t)
theorem Fz(h:Inv K base g w getB){id:Nat}{cs:List oH}(hob:id<1000000)(hid:getB id=some cs)(i:Nat)(l1:Loc)(hl:∀j k,l1≠ .cell j k):
  Inv K base (wT g (.cell id i) l1) w (Kt getB [(id,some (cs.set i (dem (cs.getD i .undef))))]):=by
 refine⟨h.fr,h.sS,h.inj,λj es hj=> ?_,λj hj=> ?_,λj b hb=> ?_,λb m hb=> ?_,h.glob,h.kp,λj b es ho hb hc hd=>by
  have hne:j≠id:=by omega
  simp only[Kt,lk,if_neg hne] at hc;refine dy.keep (h.obok j b es ho hb hc hd) rfl λk hk=>⟨?_,rfl⟩;simp only[wT];rw[if_neg (by rw[hk];simp;omega)];exact hk,h.old⟩
 ·simp only[Kt,lk] at hj;by_cases hjid:j=id
  ·subst hjid;simp only[if_true] at hj;cases hj;obtain⟨b,h1,h2,h3⟩:=h.bxok j cs hid;refine⟨b,h1,h2,λk d hk=> ?_⟩;rw[List.getElem?_set] at hk;by_cases hik:i=k
   ·subst hik;simp only[if_true] at hk;split at hk
    ·rename_i hlt;cases hk;obtain⟨⟨x,h4,h5⟩,h6⟩:=h3 i cs[i] (List.getElem?_eq_getElem hlt);exact⟨⟨x,h4,by rw[List.getD,List.getElem?_eq_getElem hlt];exact Nu _ h5⟩,h6⟩
    cases hk
   rw[if_neg hik] at hk;obtain⟨⟨x,h4,h5⟩,h6⟩:=h3 k d hk;exact⟨⟨x,h4,CS (by simpa using λe=>hik e.symm) h5⟩,h6⟩
  simp only[if_neg hjid] at hj;obtain⟨b,h1,h2,h3⟩:=h.bxok j es hj;refine⟨b,h1,h2,λk d hk=> ?_⟩;obtain⟨⟨x,h4,h5⟩,h6⟩:=h3 k d hk;exact⟨⟨x,h4,CS (by simp;exact λe=>absurd e hjid) h5⟩,h6⟩
 ·simp only[Kt,lk] at hj;by_cases hjid:j=id
  ·subst hjid;simp at hj
  simp only[if_neg hjid] at hj;exact h.nobx j hj
 ·obtain⟨h1,h2,h3⟩:=h.muW j b hb;exact⟨h1,h2,by simp[wT,h3]⟩
 simp only[wT] at hb;split at hb
 ·rename_i he;exact h.owW b _ he
 exact h.owW b m hb
theorem DK(hS:dI K g w get a)(id i:Nat)(l1:Loc):dI K (wT g (.cell id i) l1) w get a:=λt=>CS (by simp) (hS t)
theorem Rt(h:Inv K base g w getB){b o s1:Nat}{l0:Loc}(hb:g.ow b=some l0)(hSb:g.S b<=o)(hs1:g.S b<=s1)(l1:Option Loc)(vs:List Value):
  aP g.S w (uW g b s1 l1).S (w.setCells b o vs)∧
  (∀l,l≠l0->aQ g w (uW g b s1 l1) (w.setCells b o vs) l l)∧
  ((∀id i,l0≠ .cell id i)->Inv K base (uW g b s1 l1) (w.setCells b o vs) getB):=by
 have hkeep:aP g.S w (uW g b s1 l1).S (w.setCells b o vs):=λb' i x hi hc=>by
  simp only[uW];by_cases he:b'=b
  ·subst he;rw[if_pos rfl];refine⟨by omega,?_⟩;rw[World.cell?_setCells_out b' vs o w ⟨b',i,none⟩ (λ_ _=> .inl (Nat.lt_of_lt_of_le hi hSb))];exact hc
  rw[if_neg he];refine⟨hi,?_⟩;rw[World.cell?_setCells_out b vs o w ⟨b',i,none⟩ (λe=>absurd e he)];exact hc
 have hown:∀l,l≠l0->aQ g w (uW g b s1 l1) (w.setCells b o vs) l l:=λl hl b' hb'=>by
  have he:b'≠b:=λe=>by subst e;rw[hb] at hb';cases hb';exact hl rfl
  simp only[uW,if_neg he];exact⟨hb',trivial,rn _ _ _ _ _ he⟩
 refine⟨hkeep,hown,λhl0=> ?_⟩;have hmu:∀id,g.mu id≠some b:=λid e=>by have:=(h.muW id b e).2.2;rw[hb] at this;cases this
 refine⟨h.fr.trans (IU w b _ vs (h.owW b l0 hb).1),λb' hb' hw=> ?_,h.inj,λid cs hc=> ?_,h.nobx,λid b' hb'=> ?_,λb' l hl=> ?_,λn hn=>am.mono hkeep _ _ _ (h.glob n hn),h.kp.trans hkeep,λj b' es ho hb' hc hd=>by
  have hne:∀k,k≠b->(w.setCells b o vs).heap[k]? =w.heap[k]? :=λk hk=>rn b vs _ w k hk;refine dy.keep (h.obok j b' es ho hb' hc hd) (hne b' λe=>hmu j (e▸hb')) λk hk=> ?_;have hkb:k≠b:=λe=>by subst e;rw[hb] at hk;cases hk;exact hl0 j 1 rfl
  exact⟨by simp only[uW,if_neg hkb];exact hk,hne k hkb⟩,h.old⟩
 ·have:b'≠b:=λe=>by subst e;rcases(h.owW b' l0 hb).1 with h1|h1;omega;exact hw h1
  simp only[uW,if_neg this];exact h.sS b' hb' hw
 ·obtain⟨b',h1,h2,h3⟩:=h.bxok id cs hc;have hne:b'≠b:=λe=>hmu id (e▸h1);refine⟨b',h1,by simp only[uW,if_neg hne];exact h2,λi d hi=> ?_⟩;obtain⟨⟨x,h4,h5⟩,h6⟩:=h3 i d hi;refine⟨⟨x,?_,?_⟩,by rw[World.frozen?_setCells];exact h6⟩
  ·rw[World.cell?_setCells_out b vs o w ⟨b',i,none⟩ (λe=>absurd e hne)];exact h4
  exact Rep.mono hkeep d x _ _ (λ_ _ _ h=>h) (λm hm=>⟨m,hm,hown m (by cases hm;exact(hl0 id i).symm)⟩) h5
 ·obtain⟨h1,h2,h3⟩:=h.muW id b' hb';have hne:b'≠b:=λe=>hmu id (e▸hb');exact⟨h1,by rw[sQ];exact h2,by simp only[uW,if_neg hne];exact h3⟩
 simp only[uW] at hl;split at hl
 ·rename_i he;subst he;obtain⟨h1,h2⟩:=h.owW b' l0 hb;exact⟨h1,by rw[sQ];exact h2⟩
 obtain⟨h1,h2⟩:=h.owW b' l hl;exact⟨h1,by rw[sQ];exact h2⟩
theorem Wf(h:Inv K base g w getB){b n esz cap m:Nat}{l0:Loc}(hb:g.ow b=some l0)(hSb:g.S b=n*esz)(ht:w.there b (n*esz) (cap*esz-n*esz))
  (l1:Option Loc) (vs:List Value) (hvs:vs.length=m*esz) (hcap:n+m<=cap):
  aP g.S w (uW g b ((n+m)*esz) l1).S (w.setCells b (n*esz) vs)∧
  (∀l,l≠l0->aQ g w (uW g b ((n+m)*esz) l1) (w.setCells b (n*esz) vs) l l)∧
  ((∀id i,l0≠ .cell id i)->Inv K base (uW g b ((n+m)*esz) l1) (w.setCells b (n*esz) vs) getB):=
 Rt h hb (Nat.le_of_eq hSb) (by rw[hSb];exact Nat.mul_le_mul_right _ (by omega)) l1 vs
theorem XL(l:List UInt8):an K.toCon g w (l.map λc=> .lit (.int .u8 c.toNat)) (l.map λc=>(.int .u8 c.toNat:Value)):=
 an.mk (by simp) λi d v hd hv=>by
  rw[List.getElem?_map] at hd hv;cases hl:l[i]? with
  |none=>simp[hl] at hd
  |some c=>simp only[hl,Option.map_some,Option.some.injEq] at hd hv;subst hd hv;simp[Rep]
theorem Uj(hI:Inv K base g w getB){esz:Nat}{b:Option Nat}{d:oH}{v:Value}(hok:okS esz b (bxc getB b) d)(hr:Rep K.toCon g w none d v):
  ∃vs,an K.toCon g w (az (bxl getB b) d) vs∧vs.length=bc d*esz∧
   ((∃q:Option Addr,v= .slice q 0 0∧vs=[]∧bc d=0)∨∃bk o cap,v= .slice (some ⟨bk,o,none⟩) (bc d) cap∧bc d<=cap∧w.rangeAt bk o vs):=by
 unfold okS at hok;split at hok
 ·rename_i m nl n cs;have hp:ap K.toCon g.S w (.sl .plain nl n cs) v:=by
   cases m<;>simp only[Rep] at hr
   ·exact hr
   ·simp only[ap] at hr⊢;rcases hr with⟨b,o,cap,h1,h2,h3,h4,_⟩|h
    ·exact .inl ⟨b,o,cap,h1,h2,h3,h4,by simp⟩
    exact .inr h
   exact hr.1
  simp only[ap] at hp;rcases hp with⟨bk,o,cap,rfl,h1,h2,_⟩|⟨q,rfl,rfl,rfl,_⟩
  ·obtain⟨vs,k1,k2,_⟩:=h2.vals;exact⟨vs,k2,by rw[<-k2.len];exact hok,.inr ⟨bk,o,cap,rfl,h1,k1⟩⟩
  exact⟨[],by simp[az,an],by simp[bc],.inl ⟨_,rfl,rfl,rfl⟩⟩
 ·rename_i id e off n c;obtain⟨rfl,rfl,cs,hcs,hfit⟩:=hok;simp only[bxc,Option.bind_some] at hcs;simp only[Rep] at hr;obtain⟨bk,cap,o,hb,rfl,h1,h2,h3⟩:=hr;obtain⟨b',k1,k2,k3⟩:=hI.bxok id cs hcs;rw[hb] at k1;cases k1;have hbx:bxl getB (some id)=cs:=by simp[bxl,bxc,hcs]
  rw[hbx]
  let f:Nat->Value:=λi=>(w.cell? ⟨bk,i,none⟩).getD undef
  have hcell:∀i d,cs[i]? =some d->w.cell? ⟨bk,i,none⟩=some (f i)∧Rep K.toCon g w none d (f i):=λi d hd=>by
   obtain⟨⟨x,h4,h5⟩,_⟩:=k3 i d hd;have hf:f i=x:=by simp only[f,h4,Option.getD_some]
   rw[hf];exact⟨h4,Rep.mono (aP.refl _ _) d x _ _ (λ_ _ _ h=>h) (by simp) h5⟩
  refine⟨(List.range (n*e)).map λj=>f (off+j),an.mk (by simp[az];omega) (λi d v hd hv=> ?_),by simp[bc],.inr ⟨bk,o,cap,rfl,h1,λj v hv=> ?_⟩⟩
  ·simp only[az,List.getElem?_take,List.getElem?_drop] at hd;split at hd
   ·rename_i hi;rw[List.getElem?_map,List.getElem?_range hi] at hv;simp only[Option.map_some,Option.some.injEq] at hv;subst hv;exact(hcell _ d hd).2
   cases hd
  have hj:j<n*e:=by have:=(List.getElem?_eq_some_iff.1 hv).1;simpa using this
  rw[List.getElem?_map,List.getElem?_range hj] at hv;simp only[Option.map_some,Option.some.injEq] at hv;subst hv;rcases h3 with rfl|⟨rfl,_⟩
  ·have:=(hcell (o+j) (cs[o+j]'(by omega)) (List.getElem?_eq_getElem (by omega))).1;exact this
  simp at hj
 ·simp only[Rep] at hr;subst hr;exact⟨[],by simp[az,an],by simp[bc],.inl ⟨_,rfl,rfl,rfl⟩⟩
 cases hok
end
def u6(P:Program)(t:TypeId)(n:Nat):Bool:=(P.info? t).map (·.size)==some n
def DO(P:Program)(t:TypeId)(f:TypeDesc->Bool):Bool:=match P.underlying t with|some d=>f d|none=>false
def Sm(k:IntKind):TypeDesc->Bool| .int k'=>decide (k=k')|_=>false
def Id:TypeDesc->Bool| .string=>true|_=>false
def VT:TypeDesc->Bool| .slice _=>true|_=>false
def TH(P:Program)(t:TypeId)(k:Option Nat):Bool:=
 match k with
 |none=>DO P t (λd=> !d.isRow)&&u6 P t 1
 |some n=>DO P t (λd=>d.isRow)&&u6 P t n
theorem JL{P:Program}{t:TypeId}{n:Nat}(h:u6 P t n=true):(P.info? t).map (·.size)=some n:=by simpa[u6] using h
theorem yq{P:Program}{t:TypeId}{n:Nat}(h:u6 P t n=true):∃i,P.info? t=some i∧i.size=n:=by
 have:=JL h;cases hi:P.info? t with
 |none=>simp[hi] at this
 |some i=>simp[hi] at this;exact⟨i,rfl,this⟩
theorem rT{P:Program}{t:TypeId}{f:TypeDesc->Bool}(h:DO P t f=true):∃d,P.underlying t=some d∧f d=true:=by
 unfold DO at h;split at h
 ·exact⟨_,by assumption,h⟩
 cases h
theorem run_sizeOf{P:Program}{t:TypeId}{n:Nat}(w:World)(h:u6 P t n=true):(sizeOf t).run P w= .ok n w:=by obtain⟨i,hi,rfl⟩:=yq h;simp[sizeOf,typeInfo,hi]
theorem Nk{k:IntKind}{d:TypeDesc}(h:Sm k d=true):d= .int k:=by
 unfold Sm at h;split at h
 ·simp only[decide_eq_true_eq] at h;rw[h]
 cases h
theorem CR{d:TypeDesc}(h:Id d=true):d= .string:=by unfold Id at h;split at h;rfl;cases h
theorem LS{d:TypeDesc}(h:VT d=true):∃e,d= .slice e:=by unfold VT at h;split at h;exact⟨_,rfl⟩;cases h
section
variable {K : Cx} {base : aZ} {g g' : Gh} {w w' : World} {get : Nat -> oH} {getB : Nat -> Option (List oH)} {a : Act}
theorem uX{l:Option Loc}{c:oH}{x:Value}(h:Rep K.toCon g w l c x)(hc:ah c):x.oneCell'=true:=by
 cases c with
 |undef=>simp[ah] at hc
 |agg _=>simp[ah] at hc
 |tup _=>simp[ah] at hc
 |otup _ _ _ _ _=>simp[ah] at hc
 |oagg _ _=>simp[ah] at hc
 |lit v=>simp only[Rep] at h;subst h;cases x<;>simp_all [ah,Value.oneCell']
 |sl m nl n cs=>
  have:(∃a n c,x= .slice a n c):=by
   cases m<;>simp only[Rep,ap] at h
   ·rcases h with⟨b,o,cap,rfl,_⟩|⟨q,rfl,_⟩<;>exact⟨_,_,_,rfl⟩
   ·rcases h with⟨b,o,cap,rfl,_⟩|⟨q,rfl,_⟩<;>exact⟨_,_,_,rfl⟩
   rcases h.1 with⟨b,o,cap,rfl,_⟩|⟨q,rfl,_⟩<;>exact⟨_,_,_,rfl⟩
  obtain⟨_,_,_,rfl⟩:=this;rfl
 |bp id off=>simp only[Rep] at h;obtain⟨b,_,rfl⟩:=h;rfl
 |bv id e off n c=>simp only[Rep] at h;obtain⟨b,cap,o,_,rfl,_⟩:=h;rfl
 |ep cs=>simp only[Rep,ap] at h;obtain⟨b,o,rfl,_⟩:=h;rfl
 |fn f p q=>simp only[Rep] at h;obtain⟨x,y,rfl,_⟩:=h;rfl
 |mp m=>simp only[Rep] at h;obtain⟨⟨b,rfl⟩,_⟩:=h;rfl
 |pv o e n cs=>simp only[Rep] at h;obtain⟨⟨q,cap,rfl,_⟩,_⟩:=h;rfl
theorem EJ{l:Option Loc}{d:oH}{v:Value}(h:Rep K.toCon g w l d v):Rep K.toCon g w none d v:=
 Rep.mono (aP.refl _ _) d v l none (λ_ _ _ h=>h) (by simp) h
theorem z7v{d:oH}(h:ao d=false):(∀e nl n cs,d≠ .sl (.own e) nl n cs)∧(∀e nl n cs r,d≠ .otup e nl n cs r)∧(∀m r,d≠ .oagg m r)∧(∀m,d≠ .mp m)∧∀o e n cs,d≠ .pv o e n cs:=⟨λe nl n cs he=>by subst he;simp[ao] at h,λe nl n cs r he=>by subst he;simp[ao] at h,λm r he=>by subst he;simp[ao] at h,λm he=>by subst he;simp[ao] at h,λo e n cs he=>by subst he;simp[ao] at h⟩
theorem Bv{d:oH}{v:Value}(l:Option Loc){l':Option Loc}(ho:ao d=false)(h:Rep K.toCon g w l' d v):Rep K.toCon g w l d v:=Rep.loc l (z7v ho) h
theorem N0{d:oH}{v:Value}(h:Rep K.toCon g w none d v)(hc:∀c∈aA d,ah c):an K.toCon g w (aA d) v.cells.toList∧∀x∈v.cells.toList,x.oneCell'=true:=by
 cases d with
 |agg cs=>simp only[Rep] at h;obtain⟨a,rfl,h⟩:=h;refine⟨h,λx hx=> ?_⟩;obtain⟨i,hi,rfl⟩:=List.mem_iff_getElem.1 hx;have hlen:=h.len;simp only[aA,Value.cells] at hc hlen hi⊢;obtain⟨y,hy,hr⟩:=h.get i cs[i] (List.getElem?_eq_getElem (by omega));rw[List.getElem?_eq_getElem hi] at hy;cases hy;exact uX hr (hc _ (List.getElem_mem _))
 |_=>
  simp only[aA,List.mem_singleton,forall_eq] at hc;have h1:=uX h hc;have:v.cells= #[v]:=by cases v<;>simp_all [Value.cells,Value.oneCell']
  rw[this];exact⟨by simp only[aA,an];exact⟨v,[],rfl,h,rfl⟩,by simpa using h1⟩
theorem PI{P:Program}(w:World)(k:IntKind)(n:Int):(asIntOf (.int k n)).run P w= .ok (k,n) w:=rfl
theorem wI{P:Program}(w:World){d:oH}{v:Value}(hr:Rep K.toCon g w none d v)(hi:isI d)(y:Nat)(code:BoundsCode)(h0:0<=asI d)(h1:asI d<=y):
  (Instr.sliceBound v y code).run P w= .ok (asI d).toNat w:=by
 obtain⟨k,_,rfl⟩:=Hb hr hi;simp[Instr.sliceBound,PI,h0,h1]
def DB(K:Cx):Option Operand->Option Arg->Bool
 |none,none=>true
 |some x,some y=>rk K x y
 |_,_=>false
def mxv(E:Env)(get:Nat->oH)(mx:Option Arg)(n cap:Nat):Nat:=match mx with|some _=>bnd E get mx n|none=>cap
theorem EX(hI:Inv K base g w getB)(hS:dI K g w get a){lo hi mx:Option Operand}{lo' hi' mx':Option Arg}(h1:DB K lo lo'=true)(h2:DB K hi hi'=true)(h3:DB K mx mx'=true)
  (isSlice:Bool) (len cap:Nat) (hlc:len<=cap) (capm:Nat) (hcm:capm<=cap) (hmh:mx'.isSome=true->hi'.isSome=true)
  (k3:bn K.E get mx' capm) (k2:bn K.E get hi' (mxv K.E get mx' capm cap)) (k1:bn K.E get lo' (bnd K.E get hi' len)):
  (Instr.sliceBounds isSlice len cap (lo.map a.eval) (hi.map a.eval) (mx.map a.eval)).run K.P w=
   .ok (bnd K.E get lo' 0,bnd K.E get hi' len,mxv K.E get mx' capm cap) w:=by
 unfold mxv at k2⊢;cases lo'<;>cases hi'<;>cases mx'<;>cases lo<;>cases hi<;>cases mx<;>simp only[DB,Bool.false_eq_true] at h1 h2 h3<;>simp at hmh<;>
  simp only[bn,bnd] at k1 k2 k3<;>simp only[Instr.sliceBounds,Option.map_some,Option.map_none,Sem.run_bind,Sem.run_pure,Result.andThen_ok,bnd]
 all_goals first
  |rfl
  |(rw[wI w (o6 hI hS h3) k3.1 _ _ k3.2.1 (by have:=k3.2.2;omega)];simp only[Result.andThen_ok];rw[wI w (o6 hI hS h2) k2.1 _ _ k2.2.1 k2.2.2];simp only[Result.andThen_ok,Sem.run_pure];rw[wI w (o6 hI hS h1) k1.1 _ _ k1.2.1 k1.2.2];simp only[Result.andThen_ok,Sem.run_pure])
  |(rw[wI w (o6 hI hS h3) k3.1 _ _ k3.2.1 (by have:=k3.2.2;omega)];simp only[Result.andThen_ok];rw[wI w (o6 hI hS h2) k2.1 _ _ k2.2.1 k2.2.2];simp only[Result.andThen_ok,Sem.run_pure])
  |(rw[wI w (o6 hI hS h2) k2.1 _ _ k2.2.1 k2.2.2];simp only[Result.andThen_ok,Sem.run_pure];rw[wI w (o6 hI hS h1) k1.1 _ _ k1.2.1 k1.2.2];simp only[Result.andThen_ok,Sem.run_pure])
  |(rw[wI w (o6 hI hS h2) k2.1 _ _ k2.2.1 k2.2.2];simp only[Result.andThen_ok,Sem.run_pure])
  |(rw[wI w (o6 hI hS h1) k1.1 _ _ k1.2.1 k1.2.2];simp only[Result.andThen_ok,Sem.run_pure])
end
end Go.Abs
end