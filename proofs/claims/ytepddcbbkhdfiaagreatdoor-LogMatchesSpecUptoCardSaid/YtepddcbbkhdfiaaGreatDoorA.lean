/- Lemmas: an abstract interpreter, and what the functions compute. -/
import Derived.Orders
import Derived.Deep.MidRow
import Derived.Laws.IdiomStrings
import Derived.Laws.BytesArg
import Derived.Laws.AppendOwn
import Derived.KernelRfl
import Derived.Laws.StructEq
import Derived.ChangeKeysEq
set_option linter.unusedSimpArgs false
set_option linter.unusedVariables false
set_option linter.unusedSectionVars false
section
namespace Go.Abs

inductive z5r where
 |plain|clip
 |own (esz:Nat)
 deriving Inhabited

inductive z0a where
 |undef
 |lit (v:Value)
 |agg (cs:List z0a)
 |tup (vs:List z0a)
 |sl (m:z5r) (nl:Option Bool) (n:Nat) (cs:List z0a)
 |bp (id off:Nat)
 |bv (id e off n c:Nat)
 |ep (cs:List z0a)
 |fn (f:Nat) (first caps:List z0a)
 |otup (esz:Nat) (nl:Option Bool) (n:Nat) (cs rest:List z0a)
 |oagg (pre:List z0a) (esz:Nat) (nl:Option Bool) (n:Nat) (cs rest:List z0a)
 deriving Inhabited

structure Con where
 P:Program
 nu:Nat→FuncId
 globs:List (Nat×List z0a)

inductive Loc where
 |slot (s:Nat)
 |cell (id i:Nat)
 |ret
 deriving DecidableEq

structure Gh where
 S:Nat→Nat
 ow:Nat→Option Loc
 mu:Nat→Option Nat

mutual
def z9b (K:Con) (S:Nat→Nat) (w:World):z0a→Value→Prop
 | .undef,_=>True
 | .lit x,v=>v=x
 | .agg cs,v=>∃a:Array Value,v= .agg a∧z5a K S w cs a.toList
 | .tup cs,v=>∃a:Array Value,v= .tuple a∧z5a K S w cs a.toList
 | .sl m nl n cs,v=>
   (∃b o cap,v= .slice (some ⟨b,o,none⟩) n cap∧n≤cap∧z4b K S w cs b o∧nl≠some true∧(m= .clip→cap=n))∨
   (∃q:Option Addr,v= .slice q 0 0∧n=0∧cs=[]∧nl≠some q.isSome)
 | .ep cs,v=>∃b o,v= .pointer (some ⟨b,o,none⟩)∧z4b K S w cs b o
 | .fn f x y,v=>∃a c:Array Value,v= .func (.func (K.nu f)) a c∧z5a K S w x a.toList∧z5a K S w y c.toList
 | .otup _ nl n cs rest,v=>∃(a:Array Value) (x:Value) (xs:List Value),v= .tuple a∧a.toList=x::xs∧
   ((∃b o cap,x= .slice (some ⟨b,o,none⟩) n cap∧n≤cap∧z4b K S w cs b o∧nl≠some true)∨(∃q:Option Addr,x= .slice q 0 0∧n=0∧cs=[]∧nl≠some q.isSome))∧z5a K S w rest xs
 | .oagg pre _ nl n cs rest,v=>∃(a:Array Value) (ps:List Value) (x:Value) (xs:List Value),v= .agg a∧a.toList=ps++x::xs∧z5a K S w pre ps∧
   ((∃b o cap,x= .slice (some ⟨b,o,none⟩) n cap∧n≤cap∧z4b K S w cs b o∧nl≠some true)∨(∃q:Option Addr,x= .slice q 0 0∧n=0∧cs=[]∧nl≠some q.isSome))∧z5a K S w rest xs
 | .bp _ _,_=>False
 | .bv _ _ _ _ _,_=>False
def z5a (K:Con) (S:Nat→Nat) (w:World):List z0a→List Value→Prop
 |[],l=>l=[]
 |c::cs,l=>∃x xs,l=x::xs∧z9b K S w c x∧z5a K S w cs xs
def z4b (K:Con) (S:Nat→Nat) (w:World):List z0a→Nat→Nat→Prop
 |[],_,_=>True
 |c::cs,b,o=>o<S b∧(∃x,w.cell? ⟨b,o,none⟩=some x∧z9b K S w c x)∧z4b K S w cs b (o+1)
end

def z7l (g:Gh) (w:World) (l:Loc) (esz n len:Nat) (v:Value):Prop:=
 ∃b cap,v= .slice (some ⟨b,0,none⟩) n cap∧n≤cap∧len=n*esz∧g.S b=n*esz∧g.ow b=some l∧w.there b 0 (cap*esz)

mutual
def Rep (K:Con) (g:Gh) (w:World):Option Loc→z0a→Value→Prop
 |l,.sl (.own esz) nl n cs,v=>z9b K g.S w (.sl .plain nl n cs) v∧∀l',l=some l'→(v= .slice none 0 0∨(∃a,v= .slice a 0 0)∧cs=[])∨z7l g w l' esz n cs.length v
 |_,.bp id off,v=>∃b,g.mu id=some b∧v= .pointer (some ⟨b,off,none⟩)
 |_,.bv id _ off n c,v=>∃b cap o,g.mu id=some b∧v= .slice (some ⟨b,o,none⟩) n cap∧n≤cap∧c≤cap∧(o=off∨(n=0∧c=0))∧(500000≤id→c=cap)
 |_,.agg cs,v=>∃a:Array Value,v= .agg a∧z2b K g w cs a.toList
 |_,.tup cs,v=>∃a:Array Value,v= .tuple a∧z2b K g w cs a.toList
 |_,.fn f x y,v=>∃a c:Array Value,v= .func (.func (K.nu f)) a c∧z2b K g w x a.toList∧z2b K g w y c.toList
 |_,.undef,_=>True
 |_,.lit x,v=>v=x
 |_,.sl .plain nl n cs,v=>z9b K g.S w (.sl .plain nl n cs) v
 |_,.sl .clip nl n cs,v=>z9b K g.S w (.sl .clip nl n cs) v
 |_,.ep cs,v=>z9b K g.S w (.ep cs) v
 |l,.otup esz nl n cs rest,v=>∃(a:Array Value) (x:Value) (xs:List Value),v= .tuple a∧a.toList=x::xs∧
   (z9b K g.S w (.sl .plain nl n cs) x∧∀l',l=some l'→(x= .slice none 0 0∨(∃a,x= .slice a 0 0)∧cs=[])∨z7l g w l' esz n cs.length x)∧z2b K g w rest xs
 |l,.oagg pre esz nl n cs rest,v=>∃(a:Array Value) (ps:List Value) (x:Value) (xs:List Value),v= .agg a∧a.toList=ps++x::xs∧z2b K g w pre ps∧
   (z9b K g.S w (.sl .plain nl n cs) x∧∀l',l=some l'→(x= .slice none 0 0∨(∃a,x= .slice a 0 0)∧cs=[])∨z7l g w l' esz n cs.length x)∧z2b K g w rest xs
def z2b (K:Con) (g:Gh) (w:World):List z0a→List Value→Prop
 |[],l=>l=[]
 |c::cs,l=>∃x xs,l=x::xs∧Rep K g w none c x∧z2b K g w cs xs
end

def dem:z0a→z0a
 | .sl (.own _) nl n cs=> .sl .plain nl n cs
 | .otup _ nl n cs rest=> .tup (.sl .plain nl n cs::rest)
 | .oagg pre _ nl n cs rest=> .agg (pre++ .sl .plain nl n cs::rest)
 |v=>v

/-! ### Growth -/

def z9d (S:Nat→Nat) (w:World) (S':Nat→Nat) (w':World):Prop:=
 ∀b i x,i<S b→w.cell? ⟨b,i,none⟩=some x→i<S' b∧w'.cell? ⟨b,i,none⟩=some x

theorem z9d.refl (S:Nat→Nat) (w:World):z9d S w S w:=fun _ _ _ h h'=>⟨h,h'⟩
theorem z9d.trans {S S' S'':Nat→Nat} {w w' w'':World} (h:z9d S w S' w') (h':z9d S' w' S'' w''):z9d S w S'' w'':=
 fun b i x hi hc=>let⟨h1,h2⟩:=h b i x hi hc;h' b i x h1 h2

mutual
theorem z9b.mono {K:Con} {S S':Nat→Nat} {w w':World} (hk:z9d S w S' w'):∀(d:z0a) (v:Value),z9b K S w d v→z9b K S' w' d v
 | .undef,_,_=>by simp[z9b]
 | .lit x,v,h=>by simpa[z9b] using h
 | .agg cs,v,h=>by
  simp only[z9b] at h⊢
  obtain⟨a,rfl,h⟩:=h
  exact⟨a,rfl,z5a.mono hk cs _ h⟩
 | .tup cs,v,h=>by
  simp only[z9b] at h⊢
  obtain⟨a,rfl,h⟩:=h
  exact⟨a,rfl,z5a.mono hk cs _ h⟩
 | .sl m nl n cs,v,h=>by
  simp only[z9b] at h⊢
  rcases h with⟨b,o,cap,rfl,h1,h2,h3⟩|h
  ·exact .inl ⟨b,o,cap,rfl,h1,z4b.mono hk cs _ _ h2,h3⟩
  ·exact .inr h
 | .ep cs,v,h=>by
  simp only[z9b] at h⊢
  obtain⟨b,o,rfl,h⟩:=h
  exact⟨b,o,rfl,z4b.mono hk cs _ _ h⟩
 | .fn f x y,v,h=>by
  simp only[z9b] at h⊢
  obtain⟨a,c,rfl,h1,h2⟩:=h
  exact⟨a,c,rfl,z5a.mono hk x _ h1,z5a.mono hk y _ h2⟩
 | .otup esz nl n cs rest,v,h=>by
  simp only[z9b] at h⊢
  obtain⟨a,x,xs,rfl,h0,h1,h2⟩:=h
  refine⟨a,x,xs,rfl,h0,?_,z5a.mono hk rest _ h2⟩
  rcases h1 with⟨b,o,cap,rfl,k1,k2,k3⟩|h1
  ·exact .inl ⟨b,o,cap,rfl,k1,z4b.mono hk cs _ _ k2,k3⟩
  ·exact .inr h1
 | .oagg pre esz nl n cs rest,v,h=>by
  simp only[z9b] at h⊢
  obtain⟨a,ps,x,xs,rfl,h0,h3,h1,h2⟩:=h
  refine⟨a,ps,x,xs,rfl,h0,z5a.mono hk pre _ h3,?_,z5a.mono hk rest _ h2⟩
  rcases h1 with⟨b,o,cap,rfl,k1,k2,k3⟩|h1
  ·exact .inl ⟨b,o,cap,rfl,k1,z4b.mono hk cs _ _ k2,k3⟩
  ·exact .inr h1
 | .bp _ _,_,h=>by simp[z9b] at h
 | .bv _ _ _ _ _,_,h=>by simp[z9b] at h
theorem z5a.mono {K:Con} {S S':Nat→Nat} {w w':World} (hk:z9d S w S' w'):∀(ds:List z0a) (vs:List Value),z5a K S w ds vs→z5a K S' w' ds vs
 |[],_,h=>by simpa[z5a] using h
 |c::cs,l,h=>by
  simp only[z5a] at h⊢
  obtain⟨x,xs,rfl,h1,h2⟩:=h
  exact⟨x,xs,rfl,z9b.mono hk c x h1,z5a.mono hk cs xs h2⟩
theorem z4b.mono {K:Con} {S S':Nat→Nat} {w w':World} (hk:z9d S w S' w'):∀(ds:List z0a) (b o:Nat),z4b K S w ds b o→z4b K S' w' ds b o
 |[],_,_,_=>by simp[z4b]
 |c::cs,b,o,h=>by
  simp only[z4b] at h⊢
  obtain⟨h0,⟨x,hx,h1⟩,h2⟩:=h
  obtain⟨k1,k2⟩:=hk b o x h0 hx
  exact⟨k1,⟨x,k2,z9b.mono hk c x h1⟩,z4b.mono hk cs b (o+1) h2⟩
end

def z8f (g:Gh) (w:World) (g':Gh) (w':World) (l l':Loc):Prop:=
 ∀b,g.ow b=some l→g'.ow b=some l'∧g'.S b=g.S b∧∀o n,w.there b o n→w'.there b o n

theorem z7l.mono {g g':Gh} {w w':World} {l l':Loc} (h:z8f g w g' w' l l') {esz n len:Nat} {v:Value} (ho:z7l g w l esz n len v):z7l g' w' l' esz n len v:=by
 obtain⟨b,cap,rfl,h1,h2,h3,h4,h5⟩:=ho
 obtain⟨k1,k2,k3⟩:=h b h4
 exact⟨b,cap,rfl,h1,h2,by rw[k2,h3],k1,k3 _ _ h5⟩

mutual
def z3d:z0a→List Nat
 | .bp id _=>[id]
 | .bv id _ _ _ _=>[id]
 | .agg cs=>z6b cs
 | .tup cs=>z6b cs
 | .fn _ x y=>z6b x++z6b y
 | .otup _ _ _ _ rest=>z6b rest
 | .oagg pre _ _ _ _ rest=>z6b pre++z6b rest
 |_=>[]
def z6b:List z0a→List Nat
 |[]=>[]
 |c::cs=>z3d c++z6b cs
end

mutual
theorem Rep.mono {K:Con} {g g':Gh} {w w':World} (hk:z9d g.S w g'.S w'):∀(d:z0a) (v:Value) (l l':Option Loc),
  (∀id∈z3d d,∀b,g.mu id=some b→g'.mu id=some b)→(∀m',l'=some m'→∃m,l=some m∧z8f g w g' w' m m')→Rep K g w l d v→Rep K g' w' l' d v
 | .undef,_,_,_,_,_,_=>by simp[Rep]
 | .lit x,v,_,_,_,_,h=>by simpa[Rep] using h
 | .agg cs,v,_,_,hr,_,h=>by
  simp only[Rep] at h⊢
  obtain⟨a,rfl,h⟩:=h
  exact⟨a,rfl,z2b.mono hk cs _ (by simpa[z3d] using hr) h⟩
 | .tup cs,v,_,_,hr,_,h=>by
  simp only[Rep] at h⊢
  obtain⟨a,rfl,h⟩:=h
  exact⟨a,rfl,z2b.mono hk cs _ (by simpa[z3d] using hr) h⟩
 | .sl (.own esz) nl n cs,v,l,l',_,hl,h=>by
  simp only[Rep] at h⊢
  obtain⟨h1,h2⟩:=h
  refine⟨z9b.mono hk _ _ h1,fun m' hm'=> ?_⟩
  obtain⟨m,rfl,h3⟩:=hl m' hm'
  exact(h2 m rfl).imp id (z7l.mono h3)
 | .sl .plain nl n cs,v,_,_,_,_,h=>by
  simp only[Rep] at h⊢
  exact z9b.mono hk _ _ h
 | .sl .clip nl n cs,v,_,_,_,_,h=>by
  simp only[Rep] at h⊢
  exact z9b.mono hk _ _ h
 | .ep cs,v,_,_,_,_,h=>by
  simp only[Rep] at h⊢
  exact z9b.mono hk _ _ h
 | .fn f x y,v,_,_,hr,_,h=>by
  simp only[Rep] at h⊢
  obtain⟨a,c,rfl,h1,h2⟩:=h
  simp only[z3d,List.mem_append] at hr
  exact⟨a,c,rfl,z2b.mono hk x _ (fun id hi=>hr id (.inl hi)) h1,z2b.mono hk y _ (fun id hi=>hr id (.inr hi)) h2⟩
 | .otup esz nl n cs rest,v,l,l',hr,hl,h=>by
  simp only[Rep] at h⊢
  obtain⟨a,x,xs,rfl,h0,⟨h1,h3⟩,h2⟩:=h
  refine⟨a,x,xs,rfl,h0,⟨z9b.mono hk _ _ h1,fun m' hm'=> ?_⟩,z2b.mono hk rest _ (by simpa[z3d] using hr) h2⟩
  obtain⟨m,rfl,h4⟩:=hl m' hm'
  exact(h3 m rfl).imp id (z7l.mono h4)
 | .oagg pre esz nl n cs rest,v,l,l',hr,hl,h=>by
  simp only[Rep] at h⊢
  obtain⟨a,ps,x,xs,rfl,h0,h5,⟨h1,h3⟩,h2⟩:=h
  simp only[z3d,List.mem_append] at hr
  refine⟨a,ps,x,xs,rfl,h0,z2b.mono hk pre _ (fun id hi=>hr id (.inl hi)) h5,⟨z9b.mono hk _ _ h1,fun m' hm'=> ?_⟩,z2b.mono hk rest _ (fun id hi=>hr id (.inr hi)) h2⟩
  obtain⟨m,rfl,h4⟩:=hl m' hm'
  exact(h3 m rfl).imp id (z7l.mono h4)
 | .bp id off,v,_,_,hr,_,h=>by
  simp only[Rep] at h⊢
  obtain⟨b,hb,rfl⟩:=h
  exact⟨b,hr id (by simp[z3d]) b hb,rfl⟩
 | .bv id e off n c,v,_,_,hr,_,h=>by
  simp only[Rep] at h⊢
  obtain⟨b,cap,o,hb,rfl,h1⟩:=h
  exact⟨b,cap,o,hr id (by simp[z3d]) b hb,rfl,h1⟩
theorem z2b.mono {K:Con} {g g':Gh} {w w':World} (hk:z9d g.S w g'.S w'):∀(ds:List z0a) (vs:List Value),
  (∀id∈z6b ds,∀b,g.mu id=some b→g'.mu id=some b)→z2b K g w ds vs→z2b K g' w' ds vs
 |[],_,_,h=>by simpa[z2b] using h
 |c::cs,l,hr,h=>by
  simp only[z2b] at h⊢
  obtain⟨x,xs,rfl,h1,h2⟩:=h
  simp only[z6b,List.mem_append] at hr
  exact⟨x,xs,rfl,Rep.mono hk c x none none (fun id hi=>hr id (.inl hi)) (fun _ h=>by cases h) h1,z2b.mono hk cs xs (fun id hi=>hr id (.inr hi)) h2⟩
end

theorem z2h:∀(a b:List z0a),z6b (a++b)=z6b a++z6b b
 |[],b=>rfl
 |c::cs,b=>by simp only[List.cons_append,z6b,z2h cs b,List.append_assoc]
/-! ### From one reading to the other -/

theorem Rep.loc {K:Con} {g:Gh} {w:World} {l:Option Loc} (l':Option Loc) {d:z0a} {v:Value} (hd:(∀e nl n cs,d≠ .sl (.own e) nl n cs)∧(∀e nl n cs r,d≠ .otup e nl n cs r)∧∀p e nl n cs r,d≠ .oagg p e nl n cs r) (h:Rep K g w l d v):Rep K g w l' d v:=by
 cases d with
 |sl m nl n cs=>
  cases m with
  |own e=>exact absurd rfl (hd.1 e nl n cs)
  |plain=>simp only[Rep] at h⊢;exact h
  |clip=>simp only[Rep] at h⊢;exact h
 |undef=>simp[Rep]
 |otup e nl n cs r=>exact absurd rfl (hd.2.1 e nl n cs r)
 |oagg p e nl n cs r=>exact absurd rfl (hd.2.2 p e nl n cs r)
 |_=>simp only[Rep] at h⊢;exact h

theorem z2b.cat {K:Con} {g:Gh} {w:World}:∀{ds ds':List z0a} {vs vs':List Value},z2b K g w ds vs→z2b K g w ds' vs'→z2b K g w (ds++ds') (vs++vs')
 |[],_,vs,_,h,h'=>by simp only[z2b] at h;subst h;simpa using h'
 |c::cs,_,vs,_,h,h'=>by
  simp only[z2b] at h
  obtain⟨x,xs,rfl,h1,h2⟩:=h
  simp only[List.cons_append,z2b]
  exact⟨x,xs++_,rfl,h1,z2b.cat h2 h'⟩
theorem Rep.dem {K:Con} {g:Gh} {w:World} {l:Option Loc} (l':Option Loc) {d:z0a} {v:Value} (h:Rep K g w l d v):Rep K g w l' (dem d) v:=by
 cases d with
 |sl m nl n cs=>
  cases m<;>simp only[Abs.dem,Rep] at h⊢
  ·exact h
  ·exact h
  ·exact h.1
 |otup e nl n cs rest=>
  simp only[Rep] at h
  obtain⟨a,x,xs,rfl,h0,h1,h2⟩:=h
  simp only[Abs.dem,Rep,z2b]
  exact⟨a,rfl,x,xs,h0,h1.1,h2⟩
 |oagg p e nl n cs rest=>
  simp only[Rep] at h
  obtain⟨a,ps,x,xs,rfl,h0,h3,h1,h2⟩:=h
  simp only[Abs.dem,Rep]
  refine⟨a,rfl,?_⟩
  rw[h0]
  refine z2b.cat h3 ?_
  simp only[z2b,Rep]
  exact⟨x,xs,rfl,h1.1,h2⟩
 |_=>exact Rep.loc l' (by simp[Abs.dem]) h

mutual
def z0b:z0a→Bool
 | .bp _ _=>false
 | .bv _ _ _ _ _=>false
 | .agg cs=>z8b cs
 | .tup cs=>z8b cs
 | .fn _ x y=>z8b x&&z8b y
 | .otup _ _ _ _ rest=>z8b rest
 | .oagg pre _ _ _ _ rest=>z8b pre&&z8b rest
 |_=>true
def z8b:List z0a→Bool
 |[]=>true
 |c::cs=>z0b c&&z8b cs
end

theorem z4i:∀(cs:List z0a),z8b cs=true↔∀c∈cs,z0b c=true
 |[]=>by simp[z8b]
 |c::cs=>by simp[z8b,z4i cs]

mutual
theorem Rep.pure {K:Con} {g:Gh} {w:World}:∀(d:z0a) (v:Value) (l:Option Loc),z0b d=true→Rep K g w l d v→z9b K g.S w d v
 | .undef,_,_,_,_=>by simp[z9b]
 | .lit x,v,_,_,h=>by simpa[z9b,Rep] using h
 | .agg cs,v,_,hp,h=>by
  simp only[Rep,z9b,z0b] at h hp⊢
  obtain⟨a,rfl,h⟩:=h
  exact⟨a,rfl,z2b.pure cs _ hp h⟩
 | .tup cs,v,_,hp,h=>by
  simp only[Rep,z9b,z0b] at h hp⊢
  obtain⟨a,rfl,h⟩:=h
  exact⟨a,rfl,z2b.pure cs _ hp h⟩
 | .sl (.own esz) nl n cs,v,l,_,h=>by
  simp only[Rep] at h
  obtain⟨h1,_⟩:=h
  simp only[z9b] at h1⊢
  rcases h1 with⟨b,o,cap,h1,h2,h3,h4,_⟩|h1
  ·exact .inl ⟨b,o,cap,h1,h2,h3,h4,by simp⟩
  ·exact .inr h1
 | .sl .plain nl n cs,v,_,_,h=>by simpa only[Rep] using h
 | .sl .clip nl n cs,v,_,_,h=>by simpa only[Rep] using h
 | .ep cs,v,_,_,h=>by simpa only[Rep] using h
 | .fn f x y,v,_,hp,h=>by
  simp only[Rep,z9b,z0b,Bool.and_eq_true] at h hp⊢
  obtain⟨a,c,rfl,h1,h2⟩:=h
  exact⟨a,c,rfl,z2b.pure x _ hp.1 h1,z2b.pure y _ hp.2 h2⟩
 | .otup esz nl n cs rest,v,_,hp,h=>by
  simp only[Rep,z0b] at h hp
  obtain⟨a,x,xs,rfl,h0,⟨h1,_⟩,h2⟩:=h
  simp only[z9b] at h1⊢
  refine⟨a,x,xs,rfl,h0,?_,z2b.pure rest _ hp h2⟩
  rcases h1 with⟨b,o,cap,h1,h2,h3,h4,_⟩|h1
  ·exact .inl ⟨b,o,cap,h1,h2,h3,h4⟩
  ·exact .inr h1
 | .oagg pre esz nl n cs rest,v,_,hp,h=>by
  simp only[Rep,z0b,Bool.and_eq_true] at h hp
  obtain⟨a,ps,x,xs,rfl,h0,h5,⟨h1,_⟩,h2⟩:=h
  simp only[z9b] at h1⊢
  refine⟨a,ps,x,xs,rfl,h0,z2b.pure pre _ hp.1 h5,?_,z2b.pure rest _ hp.2 h2⟩
  rcases h1 with⟨b,o,cap,h1,h2,h3,h4,_⟩|h1
  ·exact .inl ⟨b,o,cap,h1,h2,h3,h4⟩
  ·exact .inr h1
 | .bp _ _,_,_,hp,_=>by simp[z0b] at hp
 | .bv _ _ _ _ _,_,_,hp,_=>by simp[z0b] at hp
theorem z2b.pure {K:Con} {g:Gh} {w:World}:∀(ds:List z0a) (vs:List Value),z8b ds=true→z2b K g w ds vs→z5a K g.S w ds vs
 |[],_,_,h=>by simpa[z5a,z2b] using h
 |c::cs,l,hp,h=>by
  simp only[z2b,z5a,z8b,Bool.and_eq_true] at h hp⊢
  obtain⟨x,xs,rfl,h1,h2⟩:=h
  exact⟨x,xs,rfl,Rep.pure c x none hp.1 h1,z2b.pure cs xs hp.2 h2⟩
end

mutual
theorem z9b.rep {K:Con} {g:Gh} {w:World}:∀(d:z0a) (v:Value),z9b K g.S w d v→Rep K g w none d v
 | .undef,_,_=>by simp[Rep]
 | .lit x,v,h=>by simpa[z9b,Rep] using h
 | .agg cs,v,h=>by
  simp only[Rep,z9b] at h⊢
  obtain⟨a,rfl,h⟩:=h
  exact⟨a,rfl,z5a.rep cs _ h⟩
 | .tup cs,v,h=>by
  simp only[Rep,z9b] at h⊢
  obtain⟨a,rfl,h⟩:=h
  exact⟨a,rfl,z5a.rep cs _ h⟩
 | .sl (.own esz) nl n cs,v,h=>by
  simp only[Rep,z9b] at h⊢
  refine⟨?_,fun _ h=>by cases h⟩
  rcases h with⟨b,o,cap,h1,h2,h3,h4,_⟩|h
  ·exact .inl ⟨b,o,cap,h1,h2,h3,h4,by simp⟩
  ·exact .inr h
 | .sl .plain nl n cs,v,h=>by simpa only[Rep] using h
 | .sl .clip nl n cs,v,h=>by simpa only[Rep] using h
 | .ep cs,v,h=>by simpa only[Rep] using h
 | .fn f x y,v,h=>by
  simp only[Rep,z9b] at h⊢
  obtain⟨a,c,rfl,h1,h2⟩:=h
  exact⟨a,c,rfl,z5a.rep x _ h1,z5a.rep y _ h2⟩
 | .otup esz nl n cs rest,v,h=>by
  simp only[z9b] at h
  obtain⟨a,x,xs,rfl,h0,h1,h2⟩:=h
  simp only[Rep,z9b]
  refine⟨a,x,xs,rfl,h0,⟨?_,fun _ h=>by cases h⟩,z5a.rep rest _ h2⟩
  rcases h1 with⟨b,o,cap,h1,h2,h3,h4⟩|h1
  ·exact .inl ⟨b,o,cap,h1,h2,h3,h4,by simp⟩
  ·exact .inr h1
 | .oagg pre esz nl n cs rest,v,h=>by
  simp only[z9b] at h
  obtain⟨a,ps,x,xs,rfl,h0,h3,h1,h2⟩:=h
  simp only[Rep,z9b]
  refine⟨a,ps,x,xs,rfl,h0,z5a.rep pre _ h3,⟨?_,fun _ h=>by cases h⟩,z5a.rep rest _ h2⟩
  rcases h1 with⟨b,o,cap,h1,h2,h3,h4⟩|h1
  ·exact .inl ⟨b,o,cap,h1,h2,h3,h4,by simp⟩
  ·exact .inr h1
 | .bp _ _,_,h=>by simp[z9b] at h
 | .bv _ _ _ _ _,_,h=>by simp[z9b] at h
theorem z5a.rep {K:Con} {g:Gh} {w:World}:∀(ds:List z0a) (vs:List Value),z5a K g.S w ds vs→z2b K g w ds vs
 |[],_,h=>by simpa[z5a,z2b] using h
 |c::cs,l,h=>by
  simp only[z2b,z5a] at h⊢
  obtain⟨x,xs,rfl,h1,h2⟩:=h
  exact⟨x,xs,rfl,z9b.rep c x h1,z5a.rep cs xs h2⟩
end

theorem z9b.dem {K:Con} {g:Gh} {w:World} (l:Option Loc) {d:z0a} {v:Value} (h:z9b K g.S w d v):Rep K g w l (dem d) v:=Rep.dem l (z9b.rep d v h)

end Go.Abs
end

section
namespace Go.Abs

structure z1f where
 pre:List z0a→Prop
 post:List z0a→z0a

structure CM where
 bx:List Nat
 nb:List Nat
 pre:List z0a→Prop
 post:List z0a→z0a
 out:List z0a→Nat→List z0a

structure CW where
 hold:List Nat
 bx:List Nat
 nb:List Nat
 pre:List z0a→(Nat→List z0a)→Prop
 post:List z0a→(Nat→List z0a)→z0a
 out:List z0a→(Nat→List z0a)→Nat→List z0a

structure ItC where
 pre:List z0a→List z0a→Prop
 el:List z0a→List z0a→Nat→Option (List z0a)
 lv:List Nat:=[]

structure Env where
 G:Nat→z1f
 T:Nat→List z0a
 M:Nat→CM:=fun _=>⟨[],[],fun _=>False,fun _=> .undef,fun _ _=>[]⟩
 I:Nat→ItC:=fun _=>{pre:=fun _ _=>False,el:=fun _ _ _=>none}
 C:Nat→CW:=fun _=>⟨[],[],[],fun _ _=>False,fun _ _=> .undef,fun _ _ _=>[]⟩

inductive Arg where
 |s (n:Nat)
 |c (d:z0a)
 |g (n:Nat)
 deriving Inhabited

inductive LK where
 |int (k:IntKind)
 |bool
 |str
 deriving DecidableEq,Inhabited

inductive AOp where
 |mv (take:Bool) (x:Arg)
 |pick (c a b:Arg)
 |bin (op:BinOp) (x y:Arg)
 |eqb (neg:Bool) (x y:Arg)
 |eqF (ks:List LK) (neg:Bool) (x y:Arg)
 |eqnil (neg:Bool) (x y:Arg)
 |un (op:UnOp) (x:Arg)
 |toInt (k:IntKind) (x:Arg)
 |toStr (b:Option Nat) (x:Arg)
 |toBytes (x:Arg)
 |same (x:Arg)
 |mark (x:Nat)
 |extractO (x:Nat)
 |buildO (zero:List z0a) (parts:List (Nat×Nat×Arg)) (i s:Nat)
 |storeO (k b:Nat) (a:Arg) (s:Nat)
 |build (zero:List z0a) (parts:List (Nat×Nat×Arg))
 |buildSl (esz n:Nat) (zero:List z0a) (parts:List (Nat×Nat×Arg))
 |load (k b:Option Nat) (take:Bool) (x:Arg)
 |store (k:Option Nat) (b:Nat) (take:Bool) (a v:Arg)
 |fieldAddr (off:Nat) (x:Arg)
 |nilchk (x:Arg)
 |buildBx (id esz n:Nat) (zero:List z0a) (parts:List (Nat×Nat×Arg))
 |idxArr (n esz:Nat) (x i:Arg)
 |idxSl (esz:Nat) (x i:Arg)
 |slArr (n esz:Nat) (x:Arg) (lo hi mx:Option Arg)
 |slSl (esz:Nat) (x:Arg) (lo hi mx:Option Arg)
 |slCap (esz:Nat) (x lo hi:Arg)
 |slStr (x:Arg) (lo hi:Option Arg)
 |s2ap (n:Nat) (x:Arg)
 |alloc (id:Nat) (zero:List z0a)
 |box (id:Nat) (k:Option Nat) (take:Bool) (x:Arg)
 |extract (i:Nat) (x:Arg)
 |field (k:Option Nat) (off:Nat) (x:Arg)
 |idxA (k:Option Nat) (esz n:Nat) (x i:Arg)
 |idxStr (x i:Arg)
 |call (f:Nat) (args:List Arg) (bs:List Nat)
 |callv (f:Nat) (t:Arg) (args:List Arg) (bs:List Nat)
 |callm (f:Nat) (t:Option Arg) (args:List Arg) (ws ns:List (Nat×Nat))
 |callw (f:Nat) (t:Option Arg) (args:List Arg) (ws ns:List (Nat×Nat))
 |len (str:Bool) (x:Arg)
 |append (esz bytes:Nat) (str:Bool) (nlr:Option Bool) (b:Option Nat) (x:Nat) (y:Arg)
 |appendC (esz bytes:Nat) (str:Bool) (nlr:Option Bool) (b:Option Nat) (x:Arg) (y:Arg)
 |appendB (esz bytes:Nat) (str:Bool) (id:Nat) (b:Option Nat) (x y:Arg)
 |clearB (esz id:Nat) (x:Arg)
 |copy (esz:Nat) (str:Bool) (d:Nat) (b:Option Nat) (x y:Arg)
 |min2 (x y:Arg)
 |max2 (x y:Arg)
 |mkfn (f:Nat) (first caps:List Arg)
 |newB (id:Nat)
 |bld (k:Nat) (id:Nat) (p:Arg) (b:Option Nat) (x:Arg)
 |unsup
 deriving Inhabited

/-! ### Looking at values -/

def asV:z0a→Value| .lit v=>v|_=>undef
def asI:z0a→Int| .lit (.int _ n)=>n|_=>0
def asB:z0a→Bool| .lit (.bool b)=>b|_=>false
def asS:z0a→ByteArray| .lit (.string s)=>s|_=> .empty
def isB:z0a→Prop| .lit (.bool _)=>True|_=>False
def isI:z0a→Prop| .lit (.int _ _)=>True|_=>False
def z28 (k:IntKind):z0a→Prop| .lit (.int k' _)=>k=k'|_=>False
def isS:z0a→Prop| .lit (.string _)=>True|_=>False
def z4aa:z0a→Prop| .sl _ _ _ _=>True| .bv _ _ _ _ _=>True| .lit (.slice none 0 0)=>True|_=>False
def z8a:z0a→Prop| .agg _=>False| .tup _=>False| .otup _ _ _ _ _=>False| .oagg _ _ _ _ _ _=>False| .undef=>False| .lit (.agg _)=>False| .lit (.tuple _)=>False|_=>True
def z5b:z0a→Bool| .sl (.own _) _ _ _=>true| .otup _ _ _ _ _=>true| .oagg _ _ _ _ _ _=>true|_=>false
theorem z12a:∀d:z0a,z5b (dem d)=false:=fun d=>by
 cases d with
 |sl m _ _ _=>cases m<;>rfl
 |_=>rfl
def z4c:z0a→List z0a| .agg cs=>cs|v=>[v]
def z7p (k:Option Nat) (v:z0a):List z0a:=match k with|none=>[dem v]|some _=>z4c v
def isK (k:Option Nat) (v:z0a):Prop:=
 match k with
 |none=>z8a v
 |some n=>match v with| .agg cs=>cs.length=n∧(∀c∈cs,z8a c)∧(∀c∈cs,z5b c=false)|_=>False

mutual
def z6c:z0a→Bool
 | .lit _=>true
 | .agg cs=>z7a cs
 | .tup cs=>z7a cs
 |_=>false
def z7a:List z0a→Bool
 |[]=>true
 |c::cs=>z6c c&&z7a cs
end

def splice {α:Type} (l:List α) (o:Nat) (xs:List α):List α:=l.take o++xs++l.drop (o+xs.length)

def z7e:z0a→Nat| .sl _ _ n _=>n| .bv _ _ _ n _=>n| .lit (.string s)=>s.size|_=>0
def z0c (bx:List z0a):z0a→List z0a
 | .sl _ _ _ cs=>cs
 | .bv _ e off n _=>(bx.drop off).take (n*e)
 | .lit (.string s)=>s.data.toList.map fun c=> .lit (.int .u8 c.toNat)
 |_=>[]
def okS (esz:Nat) (b:Option Nat) (bx:Option (List z0a)):z0a→Prop
 | .sl _ _ n cs=>cs.length=n*esz
 | .bv id e off n _=>b=some id∧e=esz∧(∃cs,bx=some cs∧off+n*e≤cs.length)
 | .lit (.slice none 0 0)=>True
 |_=>False

def z8Dd (op:BinOp) (k:IntKind) (a b:Int):Value:=
 match op with
 | .add=> .int k (k.wrap (a+b))
 | .sub=> .int k (k.wrap (a-b))
 | .mul=> .int k (k.wrap (a*b))
 | .quo=> .int k (k.wrap (a.tdiv b))
 | .rem=> .int k (a.tmod b)
 | .and=> .int k (k.wrap (BitVec.ofInt k.bits a&&&BitVec.ofInt k.bits b).toNat)
 | .or=> .int k (k.wrap (BitVec.ofInt k.bits a|||BitVec.ofInt k.bits b).toNat)
 | .xor=> .int k (k.wrap (BitVec.ofInt k.bits a^^^BitVec.ofInt k.bits b).toNat)
 | .andNot=> .int k (k.wrap (BitVec.ofInt k.bits a&&& ~~~BitVec.ofInt k.bits b).toNat)
 | .eql=> .bool (a==b)
 | .neq=> .bool (a !=b)
 | .lss=> .bool (a<b)
 | .leq=> .bool (a≤b)
 | .gtr=> .bool (a>b)
 | .geq=> .bool (a≥b)
 | .shl=> .int k (k.wrap (a*2^(min b.toNat k.bits)))
 | .shr=> .int k (a.fdiv (2^(min b.toNat k.bits)))
def z49d (op:BinOp) (a b:ByteArray):Value:=
 match op with
 | .add=> .string (a++b)
 | .eql=> .bool (a.toList==b.toList)
 | .neq=> .bool !(a.toList==b.toList)
 | .lss=> .bool (Op.bytesLess a.toList b.toList)
 | .leq=> .bool (Op.bytesLess a.toList b.toList||a.toList==b.toList)
 | .gtr=> .bool !(Op.bytesLess a.toList b.toList||a.toList==b.toList)
 | .geq=> .bool !(Op.bytesLess a.toList b.toList)
 |_=>undef
def z9c (op:BinOp) (x y:z0a):z0a:=
 match x,y with
 | .lit (.int k a),.lit (.int _ b)=> .lit (z8Dd op k a b)
 | .lit (.string a),.lit (.string b)=> .lit (z49d op a b)
 |_,_=> .undef
def z3a (op:BinOp) (x y:z0a):Prop:=
 match x,y with
 | .lit (.int k _),.lit (.int k' b)=>
  (match op with
   | .shl| .shr=>0≤b
   | .quo| .rem=>k=k'∧b≠0
   |_=>k=k')
 | .lit (.string a),.lit (.string b)=>
  (match op with
   | .add=>((a.size+b.size:Nat):Int)≤9223372036854775807
   | .eql| .neq| .lss| .leq| .gtr| .geq=>True
   |_=>False)
 |_,_=>False
def unV (op:UnOp) (x:z0a):z0a:=
 match op,x with
 | .neg,.lit (.int k n)=> .lit (.int k (k.wrap (0-n)))
 | .xor,.lit (.int k n)=> .lit (.int k (k.wrap (BitVec.ofInt k.bits (if k.signed then-1 else k.max)^^^BitVec.ofInt k.bits n).toNat))
 | .not,.lit (.bool b)=> .lit (.bool !b)
 |_,_=> .undef
def z5S (op:UnOp) (x:z0a):Prop:=
 match op,x with
 | .neg,.lit (.int _ _)=>True
 | .xor,.lit (.int _ _)=>True
 | .not,.lit (.bool _)=>True
 |_,_=>False

def cvV (k:IntKind) (x:z0a):z0a:= .lit (.int k (k.wrap (asI x)))

def z2be:LK→z0a→Prop
 | .int k,.lit (.int k' _)=>k=k'
 | .bool,.lit (.bool _)=>True
 | .str,.lit (.string _)=>True
 |_,_=>False
def z6n:List LK→List z0a→Prop
 |[],[]=>True
 |k::ks,c::cs=>z2be k c∧z6n ks cs
 |_,_=>False
def z3ee:LK→z0a→z0a→Bool
 | .int _,x,y=>asI x==asI y
 | .bool,x,y=>asB x==asB y
 | .str,x,y=>(asS x).data.toList==(asS y).data.toList
def z8s:List LK→List z0a→List z0a→Bool
 |k::ks,x::xs,y::ys=>z3ee k x y&&z8s ks xs ys
 |_,_,_=>true

def z9e (cs:List z0a):ByteArray:=⟨(cs.map fun c=>UInt8.ofNat (asI c).toNat).toArray⟩
def z3i (l:List UInt8):List z0a:=l.map fun c=> .lit (.int .u8 c.toNat)

def z1k (bx:Nat→List z0a):z0a→z0a
 | .sl _ nl n cs=> .sl .plain nl n cs
 | .lit (.slice none 0 0)=> .sl .plain (some true) 0 []
 | .bp id off=> .ep ((bx id).drop off)
 | .bv id e off n _=> .sl .plain (some false) n (((bx id).drop off).take (n*e))
 |v=>v
def z5e (bx:Nat→List z0a):z0a→z0a
 | .fn f x y=> .fn f (x.map (z1k bx)) (y.map (z1k bx))
 |v=>z1k bx v
def z8e (bs:List Nat) (bx:Nat→Option (List z0a)):z0a→Prop
 | .bp id off=>id∈bs∧∃cs,bx id=some cs∧off≤cs.length
 | .bv id e off n _=>id∈bs∧∃cs,bx id=some cs∧off+n*e≤cs.length
 |v=>z0b v=true
def z0d (bs:List Nat) (bx:Nat→Option (List z0a)):z0a→Prop
 | .fn _ x y=>(∀v∈x,z8e bs bx v)∧(∀v∈y,z8e bs bx v)
 |v=>z8e bs bx v

def hdA (l:List z0a):z0a:=l.headD .undef

structure Eff where
 val:z0a
 sl:List (Nat×z0a):=[]
 bx:List (Nat×Option (List z0a)):=[]

def z1n (id:Nat):Prop:=id<400000∨(500000≤id∧id<1000000)
@[simp] theorem z4u (id:Nat):z1n id=(id<400000∨(500000≤id∧id<1000000)):=rfl
theorem z1n.lt {id:Nat} (h:z1n id):id<1000000:=by rw[z4u] at h;omega
theorem z1n.no {id:Nat} (h:z1n id) {P:Prop} (h1:400000≤id) (h2:id<500000):P:=by rw[z4u] at h;omega
section
variable (E : Env) (get : Nat → z0a) (getB : Nat → Option (List z0a))

def arg:Arg→z0a
 | .s n=>get n
 | .c d=>d
 | .g n=> .ep (E.T n)
def bxc (b:Option Nat):Option (List z0a):=b.bind getB
def bxl (b:Option Nat):List z0a:=(bxc getB b).getD []
def bnd (o:Option Arg) (d:Nat):Nat:=match o with|none=>d|some a=>(asI (arg E get a)).toNat
def z2g (o:Option Arg) (m:Nat):Prop:=match o with|none=>True|some a=>isI (arg E get a)∧0≤asI (arg E get a)∧asI (arg E get a)≤m
def z5g:List (Nat×Nat×Arg)→List z0a→List z0a
 |[],z=>z
 |(off,k,a)::r,z=>z5g r (splice z off (z4c (arg E get a)))
def z1e:List (Nat×Nat×Arg)→Nat→Prop
 |[],_=>True
 |(off,k,a)::r,n=>(z4c (arg E get a)).length=k∧off+k≤n∧(∀c∈z4c (arg E get a),z8a c)∧z1e r n
def z6d (b:Option Nat):z0a→List z0a
 | .bp _ off=>(bxl getB b).drop off
 | .ep cs=>cs
 |_=>[]
def z1o (b:Option Nat) (n:Nat):z0a→Prop
 | .bp id off=>b=some id∧∃cs,getB id=some cs∧off+n≤cs.length
 | .ep cs=>b=none∧n≤cs.length
 |_=>False
def z3k (f:Nat) (as:List z0a) (bs:List Nat):Prop:=
 (∀a∈as,z0d bs (fun id=>if id∈bs then getB id else none) a)∧
 (∀id∈bs,∃cs,getB id=some cs∧∀c∈cs,z0b c=true)∧
 (let ds:=as.map (z5e (fun id=>if id∈bs then(getB id).getD [] else []))
  (E.G f).pre ds∧z0b ((E.G f).post ds)=true∧(bs=[]∨z6c ((E.G f).post ds)=true))
def z6q (f:Nat) (as:List z0a) (bs:List Nat):z0a:=(E.G f).post (as.map (z5e (fun id=>if id∈bs then(getB id).getD [] else [])))
def fnd:List (Nat×Nat)→Nat→Option Nat
 |[],_=>none
 |(k,x)::l,s=>if s=k then some x else fnd l s
mutual
def ren (m:List (Nat×Nat)):z0a→z0a
 | .bp id off=> .bp ((fnd m id).getD id) off
 | .bv id e off n c=> .bv ((fnd m id).getD id) e off n c
 | .agg cs=> .agg (renL m cs)
 | .tup cs=> .tup (renL m cs)
 | .fn f x y=> .fn f (renL m x) (renL m y)
 | .otup _ _ _ _ _=> .undef
 | .oagg _ _ _ _ _ _=> .undef
 |v=>v
def renL (m:List (Nat×Nat)):List z0a→List z0a
 |[]=>[]
 |c::cs=>ren m c::renL m cs
end
def z7n (ws:List (Nat×Nat)):Nat→List z0a→List z0a
 |_,[]=>[]
 |j,a::as=>(match fnd ws j with|some id=> .ep ((getB id).getD [])|none=>z5e (fun _=>[]) a)::z7n ws (j+1) as
def z9S (ws:List (Nat×Nat)):Nat→List z0a→Prop
 |_,[]=>True
 |j,a::as=>(match fnd ws j with|some id=>a= .bp id 0∧∃cs,getB id=some cs∧z8b cs=true|none=>z0d [] (fun _=>none) a)∧z9S ws (j+1) as
def okM (f:Nat) (as:List z0a) (ws ns:List (Nat×Nat)):Prop:=
 z9S getB ws 0 as∧ws.map (·.1)=(E.M f).bx∧(ws.map (·.2)).Nodup∧(∀j∈(E.M f).bx,j<as.length)∧ns.map (·.1)=(E.M f).nb∧(ns.map (·.2)).Nodup∧(∀p∈ns,getB p.2=none∧z1n p.2)∧
 ((E.M f).bx++(E.M f).nb).Nodup∧(∀p∈ws++ns,p.1<1000000∧p.2<1000000∧(500000≤p.1↔500000≤p.2))∧
 (let ds:=z7n getB ws 0 as
  (E.M f).pre ds∧(∀id∈z3d ((E.M f).post ds),id∈(E.M f).bx++(E.M f).nb)∧(∀j∈(E.M f).bx++(E.M f).nb,∀id∈z6b ((E.M f).out ds j),id∈(E.M f).bx++(E.M f).nb))
def z6H (f:Nat) (as:List z0a) (ws ns:List (Nat×Nat)):Eff:=
 let ds:=z7n getB ws 0 as
 {val:=ren (ws++ns) ((E.M f).post ds),bx:=(ws++ns).map fun p=>(p.2,some (renL (ws++ns) ((E.M f).out ds p.1)))}
def z27c (ws:List (Nat×Nat)) (a:z0a):z0a:=match z3d a with|[]=>z5e (fun _=>[]) a|_=>ren (ws.map fun p=>(p.2,p.1)) a
def z43d (ws:List (Nat×Nat)) (a:z0a):Prop:=match z3d a with|[]=>z0d [] (fun _=>none) a|l=>∀id∈l,id∈ws.map (·.2)
def z4m (ws:List (Nat×Nat)):Bool:=ws.any fun p=>decide (400000≤p.1)&&decide (p.1<500000)
def z0T (ws:List (Nat×Nat)) (cs:List z0a):Prop:=if z4m ws=true then∀id∈z6b cs,id∈ws.map (·.2) else z8b cs=true
def wIn (ws:List (Nat×Nat)) (cs:List z0a):List z0a:=if z4m ws=true then renL (ws.map fun p=>(p.2,p.1)) cs else cs
def z2u (ws:List (Nat×Nat)) (j:Nat):List z0a:=match fnd ws j with|some id=>wIn ws ((getB id).getD [])|none=>[]
def okW (f:Nat) (as:List z0a) (ws ns:List (Nat×Nat)):Prop:=
 (∀a∈as,z43d ws a)∧(∀p∈ws,∃cs,getB p.2=some cs∧z0T ws cs)∧ws.map (·.1)=(E.C f).bx∧(ws.map (·.2)).Nodup∧ns.map (·.1)=(E.C f).nb∧(ns.map (·.2)).Nodup∧(∀p∈ns,getB p.2=none∧z1n p.2)∧
 ((E.C f).bx++(E.C f).nb).Nodup∧(∀p∈ws++ns,p.1<1000000∧p.2<1000000∧(500000≤p.1↔500000≤p.2))∧
 (let ds:=as.map (z27c ws)
  (∀j∈(E.C f).bx,(400000≤j∧j<500000)∨∃i∈(E.C f).hold,∃d,ds[i]? =some d∧j∈z3d d)∧(E.C f).pre ds (z2u getB ws)∧(∀id∈z3d ((E.C f).post ds (z2u getB ws)),id∈(E.C f).bx++(E.C f).nb)∧
  (∀j∈(E.C f).bx++(E.C f).nb,∀id∈z6b ((E.C f).out ds (z2u getB ws) j),id∈(E.C f).bx++(E.C f).nb))
def z2K (f:Nat) (as:List z0a) (ws ns:List (Nat×Nat)):Eff:=
 let ds:=as.map (z27c ws)
 {val:=ren (ws++ns) ((E.C f).post ds (z2u getB ws)),bx:=(ws++ns).map fun p=>(p.2,some (renL (ws++ns) ((E.C f).out ds (z2u getB ws) p.1)))}
def z9f (x:z0a) (as:List z0a):List z0a:=match x with| .fn _ p q=>p++as++q|_=>[]

def z8j (k id:Nat) (c x:z0a) (xs:List z0a):Eff:=
 match k with
 |0=>{val:= .lit (.int .i64 (z7e c))}
 |1|2=>{val:= .tup [.lit (.int .i64 (z7e x)),.lit .nilIface],bx:=[(id,some [.undef,.sl (.own 1) none (z7e c+z7e x) (z0c [] c++xs)])]}
 |_=>{val:= .lit (.string (z9e (z0c [] c))),bx:=[(id,some [])]}
def z4ja (k id:Nat) (o:Option (List z0a)) (b:Option Nat) (bb:Option (List z0a)) (x:z0a) (xs:List z0a):Prop:=
 ∃nl l,o=some [.undef,.sl (.own 1) nl l.length (z3i l)]∧
 match k with
 |0=>True
 |1=>isS x∧l.length+z7e x≤140737488355328
 |2=>b≠some id∧okS 1 b bb x∧0<z7e x∧(∃l',xs=z3i l')∧l.length+z7e x≤140737488355328
 |3=>l≠[]
 |_=>False
def eff:AOp→Eff
 | .mv take x=>match take,x with
  |true,.s n=>{val:=get n,sl:=[(n,dem (get n))]}
  |true,.c d=>{val:=d}
  |_,x=>{val:=dem (arg E get x)}
 | .pick c a b=>{val:=if asB (arg E get c) then dem (arg E get a) else dem (arg E get b)}
 | .bin op x y=>{val:=z9c op (arg E get x) (arg E get y)}
 | .eqb neg x y=>{val:= .lit (.bool ((asB (arg E get x)==asB (arg E get y)) !=neg))}
 | .eqF ks neg x y=>{val:= .lit (.bool (z8s ks (z4c (arg E get x)) (z4c (arg E get y)) !=neg))}
 | .eqnil neg x y=>
  {val:=match arg E get x,arg E get y with
    | .lit (.slice none 0 0),.sl _ (some b) _ _=> .lit (.bool (b !=neg))
    | .sl _ (some b) _ _,.lit (.slice none 0 0)=> .lit (.bool (b !=neg))
    |_,_=> .undef}
 | .un op x=>{val:=unV op (arg E get x)}
 | .toInt k x=>{val:=cvV k (arg E get x)}
 | .toStr b x=>{val:= .lit (.string (z9e (z0c (bxl getB b) (arg E get x))))}
 | .toBytes x=>{val:= .sl (.own 1) (some false) (asS (arg E get x)).size (z3i (asS (arg E get x)).data.toList)}
 | .same x=>{val:=arg E get x}
 | .mark x=>{val:=dem (get x),sl:=[(x,dem (get x))]}
 | .extractO x=>{val:=match get x with| .otup e nl n cs _=> .sl (.own e) nl n cs|_=> .undef,sl:=[(x,dem (get x))]}
 | .buildO z parts i s=>
  match get s with
  | .sl (.own e) nl n c=>{val:= .oagg ((z5g E (fun n=>dem (get n)) (parts++[(i,1,.s s)]) z).take i) e nl n c ((z5g E (fun n=>dem (get n)) (parts++[(i,1,.s s)]) z).drop (i+1)),sl:=[(s,dem (get s))]}
  |_=>{val:= .undef}
 | .storeO _ b a s=>
  match arg E get a,get s with
  | .bp _ off,.oagg pre e nl n cs rest=>{val:= .undef,sl:=[(s,dem (get s))],bx:=[(b,some (splice (bxl getB (some b)) off (pre++ .sl (.own e) nl n cs::rest)))]}
  |_,_=>{val:= .undef}
 | .build z parts=>{val:= .agg (z5g E (fun n=>dem (get n)) parts z)}
 | .buildSl esz n z parts=>{val:= .sl (.own esz) (some false) n (z5g E get parts z)}
 | .load k b take x=>
  let cs:=z6d getB b (arg E get x)
  match k with
  |some n=>{val:= .agg (cs.take n)}
  |none=>match take,b,arg E get x with
   |true,some id,.bp _ off=>{val:=hdA cs,bx:=[(id,some ((bxl getB b).set off (dem (hdA cs))))]}
   |_,_,_=>{val:=dem (hdA cs)}
 | .store k b take a v=>
  let off:=match arg E get a with| .bp _ off=>off|_=>0
  match k,take,v with
  |none,true,.s n=>{val:= .undef,sl:=[(n,dem (get n))],bx:=[(b,some (splice (bxl getB (some b)) off [get n]))]}
  |_,_,v=>{val:= .undef,bx:=[(b,some (splice (bxl getB (some b)) off (z7p k (arg E get v))))]}
 | .nilchk x=>{val:=match arg E get x with| .bp id off=> .bp id off| .ep cs=> .ep cs|_=> .undef}
 | .buildBx id esz n z parts=>{val:= .bv id esz 0 n n,bx:=[(id,some (z5g E get parts z))]}
 | .fieldAddr o x=>{val:=match arg E get x with| .bp id off=> .bp id (off+o)| .ep cs=> .ep (cs.drop o)|_=> .undef}
 | .idxArr _ esz x i=>
  {val:=match arg E get x with
    | .bp id off=> .bp id (off+(asI (arg E get i)).toNat*esz)
    | .ep cs=> .ep (cs.drop ((asI (arg E get i)).toNat*esz))
    |_=> .undef}
 | .idxSl esz x i=>
  {val:=match arg E get x with
    | .bv id _ off _ _=> .bp id (off+(asI (arg E get i)).toNat*esz)
    | .sl _ _ _ cs=> .ep (cs.drop ((asI (arg E get i)).toNat*esz))
    |_=> .undef}
 | .slArr n esz x lo hi mx=>
  let l:=bnd E get lo 0
  let h:=bnd E get hi n
  let m:=bnd E get mx n
  {val:=match arg E get x with
    | .bp id off=> .bv id esz (off+l*esz) (h-l) (m-l)
    | .ep cs=> .sl .plain (some false) (h-l) ((cs.drop (l*esz)).take ((h-l)*esz))
    |_=> .undef}
 | .slCap esz x lo hi=>
  match arg E get x with
  | .bv id e off _ c=>{val:= .bv id e (off+(asI (arg E get lo)).toNat*esz) ((asI (arg E get hi)).toNat-(asI (arg E get lo)).toNat) (c-(asI (arg E get lo)).toNat)}
  |_=>{val:= .undef}
 | .slSl esz x lo hi mx=>
  let l:=bnd E get lo 0
  {val:=match arg E get x with
    | .bv id e off n c=> .bv id e (off+l*esz) (bnd E get hi n-l) ((match mx with|none=>c|some _=>bnd E get mx n)-l)
    | .sl _ nl n cs=> .sl (match mx with|none=> .plain|some _=>if bnd E get mx n=bnd E get hi n then .clip else .plain) nl (bnd E get hi n-l) ((cs.drop (l*esz)).take ((bnd E get hi n-l)*esz))
    | .lit (.slice none 0 0)=> .lit (.slice none 0 0)
    |_=> .undef}
 | .slStr x lo hi=>
  let s:=asS (arg E get x)
  {val:= .lit (.string (s.extract (bnd E get lo 0) (bnd E get hi s.size)))}
 | .s2ap _ x=>{val:=match arg E get x with| .bv id _ off _ _=> .bp id off| .sl _ _ _ cs=> .ep cs|_=> .undef}
 | .alloc id z=>{val:= .bp id 0,bx:=[(id,some z)]}
 | .box id k take x=>match k,take,x with
  |none,true,.s n=>{val:= .bp id 0,sl:=[(n,dem (get n))],bx:=[(id,some [get n])]}
  |_,_,x=>{val:= .bp id 0,bx:=[(id,some (z7p k (arg E get x)))]}
 | .extract i x=>{val:=match dem (arg E get x) with| .tup vs=>dem (vs.getD i .undef)|_=> .undef}
 | .field k off x=>
  {val:=match arg E get x,k with
    | .agg cs,none=>dem (cs.getD off .undef)
    | .agg cs,some n=> .agg ((cs.drop off).take n)
    |_,_=> .undef}
 | .idxA k esz _ x i=>
  {val:=match arg E get x,k with
    | .agg cs,none=>dem (cs.getD ((asI (arg E get i)).toNat*esz) .undef)
    | .agg cs,some n=> .agg ((cs.drop ((asI (arg E get i)).toNat*esz)).take n)
    |_,_=> .undef}
 | .idxStr x i=>{val:= .lit (.int .u8 ((asS (arg E get x)).data.toList.getD (asI (arg E get i)).toNat 0).toNat)}
 | .call f args bs=>{val:=z6q E getB f (args.map (arg E get)) bs}
 | .callv f t args bs=>{val:=z6q E getB f (z9f (arg E get t) (args.map (arg E get))) bs}
 | .callm f t args ws ns=>z6H E getB f (match t with|none=>args.map (arg E get)|some t=>z9f (arg E get t) (args.map (arg E get))) ws ns
 | .callw f t args ws ns=>z2K E getB f (match t with|none=>args.map (arg E get)|some t=>z9f (arg E get t) (args.map (arg E get))) ws ns
 | .len _ x=>{val:= .lit (.int .i64 (z7e (arg E get x)))}
 | .append esz _ _ nlr b x y=>
  let ys:=z0c (bxl getB b) (arg E get y)
  {val:= .sl (.own esz) nlr (z7e (get x)+z7e (arg E get y)) (z0c [] (get x)++ys),sl:=[(x,dem (get x))]}
 | .appendC esz _ _ nlr b x y=>
  let ys:=z0c (bxl getB b) (arg E get y)
  {val:= .sl (if z7e (arg E get x)=0 then .own esz else .plain) nlr (z7e (arg E get x)+z7e (arg E get y)) (z0c [] (arg E get x)++ys)}
 | .appendB esz _ _ id b x y=>
  match arg E get x with
  | .bv _ _ off n c=>{val:= .bv id esz off (n+z7e (arg E get y)) c,bx:=[(id,some (splice (bxl getB (some id)) (off+n*esz) (z0c (bxl getB b) (arg E get y))))]}
  |_=>{val:= .undef}
 | .clearB esz id x=>
  match arg E get x with
  | .bv _ _ off n _=>{val:= .undef,bx:=[(id,some (splice (bxl getB (some id)) off (List.replicate (n*esz) .undef)))]}
  |_=>{val:= .undef}
 | .copy esz _ d b x y=>
  match arg E get x with
  | .bv _ _ off n _=>
   let k:=min (z7e (arg E get y)) n
   {val:= .lit (.int .i64 k),bx:=[(d,some (splice (bxl getB (some d)) off ((z0c (bxl getB b) (arg E get y)).take (k*esz))))]}
  |_=>{val:= .undef}
 | .min2 x y=>{val:=match arg E get x,arg E get y with| .lit (.int k a),.lit (.int _ b)=> .lit (.int k (if b<a then b else a))|_,_=> .undef}
 | .max2 x y=>{val:=match arg E get x,arg E get y with| .lit (.int k a),.lit (.int _ b)=> .lit (.int k (if b>a then b else a))|_,_=> .undef}
 | .mkfn f x y=>{val:= .fn f (x.map fun a=>dem (arg E get a)) (y.map fun a=>dem (arg E get a))}
 | .newB id=>{val:= .bp id 0,bx:=[(id,some [.undef,.sl (.own 1) (some true) 0 []])]}
 | .bld k id _ b x=>z8j k id (hdA (((getB id).getD []).drop 1)) (arg E get x) (z0c (bxl getB b) (arg E get x))
 | .unsup=>{val:= .undef}

def okp:AOp→Prop
 | .mv _ _=>True
 | .pick c _ _=>isB (arg E get c)
 | .bin op x y=>z3a op (arg E get x) (arg E get y)
 | .eqb _ x y=>isB (arg E get x)∧isB (arg E get y)
 | .eqF ks _ x y=>
  match arg E get x,arg E get y with
  | .agg xs,.agg ys=>z6n ks xs∧z6n ks ys
  |_,_=>False
 | .eqnil _ x y=>
  match arg E get x,arg E get y with
  | .lit (.slice none 0 0),.sl _ (some _) _ _=>True
  | .sl _ (some _) _ _,.lit (.slice none 0 0)=>True
  |_,_=>False
 | .un op x=>z5S op (arg E get x)
 | .toInt _ x=>isI (arg E get x)
 | .toStr b x=>okS 1 b (bxc getB b) (arg E get x)∧(∀c∈z0c (bxl getB b) (arg E get x),z28 .u8 c)
 | .toBytes x=>isS (arg E get x)
 | .same x=>isS (arg E get x)
 | .mark x=>match get x with| .sl (.own 1) (some false) _ (_::_)=>True|_=>False
 | .extractO x=>match get x with| .otup _ _ _ _ _=>True|_=>False
 | .buildO z parts i s=>z1e E (fun n=>dem (get n)) (parts++[(i,1,.s s)]) z.length∧(match get s with| .sl (.own _) _ _ _=>True|_=>False)
 | .storeO k b a s=>b<1000000∧(match arg E get a with| .bp id off=>id=b∧∃cs,getB id=some cs∧off+k≤cs.length|_=>False)∧
  (match get s with| .oagg pre _ _ _ _ rest=>pre.length+(1+rest.length)=k∧∀c∈pre++rest,z8a c∧z5b c=false|_=>False)
 | .build z parts=>z1e E (fun n=>dem (get n)) parts z.length
 | .buildSl esz n z parts=>z.length=n*esz∧z1e E get parts z.length∧z8b (z5g E get parts z)=true
 | .load k b take x=>z1o getB b (k.getD 1) (arg E get x)∧(take=true→∀id,b=some id→id<1000000)
 | .store k b _ a v=>b<1000000∧
  (match arg E get a with| .bp id off=>id=b∧∃cs,getB id=some cs∧off+k.getD 1≤cs.length|_=>False)∧isK k (arg E get v)
 | .nilchk x=>match arg E get x with| .bp _ _=>True| .ep _=>True|_=>False
 | .buildBx id esz n z parts=>z1n id∧getB id=none∧z.length=n*esz∧z1e E get parts z.length∧∀c∈z5g E get parts z,z5b c=false
 | .fieldAddr o x=>match arg E get x with| .bp _ _=>True| .ep cs=>o≤cs.length|_=>False
 | .idxArr n _ x i=>(match arg E get x with| .bp _ _=>True| .ep _=>True|_=>False)∧isI (arg E get i)∧0≤asI (arg E get i)∧asI (arg E get i)<n
 | .idxSl esz x i=>
  (match arg E get x with| .bv _ e _ _ _=>e=esz| .sl _ _ _ _=>True|_=>False)∧isI (arg E get i)∧0≤asI (arg E get i)∧asI (arg E get i)<z7e (arg E get x)
 | .slArr n _ x lo hi mx=>
  (match arg E get x with| .bp _ _=>True| .ep _=>True|_=>False)∧(mx.isSome=true→hi.isSome=true)∧
  z2g E get mx n∧z2g E get hi (bnd E get mx n)∧z2g E get lo (bnd E get hi n)∧bnd E get hi n≤n
 | .slCap esz x lo hi=>(match arg E get x with| .bv _ e _ n c=>e=esz∧n≤c∧z2g E get (some hi) c|_=>False)∧z2g E get (some lo) (bnd E get (some hi) 0)
 | .slSl esz x lo hi mx=>
  (match arg E get x with| .bv _ e _ _ _=>e=esz| .sl _ _ _ _=>True| .lit (.slice none 0 0)=>True|_=>False)∧(mx.isSome=true→hi.isSome=true)∧
  z2g E get mx (z7e (arg E get x))∧z2g E get hi (bnd E get mx (z7e (arg E get x)))∧z2g E get lo (bnd E get hi (z7e (arg E get x)))
 | .slStr x lo hi=>isS (arg E get x)∧z2g E get hi (asS (arg E get x)).size∧z2g E get lo (bnd E get hi (asS (arg E get x)).size)
 | .s2ap n x=>match arg E get x with| .bv _ _ _ k _=>n≤k∧0<n| .sl _ _ k _=>n≤k∧0<n|_=>False
 | .alloc id _=>z1n id∧getB id=none
 | .box id k _ x=>z1n id∧getB id=none∧isK k (arg E get x)
 | .extract i x=>match dem (arg E get x) with| .tup vs=>i<vs.length|_=>False
 | .field k off x=>match arg E get x with| .agg cs=>off+k.getD 1≤cs.length|_=>False
 | .idxA k esz n x i=>
  (match arg E get x with| .agg cs=>(asI (arg E get i)).toNat*esz+k.getD 1≤cs.length|_=>False)∧isI (arg E get i)∧0≤asI (arg E get i)∧asI (arg E get i)<n
 | .idxStr x i=>isS (arg E get x)∧isI (arg E get i)∧0≤asI (arg E get i)∧asI (arg E get i)<(asS (arg E get x)).size
 | .call f args bs=>z3k E getB f (args.map (arg E get)) bs
 | .callv f t args bs=>(match arg E get t with| .fn f' _ _=>f'=f|_=>False)∧z3k E getB f (z9f (arg E get t) (args.map (arg E get))) bs
 | .callm f t args ws ns=>(match t with|none=>True|some t=>match arg E get t with| .fn f' _ _=>f'=f|_=>False)∧
  okM E getB f (match t with|none=>args.map (arg E get)|some t=>z9f (arg E get t) (args.map (arg E get))) ws ns
 | .callw f t args ws ns=>(match t with|none=>True|some t=>match arg E get t with| .fn f' _ _=>f'=f|_=>False)∧
  okW E getB f (match t with|none=>args.map (arg E get)|some t=>z9f (arg E get t) (args.map (arg E get))) ws ns
 | .len str x=>if str then isS (arg E get x) else z4aa (arg E get x)
 | .append esz bytes str nlr b x y=>
  (match get x with| .sl (.own e) _ _ _=>e=esz|_=>False)∧okApp esz bytes str nlr b (get x) (arg E get y)
 | .appendC esz bytes str nlr b x y=>
  (match arg E get x with| .sl .clip _ n cs=>cs.length=n*esz|_=>False)∧okApp esz bytes str nlr b (arg E get x) (arg E get y)
 | .appendB esz _ str id b x y=>id<1000000∧
  (match arg E get x with| .bv i e off n c=>i=id∧e=esz∧(∃cs,getB id=some cs∧off+(n+z7e (arg E get y))*e≤cs.length)∧n+z7e (arg E get y)≤c∧0<c|_=>False)∧
  (if str then isS (arg E get y)∧esz=1 else okS esz b (bxc getB b) (arg E get y))∧(∀c∈z0c (bxl getB b) (arg E get y),z8a c∧z5b c=false)
 | .clearB esz id x=>id<1000000∧(match arg E get x with| .bv i e off n _=>i=id∧e=esz∧∃cs,getB id=some cs∧off+n*e≤cs.length|_=>False)
 | .copy esz str d b x y=>d<1000000∧
  (match arg E get x with| .bv id e off n _=>id=d∧e=esz∧∃cs,getB id=some cs∧off+n*e≤cs.length|_=>False)∧
  (if str then isS (arg E get y)∧esz=1 else okS esz b (bxc getB b) (arg E get y))∧(∀c∈z0c (bxl getB b) (arg E get y),z8a c∧z5b c=false)
 | .min2 x y=>isI (arg E get x)∧isI (arg E get y)
 | .max2 x y=>isI (arg E get x)∧isI (arg E get y)
 | .mkfn _ _ _=>True
 | .newB id=>1000000≤id∧getB id=none
 | .bld k id p b x=>1000000≤id∧arg E get p= .bp id 0∧z4ja k id (getB id) b (bxc getB b) (arg E get x) (z0c (bxl getB b) (arg E get x))
 | .unsup=>False
where
 okApp (esz bytes:Nat) (str:Bool) (nlr:Option Bool) (b:Option Nat) (x y:z0a):Prop:=
  (if str then isS y∧esz=1 else okS esz b (bxc getB b) y)∧
  (z7e x+z7e y)*bytes≤1099511627776∧z7e x+z7e y≤1099511627776∧
  (match nlr with
   |none=>True
   |some false=>(match x with| .sl _ (some false) _ _=>True|_=>0<z7e y)
   |some true=>(match x with| .sl _ (some true) _ _=>z7e y=0|_=>False))∧
  (∀c∈z0c (bxl getB b) y,z0b c=true∧z8a c)
end

/-! ### What an operation reads and writes, for sure -/

def Arg.rd:Arg→List Nat| .s n=>[n]|_=>[]
def rdO:Option Arg→List Nat|some a=>a.rd|none=>[]
def rdL (l:List Arg):List Nat:=l.flatMap Arg.rd
def AOp.rdS:AOp→List Nat
 | .nilchk x| .mv _ x| .un _ x| .toInt _ x| .toStr _ x| .toBytes x| .same x| .load _ _ _ x| .fieldAddr _ x| .s2ap _ x| .box _ _ _ x| .extract _ x| .field _ _ x| .len _ x| .clearB _ _ x=>x.rd
 | .pick c a b| .slCap _ c a b=>c.rd++a.rd++b.rd
 | .bin _ x y| .eqb _ x y| .eqF _ _ x y| .eqnil _ x y| .store _ _ _ x y| .idxArr _ _ x y| .idxSl _ x y| .idxA _ _ _ x y| .idxStr x y| .appendC _ _ _ _ _ x y| .appendB _ _ _ _ _ x y| .copy _ _ _ _ x y| .min2 x y| .max2 x y=>x.rd++y.rd
 | .build _ ps| .buildSl _ _ _ ps| .buildBx _ _ _ _ ps=>rdL (ps.map (·.2.2))
 | .buildO _ ps i s=>s::rdL ((ps++[((i,1,Arg.s s):Nat×Nat×Arg)]).map (·.2.2))
 | .storeO _ _ a s=>s::a.rd
 | .slArr _ _ x l h m| .slSl _ x l h m=>x.rd++rdO l++rdO h++rdO m
 | .slStr x l h=>x.rd++rdO l++rdO h
 | .alloc _ _| .newB _| .unsup=>[]
 | .bld _ _ p _ x=>p.rd++x.rd
 | .mark x| .extractO x=>[x]
 | .call _ as _=>rdL as
 | .callv _ t as _=>t.rd++rdL as
 | .callm _ t as _ _=>rdO t++rdL as
 | .callw _ t as _ _=>rdO t++rdL as
 | .append _ _ _ _ _ x y=>x::y.rd
 | .mkfn _ x y=>rdL x++rdL y
def AOp.rdB:AOp→List Nat
 | .toStr b _| .load _ b _ _| .append _ _ _ _ b _ _| .appendC _ _ _ _ b _ _=>b.toList
 | .store _ b _ _ _=>[b]
 | .storeO _ b _ _=>[b]
 | .alloc id _| .box id _ _ _| .newB id| .buildBx id _ _ _ _=>[id]
 | .bld _ id _ b _=>id::b.toList
 | .call _ _ bs| .callv _ _ _ bs=>bs
 | .callm _ _ _ ws ns=>(ws++ns).map (·.2)
 | .callw _ _ _ ws ns=>(ws++ns).map (·.2)
 | .copy _ _ d b _ _=>d::b.toList
 | .clearB _ d _=>[d]
 | .appendB _ _ _ d b _ _=>d::b.toList
 |_=>[]
def AOp.wrS:AOp→List Nat
 | .mv true (.s n)=>[n]
 | .store none _ true _ (.s n)=>[n]
 | .box _ none true (.s n)=>[n]
 | .append _ _ _ _ _ x _=>[x]
 | .buildO _ _ _ s| .storeO _ _ _ s=>[s]
 | .mark x| .extractO x=>[x]
 |_=>[]
def AOp.wrB:AOp→List Nat
 | .load none (some id) true _=>[id]
 | .store _ b _ _ _=>[b]
 | .storeO _ b _ _=>[b]
 | .alloc id _| .box id _ _ _| .newB id| .buildBx id _ _ _ _=>[id]
 | .bld _ id _ _ _=>[id]
 | .copy _ _ d _ _ _=>[d]
 | .clearB _ d _=>[d]
 | .appendB _ _ _ d _ _ _=>[d]
 | .callm _ _ _ ws ns=>(ws++ns).map (·.2)
 | .callw _ _ _ ws ns=>(ws++ns).map (·.2)
 |_=>[]

end Go.Abs
end

section
namespace Go.Abs

def lk {α:Type}:List (Nat×α)→Nat→Option α
 |[],_=>none
 |(k,x)::l,s=>if s=k then some x else lk l s

structure ASt where
 org:List (Nat×z0a)
 env:List (Nat×z0a)
 box:List (Nat×Option (List z0a))

def ASt.get (st:ASt) (s:Nat):z0a:=
 match lk st.env s with
 |some d=>d
 |none=>dem ((lk st.org s).getD .undef)
def ASt.getB (st:ASt) (id:Nat):Option (List z0a):=(lk st.box id).join

structure z4f where
 w0:World
 W:Nat→Prop
 S0:Nat→Nat
 dl:List Deferred:=[]
 mu0:Nat→Option Nat:=fun _=>none

structure Fr (B:Nat) (W:Nat→Prop) (w w':World):Prop where
 os:w'.os=w.os
 tape:w'.tape=w.tape
 output:w'.output=w.output
 size:w.heap.size≤w'.heap.size
 block:∀k,k<B→¬W k→w'.heap[k]? =w.heap[k]?

theorem Fr.refl (B:Nat) (W:Nat→Prop) (w:World):Fr B W w w:=⟨rfl,rfl,rfl,Nat.le_refl _,fun _ _ _=>rfl⟩
theorem Fr.trans {B:Nat} {W:Nat→Prop} {a b c:World} (h:Fr B W a b) (k:Fr B W b c):Fr B W a c:=
 ⟨k.os.trans h.os,k.tape.trans h.tape,k.output.trans h.output,Nat.le_trans h.size k.size,fun i hi hw=>(k.block i hi hw).trans (h.block i hi hw)⟩
theorem Fr.mono {B B':Nat} {W W':Nat→Prop} {a b:World} (h:Fr B W a b) (hB:B'≤B) (hW:∀k,k<B'→W k→W' k):Fr B' W' a b:=
 ⟨h.os,h.tape,h.output,h.size,fun i hi hw=>h.block i (Nat.lt_of_lt_of_le hi hB) (fun h'=>hw (hW i hi h'))⟩

structure z7fa where
 gnum:Nat→Nat
 gs:List Nat

structure Cx extends Con where
 N:z7fa
 E:Env
 bt:TypeId:=0
 b5:TypeId:=0
 bf:Nat→FuncId:=fun _=>0

def z9t (bt b5:TypeId) (ow:Nat→Option Loc) (w:World) (b id:Nat):Prop:=
 ∃p v,w.heap[b]? =some (.cells #[p,v] bt (0,0))∧(p= .pointer none∨p= .pointer (some ⟨b,0,none⟩))∧(v= .slice none 0 0∨∃k n cap c,v= .slice (some ⟨k,0,none⟩) n cap∧ow k=some (.cell id 1)∧w.heap[k]? =some (.cells c b5 (0,0))∧c.size=cap∧cap≤maxLen∧n≤cap)
theorem z9t.keep {bt b5:TypeId} {ow ow':Nat→Option Loc} {w w':World} {b id:Nat} (h:z9t bt b5 ow w b id) (hb:w'.heap[b]? =w.heap[b]?) (hk:∀k,ow k=some (.cell id 1)→ow' k=some (.cell id 1)∧w'.heap[k]? =w.heap[k]?):z9t bt b5 ow' w' b id:=by
 obtain⟨p,v,h1,hp,h2⟩:=h
 refine⟨p,v,by rw[hb];exact h1,hp,?_⟩
 rcases h2 with h2|⟨k,n,cap,c,h2,h3,h4,h5⟩
 ·exact .inl h2
 ·obtain⟨k1,k2⟩:=hk k h3
  exact .inr ⟨k,n,cap,c,h2,k1,by rw[k2];exact h4,h5⟩

structure Inv (K:Cx) (base:z4f) (g:Gh) (w:World) (bx:Nat→Option (List z0a)):Prop where
 fr:Fr base.w0.heap.size base.W base.w0 w
 sS:∀b,b<base.w0.heap.size→¬base.W b→g.S b=base.S0 b
 inj:∀i j b,g.mu i=some b→g.mu j=some b→i=j
 bxok:∀id cs,bx id=some cs→∃b,g.mu id=some b∧g.S b=0∧∀i d,cs[i]? =some d→(∃x,w.cell? ⟨b,i,none⟩=some x∧Rep K.toCon g w (some (.cell id i)) d x)∧w.frozen? ⟨b,i,none⟩=false
 nobx:∀id,bx id=none→g.mu id=none
 muW:∀id b,g.mu id=some b→(base.w0.heap.size≤b∨base.W b)∧b<w.heap.size∧g.ow b=none
 owW:∀b l,g.ow b=some l→(base.w0.heap.size≤b∨base.W b)∧b<w.heap.size
 glob:∀n∈K.N.gs,z4b K.toCon g.S w (K.E.T n) (K.N.gnum n) 0
 kp:z9d base.S0 base.w0 g.S w
 obok:∀id b cs,1000000≤id→g.mu id=some b→bx id=some cs→hdA (cs.drop 1)≠ .undef→z9t K.bt K.b5 g.ow w b id
 old:∀id b,400000≤id→id<500000→g.mu id=some b→base.mu0 id=some b

def z3v (K:Cx) (g:Gh) (w:World) (get:Nat→z0a) (a:Act):Prop:=
 ∀s,Rep K.toCon g w (some (.slot s)) (get s) (a.tmps.getD s undef)

noncomputable def z4f.S (base:z4f):Nat→Nat:=fun b=>by classical exact if b<base.w0.heap.size∧¬base.W b then base.S0 b else 0

def z65 (K:Cx) (base:z4f) (st:ASt) (a:Act):Prop:=∀s d,lk st.org s=some d→z9b K.toCon base.S base.w0 d (a.tmps.getD s undef)

def Rel (K:Cx) (base:z4f) (n:Nat) (st:ASt) (a:Act) (w:World):Prop:=
 ∃g,Inv K base g w st.getB∧z3v K g w st.get a∧z65 K base st a∧a.defers=base.dl∧a.tmps.size=n

/-! ### Reading of lists -/

theorem z2b.len {K:Con} {g:Gh} {w:World}:∀{ds:List z0a} {vs:List Value},z2b K g w ds vs→ds.length=vs.length
 |[],_,h=>by simp only[z2b] at h;subst h;rfl
 |_::_,_,h=>by
  simp only[z2b] at h
  obtain⟨x,xs,rfl,_,h2⟩:=h
  simp[z2b.len h2]

theorem z2b.get {K:Con} {g:Gh} {w:World}:∀{ds:List z0a} {vs:List Value},z2b K g w ds vs→∀(i:Nat) (d:z0a),ds[i]? =some d→∃v,vs[i]? =some v∧Rep K g w none d v
 |[],_,h,i,d,hd=>by simp at hd
 |c::cs,l,h,i,d,hd=>by
  simp only[z2b] at h
  obtain⟨x,xs,rfl,h1,h2⟩:=h
  cases i with
  |zero=>simp at hd;subst hd;exact⟨x,by simp,h1⟩
  |succ i=>simp at hd;obtain⟨v,hv,hr⟩:=z2b.get h2 i d hd;exact⟨v,by simpa using hv,hr⟩

theorem z2b.mk {K:Con} {g:Gh} {w:World}:∀{ds:List z0a} {vs:List Value},ds.length=vs.length→(∀(i:Nat) (d:z0a) (v:Value),ds[i]? =some d→vs[i]? =some v→Rep K g w none d v)→z2b K g w ds vs
 |[],[],_,_=>by simp[z2b]
 |[],_::_,h,_=>by simp at h
 |_::_,[],h,_=>by simp at h
 |c::cs,x::xs,h,hr=>by
  simp only[z2b]
  exact⟨x,xs,rfl,hr 0 c x (by simp) (by simp),z2b.mk (by simpa using h) (fun i d v hd hv=>hr (i+1) d v (by simpa using hd) (by simpa using hv))⟩

theorem z2b.append {K:Con} {g:Gh} {w:World} {ds ds':List z0a} {vs vs':List Value} (h:z2b K g w ds vs) (h':z2b K g w ds' vs'):z2b K g w (ds++ds') (vs++vs'):=by
 refine z2b.mk (by simp[h.len,h'.len]) fun i d v hd hv=> ?_
 rcases Nat.lt_or_ge i ds.length with hi|hi
 ·rw[List.getElem?_append_left hi] at hd
  rw[List.getElem?_append_left (h.len▸hi)] at hv
  obtain⟨v',hv',hr⟩:=h.get i d hd
  rw[hv] at hv';cases hv';exact hr
 ·rw[List.getElem?_append_right hi] at hd
  rw[List.getElem?_append_right (h.len▸hi)] at hv
  rw[←h.len] at hv
  obtain⟨v',hv',hr⟩:=h'.get _ d hd
  rw[hv] at hv';cases hv';exact hr

theorem z2b.take {K:Con} {g:Gh} {w:World} {ds:List z0a} {vs:List Value} (n:Nat) (h:z2b K g w ds vs):z2b K g w (ds.take n) (vs.take n):=by
 refine z2b.mk (by simp[h.len]) fun i d v hd hv=> ?_
 rw[List.getElem?_take] at hd hv
 split at hd
 ·rename_i hi
  rw[if_pos hi] at hv
  obtain⟨v',hv',hr⟩:=h.get i d hd
  rw[hv] at hv';cases hv';exact hr
 ·cases hd

theorem z2b.drop {K:Con} {g:Gh} {w:World} {ds:List z0a} {vs:List Value} (n:Nat) (h:z2b K g w ds vs):z2b K g w (ds.drop n) (vs.drop n):=by
 refine z2b.mk (by simp[h.len]) fun i d v hd hv=> ?_
 rw[List.getElem?_drop] at hd hv
 obtain⟨v',hv',hr⟩:=h.get _ d hd
 rw[hv] at hv';cases hv';exact hr

theorem z5a.mk {K:Con} {S:Nat→Nat} {w:World}:∀{ds:List z0a} {vs:List Value},ds.length=vs.length→(∀(i:Nat) (d:z0a) (v:Value),ds[i]? =some d→vs[i]? =some v→z9b K S w d v)→z5a K S w ds vs
 |[],[],_,_=>by simp[z5a]
 |[],_::_,h,_=>by simp at h
 |_::_,[],h,_=>by simp at h
 |c::cs,x::xs,h,hr=>by
  simp only[z5a]
  exact⟨x,xs,rfl,hr 0 c x (by simp) (by simp),z5a.mk (by simpa using h) (fun i d v hd hv=>hr (i+1) d v (by simpa using hd) (by simpa using hv))⟩

theorem z4b.get {K:Con} {S:Nat→Nat} {w:World}:∀{ds:List z0a} {b o:Nat},z4b K S w ds b o→∀i d,ds[i]? =some d→o+i<S b∧∃x,w.cell? ⟨b,o+i,none⟩=some x∧z9b K S w d x
 |[],_,_,_,i,d,hd=>by simp at hd
 |c::cs,b,o,h,i,d,hd=>by
  simp only[z4b] at h
  obtain⟨h0,h1,h2⟩:=h
  cases i with
  |zero=>simp at hd;subst hd;exact⟨h0,h1⟩
  |succ i=>
   simp at hd
   have:=z4b.get h2 i d hd
   rw[show o+1+i=o+(i+1) by omega] at this
   exact this

theorem z4b.mk {K:Con} {S:Nat→Nat} {w:World}:∀{ds:List z0a} {b o:Nat},(∀i d,ds[i]? =some d→o+i<S b∧∃x,w.cell? ⟨b,o+i,none⟩=some x∧z9b K S w d x)→z4b K S w ds b o
 |[],_,_,_=>by simp[z4b]
 |c::cs,b,o,h=>by
  simp only[z4b]
  have h0:=h 0 c (by simp)
  simp only[Nat.add_zero] at h0
  refine⟨h0.1,h0.2,z4b.mk fun i d hd=> ?_⟩
  have:=h (i+1) d (by simpa using hd)
  rw[show o+(i+1)=o+1+i by omega] at this
  exact this

theorem z4b.drop {K:Con} {S:Nat→Nat} {w:World} {ds:List z0a} {b o:Nat} (h:z4b K S w ds b o) (n:Nat):z4b K S w (ds.drop n) b (o+n):=
 z4b.mk fun i d hd=>by
  rw[List.getElem?_drop] at hd
  have:=h.get _ d hd
  rw[show o+(n+i)=o+n+i by omega] at this
  exact this

theorem z4b.take {K:Con} {S:Nat→Nat} {w:World} {ds:List z0a} {b o:Nat} (h:z4b K S w ds b o) (n:Nat):z4b K S w (ds.take n) b o:=
 z4b.mk fun i d hd=>by
  rw[List.getElem?_take] at hd
  split at hd
  ·exact h.get i d hd
  ·cases hd

theorem z4b.vals {K:Con} {g:Gh} {w:World} {ds:List z0a} {b o:Nat} (h:z4b K g.S w ds b o):∃vs,w.rangeAt b o vs∧z2b K g w ds vs∧z5a K g.S w ds vs:=by
 have hs:∀i,i<ds.length→∃x,w.cell? ⟨b,o+i,none⟩=some x∧z9b K g.S w (ds.getD i .undef) x:=fun i hi=>by
  have:=(h.get i _ (List.getElem?_eq_getElem hi)).2
  simpa[List.getD,List.getElem?_eq_getElem hi] using this
 let f:Nat→Value:=fun i=>(w.cell? ⟨b,o+i,none⟩).getD undef
 have hl:∀i d v,ds[i]? =some d→((List.range ds.length).map f)[i]? =some v→z9b K g.S w d v:=fun i d v hd hv=>by
  have hi:i<ds.length:=(List.getElem?_eq_some_iff.1 hd).1
  obtain⟨x,hx,hp⟩:=hs i hi
  rw[List.getElem?_map,List.getElem?_range hi] at hv
  simp only[Option.map_some,f,hx,Option.getD_some,Option.some.injEq] at hv
  subst hv
  simpa[List.getD,hd] using hp
 refine⟨(List.range ds.length).map f,fun j v hv=> ?_,z2b.mk (by simp) (fun i d v hd hv=>z9b.rep d v (hl i d v hd hv)),z5a.mk (by simp) hl⟩
 have hj:j<ds.length:=by have:=(List.getElem?_eq_some_iff.1 hv).1;simpa using this
 obtain⟨x,hx,_⟩:=hs j hj
 rw[List.getElem?_map,List.getElem?_range hj] at hv
 simp only[Option.map_some,f,hx,Option.getD_some,Option.some.injEq] at hv
 subst hv
 exact hx

theorem z4d {α:Type} (l m:List (Nat×α)) (s:Nat):lk (l++m) s=(lk l s).or (lk m s):=by
 induction l with
 |nil=>simp[lk]
 |cons x l ih=>obtain⟨k,d⟩:=x;simp only[List.cons_append,lk];split<;>simp_all

end Go.Abs
end

section
namespace Go.Abs

def z5wd (x v:Value):Bool:=
 match x,v with
 | .int k n,.int k' n'=>decide (k=k')&&decide (n=n')
 | .bool b,.bool b'=>b==b'
 | .string s,.string s'=>s.data.toList==s'.data.toList
 | .slice none 0 0,.slice none 0 0=>true
 | .pointer none,.pointer none=>true
 | .nilFunc,.nilFunc=>true
 | .nilIface,.nilIface=>true
 | .map none,.map none=>true
 |_,_=>false
theorem z8ad {x v:Value} (h:z5wd x v=true):x=v:=by
 unfold z5wd at h
 split at h<;>simp_all
 rename_i s s'
 cases s;cases s';simp_all
def z5Cd:Value→Bool
 | .slice none 0 0=>true
 |_=>false
theorem z1jd {v:Value} (h:z5Cd v=true):v= .slice none 0 0:=by
 unfold z5Cd at h
 split at h
 ·rfl
 ·cases h

mutual
def z4nb:z0a→Value→Bool
 | .lit x,v=>z5wd x v
 | .sl _ nl n cs,v=>z5Cd v&&(nl !=some false)&&(n==0)&&cs.isEmpty
 | .agg ds,v=>match v with| .agg vs=>z72a ds vs.toList|_=>false
 | .undef,_=>true
 | .tup _,_=>false
 | .bp _ _,_=>false
 | .bv _ _ _ _ _,_=>false
 | .ep _,_=>false
 | .otup _ _ _ _ _,_=>false
 | .oagg _ _ _ _ _ _,_=>false
 | .fn _ _ _,_=>false
def z72a:List z0a→List Value→Bool
 |[],vs=>vs.isEmpty
 |d::ds,vs=>match vs with|v::vs=>z4nb d v&&z72a ds vs|[]=>false
end

mutual
theorem z3Ab {K:Con} {g:Gh} {w:World}:∀(d:z0a) (v:Value) (l:Option Loc),z4nb d v=true→Rep K g w l d v
 | .lit x,v,l,h=>by
  simp only[z4nb] at h
  simp only[Rep]
  exact(z8ad h).symm
 | .sl m nl n cs,v,l,h=>by
  simp only[z4nb,Bool.and_eq_true,beq_iff_eq,bne_iff_ne,List.isEmpty_iff] at h
  obtain⟨⟨⟨h1,h3⟩,rfl⟩,rfl⟩:=h
  have:=z1jd h1
  subst this
  cases m<;>simp[Rep,z9b,h3]
 | .agg ds,v,l,h=>by
  simp only[z4nb] at h
  split at h
  ·rename_i vs
   simp only[Rep]
   exact⟨vs,rfl,z01a _ _ h⟩
  ·cases h
 | .undef,_,_,_=>by simp[Rep]
 | .tup _,v,_,h=>by simp[z4nb] at h
 | .bp _ _,v,_,h=>by simp[z4nb] at h
 | .bv _ _ _ _ _,v,_,h=>by simp[z4nb] at h
 | .ep _,v,_,h=>by simp[z4nb] at h
 | .otup _ _ _ _ _,v,_,h=>by simp[z4nb] at h
 | .oagg _ _ _ _ _ _,v,_,h=>by simp[z4nb] at h
 | .fn _ _ _,v,_,h=>by simp[z4nb] at h
theorem z01a {K:Con} {g:Gh} {w:World}:∀(ds:List z0a) (vs:List Value),z72a ds vs=true→z2b K g w ds vs
 |[],vs,h=>by simpa[z72a,z2b] using h
 |d::ds,vs,h=>by
  simp only[z72a] at h
  split at h
  ·rename_i v vs
   simp only[Bool.and_eq_true] at h
   simp only[z2b]
   exact⟨v,vs,rfl,z3Ab d v none h.1,z01a ds vs h.2⟩
  ·cases h
end

def z7wa (K:Cx):Operand→Arg→Bool
 | .tmp t,.s n=>t==n
 | .const v,.c d=>z4nb d v
 | .global b,.g n=>(K.N.gnum n==b)&&K.N.gs.contains n
 | .func f,.c (.fn n [] [])=>K.nu n==f
 |_,_=>false

section
variable {K : Cx} {base : z4f} {g : Gh} {w : World} {get : Nat → z0a} {getB : Nat → Option (List z0a)} {a : Act}

theorem z3qa (hI:Inv K base g w getB) (hS:z3v K g w get a) {x:Operand} {y:Arg} (h:z7wa K x y=true):Rep K.toCon g w none (arg K.E get y) (a.eval x):=by
 unfold z7wa at h
 split at h
 ·simp only[beq_iff_eq] at h
  subst h
  simp only[arg,Act.eval]
  exact Rep.mono (z9d.refl _ _) _ _ _ none (fun _ _ _ h=>h) (by simp) (hS _)
 ·exact z3Ab _ _ _ h
 ·simp only[Bool.and_eq_true,beq_iff_eq,List.contains_iff_mem] at h
  obtain⟨rfl,hn⟩:=h
  simp only[arg,Act.eval,Rep,z9b]
  exact⟨_,_,rfl,hI.glob _ hn⟩
 ·simp only[beq_iff_eq] at h
  subst h
  simp only[arg,Act.eval,Rep,z2b]
  exact⟨_,_,rfl,rfl,rfl⟩
 ·cases h

theorem z3Gb (hS:z3v K g w get a) (n:Nat):Rep K.toCon g w (some (.slot n)) (get n) (a.eval (.tmp n)):=by
 simpa[Act.eval] using hS n

def upd (get:Nat→z0a) (l:List (Nat×z0a)) (s:Nat):z0a:=(lk l s).getD (get s)
def z9Qb (getB:Nat→Option (List z0a)) (l:List (Nat×Option (List z0a))) (id:Nat):Option (List z0a):=match lk l id with|some x=>x|none=>getB id

def z0rc (K:Cx) (base:z4f) (a:Act) (get:Nat→z0a) (getB:Nat→Option (List z0a)) (d:Option Nat) (e:Eff) (v:Value) (w':World):Prop:=
 ∃g',Inv K base g' w' (z9Qb getB e.bx)∧z3v K g' w' (upd get e.sl) a∧Rep K.toCon g' w' (d.map .slot) e.val v

theorem z7Zc (hI:Inv K base g w getB) (hS:z3v K g w get a) {d:Option Nat} {x:z0a} {v:Value} (h:Rep K.toCon g w (d.map .slot) x v):z0rc K base a get getB d {val:=x} v w:=
 ⟨g,hI,hS,h⟩

theorem z6Ma (l:Option Loc) (v:Value):Rep K.toCon g w l (.lit v) v:=by simp[Rep]

/-! ### Literals, out of what is asked -/
theorem z1kb {l:Option Loc} {d:z0a} {v:Value} (h:Rep K.toCon g w l d v) (hd:isI d):∃k,d= .lit (.int k (asI d))∧v= .int k (asI d):=by
 unfold isI at hd
 split at hd
 ·simp only[Rep] at h;subst h;exact⟨_,rfl,rfl⟩
 ·cases hd
theorem z7sb {l:Option Loc} {d:z0a} {v:Value} (h:Rep K.toCon g w l d v) (hd:isB d):d= .lit (.bool (asB d))∧v= .bool (asB d):=by
 unfold isB at hd
 split at hd
 ·simp only[Rep] at h;subst h;exact⟨rfl,rfl⟩
 ·cases hd
theorem z0Ob {l:Option Loc} {d:z0a} {v:Value} (h:Rep K.toCon g w l d v) (hd:isS d):d= .lit (.string (asS d))∧v= .string (asS d):=by
 unfold isS at hd
 split at hd
 ·simp only[Rep] at h;subst h;exact⟨rfl,rfl⟩
 ·cases hd

/-! ### Arithmetic -/
theorem z9Na {P:Program} (w:World) (op:BinOp) (t:TypeId) (x y:Operand) {u v:Value} (h:match u,v with| .nilIface,.nilIface=>False| .agg _,.agg _=>False|_,_=>True):
  (eqGuard op t x y u v).run P w= .ok () w:=by
 unfold eqGuard
 cases op<;>simp<;>(split<;>first|rfl|(simp at h))

theorem z2Id {P:Program} (w:World) (op:BinOp) (t:TypeId) (x y:Operand) {d e:z0a} {u v:Value} (hu:d= .lit u) (hv:e= .lit v) (hok:z3a op d e):
  ((do eqGuard op t x y u v;binOp op t u v):Sem Value).run P w= .ok (asV (z9c op d e)) w∧z9c op d e= .lit (asV (z9c op d e)):=by
 subst hu hv
 unfold z3a at hok
 split at hok
 ·rename_i k m k' n h1 h2
  cases h1;cases h2
  have hg:=z9Na (P:=P) w op t x y (u:= .int k m) (v:= .int k' n) trivial
  simp only[Sem.run_bind,hg,Result.andThen_ok]
  cases op<;>simp only[] at hok
  case shl=>simp[binOp,Op.shift,z9c,z8Dd,asV,show ¬n<0 by omega]
  case shr=>simp[binOp,Op.shift,z9c,z8Dd,asV,show ¬n<0 by omega]
  case quo=>obtain⟨rfl,hn⟩:=hok;simp[binOp,Op.intDiv,z9c,z8Dd,asV,hn]
  case rem=>obtain⟨rfl,hn⟩:=hok;simp[binOp,Op.intDiv,z9c,z8Dd,asV,hn]
  all_goals (subst hok;simp[binOp,Op.intArith,Op.intBits,Op.intCmp,z9c,z8Dd,asV])
 ·rename_i m n h1 h2
  cases h1;cases h2
  have hg:=z9Na (P:=P) w op t x y (u:= .string m) (v:= .string n) trivial
  simp only[Sem.run_bind,hg,Result.andThen_ok]
  cases op<;>simp only[] at hok
  case add=>
   have:¬((m.size:Int)+n.size>IntKind.i64.max):=by simp[IntKind.max,IntKind.signed,IntKind.bits] at hok⊢;omega
   simp[binOp,Op.stringOp,z9c,z49d,asV]
   simpa using this
  all_goals simp[binOp,Op.stringOp,z9c,z49d,asV]
 ·cases hok

theorem z2Xd {P:Program} (w:World) (op:UnOp) {d:z0a} {u:Value} (hu:d= .lit u) (hok:z5S op d):(Op.unary op u).run P w= .ok (asV (unV op d)) w∧unV op d= .lit (asV (unV op d)):=by
 subst hu
 unfold z5S at hok
 split at hok
 ·rename_i k n h;cases h;simp[Op.unary,Op.intArith,unV,asV]
 ·rename_i k n h;cases h;simp[Op.unary,Op.intBits,unV,asV]
 ·rename_i b h;cases h;simp[Op.unary,unV,asV]
 ·cases hok

theorem z5Vc {op:BinOp} {d e:z0a} (h:z3a op d e):(∃u,d= .lit u)∧∃v,e= .lit v:=by
 unfold z3a at h
 split at h
 ·exact⟨⟨_,rfl⟩,⟨_,rfl⟩⟩
 ·exact⟨⟨_,rfl⟩,⟨_,rfl⟩⟩
 ·cases h
theorem z3ed {op:UnOp} {d:z0a} (h:z5S op d):∃u,d= .lit u:=by
 unfold z5S at h
 split at h
 ·exact⟨_,rfl⟩
 ·exact⟨_,rfl⟩
 ·exact⟨_,rfl⟩
 ·cases h
theorem z1ec {l:Option Loc} {d:z0a} {v u:Value} (h:Rep K.toCon g w l d v) (hd:d= .lit u):v=u:=by subst hd;simpa[Rep] using h

end
end Go.Abs
end

section
namespace Go.Abs

section
variable {K : Cx} {base : z4f} {g g' : Gh} {w w' : World} {get : Nat → z0a} {getB : Nat → Option (List z0a)} {a : Act}

structure Ext (g:Gh) (w:World) (g':Gh) (w':World):Prop where
 keeps:z9d g.S w g'.S w'
 mu:∀id b,g.mu id=some b→g'.mu id=some b
 own:∀l,z8f g w g' w' l l

theorem Ext.rep (h:Ext g w g' w') {l:Option Loc} {d:z0a} {v:Value} (hr:Rep K.toCon g w l d v):Rep K.toCon g' w' l d v:=
 Rep.mono h.keeps d v l l (fun id _ b hb=>h.mu id b hb) (fun m hm=>⟨m,hm,h.own m⟩) hr
theorem Ext.slots (h:Ext g w g' w') (hs:z3v K g w get a):z3v K g' w' get a:=fun s=>h.rep (hs s)
theorem Ext.refl (g:Gh) (w:World):Ext g w g w:=⟨z9d.refl _ _,fun _ _ h=>h,fun _ _ h=>⟨h,rfl,fun _ _ h=>h⟩⟩

/-! ### Draws -/
theorem z6zb:Ext g w g w.drew:=⟨fun _ _ _ h h'=>⟨h,h'⟩,fun _ _ h=>h,fun _ _ h=>⟨h,rfl,fun _ _ h=>h⟩⟩
theorem z8Kb (h:Inv K base g w getB):Inv K base g w.drew getB:=
 ⟨h.fr.trans ⟨rfl,rfl,rfl,Nat.le_refl _,fun _ _ _=>rfl⟩,h.sS,h.inj,fun id cs hc=>by
  obtain⟨b,h1,h2,h3⟩:=h.bxok id cs hc
  exact⟨b,h1,h2,fun i d hi=>by obtain⟨⟨x,h4,h5⟩,h6⟩:=h3 i d hi;exact⟨⟨x,h4,z6zb.rep h5⟩,h6⟩⟩,
  h.nobx,h.muW,h.owW,fun n hn=>z4b.mono z6zb.keeps _ _ _ (h.glob n hn),h.kp.trans z6zb.keeps,h.obok,h.old⟩

/-! ### A new block -/
def z2Ya (g:Gh) (b n:Nat) (l:Option Loc):Gh:={g with S:=fun x=>if x=b then n else g.S x,ow:=fun x=>if x=b then l else g.ow x}
def z4gb (g:Gh) (id b:Nat):Gh:={g with mu:=fun x=>if x=id then some b else g.mu x}

theorem z9Ma (w:World) (C:Array Value) (e:TypeId) (fr:Nat×Nat) (hfr:∀i,i<C.size→¬(fr.1≤i∧i<fr.2)) (o n:Nat) (h:o+n≤C.size):(w.alloc (.cells C e fr)).there w.heap.size o n:=by
 intro j hj
 rw[World.cell?_alloc_mark]
 obtain⟨lo,hi⟩:=fr
 rw[World.frozen?_alloc_mark]
 refine⟨by simp;omega,?_⟩
 have:=hfr (o+j) (by omega)
 simp only[Bool.and_eq_false_iff,decide_eq_false_iff_not]
 simp only[not_and] at this
 by_cases h1:lo≤o+j
 ·exact .inr (this h1)
 ·exact .inl h1

theorem z5pc (w:World) (o:Obj) (x:Addr) (h:x.block<w.heap.size):(w.alloc o).frozen? x=w.frozen? x:=World.frozen?_alloc_old w o x (Nat.ne_of_lt h)

theorem Inv.sz (h:Inv K base g w getB):base.w0.heap.size≤w.heap.size:=h.fr.size

theorem z84a (h:Inv K base g w getB) (o:Obj) (n:Nat) (l:Option Loc):Ext g w (z2Ya g w.heap.size n l) (w.alloc o):=by
 refine⟨fun b i x hi hc=> ?_,fun _ _ h=>h,fun m b hb=> ?_⟩
 ·have hb:b<w.heap.size:=World.block_lt_of_cell? w ⟨b,i,none⟩ hc
  refine⟨?_,?_⟩
  ·simp only[z2Ya,if_neg (Nat.ne_of_lt hb)];exact hi
  ·rw[World.cell?_alloc_lt _ _ _ hb];exact hc
 ·have hlt:=(h.owW b m hb).2
  simp only[z2Ya,if_neg (Nat.ne_of_lt hlt)]
  refine⟨hb,trivial,fun o n ht=> ?_⟩
  exact World.there_alloc ht _

theorem z2fb (h:Inv K base g w getB) (o:Obj) (n:Nat) (l:Option Loc):Inv K base (z2Ya g w.heap.size n l) (w.alloc o) getB:=by
 have hx:=z84a h o n l
 have hz:=h.sz
 refine⟨h.fr.trans ⟨rfl,rfl,rfl,by simp,fun k hk _=> ?_⟩,fun b hb hw=> ?_,h.inj,fun id cs hc=> ?_,h.nobx,fun id b hb=> ?_,fun b m hb=> ?_,fun n hn=>z4b.mono hx.keeps _ _ _ (h.glob n hn),h.kp.trans hx.keeps,fun id b cs ho hb hc hd=> ?_,h.old⟩
 ·exact(show(w.heap.push o)[k]? =w.heap[k]? by rw[Array.getElem?_push,if_neg (by omega)])
 ·simp only[z2Ya,if_neg (show ¬b=w.heap.size by omega)];exact h.sS b hb hw
 ·obtain⟨b,h1,h2,h3⟩:=h.bxok id cs hc
  have hlt:=(h.muW id b h1).2.1
  refine⟨b,h1,by simp only[z2Ya,if_neg (Nat.ne_of_lt hlt)];exact h2,fun i d hi=> ?_⟩
  obtain⟨⟨x,h4,h5⟩,h6⟩:=h3 i d hi
  exact⟨⟨x,by rw[World.cell?_alloc_lt _ _ _ hlt];exact h4,hx.rep h5⟩,by rw[z5pc _ _ _ hlt];exact h6⟩
 ·obtain⟨h1,h2,h3⟩:=h.muW id b hb
  refine⟨h1,by simp;omega,?_⟩
  simp only[z2Ya,if_neg (Nat.ne_of_lt h2)];exact h3
 ·simp only[z2Ya] at hb
  split at hb
  ·subst_vars;exact⟨.inl hz,by simp⟩
  ·obtain⟨h1,h2⟩:=h.owW b m hb;exact⟨h1,by simp;omega⟩
 ·have old:∀k,k<w.heap.size→(w.alloc o).heap[k]? =w.heap[k]? :=fun k hk=>(show(w.heap.push o)[k]? =w.heap[k]? by rw[Array.getElem?_push,if_neg (by omega)])
  refine z9t.keep (h.obok id b cs ho hb hc hd) (old b (h.muW id b hb).2.1) fun k hk=> ?_
  have hlt:=(h.owW k _ hk).2
  exact⟨by simp only[z2Ya,if_neg (Nat.ne_of_lt hlt)];exact hk,old k hlt⟩

theorem z6Hc (h:Inv K base g w getB) (id:Nat) (hid:getB id=none) (C:Array Value) (e:TypeId) (cs:List z0a)
  (hc:∀i d,cs[i]? =some d→∃x,C[i]? =some x∧Rep K.toCon g w (some (.cell id i)) d x)
  (hob:1000000≤id→hdA (cs.drop 1)≠ .undef→z9t K.bt K.b5 (z2Ya g w.heap.size 0 none).ow (w.alloc (.cells C e)) w.heap.size id) (hno:400000≤id→id<500000→False):
  Ext g w (z4gb (z2Ya g w.heap.size 0 none) id w.heap.size) (w.alloc (.cells C e))∧
  Inv K base (z4gb (z2Ya g w.heap.size 0 none) id w.heap.size) (w.alloc (.cells C e)) (z9Qb getB [(id,some cs)]):=by
 have hx0:=z84a h (.cells C e) 0 none
 have hi0:=z2fb h (.cells C e) 0 none
 have hz:=h.sz
 have hmu:g.mu id=none:=h.nobx id hid
 have hx:Ext g w (z4gb (z2Ya g w.heap.size 0 none) id w.heap.size) (w.alloc (.cells C e)):=by
  refine⟨hx0.keeps,fun j b hb=> ?_,hx0.own⟩
  simp only[z4gb,z2Ya]
  split
  ·subst_vars;rw[hmu] at hb;cases hb
  ·exact hb
 refine⟨hx,hi0.fr,hi0.sS,fun i j b hi hj=> ?_,fun j ds hj=> ?_,fun j hj=> ?_,fun j b hb=> ?_,hi0.owW,fun n hn=>z4b.mono hx.keeps _ _ _ (h.glob n hn),h.kp.trans hx.keeps,fun j b es ho hb hc hd=> ?_,fun j b h1 h2 hb=>by
  simp only[z4gb] at hb
  split at hb
  ·subst_vars;exact(hno h1 h2).elim
  ·exact h.old j b h1 h2 hb⟩
 ·simp only[z4gb,z2Ya] at hi hj
  split at hi<;>split at hj
  ·subst_vars;rfl
  ·cases hi;have:=(h.muW j _ hj).2.1;omega
  ·cases hj;have:=(h.muW i _ hi).2.1;omega
  ·exact h.inj i j b hi hj
 ·simp only[z9Qb,lk] at hj
  split at hj
  ·rename_i x hx'
   split at hx'
   ·rename_i e'
    subst e'
    cases hx'
    cases hj
    refine⟨w.heap.size,by simp[z4gb],by simp[z2Ya,z4gb],fun i d hi=> ?_⟩
    obtain⟨x,h1,h2⟩:=hc i d hi
    exact⟨⟨x,by rw[World.cell?_alloc_new];exact h1,hx.rep h2⟩,by simp⟩
   ·cases hx'
  ·rename_i hne
   split at hne
   ·cases hne
   ·rename_i hne'
    obtain⟨b,h1,h2,h3⟩:=hi0.bxok j ds hj
    refine⟨b,by simp only[z4gb,if_neg hne'];exact h1,h2,fun i d hi=> ?_⟩
    obtain⟨b',k1,k2,k3⟩:=h.bxok j ds hj
    have:b'=b:=by have:=h1;simp only[z2Ya] at this;rw[k1] at this;cases this;rfl
    subst this
    obtain⟨⟨x,h4,h5⟩,h6⟩:=k3 i d hi
    have hlt:=(h.muW j b' k1).2.1
    exact⟨⟨x,by rw[World.cell?_alloc_lt _ _ _ hlt];exact h4,hx.rep h5⟩,by rw[z5pc _ _ _ hlt];exact h6⟩
 ·simp only[z9Qb,lk] at hj
  split at hj
  ·rename_i x hx'
   split at hx'
   ·cases hx';cases hj
   ·cases hx'
  ·rename_i hne
   split at hne
   ·cases hne
   ·rename_i hne'
    simp only[z4gb,if_neg hne']
    exact h.nobx j hj
 ·simp only[z4gb] at hb
  split at hb
  ·cases hb;exact⟨.inl hz,by simp,by simp[z2Ya,z4gb]⟩
  ·exact hi0.muW j b hb
 ·by_cases hne:j=id
  ·subst hne
   simp only[z4gb,if_true,Option.some.injEq] at hb
   simp only[z9Qb,lk,if_true,Option.some.injEq] at hc
   subst hb
   subst hc
   exact hob ho hd
  ·simp only[z4gb,if_neg hne] at hb
   simp only[z9Qb,lk,if_neg hne] at hc
   exact hi0.obok j b es ho hb hc hd

theorem z13b (h:Inv K base g w getB) (id:Nat) (hob:z1n id) (hid:getB id=none) (C:Array Value) (e:TypeId) (cs:List z0a)
  (hc:∀i d,cs[i]? =some d→∃x,C[i]? =some x∧Rep K.toCon g w (some (.cell id i)) d x):
  Ext g w (z4gb (z2Ya g w.heap.size 0 none) id w.heap.size) (w.alloc (.cells C e))∧
  Inv K base (z4gb (z2Ya g w.heap.size 0 none) id w.heap.size) (w.alloc (.cells C e)) (z9Qb getB [(id,some cs)]):=
 z6Hc h id hid C e cs hc (fun h=>by have:=hob.lt;omega) fun h1 h2=>hob.no h1 h2

/-! ### A store into a box -/
theorem z9Nc (h:Inv K base g w getB) {id b:Nat} (hb:g.mu id=some b) (hS:g.S b=0) (o:Nat) (vs:List Value):Ext g w g (w.setCells b o vs):=by
 refine⟨fun b' i x hi hc=>⟨hi,?_⟩,fun _ _ h=>h,fun m b' hb'=>⟨hb',rfl,fun o n ht=>World.there_setCells ht _ _ _⟩⟩
 rw[World.cell?_setCells_out b vs o w ⟨b',i,none⟩ (fun e _=>by simp at e;subst e;omega)]
 exact hc

theorem z1Ka (b:Nat):∀(vs:List Value) (o:Nat) (w:World) (k:Nat),k≠b→(w.setCells b o vs).heap[k]? =w.heap[k]?
 |[],_,_,_,_=>rfl
 |v::r,o,w,k,h=>by
  rw[World.setCells,z1Ka b r (o+1) _ k h]
  simp only[World.setCell,Array.getElem?_modify]
  rw[if_neg (by simpa using fun e=>h e.symm)]
theorem z2Ia (b:Nat):∀(vs:List Value) (o:Nat) (w:World),(w.setCells b o vs).heap.size=w.heap.size
 |[],_,_=>rfl
 |v::r,o,w=>by rw[World.setCells,z2Ia b r];simp
theorem z7Kb (b:Nat):∀(vs:List Value) (o:Nat) (w:World),(w.setCells b o vs).os=w.os∧(w.setCells b o vs).tape=w.tape∧(w.setCells b o vs).output=w.output
 |[],_,_=>⟨rfl,rfl,rfl⟩
 |v::r,o,w=>by rw[World.setCells];obtain⟨h1,h2,h3⟩:=z7Kb b r (o+1) (w.setCell ⟨b,o,none⟩ v);exact⟨h1,h2,h3⟩

theorem z3Wb {B:Nat} {W:Nat→Prop} (w:World) (b o:Nat) (vs:List Value) (hb:B≤b∨W b):Fr B W w (w.setCells b o vs):=by
 obtain⟨h1,h2,h3⟩:=z7Kb b vs o w
 refine⟨h1,h2,h3,by rw[z2Ia];exact Nat.le_refl _,fun k hk hw=>z1Ka b vs o w k (fun e=> ?_)⟩
 subst e
 rcases hb with hb|hb
 ·omega
 ·exact hw hb

theorem z0nb (h:Inv K base g w getB) {id:Nat} {cs:List z0a} (hob:id<1000000) (hid:getB id=some cs) (o:Nat) (vs:List Value) (ds:List z0a) (hlen:ds.length=vs.length) (hfit:o+ds.length≤cs.length)
  (hr:∀i d v,ds[i]? =some d→vs[i]? =some v→Rep K.toCon g w (some (.cell id (o+i))) d v):
  ∃b,g.mu id=some b∧Ext g w g (w.setCells b o vs)∧Inv K base g (w.setCells b o vs) (z9Qb getB [(id,some (splice cs o ds))]):=by
 obtain⟨b,hb,hS,hcells⟩:=h.bxok id cs hid
 have hx:=z9Nc h hb hS o vs
 have hthere:∀j,j<vs.length→(w.cell? ⟨b,o+j,none⟩).isSome=true:=fun j hj=>by
  obtain⟨⟨x,hx,_⟩,_⟩:=hcells (o+j) (cs[o+j]'(by omega)) (List.getElem?_eq_getElem (by omega))
  rw[hx];rfl
 refine⟨b,hb,hx,h.fr.trans (z3Wb w b o vs (h.muW id b hb).1),h.sS,h.inj,fun j es hj=> ?_,fun j hj=> ?_,fun j b' hb'=> ?_,fun b' m hb'=> ?_,fun n hn=>z4b.mono hx.keeps _ _ _ (h.glob n hn),h.kp.trans hx.keeps,fun j b' es ho hb' hc hd=> ?_,h.old⟩
 ·simp only[z9Qb,lk] at hj
  by_cases hjid:j=id
  ·subst hjid
   simp only[if_true] at hj
   cases hj
   refine⟨b,hb,hS,fun i d hi=>⟨?_,?_⟩⟩
   ·by_cases hin:o≤i∧i<o+vs.length
    ·obtain⟨h1,h2⟩:=hin
     obtain⟨k,rfl⟩:=Nat.exists_eq_add_of_le h1
     have hk:k<vs.length:=by omega
     refine⟨vs[k],by rw[World.cell?_setCells_in b vs o w hthere k hk],?_⟩
     have hdk:ds[k]? =some d:=by
      unfold splice at hi
      rw[List.append_assoc,List.getElem?_append_right (by simp;omega),List.length_take,Nat.min_eq_left (by omega),Nat.add_sub_cancel_left,List.getElem?_append_left (by omega)] at hi
      exact hi
     exact hx.rep (hr k d _ hdk (List.getElem?_eq_getElem hk))
    ·have hold:cs[i]? =some d:=by
      unfold splice at hi
      rcases Nat.lt_or_ge i o with h1|h1
      ·rw[List.append_assoc,List.getElem?_append_left (by simp;omega),List.getElem?_take,if_pos h1] at hi
       exact hi
      ·rw[List.getElem?_append_right (by simp;omega),List.getElem?_drop] at hi
       simp only[List.length_append,List.length_take] at hi
       rw[show o+ds.length+(i-(min o cs.length+ds.length))=i by omega] at hi
       exact hi
     obtain⟨⟨x,h4,h5⟩,_⟩:=hcells i d hold
     refine⟨x,?_,hx.rep h5⟩
     rw[World.cell?_setCells_out b vs o w ⟨b,i,none⟩ (fun _ _=>by
      show i<o∨o+vs.length≤i
      omega)]
     exact h4
   ·rw[World.frozen?_setCells]
    have hlt:i<cs.length:=by
     have:=(List.getElem?_eq_some_iff.1 hi).1
     simp[splice] at this
     omega
    exact(hcells i _ (List.getElem?_eq_getElem hlt)).2
  ·simp only[if_neg hjid] at hj
   obtain⟨b',h1,h2,h3⟩:=h.bxok j es hj
   have hne:b'≠b:=fun e=>hjid (h.inj j id b (e▸h1) hb)
   refine⟨b',h1,h2,fun i d hi=> ?_⟩
   obtain⟨⟨x,h4,h5⟩,h6⟩:=h3 i d hi
   refine⟨⟨x,?_,hx.rep h5⟩,by rw[World.frozen?_setCells];exact h6⟩
   rw[World.cell?_setCells_out b vs o w ⟨b',i,none⟩ (fun e=>absurd e hne)]
   exact h4
 ·simp only[z9Qb,lk] at hj
  by_cases hjid:j=id
  ·subst hjid;simp at hj
  ·simp only[if_neg hjid] at hj;exact h.nobx j hj
 ·obtain⟨h1,h2,h3⟩:=h.muW j b' hb'
  exact⟨h1,by rw[z2Ia];exact h2,h3⟩
 ·obtain⟨h1,h2⟩:=h.owW b' m hb'
  exact⟨h1,by rw[z2Ia];exact h2⟩
 ·have hne:j≠id:=by omega
  simp only[z9Qb,lk,if_neg hne] at hc
  refine z9t.keep (h.obok j b' es ho hb' hc hd) (z1Ka b vs o w b' fun e=>hne (h.inj j id b (e▸hb') hb)) fun k hk=>⟨hk,z1Ka b vs o w k fun e=> ?_⟩
  subst e
  rw[(h.muW id k hb).2.2] at hk;cases hk

end
end Go.Abs
end

section
namespace Go.Abs

section
variable {K : Cx} {base : z4f} {g g' : Gh} {w w' : World} {get : Nat → z0a} {getB : Nat → Option (List z0a)} {a : Act}

def z2Va (g:Gh) (l0 l1:Loc):Gh:={g with ow:=fun b=>if g.ow b=some l0 then some l1 else g.ow b}

theorem z9Vc {l0 l1 m:Loc} (h:m≠l0):z8f g w (z2Va g l0 l1) w m m:=fun b hb=>by
 refine⟨?_,rfl,fun _ _ h=>h⟩
 simp only[z2Va]
 rw[if_neg (fun e=>h (by rw[hb] at e;cases e;rfl))]
 exact hb
theorem z5Jc {l0 l1:Loc}:z8f g w (z2Va g l0 l1) w l0 l1:=fun b hb=>⟨by simp[z2Va,hb],rfl,fun _ _ h=>h⟩
theorem z5qb {l0 l1:Loc} {l:Option Loc} (hl:l≠some l0) {d:z0a} {v:Value} (h:Rep K.toCon g w l d v):Rep K.toCon (z2Va g l0 l1) w l d v:=
 Rep.mono (g:=g) (g':=z2Va g l0 l1) (z9d.refl g.S w) d v l l (fun _ _ _ h=>h) (fun m hm=>⟨m,hm,z9Vc (l0:=l0) (by rintro rfl;exact hl hm)⟩) h
theorem z6Fa {l0 l1:Loc} {d:z0a} {v:Value} (h:Rep K.toCon g w (some l0) d v):Rep K.toCon (z2Va g l0 l1) w (some l1) d v:=
 Rep.mono (g:=g) (g':=z2Va g l0 l1) (z9d.refl g.S w) d v (some l0) (some l1) (fun _ _ _ h=>h) (fun m hm=>⟨l0,rfl,by cases hm;exact z5Jc⟩) h
theorem z1ic {l0 l1:Loc} (l:Option Loc) {d:z0a} {v:Value} (h:Rep K.toCon g w (some l0) d v):Rep K.toCon (z2Va g l0 l1) w l (dem d) v:=
 Rep.dem l (z6Fa h)

theorem z6kb (h:Inv K base g w getB) (s:Nat) (l1:Loc):Inv K base (z2Va g (.slot s) l1) w getB:=by
 refine⟨h.fr,h.sS,h.inj,fun id cs hc=> ?_,h.nobx,fun id b hb=> ?_,fun b m hb=> ?_,h.glob,h.kp,fun id b cs ho hb hc hd=> ?_,h.old⟩
 ·obtain⟨b,h1,h2,h3⟩:=h.bxok id cs hc
  refine⟨b,h1,h2,fun i d hi=> ?_⟩
  obtain⟨⟨x,h4,h5⟩,h6⟩:=h3 i d hi
  exact⟨⟨x,h4,z5qb (by simp) h5⟩,h6⟩
 ·obtain⟨h1,h2,h3⟩:=h.muW id b hb
  exact⟨h1,h2,by simp[z2Va,h3]⟩
 ·simp only[z2Va] at hb
  split at hb
  ·rename_i he;exact h.owW b _ he
  ·exact h.owW b m hb
 ·refine z9t.keep (h.obok id b cs ho hb hc hd) rfl fun k hk=>⟨?_,rfl⟩
  simp only[z2Va]
  rw[if_neg (by rw[hk];simp)]
  exact hk

theorem z9wc (hS:z3v K g w get a) (s:Nat) (l1:Loc):z3v K (z2Va g (.slot s) l1) w (upd get [(s,dem (get s))]) a:=fun t=>by
 simp only[upd,lk]
 by_cases ht:t=s
 ·subst ht;simp only[if_true,Option.getD_some];exact z1ic _ (hS t)
 ·simp only[if_neg ht,Option.getD_none];exact z5qb (by simpa using ht) (hS t)

theorem z1Eb (h:Inv K base g w getB) {id:Nat} {cs:List z0a} (hob:id<1000000) (hid:getB id=some cs) (i:Nat) (l1:Loc) (hl:∀j k,l1≠ .cell j k):
  Inv K base (z2Va g (.cell id i) l1) w (z9Qb getB [(id,some (cs.set i (dem (cs.getD i .undef))))]):=by
 refine⟨h.fr,h.sS,h.inj,fun j es hj=> ?_,fun j hj=> ?_,fun j b hb=> ?_,fun b m hb=> ?_,h.glob,h.kp,fun j b es ho hb hc hd=>by
  have hne:j≠id:=by omega
  simp only[z9Qb,lk,if_neg hne] at hc
  refine z9t.keep (h.obok j b es ho hb hc hd) rfl fun k hk=>⟨?_,rfl⟩
  simp only[z2Va]
  rw[if_neg (by rw[hk];simp;omega)]
  exact hk,h.old⟩
 ·simp only[z9Qb,lk] at hj
  by_cases hjid:j=id
  ·subst hjid
   simp only[if_true] at hj
   cases hj
   obtain⟨b,h1,h2,h3⟩:=h.bxok j cs hid
   refine⟨b,h1,h2,fun k d hk=> ?_⟩
   rw[List.getElem?_set] at hk
   by_cases hik:i=k
   ·subst hik
    simp only[if_true] at hk
    split at hk
    ·rename_i hlt
     cases hk
     obtain⟨⟨x,h4,h5⟩,h6⟩:=h3 i cs[i] (List.getElem?_eq_getElem hlt)
     exact⟨⟨x,h4,by rw[List.getD,List.getElem?_eq_getElem hlt];exact z1ic _ h5⟩,h6⟩
    ·cases hk
   ·rw[if_neg hik] at hk
    obtain⟨⟨x,h4,h5⟩,h6⟩:=h3 k d hk
    exact⟨⟨x,h4,z5qb (by simpa using fun e=>hik e.symm) h5⟩,h6⟩
  ·simp only[if_neg hjid] at hj
   obtain⟨b,h1,h2,h3⟩:=h.bxok j es hj
   refine⟨b,h1,h2,fun k d hk=> ?_⟩
   obtain⟨⟨x,h4,h5⟩,h6⟩:=h3 k d hk
   exact⟨⟨x,h4,z5qb (by simp;exact fun e=>absurd e hjid) h5⟩,h6⟩
 ·simp only[z9Qb,lk] at hj
  by_cases hjid:j=id
  ·subst hjid;simp at hj
  ·simp only[if_neg hjid] at hj;exact h.nobx j hj
 ·obtain⟨h1,h2,h3⟩:=h.muW j b hb
  exact⟨h1,h2,by simp[z2Va,h3]⟩
 ·simp only[z2Va] at hb
  split at hb
  ·rename_i he;exact h.owW b _ he
  ·exact h.owW b m hb

theorem z7ub (hS:z3v K g w get a) (id i:Nat) (l1:Loc):z3v K (z2Va g (.cell id i) l1) w get a:=fun t=>z5qb (by simp) (hS t)

/-! ### Append in place -/
theorem z61c (h:Inv K base g w getB) {b n esz cap m:Nat} {l0:Loc} (hb:g.ow b=some l0) (hSb:g.S b=n*esz) (ht:w.there b (n*esz) (cap*esz-n*esz))
  (l1:Option Loc) (vs:List Value) (hvs:vs.length=m*esz) (hcap:n+m≤cap):
  z9d g.S w (z2Ya g b ((n+m)*esz) l1).S (w.setCells b (n*esz) vs)∧
  (∀l,l≠l0→z8f g w (z2Ya g b ((n+m)*esz) l1) (w.setCells b (n*esz) vs) l l)∧
  ((∀id i,l0≠ .cell id i)→Inv K base (z2Ya g b ((n+m)*esz) l1) (w.setCells b (n*esz) vs) getB):=by
 have hkeep:z9d g.S w (z2Ya g b ((n+m)*esz) l1).S (w.setCells b (n*esz) vs):=fun b' i x hi hc=>by
  simp only[z2Ya]
  by_cases he:b'=b
  ·subst he
   rw[if_pos rfl]
   rw[hSb] at hi
   have:n*esz≤(n+m)*esz:=Nat.mul_le_mul_right _ (by omega)
   refine⟨by omega,?_⟩
   rw[World.cell?_setCells_out b' vs (n*esz) w ⟨b',i,none⟩ (fun _ _=> .inl hi)]
   exact hc
  ·rw[if_neg he]
   refine⟨hi,?_⟩
   rw[World.cell?_setCells_out b vs (n*esz) w ⟨b',i,none⟩ (fun e=>absurd e he)]
   exact hc
 have hown:∀l,l≠l0→z8f g w (z2Ya g b ((n+m)*esz) l1) (w.setCells b (n*esz) vs) l l:=fun l hl b' hb'=>by
  have he:b'≠b:=fun e=>by subst e;rw[hb] at hb';cases hb';exact hl rfl
  simp only[z2Ya,if_neg he]
  exact⟨hb',trivial,fun o n ht=>World.there_setCells ht _ _ _⟩
 refine⟨hkeep,hown,fun hl0=> ?_⟩
 have hmu:∀id,g.mu id≠some b:=fun id e=>by have:=(h.muW id b e).2.2;rw[hb] at this;cases this
 refine⟨h.fr.trans (z3Wb w b _ vs (h.owW b l0 hb).1),fun b' hb' hw=> ?_,h.inj,fun id cs hc=> ?_,h.nobx,fun id b' hb'=> ?_,fun b' l hl=> ?_,fun n hn=>z4b.mono hkeep _ _ _ (h.glob n hn),h.kp.trans hkeep,fun j b' es ho hb' hc hd=>by
  have hne:∀k,k≠b→(w.setCells b (n*esz) vs).heap[k]? =w.heap[k]? :=fun k hk=>z1Ka b vs _ w k hk
  refine z9t.keep (h.obok j b' es ho hb' hc hd) (hne b' fun e=>hmu j (e▸hb')) fun k hk=> ?_
  have hkb:k≠b:=fun e=>by subst e;rw[hb] at hk;cases hk;exact hl0 j 1 rfl
  exact⟨by simp only[z2Ya,if_neg hkb];exact hk,hne k hkb⟩,h.old⟩
 ·have:b'≠b:=fun e=>by subst e;rcases(h.owW b' l0 hb).1 with h1|h1;omega;exact hw h1
  simp only[z2Ya,if_neg this]
  exact h.sS b' hb' hw
 ·obtain⟨b',h1,h2,h3⟩:=h.bxok id cs hc
  have hne:b'≠b:=fun e=>hmu id (e▸h1)
  refine⟨b',h1,by simp only[z2Ya,if_neg hne];exact h2,fun i d hi=> ?_⟩
  obtain⟨⟨x,h4,h5⟩,h6⟩:=h3 i d hi
  refine⟨⟨x,?_,?_⟩,by rw[World.frozen?_setCells];exact h6⟩
  ·rw[World.cell?_setCells_out b vs (n*esz) w ⟨b',i,none⟩ (fun e=>absurd e hne)]
   exact h4
  ·exact Rep.mono hkeep d x _ _ (fun _ _ _ h=>h) (fun m hm=>⟨m,hm,hown m (by cases hm;exact(hl0 id i).symm)⟩) h5
 ·obtain⟨h1,h2,h3⟩:=h.muW id b' hb'
  have hne:b'≠b:=fun e=>hmu id (e▸hb')
  exact⟨h1,by rw[z2Ia];exact h2,by simp only[z2Ya,if_neg hne];exact h3⟩
 ·simp only[z2Ya] at hl
  split at hl
  ·rename_i he;subst he;obtain⟨h1,h2⟩:=h.owW b' l0 hb;exact⟨h1,by rw[z2Ia];exact h2⟩
  ·obtain⟨h1,h2⟩:=h.owW b' l hl;exact⟨h1,by rw[z2Ia];exact h2⟩

/-! ### What a slice or a string holds -/

theorem z68c (l:List UInt8):z2b K.toCon g w (l.map fun c=> .lit (.int .u8 c.toNat)) (l.map fun c=>(.int .u8 c.toNat:Value)):=
 z2b.mk (by simp) fun i d v hd hv=>by
  rw[List.getElem?_map] at hd hv
  cases hl:l[i]? with
  |none=>simp[hl] at hd
  |some c=>simp only[hl,Option.map_some,Option.some.injEq] at hd hv;subst hd hv;simp[Rep]

theorem z1Rc (hI:Inv K base g w getB) {esz:Nat} {b:Option Nat} {d:z0a} {v:Value} (hok:okS esz b (bxc getB b) d) (hr:Rep K.toCon g w none d v):
  ∃vs,z2b K.toCon g w (z0c (bxl getB b) d) vs∧vs.length=z7e d*esz∧
   ((∃q:Option Addr,v= .slice q 0 0∧vs=[]∧z7e d=0)∨∃bk o cap,v= .slice (some ⟨bk,o,none⟩) (z7e d) cap∧z7e d≤cap∧w.rangeAt bk o vs):=by
 unfold okS at hok
 split at hok
 ·rename_i m nl n cs
  have hp:z9b K.toCon g.S w (.sl .plain nl n cs) v:=by
   cases m<;>simp only[Rep] at hr
   ·exact hr
   ·simp only[z9b] at hr⊢
    rcases hr with⟨b,o,cap,h1,h2,h3,h4,_⟩|h
    ·exact .inl ⟨b,o,cap,h1,h2,h3,h4,by simp⟩
    ·exact .inr h
   ·exact hr.1
  simp only[z9b] at hp
  rcases hp with⟨bk,o,cap,rfl,h1,h2,_⟩|⟨q,rfl,rfl,rfl,_⟩
  ·obtain⟨vs,k1,k2,_⟩:=h2.vals
   exact⟨vs,k2,by rw[←k2.len];exact hok,.inr ⟨bk,o,cap,rfl,h1,k1⟩⟩
  ·exact⟨[],by simp[z0c,z2b],by simp[z7e],.inl ⟨_,rfl,rfl,rfl⟩⟩
 ·rename_i id e off n c
  obtain⟨rfl,rfl,cs,hcs,hfit⟩:=hok
  simp only[bxc,Option.bind_some] at hcs
  simp only[Rep] at hr
  obtain⟨bk,cap,o,hb,rfl,h1,h2,h3⟩:=hr
  obtain⟨b',k1,k2,k3⟩:=hI.bxok id cs hcs
  rw[hb] at k1;cases k1
  have hbx:bxl getB (some id)=cs:=by simp[bxl,bxc,hcs]
  rw[hbx]
  let f:Nat→Value:=fun i=>(w.cell? ⟨bk,i,none⟩).getD undef
  have hcell:∀i d,cs[i]? =some d→w.cell? ⟨bk,i,none⟩=some (f i)∧Rep K.toCon g w none d (f i):=fun i d hd=>by
   obtain⟨⟨x,h4,h5⟩,_⟩:=k3 i d hd
   have hf:f i=x:=by simp only[f,h4,Option.getD_some]
   rw[hf]
   exact⟨h4,Rep.mono (z9d.refl _ _) d x _ _ (fun _ _ _ h=>h) (by simp) h5⟩
  refine⟨(List.range (n*e)).map fun j=>f (off+j),z2b.mk (by simp[z0c];omega) (fun i d v hd hv=> ?_),by simp[z7e],.inr ⟨bk,o,cap,rfl,h1,fun j v hv=> ?_⟩⟩
  ·simp only[z0c,List.getElem?_take,List.getElem?_drop] at hd
   split at hd
   ·rename_i hi
    rw[List.getElem?_map,List.getElem?_range hi] at hv
    simp only[Option.map_some,Option.some.injEq] at hv
    subst hv
    exact(hcell _ d hd).2
   ·cases hd
  ·have hj:j<n*e:=by have:=(List.getElem?_eq_some_iff.1 hv).1;simpa using this
   rw[List.getElem?_map,List.getElem?_range hj] at hv
   simp only[Option.map_some,Option.some.injEq] at hv
   subst hv
   rcases h3 with rfl|⟨rfl,_⟩
   ·have:=(hcell (o+j) (cs[o+j]'(by omega)) (List.getElem?_eq_getElem (by omega))).1
    exact this
   ·simp at hj
 ·simp only[Rep] at hr
  subst hr
  exact⟨[],by simp[z0c,z2b],by simp[z7e],.inl ⟨_,rfl,rfl,rfl⟩⟩
 ·cases hok

end
end Go.Abs
end

section
namespace Go.Abs

def z9Oa (P:Program) (t:TypeId) (n:Nat):Bool:=(P.info? t).map (·.size)==some n
def z1lb (P:Program) (t:TypeId) (f:TypeDesc→Bool):Bool:=match P.underlying t with|some d=>f d|none=>false
def z2Gc (k:IntKind):TypeDesc→Bool| .int k'=>decide (k=k')|_=>false
def z4Db:TypeDesc→Bool| .string=>true|_=>false
def z9Zc:TypeDesc→Bool| .slice _=>true|_=>false
def z8Mc (P:Program) (t:TypeId) (k:Option Nat):Bool:=
 match k with
 |none=>z1lb P t (fun d=> !d.isRow)&&z9Oa P t 1
 |some n=>z1lb P t (fun d=>d.isRow)&&z9Oa P t n

theorem z50b {P:Program} {t:TypeId} {n:Nat} (h:z9Oa P t n=true):(P.info? t).map (·.size)=some n:=by simpa[z9Oa] using h
theorem z91a {P:Program} {t:TypeId} {n:Nat} (h:z9Oa P t n=true):∃i,P.info? t=some i∧i.size=n:=by
 have:=z50b h
 cases hi:P.info? t with
 |none=>simp[hi] at this
 |some i=>simp[hi] at this;exact⟨i,rfl,this⟩
theorem z7ya {P:Program} {t:TypeId} {f:TypeDesc→Bool} (h:z1lb P t f=true):∃d,P.underlying t=some d∧f d=true:=by
 unfold z1lb at h
 split at h
 ·exact⟨_,by assumption,h⟩
 ·cases h
theorem run_sizeOf {P:Program} {t:TypeId} {n:Nat} (w:World) (h:z9Oa P t n=true):(sizeOf t).run P w= .ok n w:=by
 obtain⟨i,hi,rfl⟩:=z91a h
 simp[sizeOf,typeInfo,hi]
theorem z1hc {k:IntKind} {d:TypeDesc} (h:z2Gc k d=true):d= .int k:=by
 unfold z2Gc at h
 split at h
 ·simp only[decide_eq_true_eq] at h;rw[h]
 ·cases h
theorem z26a {d:TypeDesc} (h:z4Db d=true):d= .string:=by unfold z4Db at h;split at h;rfl;cases h
theorem z6ac {d:TypeDesc} (h:z9Zc d=true):∃e,d= .slice e:=by unfold z9Zc at h;split at h;exact⟨_,rfl⟩;cases h

section
variable {K : Cx} {base : z4f} {g g' : Gh} {w w' : World} {get : Nat → z0a} {getB : Nat → Option (List z0a)} {a : Act}

theorem z8q {l:Option Loc} {c:z0a} {x:Value} (h:Rep K.toCon g w l c x) (hc:z8a c):x.oneCell'=true:=by
 cases c with
 |undef=>simp[z8a] at hc
 |agg _=>simp[z8a] at hc
 |tup _=>simp[z8a] at hc
 |otup _ _ _ _ _=>simp[z8a] at hc
 |oagg _ _ _ _ _ _=>simp[z8a] at hc
 |lit v=>simp only[Rep] at h;subst h;cases x<;>simp_all [z8a,Value.oneCell']
 |sl m nl n cs=>
  have:(∃a n c,x= .slice a n c):=by
   cases m<;>simp only[Rep,z9b] at h
   ·rcases h with⟨b,o,cap,rfl,_⟩|⟨q,rfl,_⟩<;>exact⟨_,_,_,rfl⟩
   ·rcases h with⟨b,o,cap,rfl,_⟩|⟨q,rfl,_⟩<;>exact⟨_,_,_,rfl⟩
   ·rcases h.1 with⟨b,o,cap,rfl,_⟩|⟨q,rfl,_⟩<;>exact⟨_,_,_,rfl⟩
  obtain⟨_,_,_,rfl⟩:=this
  rfl
 |bp id off=>simp only[Rep] at h;obtain⟨b,_,rfl⟩:=h;rfl
 |bv id e off n c=>simp only[Rep] at h;obtain⟨b,cap,o,_,rfl,_⟩:=h;rfl
 |ep cs=>simp only[Rep,z9b] at h;obtain⟨b,o,rfl,_⟩:=h;rfl
 |fn f p q=>simp only[Rep] at h;obtain⟨x,y,rfl,_⟩:=h;rfl

theorem z7gb {l:Option Loc} {d:z0a} {v:Value} (h:Rep K.toCon g w l d v):Rep K.toCon g w none d v:=
 Rep.mono (z9d.refl _ _) d v l none (fun _ _ _ h=>h) (by simp) h

theorem z1wd {d:z0a} (h:z5b d=false):(∀e nl n cs,d≠ .sl (.own e) nl n cs)∧(∀e nl n cs r,d≠ .otup e nl n cs r)∧∀p e nl n cs r,d≠ .oagg p e nl n cs r:=⟨fun e nl n cs he=>by subst he;simp[z5b] at h,fun e nl n cs r he=>by subst he;simp[z5b] at h,fun p e nl n cs r he=>by subst he;simp[z5b] at h⟩
theorem z29a {d:z0a} {v:Value} (l:Option Loc) {l':Option Loc} (ho:z5b d=false) (h:Rep K.toCon g w l' d v):Rep K.toCon g w l d v:=Rep.loc l (z1wd ho) h

theorem z6kc {d:z0a} {v:Value} (h:Rep K.toCon g w none d v) (hc:∀c∈z4c d,z8a c):z2b K.toCon g w (z4c d) v.cells.toList∧∀x∈v.cells.toList,x.oneCell'=true:=by
 cases d with
 |agg cs=>
  simp only[Rep] at h
  obtain⟨a,rfl,h⟩:=h
  refine⟨h,fun x hx=> ?_⟩
  obtain⟨i,hi,rfl⟩:=List.mem_iff_getElem.1 hx
  have hlen:=h.len
  simp only[z4c,Value.cells] at hc hlen hi⊢
  obtain⟨y,hy,hr⟩:=h.get i cs[i] (List.getElem?_eq_getElem (by omega))
  rw[List.getElem?_eq_getElem hi] at hy
  cases hy
  exact z8q hr (hc _ (List.getElem_mem _))
 |_=>
  simp only[z4c,List.mem_singleton,forall_eq] at hc
  have h1:=z8q h hc
  have:v.cells= #[v]:=by cases v<;>simp_all [Value.cells,Value.oneCell']
  rw[this]
  exact⟨by simp only[z4c,z2b];exact⟨v,[],rfl,h,rfl⟩,by simpa using h1⟩

/-! ### Indexing and slicing -/

theorem z6tc {P:Program} (w:World) (k:IntKind) (n:Int):(asIntOf (.int k n)).run P w= .ok (k,n) w:=rfl

theorem z4Ua {P:Program} (w:World) {d:z0a} {v:Value} (hr:Rep K.toCon g w none d v) (hi:isI d) (y:Nat) (code:BoundsCode) (h0:0≤asI d) (h1:asI d≤y):
  (Instr.sliceBound v y code).run P w= .ok (asI d).toNat w:=by
 obtain⟨k,_,rfl⟩:=z1kb hr hi
 simp[Instr.sliceBound,z6tc,h0,h1]

def z7tb (K:Cx):Option Operand→Option Arg→Bool
 |none,none=>true
 |some x,some y=>z7wa K x y
 |_,_=>false

def mxv (E:Env) (get:Nat→z0a) (mx:Option Arg) (n cap:Nat):Nat:=match mx with|some _=>bnd E get mx n|none=>cap

theorem z4Ab (hI:Inv K base g w getB) (hS:z3v K g w get a) {lo hi mx:Option Operand} {lo' hi' mx':Option Arg} (h1:z7tb K lo lo'=true) (h2:z7tb K hi hi'=true) (h3:z7tb K mx mx'=true)
  (isSlice:Bool) (len cap:Nat) (hlc:len≤cap) (capm:Nat) (hcm:capm≤cap) (hmh:mx'.isSome=true→hi'.isSome=true)
  (k3:z2g K.E get mx' capm) (k2:z2g K.E get hi' (mxv K.E get mx' capm cap)) (k1:z2g K.E get lo' (bnd K.E get hi' len)):
  (Instr.sliceBounds isSlice len cap (lo.map a.eval) (hi.map a.eval) (mx.map a.eval)).run K.P w=
   .ok (bnd K.E get lo' 0,bnd K.E get hi' len,mxv K.E get mx' capm cap) w:=by
 unfold mxv at k2⊢
 cases lo'<;>cases hi'<;>cases mx'<;>cases lo<;>cases hi<;>cases mx<;>simp only[z7tb,Bool.false_eq_true] at h1 h2 h3<;>simp at hmh<;>
  simp only[z2g,bnd] at k1 k2 k3<;>simp only[Instr.sliceBounds,Option.map_some,Option.map_none,Sem.run_bind,Sem.run_pure,Result.andThen_ok,bnd]
 all_goals first
  |rfl
  |(rw[z4Ua w (z3qa hI hS h3) k3.1 _ _ k3.2.1 (by have:=k3.2.2;omega)];simp only[Result.andThen_ok];rw[z4Ua w (z3qa hI hS h2) k2.1 _ _ k2.2.1 k2.2.2];simp only[Result.andThen_ok,Sem.run_pure];rw[z4Ua w (z3qa hI hS h1) k1.1 _ _ k1.2.1 k1.2.2];simp only[Result.andThen_ok,Sem.run_pure])
  |(rw[z4Ua w (z3qa hI hS h3) k3.1 _ _ k3.2.1 (by have:=k3.2.2;omega)];simp only[Result.andThen_ok];rw[z4Ua w (z3qa hI hS h2) k2.1 _ _ k2.2.1 k2.2.2];simp only[Result.andThen_ok,Sem.run_pure])
  |(rw[z4Ua w (z3qa hI hS h2) k2.1 _ _ k2.2.1 k2.2.2];simp only[Result.andThen_ok,Sem.run_pure];rw[z4Ua w (z3qa hI hS h1) k1.1 _ _ k1.2.1 k1.2.2];simp only[Result.andThen_ok,Sem.run_pure])
  |(rw[z4Ua w (z3qa hI hS h2) k2.1 _ _ k2.2.1 k2.2.2];simp only[Result.andThen_ok,Sem.run_pure])
  |(rw[z4Ua w (z3qa hI hS h1) k1.1 _ _ k1.2.1 k1.2.2];simp only[Result.andThen_ok,Sem.run_pure])

end
end Go.Abs
end

section
namespace Go.Abs

inductive LV where
 |i (n:Int)
 |b (x:Bool)
 |s (l:List UInt8)
 |no
 deriving DecidableEq
def z5gb:Value→LV
 | .int _ n=> .i n
 | .bool x=> .b x
 | .string t=> .s t.data.toList
 |_=> .no
def z9Od:LK→Value→Bool
 | .int k,.int k' _=>decide (k=k')
 | .bool,.bool _=>true
 | .str,.string _=>true
 |_,_=>false
def z6Ja:List LK→List Value→Bool
 |[],[]=>true
 |k::ks,v::vs=>z9Od k v&&z6Ja ks vs
 |_,_=>false

theorem z6bb:∀{ks:List LK} {vs:List Value},z6Ja ks vs=true→ks.length=vs.length
 |[],[],_=>rfl
 |[],_::_,h=>by simp[z6Ja] at h
 |_::_,[],h=>by simp[z6Ja] at h
 |k::ks,v::vs,h=>by simp only[z6Ja,Bool.and_eq_true] at h;simp[z6bb h.2]
theorem z8Xa:∀{ks ks':List LK} {vs:List Value},z6Ja (ks++ks') vs=true→z6Ja ks (vs.take ks.length)=true∧z6Ja ks' (vs.drop ks.length)=true
 |[],ks',vs,h=>by simpa[z6Ja] using h
 |k::ks,ks',[],h=>by simp[z6Ja] at h
 |k::ks,ks',v::vs,h=>by
  simp only[List.cons_append,z6Ja,Bool.and_eq_true] at h
  obtain⟨h1,h2⟩:=z8Xa h.2
  simp[z6Ja,h.1,h1,h2]

theorem z3Xb {k:IntKind} {xs:List Value} (h:z6Ja [.int k] xs=true):∃p,xs=[.int k p]:=by
 cases xs with
 |nil=>simp[z6Ja] at h
 |cons v vs=>
  cases vs with
  |cons _ _=>simp[z6Ja] at h
  |nil=>
   cases v<;>simp[z6Ja,z9Od] at h
   subst h
   exact⟨_,rfl⟩

def z6rb (f:TypeId→Option (List LK)) (P:Program):Nat→List Field→Option (List LK)
 |_,[]=>some []
 |off,x::xs=>
  if x.name != "_" &&x.offset==off then
   match f x.type,z6rb f P (off+P.cellsOf x.type) xs with
   |some ks,some r=>if ks.length==P.cellsOf x.type then some (ks++r) else none
   |_,_=>none
  else none
def z1Ub (P:Program):Nat→TypeId→Option (List LK)
 |0,_=>none
 |d+1,t=>
  if(P.info? t).isSome then
   match P.underlying t with
   |some .bool=>some [.bool]
   |some (.int k)=>some [.int k]
   |some .string=>some [.str]
   |some (.array n e)=>
    (match z1Ub P d e with
     |some ks=>if ks.length==P.cellsOf e&&(P.info? e).isSome then some (List.replicate n ks).flatten else none
     |none=>none)
   |some (.struct fs)=>if P.stoodInHeld t then none else z6rb (z1Ub P d) P 0 fs.toList
   |_=>none
  else none

def mkv (P:Program) (t:TypeId) (xs:List Value):Value:=
 match P.underlying t with
 |some (.array _ _)|some (.struct _)=> .agg xs.toArray
 |_=>xs.headD undef

def EqF (P:Program) (dd:Nat) (t:TypeId) (ks:List LK):Prop:=
 ∀(w:World) (xs ys:List Value),z6Ja ks xs=true→z6Ja ks ys=true→(Op.equalIn dd t (mkv P t xs) (mkv P t ys)).run P w= .ok (decide (xs.map z5gb=ys.map z5gb)) w

theorem z9ab {P:Program} (w:World) {d:Nat} {e:TypeId} {ks:List LK} (hf:z1Ub P d e=some ks) (hl:ks.length=P.cellsOf e) {xs:Array Value} {off:Nat}
  (hm:z6Ja ks ((xs.toList.drop off).take ks.length)=true):(part e xs off).run P w= .ok (mkv P e ((xs.toList.drop off).take ks.length)) w:=by
 cases d with
 |zero=>simp[z1Ub] at hf
 |succ d=>
  unfold z1Ub at hf
  split at hf
  ·rename_i hi
   obtain⟨i,hi⟩:=Option.isSome_iff_exists.1 hi
   have hex:(xs.extract off (off+P.cellsOf e))=((xs.toList.drop off).take ks.length).toArray:=by
    apply Array.ext'
    rw[Array.toList_extract]
    simp[List.extract,hl]
   have single:ks.length=1→∃v,xs[off]? =some v∧(xs.toList.drop off).take ks.length=[v]:=fun h1=>by
    have:=z6bb hm
    rw[h1] at this⊢
    cases hd:xs.toList.drop off with
    |nil=>rw[hd] at this;simp at this
    |cons v r=>
     refine⟨v,?_,by simp⟩
     have:(xs.toList.drop off)[0]? =some v:=by rw[hd];rfl
     rw[List.getElem?_drop] at this
     simpa using this
   cases hu:P.underlying e with
   |none=>simp[hu] at hf
   |some D=>
    cases D<;>simp only[hu,Option.some.injEq,reduceCtorEq] at hf
    case bool=>
     obtain⟨v,h1,h2⟩:=single (by simp[←hf])
     simp[part,isAgg,run_underlying hu,h1,mkv,hu,h2]
    case int=>
     obtain⟨v,h1,h2⟩:=single (by simp[←hf])
     simp[part,isAgg,run_underlying hu,h1,mkv,hu,h2]
    case string=>
     obtain⟨v,h1,h2⟩:=single (by simp[←hf])
     simp[part,isAgg,run_underlying hu,h1,mkv,hu,h2]
    case array n e'=>simp[part,isAgg,run_underlying hu,Go.run_sizeOf w hi,mkv,hu,hex]
    case struct fs=>simp[part,isAgg,run_underlying hu,Go.run_sizeOf w hi,mkv,hu,hex]
  ·cases hf

theorem z0Eb {xs ys:List Value} (k:Nat):(xs.map z5gb=ys.map z5gb)↔((xs.take k).map z5gb=(ys.take k).map z5gb∧(xs.drop k).map z5gb=(ys.drop k).map z5gb):=by
 constructor
 ·intro h
  rw[List.map_take,List.map_take,List.map_drop,List.map_drop,h]
  exact⟨rfl,rfl⟩
 ·intro⟨h1,h2⟩
  rw[←List.take_append_drop k xs,←List.take_append_drop k ys,List.map_append,List.map_append,h1,h2]

theorem z2Eb {P:Program} {dd d:Nat} {e:TypeId} {ks:List LK} (hf:z1Ub P d e=some ks) (hl:ks.length=P.cellsOf e) (IH:EqF P dd e ks) (xs ys:Array Value) (w:World):
  ∀(n s:Nat),z6Ja (List.replicate n ks).flatten ((xs.toList.drop (s*ks.length)))=true→z6Ja (List.replicate n ks).flatten ((ys.toList.drop (s*ks.length)))=true→
   (Op.eqItems dd e (P.cellsOf e) xs ys (List.range' s n)).run P w= .ok (decide ((xs.toList.drop (s*ks.length)).map z5gb=(ys.toList.drop (s*ks.length)).map z5gb)) w
 |0,s,hx,hy=>by
  have h1:=z6bb hx
  have h2:=z6bb hy
  simp only[List.replicate_zero,List.flatten_nil,List.length_nil] at h1 h2
  have e1:=List.eq_nil_of_length_eq_zero h1.symm
  have e2:=List.eq_nil_of_length_eq_zero h2.symm
  rw[e1,e2]
  simp[Op.eqItems]
 |n+1,s,hx,hy=>by
  simp only[List.replicate_succ,List.flatten_cons] at hx hy
  obtain⟨x1,x2⟩:=z8Xa hx
  obtain⟨y1,y2⟩:=z8Xa hy
  have p1:=z9ab w hf hl x1
  have p2:=z9ab w hf hl y1
  have p3:=IH w _ _ x1 y1
  rw[List.drop_drop,show s*ks.length+ks.length=(s+1)*ks.length by rw[Nat.add_mul,Nat.one_mul]] at x2 y2
  have ih:=z2Eb hf hl IH xs ys w n (s+1) x2 y2
  rw[List.range'_succ]
  rw[←hl] at ih⊢
  simp only[Op.eqItems,Sem.run_bind,p1,p2,p3,Result.andThen_ok]
  have hsp:=z0Eb (xs:=xs.toList.drop (s*ks.length)) (ys:=ys.toList.drop (s*ks.length)) ks.length
  rw[List.drop_drop,List.drop_drop,show s*ks.length+ks.length=(s+1)*ks.length by rw[Nat.add_mul,Nat.one_mul]] at hsp
  by_cases hh:(List.map z5gb (List.take ks.length (List.drop (s*ks.length) xs.toList))=List.map z5gb (List.take ks.length (List.drop (s*ks.length) ys.toList)))
  ·simp only[hh,decide_true,Bool.not_true,Bool.false_eq_true,if_false,Sem.run_ite,ih]
   congr 1
   rw[decide_eq_decide,hsp]
   exact⟨fun h=>⟨hh,h⟩,fun h=>h.2⟩
  ·simp only[hh,decide_false,Bool.not_false,if_true,Sem.run_ite,Sem.run_pure]
   congr 1
   symm
   rw[decide_eq_false_iff_not,hsp]
   exact fun h=>hh h.1

theorem z5yb {P:Program} {dd d:Nat} (IH:∀t ks,z1Ub P d t=some ks→EqF P dd t ks) (xs ys:Array Value) (w:World):
  ∀(fs:List Field) (off:Nat) (ks:List LK),z6rb (z1Ub P d) P off fs=some ks→z6Ja ks (xs.toList.drop off)=true→z6Ja ks (ys.toList.drop off)=true→
   (Op.eqFields dd xs ys fs).run P w= .ok (decide ((xs.toList.drop off).map z5gb=(ys.toList.drop off).map z5gb)) w
 |[],off,ks,hf,hx,hy=>by
  simp only[z6rb,Option.some.injEq] at hf
  subst hf
  have h1:=z6bb hx
  have h2:=z6bb hy
  simp only[List.length_nil] at h1 h2
  have e1:=List.eq_nil_of_length_eq_zero h1.symm
  have e2:=List.eq_nil_of_length_eq_zero h2.symm
  rw[e1,e2]
  simp[Op.eqFields]
 |f::fs,off,ks,hf,hx,hy=>by
  unfold z6rb at hf
  split at hf
  ·rename_i hn
   simp only[Bool.and_eq_true,bne_iff_ne,ne_eq,beq_iff_eq] at hn
   obtain⟨hn,ho⟩:=hn
   split at hf
   ·rename_i k1 k2 h1 h2
    split at hf
    ·rename_i hl
     simp only[beq_iff_eq] at hl
     simp only[Option.some.injEq] at hf
     subst hf
     obtain⟨x1,x2⟩:=z8Xa hx
     obtain⟨y1,y2⟩:=z8Xa hy
     have p1:=z9ab w h1 hl x1
     have p2:=z9ab w h1 hl y1
     have p3:=IH _ _ h1 w _ _ x1 y1
     rw[List.drop_drop,hl] at x2 y2
     have ih:=z5yb IH xs ys w fs _ _ h2 x2 y2
     simp only[Op.eqFields,hn,ne_eq,not_false_eq_true,if_true,Sem.run_bind,ho,p1,p2,p3,Result.andThen_ok]
     have hsp:=z0Eb (xs:=xs.toList.drop off) (ys:=ys.toList.drop off) k1.length
     rw[List.drop_drop,List.drop_drop] at hsp
     by_cases hh:(List.map z5gb (List.take k1.length (List.drop off xs.toList))=List.map z5gb (List.take k1.length (List.drop off ys.toList)))
     ·simp only[hh,decide_true,Bool.not_true,Bool.false_eq_true,if_false,Sem.run_ite,ih]
      congr 1
      rw[decide_eq_decide,hsp,hl]
      exact⟨fun h=>⟨by rw[←hl];exact hh,h⟩,fun h=>h.2⟩
     ·simp only[hh,decide_false,Bool.not_false,if_true,Sem.run_ite,Sem.run_pure]
      congr 1
      symm
      rw[decide_eq_false_iff_not,hsp]
      exact fun h=>hh h.1
    ·cases hf
   ·cases hf
  ·cases hf

theorem z9lb {P:Program} (dd:Nat):∀(d:Nat) (t:TypeId) (ks:List LK),z1Ub P d t=some ks→EqF P (dd+d) t ks
 |0,_,_,h=>by simp[z1Ub] at h
 |d+1,t,ks,hf=>by
  intro w xs ys hx hy
  unfold z1Ub at hf
  split at hf
  ·rename_i hi
   obtain⟨i,hi⟩:=Option.isSome_iff_exists.1 hi
   cases hu:P.underlying t with
   |none=>simp[hu] at hf
   |some D=>
    cases D<;>simp only[hu,Option.some.injEq,reduceCtorEq] at hf
    case bool=>
     subst hf
     match xs,ys,hx,hy with
     |[.bool p],[.bool q],_,_=>
      rw[show dd+(d+1)=(dd+d)+1 from rfl]
      simp only[mkv,hu,List.headD_cons]
      rw[run_equalIn_bool w (dd+d) t p q hu]
      simp[z5gb];exact Bool.eq_iff_iff.2 (by simp)
    case int k=>
     subst hf
     obtain⟨p,rfl⟩:=z3Xb hx
     obtain⟨q,rfl⟩:=z3Xb hy
     rw[show dd+(d+1)=(dd+d)+1 from rfl]
     simp only[mkv,hu,List.headD_cons]
     rw[run_equalIn_int w (dd+d) t k k p q hu]
     simp[z5gb];exact Bool.eq_iff_iff.2 (by simp)
    case string=>
     subst hf
     match xs,ys,hx,hy with
     |[.string p],[.string q],_,_=>
      rw[show dd+(d+1)=(dd+d)+1 from rfl]
      simp only[mkv,hu,List.headD_cons]
      rw[run_equalIn_string w (dd+d) t p q hu]
      simp only[ByteArray.toList_eq,z5gb,List.map_cons,List.map_nil]
      congr 1
      exact Bool.eq_iff_iff.2 (by simp)
    case array n e=>
     split at hf
     ·rename_i k1 h1
      split at hf
      ·rename_i hl
       simp only[Bool.and_eq_true,beq_iff_eq] at hl
       obtain⟨hl,hie⟩:=hl
       obtain⟨ie,hie⟩:=Option.isSome_iff_exists.1 hie
       simp only[Option.some.injEq] at hf
       subst hf
       have IH:=z9lb dd d e k1 h1
       rw[show dd+(d+1)=(dd+d)+1 from rfl]
       simp only[mkv,hu]
       rw[run_equalIn_array w (dd+d) _ _ hu hie,List.range_eq_range']
       have:=z2Eb h1 hl IH xs.toArray ys.toArray w n 0 (by simpa using hx) (by simpa using hy)
       simpa using this
      ·cases hf
     ·cases hf
    case struct fs=>
     split at hf
     ·cases hf
     ·rename_i hst
      have hfs:P.fieldsOf t=fs:=by simp[Program.fieldsOf,hu]
      rw[show dd+(d+1)=(dd+d)+1 from rfl]
      simp only[mkv,hu]
      rw[run_equalIn_struct w (dd+d) t _ _ (by rw[hfs];exact hu) (by simpa using hst),hfs]
      have:=z5yb (z9lb dd d) xs.toArray ys.toArray w fs.toList 0 ks hf (by simpa using hx) (by simpa using hy)
      simpa using this
  ·cases hf

end Go.Abs
end
