/- Lemmas: an abstract interpreter, and what the functions compute. -/
import Derived.Test.YtkccmbjmlpnejaaDoorA
import Derived.WalkSpells
import Derived.Laws.Cover3
import Derived.Laws.MakeOwn
set_option linter.unusedSimpArgs false
set_option linter.unusedVariables false
set_option linter.unusedSectionVars false
section
namespace Go.Abs

def z3K (K:Cx) (base:z1P) (a:Act) (get:Nat→z2a) (getB:Nat→Option (List z2a)) (d:Option Nat) (o:Oper) (x:AOp) (w:World):Prop:=
 ∃r v w',(execOp a.eval o).run K.P w= .ok r w'∧(r= .value v∨(r= .skip∧v=undef))∧z3Oa K base a get getB d (eff K.E get getB x) v w'

section
variable {K : Cx} {base : z1P} {g g' : Gh} {w w' : World} {get : Nat → z2a} {getB : Nat → Option (List z2a)} {a : Act} {o : Oper} {d : Option Nat}

theorem z1c {x:AOp} {c:z2a} {v:Value} (hI:Inv K base g w getB) (hS:z5e K g w get a) (he:eff K.E get getB x={val:=c}) (hr:(execOp a.eval o).run K.P w= .ok (.value v) w) (hc:Rep K.toCon g w (d.map .slot) c v):
  z3K K base a get getB d o x w:=⟨_,v,w,hr,.inl rfl,by rw[he];exact z2lb hI hS hc⟩

/-! ### moves -/
def z3Xb (K:Cx) (op:Op) (y:Arg):Bool:=match op with| .move x=>z5j K x y| .assign x=>z5j K x y|_=>false

theorem z6L {x:Operand} {n:Nat} (h:z5j K x (.s n)=true):x= .tmp n:=by
 unfold z5j at h
 split at h
 ·rename_i h1;cases h1;simp only[beq_iff_eq] at h;rw[h]
 ·rename_i h1;cases h1
 ·rename_i h1;cases h1
 ·rename_i h1;cases h1
 ·cases h

theorem z8R (hI:Inv K base g w getB) (hS:z5e K g w get a) (n:Nat) (l:Option Loc):
  ∃g',Inv K base g' w getB∧z5e K g' w (upd get [(n,dem (get n))]) a∧Rep K.toCon g' w l (get n) (a.eval (.tmp n))∧(∀id b,g.mu id=some b→g'.mu id=some b)∧g'.S=g.S∧g'.mu=g.mu:=by
 cases l with
 |none=>
  refine⟨g,hI,fun s=> ?_,z9aa (z5ga hS n),fun _ _ h=>h,rfl,rfl⟩
  simp only[upd,lk]
  by_cases hs:s=n
  ·subst hs;simp only[if_true,Option.getD_some];exact Rep.dem _ (hS s)
  ·simp only[if_neg hs,Option.getD_none];exact hS s
 |some l1=>exact⟨z7G g (.slot n) l1,z8Y hI n l1,z6Wa hS n l1,z3q (z5ga hS n),fun _ _ h=>h,rfl,rfl⟩

theorem z0Zb (hI:Inv K base g w getB) (hS:z5e K g w get a) {y:Arg} (take:Bool) (h:z3Xb K o.op y=true):z3K K base a get getB d o (.mv take y) w:=by
 have hrun:∃x,z5j K x y=true∧(execOp a.eval o).run K.P w= .ok (.value (a.eval x)) w:=by
  unfold z3Xb at h
  split at h
  ·rename_i x ho;exact⟨x,h,by simp[execOp,ho]⟩
  ·rename_i x ho;exact⟨x,h,by simp[execOp,ho]⟩
  ·cases h
 obtain⟨x,hx,hrun⟩:=hrun
 have plain:z3K K base a get getB d o (.mv false y) w:=z1c hI hS (c:=dem (arg K.E get y)) (by cases y<;>rfl) hrun (Rep.dem _ (z8b hI hS hx))
 cases take with
 |false=>exact plain
 |true=>
  cases y with
  |c e=>
   refine z1c hI hS (c:=e) rfl hrun ?_
   unfold z5j at hx
   split at hx
   ·rename_i h1;cases h1
   ·rename_i v e' h1
    cases h1
    exact z7ba _ _ _ hx
   ·rename_i h1;cases h1
   ·rename_i f n h1
    cases h1
    exact z5T _ rfl (z8b (x:= .func f) (y:= .c (.fn n [] [])) hI hS (by simpa[z5j] using hx))
   ·cases hx
  |g _=>exact plain
  |s n=>
   have:=z6L hx
   subst this
   obtain⟨g',h1,h2,h3,_⟩:=z8R hI hS n (d.map .slot)
   exact⟨_,_,w,hrun,.inl rfl,g',h1,h2,h3⟩

def z8Ra (K:Cx) (op:Op) (c x y:Arg):Bool:=match op with| .pick c' x' y'=>z5j K c' c&&z5j K x' x&&z5j K y' y|_=>false
theorem z7db (hI:Inv K base g w getB) (hS:z5e K g w get a) {c x y:Arg} (h:z8Ra K o.op c x y=true) (hok:okp K.E get getB (.pick c x y)):z3K K base a get getB d o (.pick c x y) w:=by
 unfold z8Ra at h
 split at h
 ·rename_i c' x' y' ho
  simp only[Bool.and_eq_true] at h
  obtain⟨⟨hc,hx⟩,hy⟩:=h
  obtain⟨_,hcv⟩:=z2ha (z8b hI hS hc) hok
  refine z1c (v:=if asB (arg K.E get c) then a.eval x' else a.eval y') hI hS rfl ?_ ?_
  ·simp only[execOp,ho,hcv,asBool]
   rfl
  ·split
   ·exact Rep.dem _ (z8b hI hS hx)
   ·exact Rep.dem _ (z8b hI hS hy)
 ·cases h

/-! ### arithmetic -/
def z1kb (K:Cx) (op:Op) (bo:BinOp) (x y:Arg):Bool:=match op with| .binOp bo' _ x' y' _=>decide (bo=bo')&&z5j K x' x&&z5j K y' y|_=>false
theorem z2sb (hI:Inv K base g w getB) (hS:z5e K g w get a) {bo:BinOp} {x y:Arg} (h:z1kb K o.op bo x y=true) (hok:okp K.E get getB (.bin bo x y)):z3K K base a get getB d o (.bin bo x y) w:=by
 unfold z1kb at h
 split at h
 ·rename_i bo' t x' y' _ ho
  simp only[Bool.and_eq_true,decide_eq_true_eq] at h
  obtain⟨⟨rfl,hx⟩,hy⟩:=h
  obtain⟨⟨u,hu⟩,⟨v,hv⟩⟩:=z6cb hok
  have e1:=z3Ca (z8b hI hS hx) hu
  have e2:=z3Ca (z8b hI hS hy) hv
  obtain⟨h1,h2⟩:=z1Sb (P:=K.P) w bo t x' y' hu hv hok
  refine z1c hI hS (c:=z4G bo (arg K.E get x) (arg K.E get y)) (v:=asV (z4G bo (arg K.E get x) (arg K.E get y))) rfl ?_ (by rw[h2];exact z8r _ _)
  simp only[execOp,ho,e1,e2]
  rw[Sem.run_bind,h1]
  rfl
 ·cases h

def z1Xb (K:Cx) (op:Op) (uo:UnOp) (x:Arg):Bool:=match op with| .unOp uo' _ x'=>decide (uo=uo')&&z5j K x' x|_=>false
theorem z4Tb (hI:Inv K base g w getB) (hS:z5e K g w get a) {uo:UnOp} {x:Arg} (h:z1Xb K o.op uo x=true) (hok:okp K.E get getB (.un uo x)):z3K K base a get getB d o (.un uo x) w:=by
 unfold z1Xb at h
 split at h
 ·rename_i uo' t x' ho
  simp only[Bool.and_eq_true,decide_eq_true_eq] at h
  obtain⟨rfl,hx⟩:=h
  obtain⟨u,hu⟩:=z0Cb hok
  have e1:=z3Ca (z8b hI hS hx) hu
  obtain⟨h1,h2⟩:=z1qc (P:=K.P) w uo hu hok
  refine z1c hI hS (c:=unV uo (arg K.E get x)) (v:=asV (unV uo (arg K.E get x))) rfl ?_ (by rw[h2];exact z8r _ _)
  simp only[execOp,ho,e1,Sem.run_bind,h1,Result.andThen_ok,Sem.run_pure]
 ·cases h

def z3ec (neg:Bool) (bo:BinOp):Bool:=match bo with| .eql=> !neg| .neq=>neg|_=>false
theorem z9Fa {P:Program} (w:World) {neg:Bool} {bo:BinOp} (hb:z3ec neg bo=true) (t:TypeId) (x y:Operand) {u v:Value} {r:Bool} (hg:(eqGuard bo t x y u v).run P w= .ok () w)
  (hq:(binOp .eql t u v)=(do pure (.bool (←Op.equal t u v)))∧(binOp .neq t u v)=(do pure (.bool (!(←Op.equal t u v))))) (hr:(Op.equal t u v).run P w= .ok r w):
  ((do eqGuard bo t x y u v;binOp bo t u v):Sem Value).run P w= .ok (.bool (r !=neg)) w:=by
 rw[Sem.run_bind,hg]
 cases bo<;>simp only[z3ec,Bool.false_eq_true] at hb
 ·simp only[Bool.not_eq_true'] at hb
  subst hb
  simp only[Result.andThen_ok,hq.1,Sem.run_bind,hr,Sem.run_pure]
  cases r<;>rfl
 ·subst hb
  simp only[Result.andThen_ok,hq.2,Sem.run_bind,hr,Sem.run_pure]
  cases r<;>rfl

def z0pb (K:Cx) (op:Op) (neg:Bool) (x y:Arg):Bool:=match op with| .binOp bo t x' y' _=>z3ec neg bo&&z3Y K.P t z3Ta&&z5j K x' x&&z5j K y' y|_=>false
theorem z1Hb (hI:Inv K base g w getB) (hS:z5e K g w get a) {neg:Bool} {x y:Arg} (h:z0pb K o.op neg x y=true) (hok:okp K.E get getB (.eqb neg x y)):z3K K base a get getB d o (.eqb neg x y) w:=by
 unfold z0pb at h
 split at h
 ·rename_i bo t x' y' _ ho
  simp only[Bool.and_eq_true] at h
  obtain⟨⟨⟨hb,ht⟩,hx⟩,hy⟩:=h
  obtain⟨D,hu,hD⟩:=z7k ht
  have:=z38a hD
  subst this
  obtain⟨_,e1⟩:=z2ha (z8b hI hS hx) hok.1
  obtain⟨_,e2⟩:=z2ha (z8b hI hS hy) hok.2
  refine z1c hI hS rfl (v:= .bool ((asB (arg K.E get x)==asB (arg K.E get y)) !=neg)) ?_ (z8r _ _)
  simp only[execOp,ho,e1,e2]
  rw[Sem.run_bind,z9Fa w hb t x' y' (z8x w bo t x' y' trivial) ⟨rfl,rfl⟩ (run_equal_bool w t _ _ hu)]
  rfl
 ·cases h

theorem z6da:∀{ks:List LK} {cs:List z2a} {vs:List Value},z1e K.toCon g w cs vs→z3A ks cs→z0u ks vs=true∧∀{cs':List z2a} {vs':List Value},z1e K.toCon g w cs' vs'→z3A ks cs'→decide (vs.map z5U=vs'.map z5U)=z6P ks cs cs'
 |[],[],vs,h,_=>by
  simp only[z1e] at h;subst h
  refine⟨rfl,fun {cs' vs'} h' hk=> ?_⟩
  cases cs' with
  |nil=>simp only[z1e] at h';subst h';simp[z6P]
  |cons _ _=>simp[z3A] at hk
 |[],_::_,_,_,h=>by simp[z3A] at h
 |_::_,[],_,_,h=>by simp[z3A] at h
 |k::ks,c::cs,vs,h,hk=>by
  simp only[z1e] at h
  obtain⟨x,xs,rfl,h1,h2⟩:=h
  simp only[z3A] at hk
  obtain⟨hm,hrest⟩:=z6da h2 hk.2
  have one:∀{c:z2a} {x:Value},Rep K.toCon g w none c x→z6Rc k c→z7hc k x=true∧(c= .lit x):=fun {c x} hr ho=>by
   cases k<;>(unfold z6Rc at ho;split at ho<;>simp_all)<;>(simp only[Rep] at hr;subst hr;simp_all [z7hc])
  obtain⟨o1,e1⟩:=one h1 hk.1
  refine⟨by simp[z0u,o1,hm],fun {cs' vs'} h' hk'=> ?_⟩
  cases cs' with
  |nil=>simp[z3A] at hk'
  |cons c' cs'=>
   simp only[z1e] at h'
   obtain⟨x',xs',rfl,h1',h2'⟩:=h'
   simp only[z3A] at hk'
   obtain⟨o1',e1'⟩:=one h1' hk'.1
   have:=hrest h2' hk'.2
   simp only[List.map_cons,List.cons.injEq,Bool.decide_and,z6P,this]
   congr 1
   rw[e1,e1']
   cases k<;>cases x<;>simp[z7hc] at o1<;>cases x'<;>simp[z7hc] at o1'<;>simp[z5U,z5Kc,asI,asB,asS]<;>exact Bool.eq_iff_iff.2 (by simp)

def z8fb (K:Cx) (op:Op) (ks:List LK) (neg:Bool) (x y:Arg):Bool:=
 match op with
 | .binOp bo t x' y' _=>z3ec neg bo&&z3Y K.P t (fun D=>D.isRow)&&decide (z0oa K.P 9 t=some ks)&& !(K.P.eqGuardType K.P.depth t)&&z5j K x' x&&z5j K y' y
 |_=>false
theorem z2Ib (hI:Inv K base g w getB) (hS:z5e K g w get a) {ks:List LK} {neg:Bool} {x y:Arg} (h:z8fb K o.op ks neg x y=true) (hok:okp K.E get getB (.eqF ks neg x y)):z3K K base a get getB d o (.eqF ks neg x y) w:=by
 unfold z8fb at h
 split at h
 ·rename_i bo t x' y' _ ho
  simp only[Bool.and_eq_true,decide_eq_true_eq,Bool.not_eq_true'] at h
  obtain⟨⟨⟨⟨⟨hb,ht⟩,hf⟩,hgd⟩,hx⟩,hy⟩:=h
  have rx:=z8b hI hS hx
  have ry:=z8b hI hS hy
  simp only[okp] at hok
  split at hok
  ·rename_i xs ys ex ey
   rw[ex] at rx
   rw[ey] at ry
   simp only[Rep] at rx ry
   obtain⟨ax,vx,rx⟩:=rx
   obtain⟨ay,vy,ry⟩:=ry
   obtain⟨m1,hd⟩:=z6da rx hok.1
   obtain⟨m2,_⟩:=z6da ry hok.2
   obtain⟨D,hu,hD⟩:=z7k ht
   have hmk:∀l:Array Value,mkv K.P t l.toList= .agg l:=fun l=>by
    unfold mkv
    rw[hu]
    cases D<;>simp[TypeDesc.isRow] at hD<;>simp
   have hq:=z2Y (P:=K.P) 9991 9 t ks hf w ax.toList ay.toList m1 m2
   rw[hmk,hmk,hd ry hok.2] at hq
   refine z1c hI hS (c:= .lit (.bool (z6P ks xs ys !=neg))) (v:= .bool (z6P ks xs ys !=neg)) (by simp[eff,ex,ey,z3s]) ?_ (z8r _ _)
   simp only[execOp,ho,vx,vy]
   have hgu:(eqGuard bo t x' y' (.agg ax) (.agg ay)).run K.P w= .ok () w:=by
    cases bo<;>simp[z3ec] at hb<;>simp[eqGuard,hgd]
   rw[Sem.run_bind,z9Fa w hb t x' y' hgu ⟨rfl,rfl⟩ (show(Op.equal t (.agg ax) (.agg ay)).run K.P w=_ from hq)]
   rfl
  ·cases hok
 ·cases h

def z2Ba (K:Cx) (op:Op) (neg:Bool) (x y:Arg):Bool:=match op with| .binOp bo t x' y' _=>z3ec neg bo&&z3Y K.P t z3kb&&z5j K x' x&&z5j K y' y|_=>false
theorem z1Nb {l:Option Loc} {m:z0ea} {b:Bool} {n:Nat} {cs:List z2a} {v:Value} (h:Rep K.toCon g w l (.sl m (some b) n cs) v):∃a k c,v= .slice a k c∧a.isNone=b:=by
 have:z7c K.toCon g.S w (.sl .plain (some b) n cs) v:=by
  cases m<;>simp only[Rep] at h
  ·exact h
  ·simp only[z7c] at h⊢
   rcases h with⟨b,o,cap,h1,h2,h3,h4,_⟩|h
   ·exact .inl ⟨b,o,cap,h1,h2,h3,h4,by simp⟩
   ·exact .inr h
  ·exact h.1
 simp only[z7c] at this
 rcases this with⟨bk,o,cap,rfl,_,_,h4,_⟩|⟨q,rfl,_,_,h4⟩
 ·exact⟨_,_,_,rfl,by cases b<;>simp_all⟩
 ·exact⟨_,_,_,rfl,by cases b<;>cases q<;>simp_all⟩
theorem z56 {P:Program} (w:World) (d:Nat) (t e:TypeId) (a:Option Addr) (l c:Nat) (h:P.underlying t=some (.slice e)):(Op.equalIn (d+1) t (.slice none 0 0) (.slice a l c)).run P w= .ok a.isNone w:=by
 simp[Op.equalIn,run_underlying h]
theorem z0ab (hI:Inv K base g w getB) (hS:z5e K g w get a) {neg:Bool} {x y:Arg} (h:z2Ba K o.op neg x y=true) (hok:okp K.E get getB (.eqnil neg x y)):z3K K base a get getB d o (.eqnil neg x y) w:=by
 unfold z2Ba at h
 split at h
 ·rename_i bo t x' y' _ ho
  simp only[Bool.and_eq_true] at h
  obtain⟨⟨⟨hb,ht⟩,hx⟩,hy⟩:=h
  have rx:=z8b hI hS hx
  have ry:=z8b hI hS hy
  obtain⟨D,hu,hD⟩:=z7k ht
  obtain⟨e,rfl⟩:=z7Fa hD
  simp only[okp] at hok
  split at hok
  ·rename_i m b n cs ex ey
   rw[ex] at rx
   rw[ey] at ry
   simp only[Rep] at rx
   obtain⟨aa,k,c,vy,hn⟩:=z1Nb ry
   refine z1c hI hS (c:= .lit (.bool (b !=neg))) (v:= .bool (b !=neg)) (by simp[eff,ex,ey]) ?_ (z8r _ _)
   simp only[execOp,ho,rx,vy]
   have hgu:(eqGuard bo t x' y' (.slice none 0 0) (.slice aa k c)).run K.P w= .ok () w:=z8x w bo t x' y' trivial
   have hq:(Op.equal t (.slice none 0 0) (.slice aa k c)).run K.P w= .ok b w:=by
    subst hn
    exact z56 w 9999 t e aa k c hu
   rw[Sem.run_bind,z9Fa w hb t x' y' hgu ⟨rfl,rfl⟩ hq]
   rfl
  ·rename_i m b n cs ex ey
   rw[ex] at rx
   rw[ey] at ry
   simp only[Rep] at ry
   obtain⟨aa,k,c,vx,hn⟩:=z1Nb rx
   refine z1c hI hS (c:= .lit (.bool (b !=neg))) (v:= .bool (b !=neg)) (by simp[eff,ex,ey]) ?_ (z8r _ _)
   simp only[execOp,ho,ry,vx]
   have hgu:(eqGuard bo t x' y' (.slice aa k c) (.slice none 0 0)).run K.P w= .ok () w:=z8x w bo t x' y' trivial
   have hq:(Op.equal t (.slice aa k c) (.slice none 0 0)).run K.P w= .ok b w:=by
    rw[run_equal_slice_nil w t e aa k c hu,hn]
   rw[Sem.run_bind,z9Fa w hb t x' y' hgu ⟨rfl,rfl⟩ hq]
   rfl
  ·cases hok
 ·cases h

/-! ### lengths, least and greatest -/
def z8eb (K:Cx) (op:Op) (str:Bool) (x:Arg):Bool:=
 match op with
 | .call c=>(match c.callee,c.args.toList,c.argTypes.toList with
  | .builtin .len,[x'],[t]=>(if str then z3Y K.P t z3ca else z3Y K.P t z3kb)&&z5j K x' x
  |_,_,_=>false)
 |_=>false
theorem arr1 {α:Type} {l:Array α} {x:α} (h:l.toList=[x]):l= #[x]:=Array.ext' h
theorem z5dc {α:Type} {l:Array α} {x y:α} (h:l.toList=[x,y]):l= #[x,y]:=Array.ext' h
theorem z2tb {l:Option Loc} {d:z2a} {v:Value} (h:Rep K.toCon g w l d v) (hs:z3fc d):∃a c,v= .slice a (z5t d) c:=by
 unfold z3fc at hs
 split at hs
 ·rename_i m nl n cs
  have:z7c K.toCon g.S w (.sl .plain nl n cs) v:=by
   cases m<;>simp only[Rep] at h
   ·exact h
   ·simp only[z7c] at h⊢
    rcases h with⟨b,o,cap,h1,h2,h3,h4,_⟩|h
    ·exact .inl ⟨b,o,cap,h1,h2,h3,h4,by simp⟩
    ·exact .inr h
   ·exact h.1
  simp only[z7c] at this
  rcases this with⟨bk,o,cap,rfl,_⟩|⟨q,rfl,rfl,_⟩
  ·exact⟨_,_,rfl⟩
  ·exact⟨_,_,rfl⟩
 ·simp only[Rep] at h;obtain⟨_,_,_,_,rfl,_⟩:=h;exact⟨_,_,rfl⟩
 ·simp only[Rep] at h;subst h;exact⟨_,_,rfl⟩
 ·cases hs
theorem z3Ab (hI:Inv K base g w getB) (hS:z5e K g w get a) {str:Bool} {x:Arg} (h:z8eb K o.op str x=true) (hok:okp K.E get getB (.len str x)):z3K K base a get getB d o (.len str x) w:=by
 unfold z8eb at h
 split at h
 ·rename_i c ho
  split at h
  ·rename_i x' t hc hargs hts
   obtain⟨callee,args,ts⟩:=c
   simp only at hc hargs hts
   subst hc
   have:=arr1 hargs
   subst this
   have:=arr1 hts
   subst this
   simp only[Bool.and_eq_true] at h
   obtain⟨ht,hx⟩:=h
   have rx:=z8b hI hS hx
   simp only[okp] at hok
   refine z1c hI hS (c:= .lit (.int .i64 (z5t (arg K.E get x)))) (v:= .int .i64 (z5t (arg K.E get x))) (by simp[eff]) ?_ (z8r _ _)
   cases str with
   |true=>
    simp only[if_true] at ht hok
    obtain⟨D,hu,hD⟩:=z7k ht
    have:=z7N hD
    subst this
    obtain⟨e0,e1⟩:=z6ea rx hok
    have hsl:z5t (arg K.E get x)=(asS (arg K.E get x)).size:=by rw[e0];rfl
    simp[execOp,ho,resolve,invoke,builtin,Builtin.len_,e1,run_underlying hu,goInt,hsl]
   |false=>
    simp only[Bool.false_eq_true,if_false] at ht hok
    obtain⟨D,hu,hD⟩:=z7k ht
    obtain⟨e,rfl⟩:=z7Fa hD
    obtain⟨aa,c,e1⟩:=z2tb rx hok
    simp[execOp,ho,resolve,invoke,builtin,Builtin.len_,e1,run_underlying hu,goInt]
  ·cases h
 ·cases h

def z0Ba (K:Cx) (op:Op) (mx:Bool) (x y:Arg):Bool:=
 match op with
 | .call c=>(match c.callee,c.args.toList with
  | .builtin b,[x',y']=>(match b with| .min=> !mx| .max=>mx|_=>false)&&z5j K x' x&&z5j K y' y
  |_,_=>false)
 |_=>false
theorem z8Eb (hI:Inv K base g w getB) (hS:z5e K g w get a) {x y:Arg} (h:z0Ba K o.op false x y=true) (hok:okp K.E get getB (.min2 x y)):z3K K base a get getB d o (.min2 x y) w:=by
 unfold z0Ba at h
 split at h
 case h_2=>cases h
 rename_i c ho
 split at h
 ·rename_i b x' y' hc hargs
  obtain⟨callee,args,ts⟩:=c
  simp only at hc hargs
  subst hc
  have:=z5dc hargs
  subst this
  simp only[Bool.and_eq_true] at h
  obtain⟨⟨hb,hx⟩,hy⟩:=h
  cases b<;>simp at hb
  obtain⟨k,e0,e1⟩:=z1Y (z8b hI hS hx) hok.1
  obtain⟨k',e0',e1'⟩:=z1Y (z8b hI hS hy) hok.2
  refine z1c hI hS (c:= .lit (.int k (if asI (arg K.E get y)<asI (arg K.E get x) then asI (arg K.E get y) else asI (arg K.E get x)))) (v:= .int k (if asI (arg K.E get y)<asI (arg K.E get x) then asI (arg K.E get y) else asI (arg K.E get x))) ?_ ?_ (z8r _ _)
  ·simp only[eff];rw[e0,e0'];rfl
  ·simp only[execOp,ho,resolve]
   simp[e1,e1',invoke,builtin,Builtin.min_,Builtin.min2]
 ·cases h
theorem z3wb (hI:Inv K base g w getB) (hS:z5e K g w get a) {x y:Arg} (h:z0Ba K o.op true x y=true) (hok:okp K.E get getB (.max2 x y)):z3K K base a get getB d o (.max2 x y) w:=by
 unfold z0Ba at h
 split at h
 case h_2=>cases h
 rename_i c ho
 split at h
 ·rename_i b x' y' hc hargs
  obtain⟨callee,args,ts⟩:=c
  simp only at hc hargs
  subst hc
  have:=z5dc hargs
  subst this
  simp only[Bool.and_eq_true] at h
  obtain⟨⟨hb,hx⟩,hy⟩:=h
  cases b<;>simp at hb
  obtain⟨k,e0,e1⟩:=z1Y (z8b hI hS hx) hok.1
  obtain⟨k',e0',e1'⟩:=z1Y (z8b hI hS hy) hok.2
  refine z1c hI hS (c:= .lit (.int k (if asI (arg K.E get y)>asI (arg K.E get x) then asI (arg K.E get y) else asI (arg K.E get x)))) (v:= .int k (if asI (arg K.E get y)>asI (arg K.E get x) then asI (arg K.E get y) else asI (arg K.E get x))) ?_ ?_ (z8r _ _)
  ·simp only[eff];rw[e0,e0'];rfl
  ·simp only[execOp,ho,resolve]
   simp[e1,e1',invoke,builtin,Builtin.max_,Builtin.max2]
 ·cases h

end
end Go.Abs
end

section
namespace Go.Abs

section
variable {K : Cx} {base : z1P} {g g' : Gh} {w w' : World} {get : Nat → z2a} {getB : Nat → Option (List z2a)} {a : Act} {o : Oper} {d : Option Nat}

/-! ### conversions -/
def z2D (K:Cx) (op:Op) (f:TypeId→TypeId→Bool) (x:Arg):Bool:=match op with| .convert s t x'=>f s t&&z5j K x' x|_=>false
def z6ta (P:Program) (t:TypeId):Bool:=match P.underlying t with|some (.slice e)=>z3Y P e (z3Ya .u8)&&z2A P e 1|_=>false
def z6ac (P:Program) (k:IntKind) (s t:TypeId):Bool:=z3Y P s (fun _=>true)&&z3Y P t (z3Ya k)
def z60b (P:Program) (s t:TypeId):Bool:=z6ta P s&&z3Y P t z3ca
def z6Ta (P:Program) (s t:TypeId):Bool:=z3Y P s z3ca&&z6ta P t
def z0mb (P:Program) (s t:TypeId):Bool:=z3Y P s z3ca&&z3Y P t z3ca

theorem z8ka {P:Program} {t:TypeId} (h:z6ta P t=true):∃e,P.underlying t=some (.slice e)∧P.underlying e=some (.int .u8)∧z2A P e 1=true:=by
 unfold z6ta at h
 split at h
 ·rename_i e hu
  simp only[Bool.and_eq_true] at h
  obtain⟨D,h1,h2⟩:=z7k h.1
  have:=z9Pa h2
  subst this
  exact⟨e,hu,h1,h.2⟩
 ·cases h

theorem z18a (hI:Inv K base g w getB) (hS:z5e K g w get a) {k:IntKind} {x:Arg} (h:z2D K o.op (z6ac K.P k) x=true) (hok:okp K.E get getB (.toInt k x)):z3K K base a get getB d o (.toInt k x) w:=by
 unfold z2D at h
 split at h
 ·rename_i s t x' ho
  simp only[Bool.and_eq_true,z6ac] at h
  obtain⟨⟨hs,ht⟩,hx⟩:=h
  obtain⟨k',e0,e1⟩:=z1Y (z8b hI hS hx) hok
  obtain⟨D,hu,_⟩:=z7k hs
  obtain⟨D',hu',hD⟩:=z7k ht
  have:=z9Pa hD
  subst this
  refine z1c hI hS rfl (v:= .int k (k.wrap (asI (arg K.E get x)))) ?_ (z8r _ _)
  simp only[execOp,ho,e1,convert,Sem.run_bind,run_underlying hu,run_underlying hu',Result.andThen_ok,Conv.intToInt,Sem.run_pure]
 ·cases h

theorem z8hb (hI:Inv K base g w getB) (hS:z5e K g w get a) {x:Arg} (h:z2D K o.op (z0mb K.P) x=true) (hok:okp K.E get getB (.same x)):z3K K base a get getB d o (.same x) w:=by
 unfold z2D at h
 split at h
 ·rename_i s t x' ho
  simp only[Bool.and_eq_true,z0mb] at h
  obtain⟨⟨hs,ht⟩,hx⟩:=h
  obtain⟨e0,e1⟩:=z6ea (z8b hI hS hx) hok
  obtain⟨D,hu,hD0⟩:=z7k hs
  have:=z7N hD0
  subst this
  obtain⟨D',hu',hD⟩:=z7k ht
  have:=z7N hD
  subst this
  refine z1c hI hS (c:= .lit (.string (asS (arg K.E get x)))) (v:= .string (asS (arg K.E get x))) (by simp only[eff];rw[←e0]) ?_ (z8r _ _)
  simp only[execOp,ho,e1,convert,Sem.run_bind,run_underlying hu,run_underlying hu',Result.andThen_ok,Sem.run_pure]
 ·cases h

theorem z3B {P:Program} (w:World) (x:Addr):(loadCells x 0).run P w= .ok #[] w:=by simpa using run_loadCells_list (P:=P) w x [] (by simp)

theorem z8gb {P:Program} (w:World) {s t e:TypeId} (hs:P.underlying s=some (.slice e)) (he:P.underlying e=some (.int .u8)) (ht:P.underlying t=some .string) {v:Value} {n:Nat} (ns:List Int) (hn:ns.length=n)
  (hv:(∃q:Option Addr,v= .slice q 0 0∧ns=[])∨∃bk o cap,v= .slice (some ⟨bk,o,none⟩) n cap∧w.rangeAt bk o (ns.map (Value.int .u8))):
  (convert s t v).run P w= .ok (.string (ns.foldl (fun r n=>r.push (UInt8.ofNat n.toNat)) ByteArray.empty)) w:=by
 rcases hv with⟨q,rfl,rfl⟩|⟨bk,o,cap,rfl,hr⟩
 ·cases q with
  |none=>simp[convert,run_underlying hs,run_underlying ht,run_underlying he,Conv.bytesToString]
  |some q=>
   simp only[convert,Sem.run_bind,run_underlying hs,run_underlying ht,run_underlying he,Result.andThen_ok]
   exact run_bytesToString w q 0 0 [] (z3B w q)
 ·have hl:(loadCells ⟨bk,o,none⟩ n).run P w= .ok (ns.map (Value.int .u8)).toArray w:=by
   have:=run_loadCells_list (P:=P) w ⟨bk,o,none⟩ (ns.map (Value.int .u8)) (fun j v hv=>by rw[Addr.add_mid];exact hr j v hv)
   rwa[List.length_map,hn] at this
  simp only[convert,Sem.run_bind,run_underlying hs,run_underlying ht,run_underlying he,Result.andThen_ok]
  exact run_bytesToString w ⟨bk,o,none⟩ n cap ns hl

theorem z0nb:∀{cs:List z2a} {vs:List Value},z1e K.toCon g w cs vs→(∀c∈cs,z6dc .u8 c)→vs=(cs.map asI).map (Value.int .u8)
 |[],vs,h,_=>by simp only[z1e] at h;subst h;rfl
 |c::cs,vs,h,hc=>by
  simp only[z1e] at h
  obtain⟨x,xs,rfl,h1,h2⟩:=h
  have:=hc c (by simp)
  unfold z6dc at this
  split at this
  ·subst this
   simp only[Rep] at h1
   subst h1
   rw[z0nb h2 (fun c hm=>hc c (by simp[hm]))]
   rfl
  ·cases this

theorem z57a (hI:Inv K base g w getB) (hS:z5e K g w get a) {b:Option Nat} {x:Arg} (h:z2D K o.op (z60b K.P) x=true) (hok:okp K.E get getB (.toStr b x)):z3K K base a get getB d o (.toStr b x) w:=by
 unfold z2D at h
 split at h
 ·rename_i s t x' ho
  simp only[Bool.and_eq_true,z60b] at h
  obtain⟨⟨hs,ht⟩,hx⟩:=h
  obtain⟨e,hu,he,_⟩:=z8ka hs
  obtain⟨D',hu',hD⟩:=z7k ht
  have:=z7N hD
  subst this
  obtain⟨vs,h1,h2,h3⟩:=z4Ta hI hok.1 (z8b hI hS hx)
  have hvs:=z0nb h1 hok.2
  have hlen:((z1i (bxl getB b) (arg K.E get x)).map asI).length=z5t (arg K.E get x):=by
   rw[List.length_map,h1.len,h2,Nat.mul_one]
  refine z1c hI hS rfl (v:= .string (z6Y (z1i (bxl getB b) (arg K.E get x)))) ?_ (z8r _ _)
  simp only[execOp,ho]
  rw[Sem.run_bind,z8gb w hu he hu' ((z1i (bxl getB b) (arg K.E get x)).map asI) hlen (by
   rcases h3 with⟨q,k1,k2,k3⟩|⟨bk,o,cap,k1,_,k2⟩
   ·left
    refine⟨q,k1,List.eq_nil_of_length_eq_zero ?_⟩
    rw[hlen,k3]
   ·right
    exact⟨bk,o,cap,k1,by rw[←hvs];exact k2⟩)]
  rw[foldl_push_bytes]
  simp only[Result.andThen_ok,Sem.run_pure,z6Y,List.map_map]
  congr 3
  show(ByteArray.mk (#[]++_))=_
  simp
 ·cases h

theorem z8Nc (s:ByteArray):s.data.toList.length=s.size:=by rw[Array.length_toList];rfl

theorem z4yc {S:Nat→Nat} (s:ByteArray) (b n:Nat) (hS:n≤S b) (hn:s.data.toList.length=n) (hc:∀j (hj:j<s.data.size),w.cell? ⟨b,j,none⟩=some (.int .u8 (s.data[j].toNat:Int))):
  z0f K.toCon S w (z2r s.data.toList) b 0:=z0f.mk fun i c hi=>by
 simp only[z2r,List.getElem?_map] at hi
 cases hl:s.data.toList[i]? with
 |none=>simp[hl] at hi
 |some u=>
  simp only[hl,Option.map_some,Option.some.injEq] at hi
  subst hi
  obtain⟨hlt,hu⟩:=List.getElem?_eq_some_iff.1 hl
  have hlt':i<s.data.size:=by simpa using hlt
  refine⟨by omega,_,by rw[Nat.zero_add];exact hc i hlt',?_⟩
  simp only[z7c]
  rw[←hu]
  rfl

theorem z6Ia (hI:Inv K base g w getB) (hS:z5e K g w get a) {x:Arg} (h:z2D K o.op (z6Ta K.P) x=true) (hok:okp K.E get getB (.toBytes x)):z3K K base a get getB d o (.toBytes x) w:=by
 unfold z2D at h
 split at h
 ·rename_i s t x' ho
  simp only[Bool.and_eq_true,z6Ta] at h
  obtain⟨⟨hs,ht⟩,hx⟩:=h
  obtain⟨e,hu,he,_⟩:=z8ka ht
  obtain⟨D',hu',hD⟩:=z7k hs
  have:=z7N hD
  subst this
  obtain⟨e0,e1⟩:=z6ea (z8b hI hS hx) hok
  have hrun:=run_bytes_of_string (P:=K.P) w s t e (asS (arg K.E get x)) hu' hu he
  generalize hcap:grownCap w (asS (arg K.E get x)).size 0 e=cap at hrun
  have hge:(asS (arg K.E get x)).size≤cap:=by rw[←hcap];exact grownCap_ge _ _ _ _
  generalize asS (arg K.E get x)=str at*
  have hsz:(bytesRow str cap).size=cap:=by
   have e:str.data.size=str.size:=rfl
   simp only[bytesRow,Array.size_append,Array.size_map,Array.size_replicate,e]
   omega
  have hrun':(execOp a.eval o).run K.P w= .ok (.value (.slice (some ⟨w.heap.size,0,none⟩) str.size cap)) (w.drew.alloc (.cells (bytesRow str cap) e ((bytesRow str cap).size,(bytesRow str cap).size+1))):=by
   simp only[execOp,ho,e1]
   rw[Sem.run_bind,hrun]
   rfl
  refine⟨_,_,_,hrun',.inl rfl,z1Q g w.heap.size str.size (d.map .slot),z8ha (z6pa hI) _ _ _,(z5Z (z6pa hI) _ _ _).slots (z3fa.slots hS),?_⟩
  ·have hcell:∀j (hj:j<str.data.size),(w.drew.alloc (.cells (bytesRow str cap) e ((bytesRow str cap).size,(bytesRow str cap).size+1))).cell? ⟨w.heap.size,j,none⟩=some (.int .u8 (str.data[j].toNat:Int)):=fun j hj=>by
    have:=World.cell?_alloc_mark w.drew (bytesRow str cap) e ((bytesRow str cap).size,(bytesRow str cap).size+1) j
    rw[show w.drew.heap.size=w.heap.size from rfl] at this
    rw[this]
    exact bytesRow_at str cap j hj
   have hp:z7c K.toCon (z1Q g w.heap.size str.size (d.map .slot)).S (w.drew.alloc (.cells (bytesRow str cap) e ((bytesRow str cap).size,(bytesRow str cap).size+1))) (.sl .plain (some false) str.size (z2r str.data.toList)) (.slice (some ⟨w.heap.size,0,none⟩) str.size cap):=by
    simp only[z7c]
    exact .inl ⟨_,_,_,rfl,hge,z4yc str _ str.size (by simp[z1Q]) (z8Nc str) hcell,by simp,by simp⟩
   have hef:(eff K.E get getB (.toBytes x)).val= .sl (.own 1) (some false) str.size (z2r str.data.toList):=by simp only[eff,e0,asS]
   rw[hef]
   simp only[Rep]
   refine⟨hp,fun l hl=> .inr ⟨_,cap,rfl,hge,by rw[z2r,List.length_map,z8Nc,Nat.mul_one],by simp[z1Q],by simp[z1Q,hl],?_⟩⟩
   have:=z5I w.drew (bytesRow str cap) e ((bytesRow str cap).size,(bytesRow str cap).size+1) (fun i hi=>by simp;omega) 0 (cap*1) (by rw[hsz];omega)
   exact this
 ·cases h

/-! ### a slice of letters that is shared with a string's kind -/
def z0db (P:Program) (s t:TypeId):Bool:=s==t&&z6ta P s
theorem z6Xa (w:World) (a:Addr) (n:Nat) (x:Addr):(w.freeze a n).cell? x=w.cell? x:=by
 unfold World.freeze
 split
 ·rfl
 ·simp only[World.cell?,Array.getElem?_modify]
  by_cases h:a.block=x.block
  ·rw[if_pos h]
   cases hx:w.heap[x.block]? with
   |none=>rfl
   |some o=>cases o with
    |cells c e fr=>obtain⟨lo,hi⟩:=fr;rfl
    |_=>rfl
  ·rw[if_neg h]
theorem z2ma (w:World) (a:Addr) (n k:Nat) (h:k≠a.block):(w.freeze a n).heap[k]? =w.heap[k]? :=by
 unfold World.freeze
 split
 ·rfl
 ·simp only[Array.getElem?_modify]
  rw[if_neg (fun e=>h e.symm)]
theorem z7Sa (w:World) (a:Addr) (n:Nat):(w.freeze a n).heap.size=w.heap.size:=by
 unfold World.freeze
 split
 ·rfl
 ·simp
theorem z2Ca (w:World) (a:Addr) (n:Nat) (x:Addr) (h:x.block≠a.block):(w.freeze a n).frozen? x=w.frozen? x:=by
 simp only[World.frozen?,z2ma w a n _ h]
theorem z0ob (hI:Inv K base g w getB) (hS:z5e K g w get a) {x:Nat} (h:z2D K o.op (z0db K.P) (.s x)=true) (hok:okp K.E get getB (.mark x)):z3K K base a get getB d o (.mark x) w:=by
 unfold z2D at h
 split at h
 ·rename_i s t x' ho
  simp only[Bool.and_eq_true,z0db,beq_iff_eq] at h
  obtain⟨⟨rfl,hs⟩,hx⟩:=h
  have:=z6L hx
  subst this
  obtain⟨e,hu,he,_⟩:=z8ka hs
  simp only[okp] at hok
  split at hok
  ·rename_i n c cs hget
   have hr:=hS x
   rw[hget] at hr
   simp only[Rep] at hr
   obtain⟨hp,ho'⟩:=hr
   obtain⟨b,cap,hv,hle,hlen,hSb,how,hth⟩:z6oa g w (.slot x) 1 n (c::cs).length (a.tmps.getD x undef):=by
    rcases ho' _ rfl with(h1|⟨_,h1⟩)|h1
    ·rw[h1] at hp
     simp[z7c] at hp
    ·cases h1
    ·exact h1
   obtain⟨hB,hbs⟩:=hI.owW b _ how
   have hev:a.eval (.tmp x)=a.tmps.getD x undef:=rfl
   let W:=match w.shape? b with|some (_,m)=>w.freeze ⟨b,m,none⟩ 1|none=>w
   have hW:∀y,W.cell? y=w.cell? y:=fun y=>by simp only[W];split<;>simp[z6Xa]
   have hWb:∀k,k≠b→W.heap[k]? =w.heap[k]? :=fun k hk=>by
    simp only[W];split
    ·exact z2ma _ _ _ _ hk
    ·rfl
   have hWs:W.heap.size=w.heap.size:=by simp only[W];split<;>simp[z7Sa]
   have hWf:∀y:Addr,y.block≠b→W.frozen? y=w.frozen? y:=fun y hy=>by
    simp only[W];split
    ·exact z2Ca _ _ _ _ hy
    ·rfl
   have hWo:W.os=w.os∧W.tape=w.tape∧W.output=w.output:=by simp only[W,World.freeze];split<;>simp
   have hrun:(execOp a.eval o).run K.P w= .ok (.value (a.tmps.getD x undef)) W:=by
    simp only[execOp,ho,hev,hv,convert,Sem.run_bind,run_underlying hu,run_underlying he,Result.andThen_ok,beq_self_eq_true,markStringish]
    simp only[W]
    cases hsh:w.shape? b with
    |none=>simp[hsh]
    |some q=>obtain⟨q1,q2⟩:=q;simp[hsh]
   let g1:Gh:={g with ow:=fun y=>if y=b then none else g.ow y}
   have hk:z9k g.S w g1.S W:=fun b' i y hi hc=>⟨hi,by rw[hW];exact hc⟩
   have hown:∀m:Loc,m≠ .slot x→z7C g w g1 W m m:=fun m hm b' hb'=>by
    have hne:b'≠b:=fun e=>by rw[e,how] at hb';exact hm (Option.some.inj hb').symm
    refine⟨by simp only[g1,if_neg hne];exact hb',rfl,fun o' n' ht j hj=> ?_⟩
    obtain⟨t1,t2⟩:=ht j hj
    exact⟨by rw[hW];exact t1,by rw[hWf _ hne];exact t2⟩
   have rep:∀{d':z2a} {v':Value} {l:Option Loc},l≠some (.slot x)→Rep K.toCon g w l d' v'→Rep K.toCon g1 W l d' v':=fun {d' v' l} hl hr=>
    Rep.mono hk d' v' l l (fun id _ b' hb'=>hb') (fun m hm=>⟨m,hm,hown m (fun e=>hl (by rw[hm,e]))⟩) hr
   refine⟨_,_,W,hrun,.inl rfl,g1,⟨?_,hI.sS,hI.inj,fun id cs' hc=> ?_,hI.nobx,fun id b' hb'=> ?_,fun b' l hb'=> ?_,fun m hm=>z0f.mono hk _ _ _ (hI.glob m hm),hI.kp.trans hk,fun id b' cs' ho hb' hc hd=>by
    simp only[eff,z29] at hc
    refine z2U.keep (hI.obok id b' cs' ho hb' (by simpa[z29,lk] using hc) hd) (hWb b' fun e=> ?_) fun k hk'=> ?_
    ·have:=(hI.muW id b' hb').2.2
     rw[e,how] at this;cases this
    ·have hkb:k≠b:=fun e=>by rw[e,how] at hk';cases hk'
     exact⟨by simp only[g1,if_neg hkb];exact hk',hWb k hkb⟩⟩,fun s'=> ?_,?_⟩
   ·refine⟨hWo.1.trans hI.fr.os,hWo.2.1.trans hI.fr.tape,hWo.2.2.trans hI.fr.output,by rw[hWs];exact hI.fr.size,fun k hk1 hk2=> ?_⟩
    rw[hWb k (fun e=>hB.elim (fun h3=>by omega) (fun h3=>hk2 (e▸h3)))]
    exact hI.fr.block k hk1 hk2
   ·simp only[eff,z29] at hc
    obtain⟨b',k1,k2,k3⟩:=hI.bxok id cs' (by simpa[z29,lk] using hc)
    have hne:b'≠b:=fun e=>by
     have:=(hI.muW id b' k1).2.2
     rw[e,how] at this
     cases this
    refine⟨b',k1,k2,fun i d' hi=> ?_⟩
    obtain⟨⟨y,h4,h5⟩,h6⟩:=k3 i d' hi
    exact⟨⟨y,by rw[hW];exact h4,rep (by simp) h5⟩,by rw[hWf _ hne];exact h6⟩
   ·obtain⟨k1,k2,k3⟩:=hI.muW id b' hb'
    refine⟨k1,by rw[hWs];exact k2,?_⟩
    simp only[g1]
    split
    ·rfl
    ·exact k3
   ·simp only[g1] at hb'
    split at hb'
    ·cases hb'
    ·obtain⟨k1,k2⟩:=hI.owW b' l hb'
     exact⟨k1,by rw[hWs];exact k2⟩
   ·simp only[eff,upd,lk]
    by_cases hs':s'=x
    ·subst hs'
     simp only[if_true,Option.getD_some]
     rw[hget]
     simp only[dem,Rep]
     exact z7c.mono hk _ _ hp
    ·simp only[if_neg hs',Option.getD_none]
     exact rep (by simp;exact hs') (hS s')
   ·simp only[eff]
    rw[hget]
    simp only[dem,Rep]
    exact z7c.mono hk _ _ hp
  ·exact hok.elim
 ·cases h

/-! ### tuples, structs, arrays by value -/
def z9mb (K:Cx) (op:Op) (i:Nat) (x:Arg):Bool:=match op with| .extract x' i'=>(i==i')&&z5j K x' x|_=>false
theorem z0Ma (hI:Inv K base g w getB) (hS:z5e K g w get a) {i:Nat} {x:Arg} (h:z9mb K o.op i x=true) (hok:okp K.E get getB (.extract i x)):z3K K base a get getB d o (.extract i x) w:=by
 unfold z9mb at h
 split at h
 ·rename_i x' i' ho
  simp only[Bool.and_eq_true,beq_iff_eq] at h
  obtain⟨rfl,hx⟩:=h
  have rx:=Rep.dem none (z8b hI hS hx)
  simp only[okp] at hok
  split at hok
  ·rename_i vs ex
   rw[ex] at rx
   simp only[Rep] at rx
   obtain⟨ax,vx,rx⟩:=rx
   obtain⟨v,hv,hr⟩:=rx.get i (vs.getD i .undef) (by rw[List.getD,List.getElem?_eq_getElem hok];rfl)
   refine z1c hI hS (c:=dem (vs.getD i .undef)) (v:=v) (by simp only[eff,ex]) ?_ (Rep.dem _ hr)
   have hv':ax[i]? =some v:=by rw[←Array.getElem?_toList];exact hv
   simp only[execOp,ho,vx,Instr.extract,hv',Sem.run_bind,Sem.run_pure,Result.andThen_ok]
  ·cases hok
 ·cases h

def z3Sa (op:Op) (n:Nat):Bool:=match op with| .extract (.tmp t) i=>(i==0)&&(t==n)|_=>false
theorem z4Da (hI:Inv K base g w getB) (hS:z5e K g w get a) {n:Nat} (h:z3Sa o.op n=true) (hok:okp K.E get getB (.extractO n)):z3K K base a get getB d o (.extractO n) w:=by
 unfold z3Sa at h
 split at h
 ·rename_i t i ho
  simp only[Bool.and_eq_true,beq_iff_eq] at h
  obtain⟨rfl,rfl⟩:=h
  simp only[okp] at hok
  split at hok
  ·rename_i e nl n cs rest ex
   obtain⟨g',hI',hS',hv,hm,hs,hmu⟩:=z8R hI hS t (d.map .slot)
   rw[ex] at hv
   simp only[Rep] at hv
   obtain⟨ax,x,xs,vx,h0,h1,_⟩:=hv
   have hv':ax[0]? =some x:=by rw[←Array.getElem?_toList,h0];rfl
   refine⟨_,x,w,?_,.inl rfl,?_⟩
   ·simp only[execOp,ho,vx,Instr.extract,hv',Sem.run_bind,Sem.run_pure,Result.andThen_ok]
   ·exact⟨g',hI',hS',by simp only[eff,ex,Rep];exact h1⟩
  ·cases hok
 ·cases h
theorem z93a {t:TypeId} {k:Option Nat} {off:Nat} {cs:List z2a} {ax:Array Value} (hk:z7ab K.P t k=true) (hr:z1e K.toCon g w cs ax.toList) (hoff:off+k.getD 1≤cs.length):
  ∃v,(part t ax off).run K.P w= .ok v w∧(match k with|none=>Rep K.toCon g w none (cs.getD off .undef) v|some n=>Rep K.toCon g w none (.agg ((cs.drop off).take n)) v):=by
 cases k with
 |none=>
  simp only[z7ab,Bool.and_eq_true] at hk
  obtain⟨D,hu,hD⟩:=z7k hk.1
  simp only[Option.getD_none] at hoff
  obtain⟨v,hv,hr⟩:=hr.get off (cs.getD off .undef) (by rw[List.getD,List.getElem?_eq_getElem (by omega)];rfl)
  have hv':ax[off]? =some v:=by rw[←Array.getElem?_toList];exact hv
  refine⟨v,?_,hr⟩
  cases D<;>simp[TypeDesc.isRow] at hD<;>simp[part,isAgg,run_underlying hu,hv']
 |some n=>
  simp only[z7ab,Bool.and_eq_true] at hk
  obtain⟨D,hu,hD⟩:=z7k hk.1
  simp only[Option.getD_some] at hoff
  refine⟨.agg (ax.extract off (off+n)),?_,?_⟩
  ·cases D<;>simp[TypeDesc.isRow] at hD<;>simp[part,isAgg,run_underlying hu,run_sizeOf w hk.2]
  ·simp only[Rep]
   refine⟨_,rfl,?_⟩
   rw[Array.toList_extract]
   simp only[List.extract,Nat.add_sub_cancel_left]
   exact(hr.drop off).take n

def z6Ba (K:Cx) (op:Op) (k:Option Nat) (off:Nat) (x:Arg):Bool:=
 match op with
 | .field t x' f=>(match K.P.underlying t with|some (.struct fs)=>(match fs[f]? with|some fd=>(fd.offset==off)&&z7ab K.P fd.type k|none=>false)|_=>false)&&z5j K x' x
 |_=>false
theorem z89a (hI:Inv K base g w getB) (hS:z5e K g w get a) {k:Option Nat} {off:Nat} {x:Arg} (h:z6Ba K o.op k off x=true) (hok:okp K.E get getB (.field k off x)):z3K K base a get getB d o (.field k off x) w:=by
 unfold z6Ba at h
 split at h
 ·rename_i t x' f ho
  simp only[Bool.and_eq_true] at h
  obtain⟨h,hx⟩:=h
  split at h
  ·rename_i fs hu
   split at h
   ·rename_i fd hf
    simp only[Bool.and_eq_true,beq_iff_eq] at h
    obtain⟨rfl,hk⟩:=h
    have rx:=z8b hI hS hx
    simp only[okp] at hok
    split at hok
    ·rename_i cs ex
     rw[ex] at rx
     simp only[Rep] at rx
     obtain⟨ax,vx,rx⟩:=rx
     obtain⟨v,h1,h2⟩:=z93a hk rx hok
     have hrun:(execOp a.eval o).run K.P w= .ok (.value v) w:=by
      simp[execOp,ho,vx,Instr.field,run_underlying hu,hf,asAgg,h1]
     cases k with
     |none=>exact z1c hI hS (c:=dem (cs.getD fd.offset .undef)) (v:=v) (by simp only[eff,ex]) hrun (Rep.dem _ h2)
     |some n=>exact z1c hI hS (c:= .agg ((cs.drop fd.offset).take n)) (v:=v) (by simp only[eff,ex]) hrun (z5T _ rfl h2)
    ·cases hok
   ·cases h
  ·cases h
 ·cases h

def z0Ua (K:Cx) (op:Op) (k:Option Nat) (esz n:Nat) (x i:Arg):Bool:=
 match op with
 | .index t x' i'=>(match K.P.underlying t with|some (.array m e)=>(m==n)&&z2A K.P e esz&&z7ab K.P e k|_=>false)&&z5j K x' x&&z5j K i' i
 |_=>false
theorem z3eb (hI:Inv K base g w getB) (hS:z5e K g w get a) {k:Option Nat} {esz n:Nat} {x i:Arg} (h:z0Ua K o.op k esz n x i=true) (hok:okp K.E get getB (.idxA k esz n x i)):z3K K base a get getB d o (.idxA k esz n x i) w:=by
 unfold z0Ua at h
 split at h
 ·rename_i t x' i' ho
  simp only[Bool.and_eq_true] at h
  obtain⟨⟨h,hx⟩,hi⟩:=h
  split at h
  ·rename_i m e hu
   simp only[Bool.and_eq_true,beq_iff_eq] at h
   obtain⟨⟨rfl,hsz⟩,hk⟩:=h
   have rx:=z8b hI hS hx
   simp only[okp] at hok
   obtain⟨hok,hii,h0,hlt⟩:=hok
   obtain⟨ki,_,vi⟩:=z1Y (z8b hI hS hi) hii
   split at hok
   ·rename_i cs ex
    rw[ex] at rx
    simp only[Rep] at rx
    obtain⟨ax,vx,rx⟩:=rx
    obtain⟨v,h1,h2⟩:=z93a hk rx hok
    have hrun:(execOp a.eval o).run K.P w= .ok (.value v) w:=by
     simp[execOp,ho,vx,vi,Instr.index,asIntOf,run_underlying hu,h0,hlt,run_sizeOf w hsz,h1]
    cases k with
    |none=>exact z1c hI hS (c:=dem (cs.getD ((asI (arg K.E get i)).toNat*esz) .undef)) (v:=v) (by simp only[eff,ex]) hrun (Rep.dem _ h2)
    |some n=>exact z1c hI hS (c:= .agg ((cs.drop ((asI (arg K.E get i)).toNat*esz)).take n)) (v:=v) (by simp only[eff,ex]) hrun (z5T _ rfl h2)
   ·cases hok
  ·cases h
 ·cases h

def z5Wa (K:Cx) (op:Op) (x i:Arg):Bool:=match op with| .index t x' i'=>z3Y K.P t z3ca&&z5j K x' x&&z5j K i' i|_=>false
theorem z7Ra (hI:Inv K base g w getB) (hS:z5e K g w get a) {x i:Arg} (h:z5Wa K o.op x i=true) (hok:okp K.E get getB (.idxStr x i)):z3K K base a get getB d o (.idxStr x i) w:=by
 unfold z5Wa at h
 split at h
 ·rename_i t x' i' ho
  simp only[Bool.and_eq_true] at h
  obtain⟨⟨ht,hx⟩,hi⟩:=h
  obtain⟨D,hu,hD⟩:=z7k ht
  have:=z7N hD
  subst this
  obtain⟨hs,hii,h0,hlt⟩:=hok
  obtain⟨_,vx⟩:=z6ea (z8b hI hS hx) hs
  obtain⟨ki,_,vi⟩:=z1Y (z8b hI hS hi) hii
  have hn:(asI (arg K.E get i)).toNat<(asS (arg K.E get x)).size:=by omega
  refine z1c hI hS rfl (v:= .int .u8 ((asS (arg K.E get x)).data.toList.getD (asI (arg K.E get i)).toNat 0).toNat) ?_ (z8r _ _)
  have hg:(asS (arg K.E get x)).data.toList.getD (asI (arg K.E get i)).toNat 0=(asS (arg K.E get x))[(asI (arg K.E get i)).toNat]:=by
   rw[List.getD,List.getElem?_eq_getElem (by simpa using hn)]
   rfl
  rw[hg]
  simp[execOp,ho,vx,vi,Instr.index,asIntOf,run_underlying hu,h0,ByteArray.getElem?_lt' _ _ hn]
 ·cases h

def z8Da (K:Cx) (op:Op) (f:Nat) (x y:List Arg):Bool:=
 match op with
 | .makeFunc (.func f') p q=>(K.nu f==f')&&argsOk p.toList x&&argsOk q.toList y
 |_=>false
where argsOk : List Operand → List Arg → Bool
 |[],[]=>true
 |x::xs,y::ys=>z5j K x y&&argsOk xs ys
 |_,_=>false
theorem z7Q (hI:Inv K base g w getB) (hS:z5e K g w get a):∀{xs:List Operand} {ys:List Arg},z8Da.argsOk K xs ys=true→z1e K.toCon g w (ys.map fun y=>dem (arg K.E get y)) (xs.map a.eval)∧z1e K.toCon g w (ys.map (arg K.E get)) (xs.map a.eval)
 |[],[],_=>by simp[z1e]
 |[],_::_,h=>by simp[z8Da.argsOk] at h
 |_::_,[],h=>by simp[z8Da.argsOk] at h
 |x::xs,y::ys,h=>by
  simp only[z8Da.argsOk,Bool.and_eq_true] at h
  have ih:=z7Q hI hS h.2
  simp only[List.map_cons,z1e]
  exact⟨⟨_,_,rfl,Rep.dem _ (z8b hI hS h.1),ih.1⟩,⟨_,_,rfl,z8b hI hS h.1,ih.2⟩⟩
theorem z6lb (hI:Inv K base g w getB) (hS:z5e K g w get a) {f:Nat} {x y:List Arg} (h:z8Da K o.op f x y=true):z3K K base a get getB d o (.mkfn f x y) w:=by
 unfold z8Da at h
 split at h
 ·rename_i f' p q ho
  simp only[Bool.and_eq_true,beq_iff_eq] at h
  obtain⟨⟨rfl,hx⟩,hy⟩:=h
  refine z1c hI hS rfl (v:= .func (.func (K.nu f)) (p.map a.eval) (q.map a.eval)) ?_ ?_
  ·simp[execOp,ho,Instr.makeFunc]
  ·simp only[Rep]
   exact⟨_,_,rfl,by rw[Array.toList_map];exact(z7Q hI hS hx).1,by rw[Array.toList_map];exact(z7Q hI hS hy).1⟩
 ·cases h

/-! ### pointers -/
def z83b (K:Cx) (op:Op) (off:Nat) (x:Arg):Bool:=
 match op with
 | .fieldAddr t x' f=>(match K.P.underlying t with|some (.struct fs)=>(match fs[f]? with|some fd=>(fd.offset==off)&&(match K.P.info? fd.type with|some i=>i.size !=0|none=>false)|none=>false)|_=>false)&&z5j K x' x
 |_=>false
theorem z9xa (hI:Inv K base g w getB) (hS:z5e K g w get a) {off:Nat} {x:Arg} (h:z83b K o.op off x=true) (hok:okp K.E get getB (.fieldAddr off x)):z3K K base a get getB d o (.fieldAddr off x) w:=by
 unfold z83b at h
 split at h
 ·rename_i t x' f ho
  simp only[Bool.and_eq_true] at h
  obtain⟨h,hx⟩:=h
  split at h
  ·rename_i fs hu
   split at h
   ·rename_i fd hf
    simp only[Bool.and_eq_true,beq_iff_eq] at h
    obtain⟨rfl,hz⟩:=h
    split at hz
    ·rename_i i hi
     simp only[bne_iff_ne,ne_eq] at hz
     have rx:=z8b hI hS hx
     have hrun:∀b o',a.eval x'= .pointer (some ⟨b,o',none⟩)→(execOp a.eval o).run K.P w= .ok (.value (.pointer (some ⟨b,o'+fd.offset,none⟩))) w:=fun b o' e=>by
      simp[execOp,ho,e,Instr.fieldAt,run_underlying hu,hf,Instr.sureAddr,fieldPlace,sizeOf,typeInfo,hi,hz,Addr.add_mid]
     simp only[okp] at hok
     split at hok
     ·rename_i id o' ex
      rw[ex] at rx
      simp only[Rep] at rx
      obtain⟨b,hb,vx⟩:=rx
      exact z1c hI hS (c:= .bp id (o'+fd.offset)) (by simp only[eff,ex]) (hrun b o' vx) (by simp only[Rep];exact⟨b,hb,rfl⟩)
     ·rename_i cs ex
      rw[ex] at rx
      simp only[Rep,z7c] at rx
      obtain⟨b,o',vx,hc⟩:=rx
      exact z1c hI hS (c:= .ep (cs.drop fd.offset)) (by simp only[eff,ex]) (hrun b o' vx) (by simp only[Rep,z7c];exact⟨b,_,rfl,hc.drop _⟩)
     ·cases hok
    ·cases hz
   ·cases h
  ·cases h
 ·cases h

def z7ob (K:Cx) (op:Op) (x:Arg):Bool:=match op with| .nilCheck x'=>z5j K x' x|_=>false
theorem z7Qa (hI:Inv K base g w getB) (hS:z5e K g w get a) {x:Arg} (h:z7ob K o.op x=true) (hok:okp K.E get getB (.nilchk x)):z3K K base a get getB d o (.nilchk x) w:=by
 unfold z7ob at h
 split at h
 ·rename_i x' ho
  have rx:=z8b hI hS h
  simp only[okp] at hok
  split at hok
  ·rename_i id o' ex
   rw[ex] at rx
   simp only[Rep] at rx
   obtain⟨b,hb,vx⟩:=rx
   exact z1c hI hS (v:= .pointer (some ⟨b,o',none⟩)) (c:= .bp id o') (by simp only[eff,ex]) (by simp[execOp,ho,vx]) (by simp only[Rep];exact⟨b,hb,rfl⟩)
  ·rename_i cs ex
   rw[ex] at rx
   simp only[Rep,z7c] at rx
   obtain⟨b,o',vx,hc⟩:=rx
   exact z1c hI hS (v:= .pointer (some ⟨b,o',none⟩)) (c:= .ep cs) (by simp only[eff,ex]) (by simp[execOp,ho,vx]) (by simp only[Rep,z7c];exact⟨b,o',rfl,hc⟩)
  ·cases hok
 ·cases h

def z36b (K:Cx) (op:Op) (n esz:Nat) (x i:Arg):Bool:=
 match op with
 | .indexAddr t x' i'=>(match K.P.underlying t with|some (.array m e)=>(m==n)&&z2A K.P e esz|_=>false)&&z5j K x' x&&z5j K i' i
 |_=>false
theorem z9Ta (hI:Inv K base g w getB) (hS:z5e K g w get a) {n esz:Nat} {x i:Arg} (h:z36b K o.op n esz x i=true) (hok:okp K.E get getB (.idxArr n esz x i)):z3K K base a get getB d o (.idxArr n esz x i) w:=by
 unfold z36b at h
 split at h
 ·rename_i t x' i' ho
  simp only[Bool.and_eq_true] at h
  obtain⟨⟨h,hx⟩,hi⟩:=h
  split at h
  ·rename_i m e hu
   simp only[Bool.and_eq_true,beq_iff_eq] at h
   obtain⟨rfl,hsz⟩:=h
   have rx:=z8b hI hS hx
   simp only[okp] at hok
   obtain⟨hok,hii,h0,hlt⟩:=hok
   obtain⟨ki,_,vi⟩:=z1Y (z8b hI hS hi) hii
   have hrun:∀b o',a.eval x'= .pointer (some ⟨b,o',none⟩)→(execOp a.eval o).run K.P w= .ok (.value (.pointer (some ⟨b,o'+(asI (arg K.E get i)).toNat*esz,none⟩))) w:=fun b o' e=>by
    simp[execOp,ho,e,vi,Instr.indexAt,asIntOf,run_underlying hu,Instr.sureAddr,h0,hlt,run_sizeOf w hsz,Addr.add_mid]
   split at hok
   ·rename_i id o' ex
    rw[ex] at rx
    simp only[Rep] at rx
    obtain⟨b,hb,vx⟩:=rx
    exact z1c hI hS (c:= .bp id (o'+(asI (arg K.E get i)).toNat*esz)) (by simp only[eff,ex]) (hrun b o' vx) (by simp only[Rep];exact⟨b,hb,rfl⟩)
   ·rename_i cs ex
    rw[ex] at rx
    simp only[Rep,z7c] at rx
    obtain⟨b,o',vx,hc⟩:=rx
    exact z1c hI hS (c:= .ep (cs.drop ((asI (arg K.E get i)).toNat*esz))) (by simp only[eff,ex]) (hrun b o' vx) (by simp only[Rep,z7c];exact⟨b,_,rfl,hc.drop _⟩)
   ·cases hok
  ·cases h
 ·cases h

theorem z0pa {l:Option Loc} {m:z0ea} {nl:Option Bool} {n:Nat} {cs:List z2a} {v:Value} (h:Rep K.toCon g w l (.sl m nl n cs) v):z7c K.toCon g.S w (.sl .plain nl n cs) v:=by
 cases m<;>simp only[Rep] at h
 ·exact h
 ·simp only[z7c] at h⊢
  rcases h with⟨b,o,cap,h1,h2,h3,h4,_⟩|h
  ·exact .inl ⟨b,o,cap,h1,h2,h3,h4,by simp⟩
  ·exact .inr h
 ·exact h.1

def z77b (K:Cx) (op:Op) (esz:Nat) (x i:Arg):Bool:=
 match op with
 | .indexAddr t x' i'=>(match K.P.underlying t with|some (.slice e)=>z2A K.P e esz|_=>false)&&z5j K x' x&&z5j K i' i
 |_=>false
theorem z1ab (hI:Inv K base g w getB) (hS:z5e K g w get a) {esz:Nat} {x i:Arg} (h:z77b K o.op esz x i=true) (hok:okp K.E get getB (.idxSl esz x i)):z3K K base a get getB d o (.idxSl esz x i) w:=by
 unfold z77b at h
 split at h
 ·rename_i t x' i' ho
  simp only[Bool.and_eq_true] at h
  obtain⟨⟨h,hx⟩,hi⟩:=h
  split at h
  ·rename_i e hu
   have rx:=z8b hI hS hx
   simp only[okp] at hok
   obtain⟨hok,hii,h0,hlt⟩:=hok
   obtain⟨ki,_,vi⟩:=z1Y (z8b hI hS hi) hii
   have hrun:∀b o' n cap,(asI (arg K.E get i))<(n:Nat)→a.eval x'= .slice (some ⟨b,o',none⟩) n cap→(execOp a.eval o).run K.P w= .ok (.value (.pointer (some ⟨b,o'+(asI (arg K.E get i)).toNat*esz,none⟩))) w:=fun b o' n cap hl e=>by
    simp[execOp,ho,e,vi,Instr.indexAt,asIntOf,run_underlying hu,h0,hl,run_sizeOf w h,Addr.add_mid]
   split at hok
   ·rename_i id e' off n c ex
    rw[ex] at rx hlt
    simp only[z5t] at hlt
    simp only[Rep] at rx
    obtain⟨b,cap,o',hb,vx,_,_,ho'⟩:=rx
    have ho':o'=off:=by rcases ho' with rfl|⟨rfl,_⟩;rfl;simp at hlt;omega
    subst ho'
    exact z1c hI hS (c:= .bp id (o'+(asI (arg K.E get i)).toNat*esz)) (by simp only[eff,ex]) (hrun b o' n cap hlt vx) (by simp only[Rep];exact⟨b,hb,rfl⟩)
   ·rename_i m nl n cs ex
    rw[ex] at rx hlt
    simp only[z5t] at hlt
    have rx:=z0pa rx
    simp only[z7c] at rx
    rcases rx with⟨b,o',cap,vx,_,hc,_⟩|⟨q,vx,rfl,_⟩
    ·exact z1c hI hS (c:= .ep (cs.drop ((asI (arg K.E get i)).toNat*esz))) (by simp only[eff,ex]) (hrun b o' n cap hlt vx) (by simp only[Rep,z7c];exact⟨b,_,rfl,hc.drop _⟩)
    ·simp at hlt;omega
   ·cases hok
  ·cases h
 ·cases h

def z48b (K:Cx) (op:Op) (n:Nat) (x:Arg):Bool:=
 match op with
 | .sliceToArrayPointer t x'=>(match K.P.underlying t with|some (.array m _)=>m==n|_=>false)&&z5j K x' x
 |_=>false
theorem z1gb (hI:Inv K base g w getB) (hS:z5e K g w get a) {n:Nat} {x:Arg} (h:z48b K o.op n x=true) (hok:okp K.E get getB (.s2ap n x)):z3K K base a get getB d o (.s2ap n x) w:=by
 unfold z48b at h
 split at h
 ·rename_i t x' ho
  simp only[Bool.and_eq_true] at h
  obtain⟨h,hx⟩:=h
  split at h
  ·rename_i m e hu
   simp only[beq_iff_eq] at h
   subst h
   have rx:=z8b hI hS hx
   have hrun:∀p k cap,m≤k→a.eval x'= .slice p k cap→(execOp a.eval o).run K.P w= .ok (.value (.pointer p)) w:=fun p k cap hl e=>by
    simp[execOp,ho,e,Instr.arrayAt,run_underlying hu,Nat.not_lt.2 hl]
   simp only[okp] at hok
   split at hok
   ·rename_i id e' off k c ex
    rw[ex] at rx
    simp only[Rep] at rx
    obtain⟨b,cap,o',hb,vx,_,_,ho'⟩:=rx
    have ho':o'=off:=by rcases ho' with rfl|⟨rfl,_⟩;rfl;omega
    subst ho'
    exact z1c hI hS (c:= .bp id o') (by simp only[eff,ex]) (hrun _ _ _ hok.1 vx) (by simp only[Rep];exact⟨b,hb,rfl⟩)
   ·rename_i m' nl k cs ex
    rw[ex] at rx
    have rx:=z0pa rx
    simp only[z7c] at rx
    rcases rx with⟨b,o',cap,vx,_,hc,_⟩|⟨q,vx,rfl,_⟩
    ·exact z1c hI hS (c:= .ep cs) (by simp only[eff,ex]) (hrun _ _ _ hok.1 vx) (by simp only[Rep,z7c];exact⟨b,_,rfl,hc⟩)
    ·omega
   ·cases hok
  ·cases h
 ·cases h

end
end Go.Abs
end

section
namespace Go.Abs

section
variable {K : Cx} {base : z1P} {g g' : Gh} {w w' : World} {get : Nat → z2a} {getB : Nat → Option (List z2a)} {a : Act} {o : Oper} {d : Option Nat}

/-! ### loads -/
theorem z8Ya (hI:Inv K base g w getB) {b:Option Nat} {n:Nat} {p:z2a} {v:Value} (hok:z3xa getB b n p) (hn:0<n) (hr:Rep K.toCon g w none p v):
  ∃bk o vs,v= .pointer (some ⟨bk,o,none⟩)∧w.rangeAt bk o vs∧z1e K.toCon g w (z0t getB b p) vs∧n≤vs.length:=by
 unfold z3xa at hok
 split at hok
 ·rename_i id off
  obtain⟨rfl,cs,hcs,hfit⟩:=hok
  simp only[Rep] at hr
  obtain⟨bk,hb,rfl⟩:=hr
  obtain⟨b',k1,k2,k3⟩:=hI.bxok id cs hcs
  rw[hb] at k1;cases k1
  have hbx:bxl getB (some id)=cs:=by simp[bxl,bxc,hcs]
  let f:Nat→Value:=fun i=>(w.cell? ⟨bk,i,none⟩).getD undef
  have hcell:∀i d,cs[i]? =some d→w.cell? ⟨bk,i,none⟩=some (f i)∧Rep K.toCon g w none d (f i):=fun i d hd=>by
   obtain⟨⟨x,h4,h5⟩,_⟩:=k3 i d hd
   have hf:f i=x:=by simp only[f,h4,Option.getD_some]
   rw[hf]
   exact⟨h4,z9aa h5⟩
  refine⟨bk,off,(List.range (cs.length-off)).map fun j=>f (off+j),rfl,fun j v hv=> ?_,z1e.mk (by simp[z0t,hbx]) (fun i d v hd hv=> ?_),by simp;omega⟩
  ·have hj:j<cs.length-off:=by have:=(List.getElem?_eq_some_iff.1 hv).1;simpa using this
   rw[List.getElem?_map,List.getElem?_range hj] at hv
   simp only[Option.map_some,Option.some.injEq] at hv
   subst hv
   exact(hcell (off+j) _ (List.getElem?_eq_getElem (by omega))).1
  ·simp only[z0t,hbx,List.getElem?_drop] at hd
   have hi:i<cs.length-off:=by have:=(List.getElem?_eq_some_iff.1 hd).1;omega
   rw[List.getElem?_map,List.getElem?_range hi] at hv
   simp only[Option.map_some,Option.some.injEq] at hv
   subst hv
   exact(hcell _ d hd).2
 ·rename_i cs
  obtain⟨rfl,hfit⟩:=hok
  simp only[Rep,z7c] at hr
  obtain⟨bk,o,rfl,hc⟩:=hr
  obtain⟨vs,k1,k2,_⟩:=hc.vals
  exact⟨bk,o,vs,rfl,k1,k2,by rw[←k2.len];exact hfit⟩
 ·cases hok

def z3Ja (k:Option Nat) (vs:List Value):Value:=match k with|none=>vs.headD undef|some n=> .agg (vs.take n).toArray
def z1Sa (K:Cx) (op:Op) (k:Option Nat) (x:Arg):Bool:=match op with| .load t x'=>z7ab K.P t k&&(match k with|some n=>n !=0|none=>true)&&z5j K x' x|_=>false

theorem z76a {P:Program} {t:TypeId} {k:Option Nat} (hk:z7ab P t k=true) {bk o:Nat} {vs:List Value} (hr:w.rangeAt bk o vs) (hn:k.getD 1≤vs.length):
  (Instr.loadAt t (.pointer (some ⟨bk,o,none⟩))).run P w= .ok (z3Ja k vs) w:=by
 unfold z3Ja
 cases k with
 |none=>
  simp only[z7ab,Bool.and_eq_true] at hk
  obtain⟨D,hu,hD⟩:=z7k hk.1
  cases vs with
  |nil=>simp at hn
  |cons v r=>
   have h0:=hr 0 v (by simp)
   simp only[Nat.add_zero] at h0
   cases D<;>simp[TypeDesc.isRow] at hD<;>simp[Instr.loadAt,Instr.sureAddr,loadVar,isAgg,run_underlying hu,h0]
 |some n=>
  simp only[z7ab,Bool.and_eq_true] at hk
  obtain⟨D,hu,hD⟩:=z7k hk.1
  simp only[Option.getD_some] at hn
  exact run_loadAt_mid w bk o t (vs.take n) D (fun j v hv=>by
   rw[List.getElem?_take] at hv
   split at hv
   ·exact hr j v hv
   ·cases hv) hu hD (by rw[List.length_take,Nat.min_eq_left hn];exact z8va hk.2)

theorem z5bb (hI:Inv K base g w getB) (hS:z5e K g w get a) {k b:Option Nat} {take:Bool} {x:Arg} (h:z1Sa K o.op k x=true) (hok:okp K.E get getB (.load k b take x)):z3K K base a get getB d o (.load k b take x) w:=by
 unfold z1Sa at h
 split at h
 ·rename_i t x' ho
  simp only[Bool.and_eq_true] at h
  obtain⟨⟨hk,hn0⟩,hx⟩:=h
  have hpos:0<k.getD 1:=by
   cases k with
   |none=>simp
   |some n=>simp at hn0⊢;omega
  obtain⟨bk,off,vs,hv,hr,hrl,hn⟩:=z8Ya hI hok.1 hpos (z8b hI hS hx)
  have hl:=z76a (P:=K.P) hk hr hn
  have hrun:(execOp a.eval o).run K.P w= .ok (.value (z3Ja k vs)) w:=by
   simp only[execOp,ho,hv,Sem.run_bind,hl,Result.andThen_ok,Sem.run_pure]
  cases k with
  |some n=>
   refine z1c hI hS (c:= .agg ((z0t getB b (arg K.E get x)).take n)) rfl hrun ?_
   simp only[Rep]
   exact⟨_,rfl,by simpa using hrl.take n⟩
  |none=>
   simp only[Option.getD_none] at hn
   cases hcs:z0t getB b (arg K.E get x) with
   |nil=>have:=hrl.len;rw[hcs] at this;simp at this;omega
   |cons c cs=>
    rw[hcs] at hrl
    simp only[z1e] at hrl
    obtain⟨v,r,rfl,h1,h2⟩:=hrl
    have plain:eff K.E get getB (.load none b take x)={val:=dem c}→z3K K base a get getB d o (.load none b take x) w:=fun e=>
     z1c hI hS e hrun (Rep.dem _ h1)
    cases take with
    |false=>exact plain (by simp only[eff,hcs,hdA,List.headD_cons])
    |true=>
     cases b with
     |none=>exact plain (by simp only[eff,hcs,hdA,List.headD_cons])
     |some id=>
      cases hax:arg K.E get x with
      |bp id' off'=>
       have hob:id<1000000:=hok.2 rfl id rfl
       have hok:=hok.1
       simp only[hax,z3xa,Option.some.injEq] at hok
       obtain⟨rfl,es,hes,hfit⟩:=hok
       have hbx:bxl getB (some id)=es:=by simp[bxl,bxc,hes]
       have hc:es[off']? =some c:=by
        have:(es.drop off')[0]? =some c:=by
         simp only[hax,z0t,hbx] at hcs
         rw[hcs];rfl
        simpa using this
       obtain⟨b',k1,k2,k3⟩:=hI.bxok id es hes
       obtain⟨⟨x0,hx0,hrep⟩,_⟩:=k3 off' c hc
       have hvx:v=x0:=by
        have e0:=hr 0 v (by simp)
        have rx:=z8b hI hS hx
        rw[hax] at rx
        simp only[Rep] at rx
        obtain⟨b'',kb,kv⟩:=rx
        rw[k1] at kb;cases kb
        rw[hv] at kv
        simp only[Value.pointer.injEq,Option.some.injEq,Addr.mk.injEq] at kv
        obtain⟨rfl,rfl,_⟩:=kv
        simp only[Nat.add_zero,hx0,Option.some.injEq] at e0
        exact e0.symm
       subst hvx
       have hef:eff K.E get getB (.load none (some id) true x)={val:=c,bx:=[(id,some (es.set off' (dem (es.getD off' .undef))))]}:=by
        rw[hax] at hcs
        simp only[eff,hax,hcs,hdA,List.headD_cons,hbx]
        rw[List.getD,hc]
        rfl
       refine⟨_,v,w,hrun,.inl rfl,?_⟩
       rw[hef]
       cases d with
       |none=>
        refine⟨z7G g (.cell id off') .ret,z4ca hI hob hes off' .ret (by simp),z45 hS id off' .ret,?_⟩
        exact z31 (by simp) (z9aa hrep)
       |some n=>
        exact⟨z7G g (.cell id off') (.slot n),z4ca hI hob hes off' (.slot n) (by simp),z45 hS id off' (.slot n),z3q hrep⟩
      |_=>exact plain (by simp only[eff,hax] at hcs⊢;simp only[hcs,hdA,List.headD_cons])
 ·cases h

/-! ### stores -/
def z4ba (K:Cx) (op:Op) (k:Option Nat) (x v:Arg):Bool:=match op with| .store t x' v'=>z2A K.P t (k.getD 1)&&z5j K x' x&&z5j K v' v|_=>false

theorem z4ya {k:Option Nat} {c:z2a} {v:Value} (h:Rep K.toCon g w none c v) (hk:isK k c):
  z1e K.toCon g w (z9X k c) v.cells.toList∧(∀x∈v.cells.toList,x.oneCell'=true)∧(z9X k c).length=k.getD 1∧∀x∈z9X k c,z1f x=false:=by
 cases k with
 |none=>
  simp only[isK] at hk
  have h1:=z4r h hk
  have hvc:v.cells= #[v]:=by cases v<;>simp_all [Value.cells,Value.oneCell']
  rw[hvc]
  refine⟨by simp only[z9X,z1e];exact⟨v,[],rfl,Rep.dem _ h,rfl⟩,by simpa using h1,rfl,?_⟩
  simp only[z9X,List.mem_singleton,forall_eq]
  exact z4R c
 |some n=>
  simp only[isK] at hk
  split at hk
  ·rename_i cs
   obtain⟨h1,h2,h3⟩:=hk
   obtain⟨k1,k2⟩:=z4Ja h (by simpa[z3s] using h2)
   exact⟨k1,k2,h1,h3⟩
  ·cases hk

theorem z4sa {P:Program} {t:TypeId} {n:Nat} (hk:z2A P t n=true) {bk o:Nat} {v:Value} (hn:v.cells.size=n) (h1:∀x∈v.cells.toList,x.oneCell'=true) (ht:w.there bk o n):
  (Instr.storeAt t (.pointer (some ⟨bk,o,none⟩)) v).run P w= .ok () (w.setCells bk o v.cells.toList):=by
 have hst:=run_storeCells_cells (P:=P) bk o v.cells.toList 0 w (fun j hj=>by simpa using(ht j (by simpa[hn] using hj)).1) (fun j hj=>by simpa using(ht j (by simpa[hn] using hj)).2) h1
 simp only[Nat.add_zero] at hst
 simp[Instr.storeAt,Instr.sureAddr,storeVar,run_sizeOf w hk,hn,hst]

theorem z99 (hI:Inv K base g w getB) {id:Nat} {cs:List z2a} (hid:getB id=some cs) {bk:Nat} (hb:g.mu id=some bk) (o n:Nat) (h:o+n≤cs.length):w.there bk o n:=fun j hj=>by
 obtain⟨b',k1,_,k3⟩:=hI.bxok id cs hid
 rw[hb] at k1;cases k1
 obtain⟨⟨x,hx,_⟩,hf⟩:=k3 (o+j) _ (List.getElem?_eq_getElem (by omega))
 exact⟨by rw[hx];rfl,hf⟩

theorem z3l {α:Type} {l:List α} {i:Nat} {x:α} (h:l[i]? =some x):x∈l:=by
 obtain⟨hi,rfl⟩:=List.getElem?_eq_some_iff.1 h
 exact List.getElem_mem _

theorem z0va (getB:Nat→Option (List z2a)) (id:Nat) (x:Option (List z2a)) (j:Nat):z29 getB [(id,x)] j=if j=id then x else getB j:=by
 simp only[z29,lk]
 by_cases h:j=id
 ·simp[h]
 ·simp[h]

theorem z58a (hI:Inv K base g w getB) (hS:z5e K g w get a) {k:Option Nat} {b:Nat} {take:Bool} {x v:Arg} (h:z4ba K o.op k x v=true) (hok:okp K.E get getB (.store k b take x v)):z3K K base a get getB d o (.store k b take x v) w:=by
 unfold z4ba at h
 split at h
 ·rename_i t x' v' ho
  simp only[Bool.and_eq_true] at h
  obtain⟨⟨hk,hx⟩,hv⟩:=h
  have rx:=z8b hI hS hx
  have rv:=z8b hI hS hv
  simp only[okp] at hok
  obtain⟨hob,hp,hkv⟩:=hok
  split at hp
  ·rename_i id off ex
   obtain⟨rfl,cs,hcs,hfit⟩:=hp
   rw[ex] at rx
   simp only[Rep] at rx
   obtain⟨bk,hb,vx⟩:=rx
   obtain⟨c1,c2,c3,c4⟩:=z4ya rv hkv
   have hsz:(a.eval v').cells.size=k.getD 1:=by rw[←Array.length_toList,←c1.len,c3]
   have hrun:(execOp a.eval o).run K.P w= .ok .skip (w.setCells bk off (a.eval v').cells.toList):=by
    simp only[execOp,ho,vx]
    rw[Sem.run_bind,z4sa (P:=K.P) hk hsz c2 (z99 hI hcs hb off _ hfit)]
    rfl
   have hbx:bxl getB (some id)=cs:=by simp[bxl,bxc,hcs]
   have plain:eff K.E get getB (.store k id take x v)={val:= .undef,bx:=[(id,some (splice cs off (z9X k (arg K.E get v))))]}→z3K K base a get getB d o (.store k id take x v) w:=fun e=>by
    obtain⟨bk',k1,k2,k3⟩:=z61 hI hob hcs off (a.eval v').cells.toList (z9X k (arg K.E get v)) c1.len (by rw[c3];exact hfit) (fun i c u hc hu=>by
     obtain⟨u',hu',hr⟩:=c1.get i c hc
     rw[hu] at hu';cases hu'
     exact z5T _ (c4 c (z3l hc)) hr)
    rw[hb] at k1;cases k1
    refine⟨_,undef,_,hrun,.inr ⟨rfl,rfl⟩,?_⟩
    rw[e]
    exact⟨g,k3,k2.slots hS,by simp[Rep]⟩
   have ep:∀(k':Option Nat) (t':Bool) (v'':Arg),(k'≠none∨t'=false∨∀n,v''≠ .s n)→eff K.E get getB (.store k' id t' x v'')={val:= .undef,bx:=[(id,some (splice cs off (z9X k' (arg K.E get v''))))]}:=fun k' t' v'' hc=>by
    cases k'<;>cases t'<;>cases v''<;>simp at hc<;>simp only[eff,ex,hbx]
   cases k with
   |some n=>exact plain (ep _ _ _ (.inl (by simp)))
   |none=>
    cases take with
    |false=>exact plain (ep _ _ _ (.inr (.inl rfl)))
    |true=>
     cases v with
     |c _=>exact plain (ep _ _ _ (.inr (.inr (by simp))))
     |g _=>exact plain (ep _ _ _ (.inr (.inr (by simp))))
     |s n=>
      have:=z6L hv
      subst this
      have hcell:z2d (get n):=hkv
      have hcs':=getB
      obtain⟨g',h1,h2,h3,h4,hSe,hmue⟩:=z8R hI hS n (some (.cell id off))
      have hone:=z4r h3 hcell
      have hvc:(a.eval (.tmp n)).cells= #[a.eval (.tmp n)]:=by
       generalize a.eval (.tmp n)=u at hone
       cases u<;>simp_all [Value.cells,Value.oneCell']
      obtain⟨bk',k1,k2,k3⟩:=z61 h1 hob hcs off (a.eval (.tmp n)).cells.toList [get n] (by rw[hvc];rfl) (by simpa using hfit) (fun i c u hc hu=>by
       rw[hvc] at hu
       cases i with
       |zero=>simp at hc hu;subst hc hu;exact h3
       |succ i=>simp at hc)
      rw[h4 id bk hb] at k1;cases k1
      refine⟨_,undef,_,hrun,.inr ⟨rfl,rfl⟩,?_⟩
      have hef:eff K.E get getB (.store none id true x (.s n))={val:= .undef,sl:=[(n,dem (get n))],bx:=[(id,some (splice cs off [get n]))]}:=by simp only[eff,ex,hbx]
      rw[hef]
      exact⟨g',k3,k2.slots h2,by simp[Rep]⟩
  ·cases hp
 ·cases h

/-! ### new variables -/
def z31a (P:Program) (t:TypeId) (z:List z2a):Bool:=match P.info? t with|some i=>(match i.zero with|some v=>z0M z v.cells.toList|none=>false)|none=>false
theorem z7Oa {P:Program} {t:TypeId} {z:List z2a} (h:z31a P t z=true):∃i v,P.info? t=some i∧i.zero=some v∧z0M z v.cells.toList=true:=by
 unfold z31a at h
 split at h
 ·rename_i i hi
  split at h
  ·rename_i v hv;exact⟨i,v,hi,hv,h⟩
  ·cases h
 ·cases h

theorem z1ua {g:Gh} {w:World}:∀{ds:List z2a} {vs:List Value},z0M ds vs=true→ds.length=vs.length∧∀(i:Nat) (d:z2a),ds[i]? =some d→∀l,∃v,vs[i]? =some v∧Rep K.toCon g w l d v
 |[],vs,h=>by simp only[z0M,List.isEmpty_iff] at h;subst h;simp
 |d::ds,vs,h=>by
  simp only[z0M] at h
  split at h
  ·rename_i v vs
   simp only[Bool.and_eq_true] at h
   obtain⟨h1,h2⟩:=z1ua (g:=g) (w:=w) h.2
   refine⟨by simp[h1],fun i d' hd l=> ?_⟩
   cases i with
   |zero=>simp at hd;subst hd;exact⟨v,by simp,z7ba d v l h.1⟩
   |succ i=>simp at hd;obtain⟨u,hu,hr⟩:=h2 i d' hd l;exact⟨u,by simpa using hu,hr⟩
  ·cases h

def z3Ga (K:Cx) (op:Op) (z:List z2a):Bool:=match op with| .alloc t=>z31a K.P t z|_=>false
theorem z59a (hI:Inv K base g w getB) (hS:z5e K g w get a) {id:Nat} {z:List z2a} (h:z3Ga K o.op z=true) (hok:okp K.E get getB (.alloc id z)):z3K K base a get getB d o (.alloc id z) w:=by
 unfold z3Ga at h
 split at h
 ·rename_i t ho
  obtain⟨i,v,hi,hz,hm⟩:=z7Oa h
  have hb:=z2va hI id hok.1 hok.2 v.cells t z (fun i c hc=>by
   obtain⟨u,hu,hr⟩:=(z1ua (K:=K) (g:=g) (w:=w) hm).2 i c hc (some (.cell id i))
   exact⟨u,by rw[←Array.getElem?_toList];exact hu,hr⟩)
  have hrun:(execOp a.eval o).run K.P w= .ok (.value (.pointer (some ⟨w.heap.size,0,none⟩))) (w.alloc (.cells v.cells t)):=by
   simp[execOp,ho,Instr.alloc,zeroValue,typeInfo,hi,hz,newVar,newRow]
  exact⟨_,_,_,hrun,.inl rfl,_,hb.2,hb.1.slots hS,by simp only[eff,Rep];exact⟨w.heap.size,by simp[z4Y],rfl⟩⟩
 ·cases h

def z3cb (K:Cx) (op:Op) (k:Option Nat) (x:Arg):Bool:=match op with| .box _ x'=>z5j K x' x|_=>false
theorem z6Bb (hI:Inv K base g w getB) (hS:z5e K g w get a) {id:Nat} {k:Option Nat} {take:Bool} {x:Arg} (h:z3cb K o.op k x=true) (hok:okp K.E get getB (.box id k take x)):z3K K base a get getB d o (.box id k take x) w:=by
 unfold z3cb at h
 split at h
 ·rename_i t x' ho
  obtain⟨hob,hid,hk⟩:=hok
  have rv:=z8b hI hS h
  obtain⟨c1,c2,c3,c4⟩:=z4ya rv hk
  have hrun:(execOp a.eval o).run K.P w= .ok (.value (.pointer (some ⟨w.heap.size,0,none⟩))) (w.alloc (.cells (a.eval x').cells t)):=by
   simp[execOp,ho,Instr.box,newVar,newRow]
  have plain:eff K.E get getB (.box id k take x)={val:= .bp id 0,bx:=[(id,some (z9X k (arg K.E get x)))]}→z3K K base a get getB d o (.box id k take x) w:=fun e=>by
   have hb:=z2va hI id hob hid (a.eval x').cells t (z9X k (arg K.E get x)) (fun i c hc=>by
    obtain⟨u,hu,hr⟩:=c1.get i c hc
    exact⟨u,by rw[←Array.getElem?_toList];exact hu,z5T _ (c4 c (z3l hc)) hr⟩)
   refine⟨_,_,_,hrun,.inl rfl,?_⟩
   rw[e]
   exact⟨_,hb.2,hb.1.slots hS,by simp only[Rep];exact⟨w.heap.size,by simp[z4Y],rfl⟩⟩
  cases k with
  |some n=>exact plain (by cases take<;>cases x<;>rfl)
  |none=>
   cases take with
   |false=>exact plain (by cases x<;>rfl)
   |true=>
    cases x with
    |c _=>exact plain rfl
    |g _=>exact plain rfl
    |s n=>
     have:=z6L h
     subst this
     have hcell:z2d (get n):=hk
     obtain⟨g',h1,h2,h3,_⟩:=z8R hI hS n (some (.cell id 0))
     have hone:=z4r h3 hcell
     have hvc:(a.eval (.tmp n)).cells= #[a.eval (.tmp n)]:=by
      generalize a.eval (.tmp n)=u at hone
      cases u<;>simp_all [Value.cells,Value.oneCell']
     have hb:=z2va h1 id hob hid (a.eval (.tmp n)).cells t [get n] (fun i c hc=>by
      cases i with
      |zero=>simp at hc;subst hc;exact⟨_,by rw[hvc];rfl,h3⟩
      |succ i=>simp at hc)
     refine⟨_,_,_,hrun,.inl rfl,_,hb.2,hb.1.slots h2,by simp only[eff,Rep];exact⟨w.heap.size,by simp[z4Y],rfl⟩⟩
 ·cases h

end
end Go.Abs
end

section
namespace Go.Abs

section
variable {K : Cx} {base : z1P} {g g' : Gh} {w w' : World} {get : Nat → z2a} {getB : Nat → Option (List z2a)} {a : Act} {o : Oper} {d : Option Nat}

/-! ### filling -/
theorem z5kb (vs:List Value):∀(k:Nat) (cells:Array Value) (off:Nat),off+k+vs.length≤cells.size→
  ((vs.zipIdx k).foldl (fun cs (p:Value×Nat)=>cs.setIfInBounds (off+p.2) p.1) cells).toList=splice cells.toList (off+k) vs:=by
 induction vs with
 |nil=>
  intro k cells off h
  simp only[List.zipIdx_nil,List.foldl_nil,splice,List.append_nil,List.length_nil,Nat.add_zero,List.take_append_drop]
 |cons v vs ih=>
  intro k cells off h
  simp only[List.length_cons] at h
  simp only[List.zipIdx_cons,List.foldl_cons]
  rw[ih (k+1) _ off (by simp;omega)]
  unfold splice
  apply List.ext_getElem?
  intro i
  simp only[Array.toList_setIfInBounds,List.append_assoc,List.getElem?_append,List.length_take,List.length_set,Array.length_toList,List.getElem?_take,List.getElem?_drop,List.getElem?_set,List.length_cons]
  rw[Nat.min_eq_left (by omega),Nat.min_eq_left (by omega)]
  by_cases h1:i<off+k
  ·rw[if_pos (by omega),if_pos (by omega),if_neg (by omega),if_pos h1,if_pos h1]
  ·rw[if_neg h1]
   by_cases h2:i=off+k
   ·subst h2
    rw[if_pos (by omega),if_pos (by omega),if_pos rfl,if_pos (by omega)]
    simp
   ·rw[if_neg (by omega)]
    have e:i-(off+k)=(i-(off+(k+1)))+1:=by omega
    rw[e]
    simp only[List.getElem?_cons_succ]
    by_cases h3:i-(off+(k+1))<vs.length
    ·rw[if_pos h3,if_pos (by omega)]
    ·rw[if_neg h3,if_neg (by omega),if_neg (by omega)]
     congr 1
     omega

def z6ja:List (Nat×Value)→List Value→List Value
 |[],z=>z
 |(off,v)::r,z=>z6ja r (splice z off v.cells.toList)

theorem z7ja {α:Type} {z:List α} {off:Nat} {xs:List α} (h:off+xs.length≤z.length):(splice z off xs).length=z.length:=by
 simp[splice];omega

theorem z1Ca (place:Nat→Option (Nat×Nat)):∀(ps:List (Nat×Value)) (os:List Nat) (cells:Array Value),ps.length=os.length→
  (∀(i:Nat) (p:Nat×Value) (off:Nat),ps[i]? =some p→os[i]? =some off→place p.1=some (off,p.2.cells.size)∧off+p.2.cells.size≤cells.size)→
  ∃r,Instr.fill place cells ps=some r∧r.toList=z6ja (os.zip (ps.map (·.2))) cells.toList
 |[],[],cells,_,_=>⟨cells,rfl,rfl⟩
 |[],_::_,_,h,_=>by simp at h
 |_::_,[],_,h,_=>by simp at h
 |(i,v)::ps,off::os,cells,hl,h=>by
  obtain⟨h1,h2⟩:=h 0 (i,v) off (by simp) (by simp)
  have hf:=z5kb v.cells.toList 0 cells off (by simpa using h2)
  have hf':(v.cells.zipIdx.foldl (fun cs (p:Value×Nat)=>cs.setIfInBounds (off+p.2) p.1) cells).toList=splice cells.toList off v.cells.toList:=by
   rw[←Array.foldl_toList,Array.toList_zipIdx]
   simpa using hf
  obtain⟨r,k1,k2⟩:=z1Ca place ps os (v.cells.zipIdx.foldl (fun cs (p:Value×Nat)=>cs.setIfInBounds (off+p.2) p.1) cells) (by simpa using hl) (fun j p o' hp ho=>by
   obtain⟨k1,k2⟩:=h (j+1) p o' (by simpa using hp) (by simpa using ho)
   refine⟨k1,?_⟩
   have hsz':(v.cells.zipIdx.foldl (fun cs (p:Value×Nat)=>cs.setIfInBounds (off+p.2) p.1) cells).size=cells.size:=by
    rw[←Array.length_toList,hf',z7ja (by simpa using h2),Array.length_toList]
   rw[hsz']
   exact k2)
  refine⟨r,?_,?_⟩
  ·simp only[Instr.fill]
   simp only at h1 h2
   rw[h1]
   simp only[ne_eq,not_true_eq_false,decide_false,Bool.false_or,decide_eq_true_eq]
   rw[if_neg (by omega)]
   exact k1
  ·rw[k2,hf']
   rfl

theorem z1e.splice {ds ds':List z2a} {vs vs':List Value} (off:Nat) (h:z1e K.toCon g w ds vs) (h':z1e K.toCon g w ds' vs'):z1e K.toCon g w (Abs.splice ds off ds') (Abs.splice vs off vs'):=by
 unfold Abs.splice
 rw[←h'.len]
 exact((h.take off).append h').append (h.drop _)

def z3D (K:Cx) (f:Nat→Nat→Nat→Bool):List (Nat×Operand)→List (Nat×Nat×Arg)→Bool
 |[],[]=>true
 |(i,x)::ps,(off,k,y)::qs=>f i off k&&z5j K x y&&z3D K f ps qs
 |_,_=>false

theorem z2fa (hI:Inv K base g w getB) (hS:z5e K g w get a) {f:Nat→Nat→Nat→Bool}:∀{ps:List (Nat×Operand)} {qs:List (Nat×Nat×Arg)} {n:Nat} {z:List z2a} {zv:List Value},z3D K f ps qs=true→z6B K.E get qs n→
  z1e K.toCon g w z zv→zv.length=n→(∀x∈zv,x.oneCell'=true)→
  ps.length=qs.length∧z1e K.toCon g w (z8L K.E get qs z) (z6ja ((qs.map (·.1)).zip (ps.map fun p=>a.eval p.2)) zv)∧(z6ja ((qs.map (·.1)).zip (ps.map fun p=>a.eval p.2)) zv).length=n∧
  (∀x∈z6ja ((qs.map (·.1)).zip (ps.map fun p=>a.eval p.2)) zv,x.oneCell'=true)∧
  (∀(i:Nat) p q,ps[i]? =some p→qs[i]? =some q→f p.1 q.1 q.2.1=true∧(a.eval p.2).cells.size=q.2.1∧q.1+q.2.1≤n)
 |[],[],n,z,zv,_,_,hz,hn,h1=>⟨rfl,hz,hn,h1,by simp⟩
 |[],_::_,_,_,_,h,_,_,_,_=>by simp[z3D] at h
 |_::_,[],_,_,_,h,_,_,_,_=>by simp[z3D] at h
 |(i,x)::ps,(off,k,y)::qs,n,z,zv,h,hok,hz,hn,h1=>by
  simp only[z3D,Bool.and_eq_true] at h
  obtain⟨⟨hf,hx⟩,hr⟩:=h
  simp only[z6B] at hok
  obtain⟨e1,e2,e3,e4⟩:=hok
  obtain⟨c1,c2⟩:=z4Ja (z8b hI hS hx) e3
  have hlen:(a.eval x).cells.toList.length=k:=by rw[←c1.len,e1]
  have ih:=z2fa hI hS (zv:=Abs.splice zv off (a.eval x).cells.toList) hr e4 (hz.splice off c1) (by rw[z7ja (by omega)];exact hn) (fun u hu=>by
   unfold Abs.splice at hu
   simp only[List.mem_append] at hu
   rcases hu with(hu|hu)|hu
   ·exact h1 u (List.mem_of_mem_take hu)
   ·exact c2 u hu
   ·exact h1 u (List.mem_of_mem_drop hu))
  obtain⟨i1,i2,i3,i4,i5⟩:=ih
  refine⟨by simp[i1],i2,i3,i4,fun j p q hp hq=> ?_⟩
  cases j with
  |zero=>
   simp at hp hq
   subst hp hq
   exact⟨hf,by simpa using hlen,e2⟩
  |succ j=>exact i5 j p q (by simpa using hp) (by simpa using hq)

def z6aa (K:Cx) (op:Op) (z:List z2a) (parts:List (Nat×Nat×Arg)):Bool:=
 match op with
 | .build t ps=>z31a K.P t z&&z3Y K.P t (fun D=>D.isRow)&&z3D K (fun i off k=>match K.P.underlying t with
   |some (.struct fs)=>(match fs[i]? with|some fd=>(fd.offset==off)&&z2A K.P fd.type k|none=>false)&&fs.toList.all (fun fd=>(K.P.info? fd.type).isSome)
   |some (.array _ e)=>(i*k==off)&&z2A K.P e k
   |_=>false) ps.toList parts&&(match K.P.underlying t with|some (.struct fs)=>fs.toList.all (fun fd=>(K.P.info? fd.type).isSome)|some (.array _ e)=>(K.P.info? e).isSome|_=>false)
 |_=>false

theorem z0Ea {z:List z2a} {v:Value} (h:z0M z v.cells.toList=true) (hr:∀x∈z,z2d x):z1e K.toCon g w z v.cells.toList∧∀x∈v.cells.toList,x.oneCell'=true:=by
 have h1:=z5L (K:=K.toCon) (g:=g) (w:=w) _ _ h
 refine⟨h1,fun x hx=> ?_⟩
 obtain⟨i,hi,rfl⟩:=List.mem_iff_getElem.1 hx
 have hl:=h1.len
 obtain⟨y,hy,hr'⟩:=h1.get i z[i] (List.getElem?_eq_getElem (by omega))
 rw[List.getElem?_eq_getElem hi] at hy
 cases hy
 exact z4r hr' (hr _ (List.getElem_mem _))

theorem z7sa {P:Program}:∀(fs:List Field),fs.all (fun fd=>(P.info? fd.type).isSome)=true→
  ∃ps,fs.mapM (fun f=>(P.info? f.type).map fun i=>(f.offset,i.size))=some ps∧ps.length=fs.length∧∀(i:Nat) (fd:Field) (k:Nat),fs[i]? =some fd→z2A P fd.type k=true→ps[i]? =some (fd.offset,k)
 |[],_=>⟨[],by simp,rfl,by simp⟩
 |f::fs,h=>by
  simp only[List.all_cons,Bool.and_eq_true] at h
  obtain⟨i,hi⟩:=Option.isSome_iff_exists.1 h.1
  obtain⟨ps,h1,h2,h3⟩:=z7sa fs h.2
  refine⟨(f.offset,i.size)::ps,by simp[List.mapM_cons,hi,h1],by simp[h2],fun j fd k hj hk=> ?_⟩
  cases j with
  |zero=>
   simp at hj
   subst hj
   obtain⟨i',hi',rfl⟩:=z1M hk
   rw[hi] at hi';cases hi'
   rfl
  |succ j=>simpa using h3 j fd k (by simpa using hj) hk

theorem z5Pa (hI:Inv K base g w getB) (hS:z5e K g w get a) {z:List z2a} {parts:List (Nat×Nat×Arg)} (h:z6aa K o.op z parts=true) (hz1:∀x∈z,z2d x) (hok:okp K.E get getB (.build z parts)):
  ∃(r:Array Value) (ps:List (Nat×Operand)) (zv:List Value) (f:Nat→Nat→Nat→Bool),(execOp a.eval o).run K.P w= .ok (.value (.agg r)) w∧z1e K.toCon g w (z8L K.E (fun n=>dem (get n)) parts z) r.toList∧r.toList=z6ja ((parts.map (·.1)).zip (ps.map fun p=>a.eval p.2)) zv∧z3D K f ps parts=true∧zv.length=z.length:=by
 unfold z6aa at h
 split at h
 ·rename_i t ps ho
  simp only[Bool.and_eq_true] at h
  obtain⟨⟨⟨hz,ht⟩,hps⟩,hinfo⟩:=h
  obtain⟨i,zv,hi,hzz,hm⟩:=z7Oa hz
  obtain⟨c1,c2⟩:=z0Ea (K:=K) (g:=g) (w:=w) hm hz1
  simp only[okp] at hok
  have hS':z5e K g w (fun n=>dem (get n)) a:=fun s=>Rep.dem _ (hS s)
  rw[c1.len] at hok
  obtain⟨p1,p2,p3,p4,p5⟩:=z2fa hI hS' hps hok c1 rfl c2
  have hfin:∀(place:Nat→Option (Nat×Nat)),(∀(i:Nat) p q,ps.toList[i]? =some p→parts[i]? =some q→place p.1=some (q.1,q.2.1))→
    ∃r,Instr.fill place zv.cells (ps.map fun(i,x)=>(i,a.eval x)).toList=some r∧z1e K.toCon g w (z8L K.E (fun n=>dem (get n)) parts z) r.toList∧r.toList=z6ja ((parts.map (·.1)).zip (ps.toList.map fun p=>a.eval p.2)) zv.cells.toList:=fun place hpl=>by
   have hlen:((ps.map fun(i,x)=>(i,a.eval x)).toList).length=(parts.map (·.1)).length:=by simpa using p1
   obtain⟨r,k1,k2⟩:=z1Ca place (ps.map fun(i,x)=>(i,a.eval x)).toList (parts.map (·.1)) zv.cells hlen (fun j p off hp hoff=>by
    simp only[Array.toList_map,List.getElem?_map,Option.map_eq_some_iff] at hp hoff
    obtain⟨p',hp',rfl⟩:=hp
    obtain⟨q',hq',rfl⟩:=hoff
    obtain⟨e1,e2,e3⟩:=p5 j p' q' hp' hq'
    simp only
    rw[e2]
    exact⟨hpl j p' q' hp' hq',by rw[←Array.length_toList];exact e3⟩)
   refine⟨r,k1,?_⟩
   rw[k2]
   have:(ps.map fun(i,x)=>(i,a.eval x)).toList.map (·.2)=ps.toList.map fun p=>a.eval p.2:=by simp[Array.toList_map,List.map_map,Function.comp_def]
   rw[this]
   exact⟨p2,rfl⟩
  obtain⟨D,hu,hD⟩:=z7k ht
  have done:∀r,(Instr.build t (ps.map fun(i,x)=>(i,a.eval x))).run K.P w= .ok (.agg r) w→(z1e K.toCon g w (z8L K.E (fun n=>dem (get n)) parts z) r.toList∧r.toList=z6ja ((parts.map (·.1)).zip (ps.toList.map fun p=>a.eval p.2)) zv.cells.toList)→
    ∃(r:Array Value) (ps:List (Nat×Operand)) (zv:List Value) (f:Nat→Nat→Nat→Bool),(execOp a.eval o).run K.P w= .ok (.value (.agg r)) w∧z1e K.toCon g w (z8L K.E (fun n=>dem (get n)) parts z) r.toList∧r.toList=z6ja ((parts.map (·.1)).zip (ps.map fun p=>a.eval p.2)) zv∧z3D K f ps parts=true∧zv.length=z.length:=fun r h1 h2=>by
   refine⟨r,ps.toList,zv.cells.toList,_,?_,h2.1,h2.2,hps,c1.len.symm⟩
   simp only[execOp,ho]
   rw[Sem.run_bind,h1]
   rfl
  cases D<;>simp only[TypeDesc.isRow,Bool.false_eq_true] at hD
  case struct fs=>
   simp only[hu] at hinfo p5
   obtain⟨places,m1,m2,m3⟩:=z7sa (P:=K.P) fs.toList hinfo
   obtain⟨r,k1,k2⟩:=hfin (places.toArray[·]?) (fun j p q hp hq=>by
    obtain⟨e1,_,_⟩:=p5 j p q hp hq
    simp only[Bool.and_eq_true] at e1
    obtain⟨e1,_⟩:=e1
    split at e1
    ·rename_i fd hfd
     simp only[Bool.and_eq_true,beq_iff_eq] at e1
     have:=m3 p.1 fd q.2.1 (by simpa using hfd) e1.2
     simp only[List.getElem?_toArray]
     rw[this,e1.1]
    ·cases e1)
   refine done r (run_build w t _ r ?_) k2
   unfold Program.built
   simp only[hi,hu,hzz,m1]
   exact k1
  case array n e=>
   simp only[hu] at hinfo p5
   obtain⟨ie,hie⟩:=Option.isSome_iff_exists.1 hinfo
   obtain⟨r,k1,k2⟩:=hfin (fun i=>some (i*ie.size,ie.size)) (fun j p q hp hq=>by
    obtain⟨e1,_,_⟩:=p5 j p q hp hq
    simp only[Bool.and_eq_true,beq_iff_eq] at e1
    obtain⟨i',hi',hs'⟩:=z1M e1.2
    rw[hie] at hi';cases hi'
    simp only[hs',e1.1])
   refine done r (run_build w t _ r ?_) k2
   unfold Program.built
   simp only[hi,hu,hzz,hie]
   exact k1
 ·cases h

theorem z46a (hI:Inv K base g w getB) (hS:z5e K g w get a) {z:List z2a} {parts:List (Nat×Nat×Arg)} (h:z6aa K o.op z parts=true) (hz1:∀x∈z,z2d x) (hok:okp K.E get getB (.build z parts)):z3K K base a get getB d o (.build z parts) w:=by
 obtain⟨r,_,_,_,h1,h2,_⟩:=z5Pa hI hS h hz1 hok
 exact z1c hI hS (c:= .agg (z8L K.E (fun n=>dem (get n)) parts z)) (v:= .agg r) rfl h1 (by simp only[Rep];exact⟨r,rfl,h2⟩)

theorem z9La {E:Env} {get:Nat→z2a}:∀(qs:List (Nat×Nat×Arg)) (z:List z2a),z6B E get qs z.length→(z8L E get qs z).length=z.length
 |[],_,_=>rfl
 |(o1,k1,y1)::qs,z,hf=>by
  simp only[z6B] at hf
  simp only[z8L]
  have hl:(Abs.splice z o1 (z3s (arg E get y1))).length=z.length:=z7ja (by omega)
  rw[z9La qs _ (by rw[hl];exact hf.2.2.2),hl]
theorem z0za:∀(l:List (Nat×Value)) (off:Nat) (v:Value) (z:List Value),z6ja (l++[(off,v)]) z=splice (z6ja l z) off v.cells.toList
 |[],_,_,_=>rfl
 |(o,u)::l,off,v,z=>by simp only[List.cons_append,z6ja];exact z0za l off v _
theorem z8ma {K:Cx} {f:Nat→Nat→Nat→Bool}:∀{ps:List (Nat×Operand)} {qs:List (Nat×Nat×Arg)} {q:Nat×Nat×Arg},z3D K f ps (qs++[q])=true→∃ps' j x,ps=ps'++[(j,x)]∧ps'.length=qs.length∧z5j K x q.2.2=true
 |[],[],q,h=>by simp[z3D] at h
 |[],_::_,q,h=>by simp[z3D] at h
 |(j,x)::ps,[],(off,k,y),h=>by
  simp only[List.nil_append,z3D,Bool.and_eq_true] at h
  cases ps with
  |nil=>exact⟨[],j,x,rfl,rfl,h.1.2⟩
  |cons p ps=>simp[z3D] at h
 |(j,x)::ps,(off,k,y)::qs,q,h=>by
  simp only[List.cons_append,z3D,Bool.and_eq_true] at h
  obtain⟨ps',j',x',rfl,h1,h2⟩:=z8ma h.2
  exact⟨(j,x)::ps',j',x',rfl,by simp[h1],h2⟩
theorem z5Qa (hI:Inv K base g w getB) (hS:z5e K g w get a) {z:List z2a} {parts:List (Nat×Nat×Arg)} {i s:Nat} (h:z6aa K o.op z (parts++[(i,1,.s s)])=true) (hz1:∀x∈z,z2d x) (hok:okp K.E get getB (.buildO z parts i s)):z3K K base a get getB d o (.buildO z parts i s) w:=by
 obtain⟨hok1,hok2⟩:=hok
 split at hok2
 ·rename_i e nl n c ex
  obtain⟨r,ps,zv,f,h1,h2,h3,h4,h5⟩:=z5Pa hI hS h hz1 hok1
  obtain⟨ps',j,x,rfl,hpl,hx⟩:=z8ma h4
  have:=z6L hx
  subst this
  generalize hcs:z8L K.E (fun n=>dem (get n)) (parts++[(i,1,.s s)]) z=cs at*
  rw[List.map_append,List.map_append,List.zip_append (by simp[hpl]),List.map_cons,List.map_nil,List.map_cons,List.map_nil,List.zip_cons_cons,List.zip_nil_right,z0za] at h3
  have hvc:(a.eval (.tmp s)).cells.toList=[a.eval (.tmp s)]:=by
   have hone:=z4r (z5ga hS s) (by rw[ex];trivial)
   generalize a.eval (.tmp s)=u at hone
   cases u<;>simp_all [Value.cells,Value.oneCell']
  rw[hvc] at h3
  generalize z6ja ((List.map (·.1) parts).zip (List.map (fun p=>a.eval p.2) ps')) zv=zr at h3
  obtain⟨g',k1,k2,k3,k4,k5,k6⟩:=z8R hI hS s (d.map .slot)
  have h2':z1e K.toCon g' w cs r.toList:=z1e.mono (g:=g) (g':=g') (by rw[k5];exact z9k.refl _ _) cs _ (fun id _ b hb=>k4 id b hb) h2
  have hi:i<r.toList.length:=by
   have hf:z6B K.E (fun n=>dem (get n)) (parts++[(i,1,.s s)]) z.length:=hok1
   have:∀(qs:List (Nat×Nat×Arg)) (m:Nat),z6B K.E (fun n=>dem (get n)) (qs++[(i,1,.s s)]) m→i+1≤m:=fun qs=>by
    induction qs with
    |nil=>intro m h;simp only[List.nil_append,z6B] at h;exact h.2.1
    |cons q qs ih=>intro m h;obtain⟨o1,k1,y1⟩:=q;simp only[List.cons_append,z6B] at h;exact ih m h.2.2.2
   have h6:=this _ _ hf
   have h7:=h2.len
   have h8:cs.length=z.length:=by rw[←hcs];exact z9La _ _ hf
   omega
  have hsplit:r.toList=r.toList.take i++a.eval (.tmp s)::r.toList.drop (i+1):=by
   have hg:r.toList[i]? =some (a.eval (.tmp s)):=by
    rw[h3] at hi⊢
    unfold Abs.splice at hi⊢
    simp only[List.length_append,List.length_take,List.length_drop,List.length_cons,List.length_nil] at hi
    rw[List.append_assoc,List.getElem?_append_right (by rw[List.length_take];omega),List.length_take]
    by_cases hzl:i≤zr.length
    ·rw[Nat.min_eq_left hzl,Nat.sub_self];rfl
    ·omega
   have hge:=List.getElem?_eq_some_iff.1 hg
   obtain⟨hlt,hge⟩:=hge
   rw[←hge,←List.drop_eq_getElem_cons hlt,List.take_append_drop]
  have hef:eff K.E get getB (.buildO z parts i s)={val:= .oagg (cs.take i) e nl n c (cs.drop (i+1)),sl:=[(s,dem (get s))]}:=by simp only[eff,ex,hcs]
  refine⟨_,.agg r,w,h1,.inl rfl,?_⟩
  rw[hef]
  refine⟨g',k1,k2,?_⟩
  simp only[Rep]
  rw[ex] at k3
  simp only[Rep] at k3
  exact⟨r,r.toList.take i,a.eval (.tmp s),r.toList.drop (i+1),rfl,hsplit,h2'.take i,k3,h2'.drop (i+1)⟩
 ·cases hok2
theorem z9Ua (hI:Inv K base g w getB) (hS:z5e K g w get a) {k b s:Nat} {x:Arg} (h:z4ba K o.op (some k) x (.s s)=true) (hok:okp K.E get getB (.storeO k b x s)):z3K K base a get getB d o (.storeO k b x s) w:=by
 unfold z4ba at h
 split at h
 ·rename_i t x' v' ho
  simp only[Bool.and_eq_true] at h
  obtain⟨⟨hk,hx⟩,hv⟩:=h
  have rx:=z8b hI hS hx
  have:=z6L hv
  subst this
  simp only[okp] at hok
  obtain⟨hob,hp,hkv⟩:=hok
  split at hp
  ·rename_i id off ex
   obtain⟨rfl,cs,hcs,hfit⟩:=hp
   rw[ex] at rx
   simp only[Rep] at rx
   obtain⟨bk,hb,vx⟩:=rx
   split at hkv
   ·rename_i pre e nl n ss rest es
    obtain⟨hlen,hcell⟩:=hkv
    obtain⟨g',h1,h2,h3,h4,hSe,hmue⟩:=z8R hI hS s (some (.cell id (off+pre.length)))
    rw[es] at h3
    simp only[Rep] at h3
    obtain⟨ar,pv,u,rv,vv,hl,r1,r2,r3⟩:=h3
    have hcl:(a.eval (.tmp s)).cells=ar:=by rw[vv];rfl
    have hu:Rep K.toCon g' w (some (.cell id (off+pre.length))) (.sl (.own e) nl n ss) u:=by simp only[Rep];exact r2
    have hrl:z1e K.toCon g' w (pre++ .sl (.own e) nl n ss::rest) ar.toList:=by
     rw[hl]
     refine r1.append ?_
     simp only[z1e]
     exact⟨u,rv,rfl,z9aa hu,r3⟩
    have hll:(pre++z2a.sl (.own e) nl n ss::rest).length=k:=by simp only[List.length_append,List.length_cons];omega
    have hone:∀q∈ar.toList,q.oneCell'=true:=fun q hq=>by
     obtain⟨i,hi,rfl⟩:=List.mem_iff_getElem.1 hq
     have hl2:=hrl.len
     obtain⟨y,hy,hr'⟩:=hrl.get i _ (List.getElem?_eq_getElem (by omega))
     rw[List.getElem?_eq_getElem hi] at hy
     cases hy
     refine z4r hr' ?_
     have hm:=List.getElem_mem (l:=pre++z2a.sl (.own e) nl n ss::rest) (n:=i) (by omega)
     rcases List.mem_append.1 hm with hm|hm
     ·exact(hcell _ (List.mem_append.2 (.inl hm))).1
     ·rcases List.mem_cons.1 hm with hm|hm
      ·rw[hm];trivial
      ·exact(hcell _ (List.mem_append.2 (.inr hm))).1
    have hsz:(a.eval (.tmp s)).cells.size=(some k).getD 1:=by rw[hcl,←Array.length_toList,←hrl.len,hll];rfl
    have hrun:(execOp a.eval o).run K.P w= .ok .skip (w.setCells bk off (a.eval (.tmp s)).cells.toList):=by
     simp only[execOp,ho,vx]
     rw[Sem.run_bind,z4sa (P:=K.P) hk hsz (by rw[hcl];exact hone) (z99 hI hcs hb off _ hfit)]
     rfl
    have hbx:bxl getB (some id)=cs:=by simp[bxl,bxc,hcs]
    obtain⟨bk',k1,k2,k3⟩:=z61 h1 hob hcs off (a.eval (.tmp s)).cells.toList (pre++ .sl (.own e) nl n ss::rest) (by rw[hcl];exact hrl.len) (by rw[hll];exact hfit) (fun i c q hc hq=>by
     rw[hcl,hl] at hq
     rcases Nat.lt_or_ge i pre.length with hi|hi
     ·rw[List.getElem?_append_left hi] at hc
      rw[List.getElem?_append_left (by rw[←r1.len];exact hi)] at hq
      obtain⟨q',hq',hr⟩:=r1.get i c hc
      rw[hq] at hq';cases hq'
      exact z5T _ (hcell c (List.mem_append.2 (.inl (z3l hc)))).2 hr
     ·rw[List.getElem?_append_right hi] at hc
      rw[List.getElem?_append_right (by rw[←r1.len];exact hi),←r1.len] at hq
      rcases Nat.eq_or_lt_of_le hi with he|hlt
      ·rw[←he,Nat.sub_self] at hc hq
       simp only[List.getElem?_cons_zero,Option.some.injEq] at hc hq
       rw[←hc,←hq,←he]
       exact hu
      ·obtain⟨m,hm⟩:∃m,i-pre.length=m+1:=⟨i-pre.length-1,by omega⟩
       rw[hm] at hc hq
       simp only[List.getElem?_cons_succ] at hc hq
       obtain⟨q',hq',hr⟩:=r3.get m c hc
       rw[hq] at hq';cases hq'
       exact z5T _ (hcell c (List.mem_append.2 (.inr (z3l hc)))).2 hr)
    rw[h4 id bk hb] at k1;cases k1
    refine⟨_,undef,_,hrun,.inr ⟨rfl,rfl⟩,?_⟩
    have hef:eff K.E get getB (.storeO k id x s)={val:= .undef,sl:=[(s,dem (get s))],bx:=[(id,some (splice cs off (pre++ .sl (.own e) nl n ss::rest)))]}:=by simp only[eff,ex,es,hbx]
    rw[hef]
    exact⟨g',k3,k2.slots h2,by simp[Rep]⟩
   ·cases hkv
  ·cases hp
 ·cases h

def z9qa (P:Program) (e:TypeId) (m:Nat):Option (Array Value):=
 if m=0 then some #[] else match P.info? e with|some i=>i.zero.map fun v=>(Array.range m).map (v.cells[· % v.cells.size]!)|none=>none
def z3R (K:Cx) (op:Op) (esz n:Nat) (z:List z2a) (parts:List (Nat×Nat×Arg)):Bool:=
 match op with
 | .buildSlice t n' ps=>(n==n')&&(match K.P.underlying t with
   |some (.slice e)=>z2A K.P e esz&&(match z9qa K.P e (n*esz) with|some zv=>z0M z zv.toList|none=>false)&&decide (n*esz≤16777216)&&z3D K (fun i off k=>(i*k==off)&&(k==esz)) ps.toList parts
   |_=>false)
 |_=>false

theorem z26b (hI:Inv K base g w getB) (hS:z5e K g w get a) {x:AOp} {esz n cap:Nat} {nl:Option Bool} {cs:List z2a} {vs:List Value} {C:Array Value} {e:TypeId} (hC:∀(i:Nat) v,vs[i]? =some v→C[i]? =some v) (hCs:cap*esz≤C.size)
  (hef:eff K.E get getB x={val:= .sl (.own esz) nl n cs}) (hnl:nl≠some true) (hn:n≤cap) (hlen:cs.length=n*esz) (hr:z1e K.toCon g w cs vs) (hp:z2h cs=true)
  (hrun:(execOp a.eval o).run K.P w= .ok (.value (.slice (some ⟨w.heap.size,0,none⟩) n cap)) (w.alloc (.cells C e))):z3K K base a get getB d o x w:=by
 refine⟨_,_,_,hrun,.inl rfl,?_⟩
 rw[hef]
 refine⟨z1Q g w.heap.size (n*esz) (d.map .slot),z8ha hI _ _ _,(z5Z hI _ _ _).slots hS,?_⟩
 simp only[Rep]
 refine⟨?_,fun l hl=> .inr ⟨_,cap,rfl,hn,hlen,by simp[z1Q],by simp[z1Q,hl],?_⟩⟩
 ·simp only[z7c]
  refine .inl ⟨_,_,_,rfl,hn,z0f.mk fun i c hi=> ?_,hnl,by simp⟩
  have hlt:=(List.getElem?_eq_some_iff.1 hi).1
  obtain⟨v,hv,hrv⟩:=hr.get i c hi
  refine⟨by simp[z1Q];omega,v,by rw[Nat.zero_add,World.cell?_alloc_new];exact hC i v hv,?_⟩
  exact z7c.mono (z5Z hI (.cells C e) (n*esz) (d.map .slot)).keeps c v (Rep.pure c v none ((z5m cs).1 hp c (z3l hi)) hrv)
 ·exact z5I w C e (0,0) (by simp) _ _ (by
   have:n*esz≤cap*esz:=Nat.mul_le_mul_right _ hn
   omega)

theorem z4Oa (hI:Inv K base g w getB) (hS:z5e K g w get a) {esz n:Nat} {z:List z2a} {parts:List (Nat×Nat×Arg)} (h:z3R K o.op esz n z parts=true) (hz1:∀x∈z,z2d x) (hok:okp K.E get getB (.buildSl esz n z parts)):z3K K base a get getB d o (.buildSl esz n z parts) w:=by
 unfold z3R at h
 split at h
 ·rename_i t n' ps ho
  simp only[Bool.and_eq_true,beq_iff_eq] at h
  obtain⟨rfl,h⟩:=h
  split at h
  ·rename_i e hu
   simp only[Bool.and_eq_true,decide_eq_true_eq] at h
   obtain⟨⟨⟨hsz,hz⟩,hle⟩,hps⟩:=h
   split at hz
   ·rename_i zv hzv
    obtain⟨hzl,hfill,hpure⟩:=hok
    have c1:=z5L (K:=K.toCon) (g:=g) (w:=w) _ _ hz
    have c2:∀x∈zv.toList,x.oneCell'=true:=fun x hx=>by
     obtain⟨i,hi,rfl⟩:=List.mem_iff_getElem.1 hx
     have hl:=c1.len
     obtain⟨y,hy,hr'⟩:=c1.get i z[i] (List.getElem?_eq_getElem (by omega))
     rw[List.getElem?_eq_getElem hi] at hy
     cases hy
     exact z4r hr' (hz1 _ (List.getElem_mem _))
    rw[c1.len] at hfill
    obtain⟨p1,p2,p3,p4,p5⟩:=z2fa hI hS hps hfill c1 rfl c2
    have hlen:((ps.map fun(i,x)=>(i,a.eval x)).toList).length=(parts.map (·.1)).length:=by simpa using p1
    obtain⟨r,k1,k2⟩:=z1Ca (fun i=>some (i*esz,esz)) (ps.map fun(i,x)=>(i,a.eval x)).toList (parts.map (·.1)) zv hlen (fun j p off hp hoff=>by
     simp only[Array.toList_map,List.getElem?_map,Option.map_eq_some_iff] at hp hoff
     obtain⟨p',hp',rfl⟩:=hp
     obtain⟨q',hq',rfl⟩:=hoff
     obtain⟨e1,e2,e3⟩:=p5 j p' q' hp' hq'
     simp only[Bool.and_eq_true,beq_iff_eq] at e1
     simp only
     rw[e2,e1.2,←e1.1,e1.2]
     refine⟨rfl,?_⟩
     rw[←Array.length_toList]
     rw[←e1.1,e1.2] at e3
     exact e3)
    have hsnd:(ps.map fun(i,x)=>(i,a.eval x)).toList.map (·.2)=ps.toList.map fun p=>a.eval p.2:=by simp[Array.toList_map,List.map_map,Function.comp_def]
    rw[hsnd] at k2
    rw[←k2] at p2 p3
    have hnotbig:¬(2^24<n*esz):=by simp;omega
    obtain⟨ie,hie,hies⟩:=z1M hsz
    have hrun:(execOp a.eval o).run K.P w= .ok (.value (.slice (some ⟨w.heap.size,0,none⟩) n n)) (w.alloc (.cells r e)):=by
     simp only[execOp,ho,Instr.buildSlice,Sem.run_bind,run_underlying hu,Result.andThen_ok,run_sizeOf w hsz]
     rw[if_neg hnotbig]
     unfold z9qa at hzv
     by_cases h0:n*esz=0
     ·rw[if_pos h0,Option.some.injEq] at hzv
      subst hzv
      rw[if_pos h0]
      simp only[pure_bind]
      rw[h0,show(Array.map (fun x=>(#[]:Array Value)[x% (#[]:Array Value).size]!) (Array.range 0))= #[] from by simp,k1]
      simp[newRow]
     ·rw[if_neg h0,hie] at hzv
      simp only[Option.map_eq_some_iff] at hzv
      obtain⟨v,hv,rfl⟩:=hzv
      rw[if_neg h0]
      simp only[Sem.run_bind,zeroValue,typeInfo,run_program,Result.andThen_ok,hie,hv,Sem.run_pure]
      rw[k1]
      simp[newRow]
    refine z26b hI hS (C:=r) (e:=e) (vs:=r.toList) (cs:=z8L K.E get parts z) (esz:=esz) (n:=n) (cap:=n) (nl:=some false) (fun i v hv=>by rw[←Array.getElem?_toList];exact hv) ?_ rfl (by simp) (Nat.le_refl _) ?_ p2 hpure hrun
    ·rw[←Array.length_toList,p3,←c1.len,hzl];exact Nat.le_refl _
    ·rw[p2.len,p3,←c1.len,hzl]
   ·cases hz
  ·cases h
 ·cases h


theorem z1Qa (hI:Inv K base g w getB) (hS:z5e K g w get a) {id esz n:Nat} {z:List z2a} {parts:List (Nat×Nat×Arg)} (h:z3R K o.op esz n z parts=true) (hz1:∀x∈z,z2d x) (hok:okp K.E get getB (.buildBx id esz n z parts)):z3K K base a get getB d o (.buildBx id esz n z parts) w:=by
 unfold z3R at h
 split at h
 ·rename_i t n' ps ho
  simp only[Bool.and_eq_true,beq_iff_eq] at h
  obtain⟨rfl,h⟩:=h
  split at h
  ·rename_i e hu
   simp only[Bool.and_eq_true,decide_eq_true_eq] at h
   obtain⟨⟨⟨hsz,hz⟩,hle⟩,hps⟩:=h
   split at hz
   ·rename_i zv hzv
    obtain⟨hid,hnone,hzl,hfill,p6⟩:=hok
    have c1:=z5L (K:=K.toCon) (g:=g) (w:=w) _ _ hz
    have c2:∀x∈zv.toList,x.oneCell'=true:=fun x hx=>by
     obtain⟨i,hi,rfl⟩:=List.mem_iff_getElem.1 hx
     have hl:=c1.len
     obtain⟨y,hy,hr'⟩:=c1.get i z[i] (List.getElem?_eq_getElem (by omega))
     rw[List.getElem?_eq_getElem hi] at hy
     cases hy
     exact z4r hr' (hz1 _ (List.getElem_mem _))
    rw[c1.len] at hfill
    obtain⟨p1,p2,p3,p4,p5⟩:=z2fa hI hS hps hfill c1 rfl c2
    have hlen:((ps.map fun(i,x)=>(i,a.eval x)).toList).length=(parts.map (·.1)).length:=by simpa using p1
    obtain⟨r,k1,k2⟩:=z1Ca (fun i=>some (i*esz,esz)) (ps.map fun(i,x)=>(i,a.eval x)).toList (parts.map (·.1)) zv hlen (fun j p off hp hoff=>by
     simp only[Array.toList_map,List.getElem?_map,Option.map_eq_some_iff] at hp hoff
     obtain⟨p',hp',rfl⟩:=hp
     obtain⟨q',hq',rfl⟩:=hoff
     obtain⟨e1,e2,e3⟩:=p5 j p' q' hp' hq'
     simp only[Bool.and_eq_true,beq_iff_eq] at e1
     simp only
     rw[e2,e1.2,←e1.1,e1.2]
     refine⟨rfl,?_⟩
     rw[←Array.length_toList]
     rw[←e1.1,e1.2] at e3
     exact e3)
    have hsnd:(ps.map fun(i,x)=>(i,a.eval x)).toList.map (·.2)=ps.toList.map fun p=>a.eval p.2:=by simp[Array.toList_map,List.map_map,Function.comp_def]
    rw[hsnd] at k2
    rw[←k2] at p2 p3
    have hnotbig:¬(2^24<n*esz):=by simp;omega
    obtain⟨ie,hie,hies⟩:=z1M hsz
    have hrun:(execOp a.eval o).run K.P w= .ok (.value (.slice (some ⟨w.heap.size,0,none⟩) n n)) (w.alloc (.cells r e)):=by
     simp only[execOp,ho,Instr.buildSlice,Sem.run_bind,run_underlying hu,Result.andThen_ok,run_sizeOf w hsz]
     rw[if_neg hnotbig]
     unfold z9qa at hzv
     by_cases h0:n*esz=0
     ·rw[if_pos h0,Option.some.injEq] at hzv
      subst hzv
      rw[if_pos h0]
      simp only[pure_bind]
      rw[h0,show(Array.map (fun x=>(#[]:Array Value)[x% (#[]:Array Value).size]!) (Array.range 0))= #[] from by simp,k1]
      simp[newRow]
     ·rw[if_neg h0,hie] at hzv
      simp only[Option.map_eq_some_iff] at hzv
      obtain⟨v,hv,rfl⟩:=hzv
      rw[if_neg h0]
      simp only[Sem.run_bind,zeroValue,typeInfo,run_program,Result.andThen_ok,hie,hv,Sem.run_pure]
      rw[k1]
      simp[newRow]
    have hb:=z2va hI id hid hnone r e (z8L K.E get parts z) (fun i c hc=>by
     obtain⟨v,hv,hrv⟩:=p2.get i c hc
     exact⟨v,by rw[←Array.getElem?_toList];exact hv,z5T _ (p6 c (z3l hc)) hrv⟩)
    exact⟨_,_,_,hrun,.inl rfl,_,hb.2,hb.1.slots hS,by simp only[eff,Rep];exact⟨w.heap.size,n,0,by simp[z4Y],rfl,Nat.le_refl _,Nat.le_refl _,.inl rfl,fun _=>rfl⟩⟩
   ·cases hz
  ·cases h
 ·cases h

def z8Va (K:Cx) (op:Op) (esz n:Nat) (z:List z2a):Bool:=
 match op with
 | .makeSlice t (.const (.int .i64 l)) (.const (.int .i64 c))=>decide (l=(n:Int))&&decide (c=(n:Int))&&(match K.P.underlying t with
   |some (.slice e)=>z2A K.P e esz&&(match z9qa K.P e (n*esz) with|some zv=>z0M z zv.toList|none=>false)&&decide (n≤1000000∧0<n*esz)&&(match K.P.info? e with|some i=>decide (i.bytes*n≤1000000)|none=>false)
   |_=>false)
 |_=>false
theorem z7pb (hI:Inv K base g w getB) (hS:z5e K g w get a) {id esz n:Nat} {z:List z2a} (h:z8Va K o.op esz n z=true) (hz1:∀x∈z,z2d x) (hok:okp K.E get getB (.buildBx id esz n z [])):z3K K base a get getB d o (.buildBx id esz n z []) w:=by
 unfold z8Va at h
 split at h
 ·rename_i t l c ho
  simp only[Bool.and_eq_true,decide_eq_true_eq] at h
  obtain⟨⟨rfl,rfl⟩,h⟩:=h
  split at h
  ·rename_i e hu
   simp only[Bool.and_eq_true,decide_eq_true_eq] at h
   obtain⟨⟨⟨hsz,hz⟩,hn⟩,hby⟩:=h
   split at hz
   ·rename_i zv hzv
    obtain⟨hid,hnone,hzl,hfill,p6⟩:=hok
    have c1:=z5L (K:=K.toCon) (g:=g) (w:=w) _ _ hz
    split at hby
    ·rename_i ie hie
     simp only[decide_eq_true_eq] at hby
     have hfa:z8L K.E get [] z=z:=rfl
     have hby':(ie.bytes:Int)*(n:Int)≤281474976710656:=by
      have:((ie.bytes*n:Nat):Int)=(ie.bytes:Int)*(n:Int):=by simp
      omega
     have hsize:ie.size=esz:=by
      obtain⟨i2,hi2,hs2⟩:=z1M hsz
      rw[hie] at hi2;cases hi2;exact hs2
     have hrun:(execOp a.eval o).run K.P w= .ok (.value (.slice (some ⟨w.heap.size,0,none⟩) n n)) (w.alloc (.cells zv e)):=by
      unfold z9qa at hzv
      rw[if_neg (by omega),hie] at hzv
      simp only[Option.map_eq_some_iff] at hzv
      obtain⟨v,hv,rfl⟩:=hzv
      have hr:=run_make (P:=K.P) w t e ie v hu hie hv .i64 .i64 n n (by omega) (Int.le_refl _) hby' (by omega)
      simp only[Int.toNat_natCast,hsize] at hr
      simp only[execOp,ho,Act.eval]
      rw[Sem.run_bind,hr]
      rfl
     have hb:=z2va hI id hid hnone zv e (z8L K.E get [] z) (fun i c hc=>by
      rw[hfa] at hc
      obtain⟨v,hv,hrv⟩:=c1.get i c hc
      exact⟨v,by rw[←Array.getElem?_toList];exact hv,z5T _ (p6 c (by rw[hfa];exact z3l hc)) hrv⟩)
     exact⟨_,_,_,hrun,.inl rfl,_,hb.2,hb.1.slots hS,by simp only[eff,Rep];exact⟨w.heap.size,n,0,by simp[z4Y],rfl,Nat.le_refl _,Nat.le_refl _,.inl rfl,fun _=>rfl⟩⟩
    ·cases hby
   ·cases hz
  ·cases h
 ·cases h

end
end Go.Abs
end

section
namespace Go.Abs

section
variable {K : Cx} {base : z1P} {g g' : Gh} {w w' : World} {get : Nat → z2a} {getB : Nat → Option (List z2a)} {a : Act} {o : Oper} {d : Option Nat}

theorem z9bb {m:Nat} {x:Option Arg} {dflt:Nat} (h:z4M K.E get x m) (hd:dflt≤m):bnd K.E get x dflt≤m:=by
 cases x with
 |none=>exact hd
 |some y=>simp only[z4M] at h;simp only[bnd];omega
theorem z5Nb {n:Nat} {hi mx:Option Arg} (hmh:mx.isSome=true→hi.isSome=true) (k2:z4M K.E get hi (bnd K.E get mx n)):bnd K.E get hi n≤bnd K.E get mx n:=by
 cases hi with
 |none=>cases mx with
  |none=>exact Nat.le_refl _
  |some _=>simp at hmh
 |some y=>simp only[z4M] at k2;simp only[bnd] at k2⊢;omega

/-! ### slices of arrays -/
def z0gb (K:Cx) (op:Op) (n esz:Nat) (x:Arg) (lo hi mx:Option Arg):Bool:=
 match op with
 | .slice t x' lo' hi' mx'=>(match K.P.underlying t with|some (.array m e)=>(m==n)&&z2A K.P e esz|_=>false)&&z5j K x' x&&z65 K lo' lo&&z65 K hi' hi&&z65 K mx' mx
 |_=>false

theorem z6ab (hI:Inv K base g w getB) (hS:z5e K g w get a) {n esz:Nat} {x:Arg} {lo hi mx:Option Arg} (h:z0gb K o.op n esz x lo hi mx=true) (hok:okp K.E get getB (.slArr n esz x lo hi mx)):z3K K base a get getB d o (.slArr n esz x lo hi mx) w:=by
 unfold z0gb at h
 split at h
 ·rename_i t x' lo' hi' mx' ho
  simp only[Bool.and_eq_true] at h
  obtain⟨⟨⟨⟨h,hx⟩,hlo⟩,hhi⟩,hmx⟩:=h
  split at h
  ·rename_i m e hu
   simp only[Bool.and_eq_true,beq_iff_eq] at h
   obtain⟨rfl,hsz⟩:=h
   have rx:=z8b hI hS hx
   simp only[okp] at hok
   obtain⟨hok,hmh,k3,k2,k1,hn⟩:=hok
   have hb:=z0ba hI hS hlo hhi hmx false m m (Nat.le_refl _) m (Nat.le_refl _) hmh k3 (by cases mx<;>exact k2) k1
   have hm:mxv K.E get mx m m=bnd K.E get mx m:=by cases mx<;>rfl
   rw[hm] at hb
   have hlh:bnd K.E get lo 0≤bnd K.E get hi m:=z9bb k1 (Nat.zero_le _)
   have hhm:=z5Nb (n:=m) hmh k2
   have hrun:∀b o',a.eval x'= .pointer (some ⟨b,o',none⟩)→(execOp a.eval o).run K.P w=
     .ok (.value (.slice (some ⟨b,if bnd K.E get mx m=bnd K.E get lo 0 then o' else o'+bnd K.E get lo 0*esz,none⟩) (bnd K.E get hi m-bnd K.E get lo 0) (bnd K.E get mx m-bnd K.E get lo 0))) w:=fun b o' e=>by
    simp only[execOp,ho,e,Instr.sliceAt,Sem.run_bind,run_underlying hu,Result.andThen_ok,Instr.sureAddr,Sem.run_pure,hb,run_sizeOf w hsz,Addr.add_mid]
    congr 3
    split<;>simp_all
   split at hok
   ·rename_i id off ex
    rw[ex] at rx
    simp only[Rep] at rx
    obtain⟨bk,hbk,vx⟩:=rx
    refine z1c hI hS (c:= .bv id esz (off+bnd K.E get lo 0*esz) (bnd K.E get hi m-bnd K.E get lo 0) (bnd K.E get mx m-bnd K.E get lo 0)) (by simp only[eff,ex]) (hrun bk off vx) ?_
    simp only[Rep]
    refine⟨bk,_,_,hbk,rfl,by omega,Nat.le_refl _,?_,fun _=>rfl⟩
    split
    ·exact .inr ⟨by omega,by omega⟩
    ·exact .inl rfl
   ·rename_i cs ex
    rw[ex] at rx
    simp only[Rep,z7c] at rx
    obtain⟨bk,o',vx,hc⟩:=rx
    refine z1c hI hS (c:= .sl .plain (some false) (bnd K.E get hi m-bnd K.E get lo 0) ((cs.drop (bnd K.E get lo 0*esz)).take ((bnd K.E get hi m-bnd K.E get lo 0)*esz))) (by simp only[eff,ex]) (hrun bk o' vx) ?_
    simp only[Rep,z7c]
    refine .inl ⟨bk,_,_,rfl,by omega,?_,by simp,by simp⟩
    split
    ·have:bnd K.E get hi m-bnd K.E get lo 0=0:=by omega
     rw[this]
     simp[z0f]
    ·exact(hc.drop _).take _
   ·cases hok
  ·cases h
 ·cases h

def z9Aa (K:Cx) (op:Op) (esz:Nat) (x:Arg) (lo hi mx:Option Arg):Bool:=
 match op with
 | .slice t x' lo' hi' mx'=>(match K.P.underlying t with|some (.slice e)=>z2A K.P e esz|_=>false)&&z5j K x' x&&z65 K lo' lo&&z65 K hi' hi&&z65 K mx' mx
 |_=>false

theorem z87a (hI:Inv K base g w getB) (hS:z5e K g w get a) {esz:Nat} {x lo hi:Arg} (h:z9Aa K o.op esz x (some lo) (some hi) none=true) (hok:okp K.E get getB (.slCap esz x lo hi)):z3K K base a get getB d o (.slCap esz x lo hi) w:=by
 unfold z9Aa at h
 split at h
 ·rename_i t x' lo' hi' mx' ho
  simp only[Bool.and_eq_true] at h
  obtain⟨⟨⟨⟨h,hx⟩,hlo⟩,hhi⟩,hmx⟩:=h
  split at h
  ·rename_i e hu
   have rx:=z8b hI hS hx
   simp only[okp] at hok
   obtain⟨hok,k1⟩:=hok
   split at hok
   ·rename_i id e' off k c ex
    obtain⟨rfl,hkc,k2⟩:=hok
    rw[ex] at rx
    simp only[Rep] at rx
    obtain⟨bk,cap,o',hbk,vx,hcap,hc,ho',hxc⟩:=rx
    have hb:=z0ba hI hS hlo hhi hmx true k cap hcap k hcap (by simp) trivial (by
     simp only[z4M,mxv] at k2⊢
     exact⟨k2.1,k2.2.1,by have:=k2.2.2;omega⟩) (by
     simp only[z4M,bnd] at k1⊢
     exact k1)
    simp only[bnd,mxv] at hb
    simp only[z4M,bnd] at k1 k2
    generalize hL:(asI (arg K.E get lo)).toNat=L at*
    generalize hH:(asI (arg K.E get hi)).toNat=H at*
    have hLH:L≤H:=by omega
    have hHc:H≤c:=by omega
    have hrun:(execOp a.eval o).run K.P w= .ok (.value (.slice (if cap=L then some ⟨bk,o',none⟩ else(some (⟨bk,o',none⟩:Addr)).map (·.add (L*e'))) (H-L) (cap-L))) w:=by
     simp only[execOp,ho,vx,Instr.sliceAt,Instr.slice,Sem.run_bind,run_underlying hu,Result.andThen_ok,hb,run_sizeOf w h,Sem.run_pure]
    refine z1c hI hS (c:= .bv id e' (off+L*e') (H-L) (c-L)) (by simp only[eff,ex,hL,hH]) hrun ?_
    simp only[Rep,Option.map_some,Addr.add_mid]
    by_cases hML:cap=L
    ·rw[if_pos hML]
     exact⟨bk,_,_,hbk,rfl,by omega,by omega,.inr ⟨by omega,by omega⟩,fun h=>by rw[hxc h]⟩
    ·rw[if_neg hML]
     refine⟨bk,_,_,hbk,rfl,by omega,by omega,?_,fun h=>by rw[hxc h]⟩
     rcases ho' with rfl|⟨hk0,hc0⟩
     ·exact .inl rfl
     ·exact .inr ⟨by omega,by omega⟩
   ·cases hok
  ·cases h
 ·cases h

theorem z2nb (hI:Inv K base g w getB) (hS:z5e K g w get a) {esz:Nat} {x:Arg} {lo hi mx:Option Arg} (h:z9Aa K o.op esz x lo hi mx=true) (hok:okp K.E get getB (.slSl esz x lo hi mx)):z3K K base a get getB d o (.slSl esz x lo hi mx) w:=by
 unfold z9Aa at h
 split at h
 ·rename_i t x' lo' hi' mx' ho
  simp only[Bool.and_eq_true] at h
  obtain⟨⟨⟨⟨h,hx⟩,hlo⟩,hhi⟩,hmx⟩:=h
  split at h
  ·rename_i e hu
   have rx:=z8b hI hS hx
   simp only[okp] at hok
   obtain⟨hok,hmh,k3,k2,k1⟩:=hok
   generalize hnn:z5t (arg K.E get x)=n at*
   have hlh:bnd K.E get lo 0≤bnd K.E get hi n:=z9bb k1 (Nat.zero_le _)
   have hhm:=z5Nb (n:=n) hmh k2
   have hmn:bnd K.E get mx n≤n:=z9bb k3 (Nat.le_refl _)
   have hrun:∀(p:Option Addr) (cap:Nat),n≤cap→a.eval x'= .slice p n cap→∃M,(execOp a.eval o).run K.P w=
     .ok (.value (.slice (if M=bnd K.E get lo 0 then p else p.map (·.add (bnd K.E get lo 0*esz))) (bnd K.E get hi n-bnd K.E get lo 0) (M-bnd K.E get lo 0))) w∧bnd K.E get hi n≤M∧M=mxv K.E get mx n cap:=fun p cap hcap ev=>by
    have hb:=z0ba hI hS hlo hhi hmx true n cap hcap n hcap hmh k3 (by
     cases mx with
     |some _=>exact k2
     |none=>
      cases hi with
      |none=>trivial
      |some y=>
       have e:bnd K.E get none n=n:=rfl
       rw[e] at k2
       simp only[z4M,mxv] at k2⊢
       exact⟨k2.1,k2.2.1,by have:=k2.2.2;omega⟩) k1
    refine⟨_,?_,?_,rfl⟩
    ·simp only[execOp,ho,ev,Instr.sliceAt,Instr.slice,Sem.run_bind,run_underlying hu,Result.andThen_ok,hb,run_sizeOf w h,Sem.run_pure]
    ·cases mx with
     |some _=>exact hhm
     |none=>
      have:bnd K.E get none n=n:=rfl
      rw[this] at hhm
      simp only[mxv]
      omega
   split at hok
   ·rename_i id e' off k c ex
    subst hok
    rw[ex] at rx hnn
    simp only[z5t] at hnn
    subst hnn
    simp only[Rep] at rx
    obtain⟨bk,cap,o',hbk,vx,hcap,hc,ho',hxc⟩:=rx
    obtain⟨M,hr,h1,h2⟩:=hrun _ cap hcap vx
    refine z1c hI hS (c:= .bv id e' (off+bnd K.E get lo 0*e') (bnd K.E get hi k-bnd K.E get lo 0) (mxv K.E get mx k c-bnd K.E get lo 0)) (by simp only[eff,ex];cases mx<;>rfl) hr ?_
    simp only[Rep,Option.map_some,Addr.add_mid]
    have hM:mxv K.E get mx k c≤M:=by
     rw[h2]
     cases mx with
     |none=>exact hc
     |some _=>exact Nat.le_refl _
    by_cases hML:M=bnd K.E get lo 0
    ·rw[if_pos hML]
     exact⟨bk,_,_,hbk,rfl,by omega,by omega,.inr ⟨by omega,by omega⟩,fun h=>by rw[h2,hxc h]⟩
    ·rw[if_neg hML]
     refine⟨bk,_,_,hbk,rfl,by omega,by omega,?_,fun h=>by rw[h2,hxc h]⟩
     rcases ho' with rfl|⟨hk0,hc0⟩
     ·exact .inl rfl
     ·refine .inr ⟨?_,?_⟩
      ·have:bnd K.E get hi k≤k:=Nat.le_trans hhm hmn
       omega
      ·cases mx with
       |none=>simp only[mxv];omega
       |some _=>simp only[mxv];omega
   ·rename_i m nl k cs ex
    rw[ex] at rx hnn
    simp only[z5t] at hnn
    subst hnn
    have rx:=z0pa rx
    simp only[z7c] at rx
    rcases rx with⟨bk,o',cap,vx,hcap,hc,hnl,_⟩|⟨q,vx,hk,hcs,hnl⟩
    ·obtain⟨M,hr,h1,h2⟩:=hrun _ cap hcap vx
     refine z1c hI hS (c:=(eff K.E get getB (.slSl esz x lo hi mx)).val) (by simp only[eff,ex]) hr ?_
     have key:∀md:z0ea,(md= .clip→M=bnd K.E get hi k)→(∀z,md≠ .own z)→Rep K.toCon g w (d.map .slot) (.sl md nl (bnd K.E get hi k-bnd K.E get lo 0) ((cs.drop (bnd K.E get lo 0*esz)).take ((bnd K.E get hi k-bnd K.E get lo 0)*esz)))
       (.slice (if M=bnd K.E get lo 0 then some ⟨bk,o',none⟩ else(some (⟨bk,o',none⟩:Addr)).map (·.add (bnd K.E get lo 0*esz))) (bnd K.E get hi k-bnd K.E get lo 0) (M-bnd K.E get lo 0)):=fun md hmd hno=>by
      have hp:z7c K.toCon g.S w (.sl md nl (bnd K.E get hi k-bnd K.E get lo 0) ((cs.drop (bnd K.E get lo 0*esz)).take ((bnd K.E get hi k-bnd K.E get lo 0)*esz)))
        (.slice (if M=bnd K.E get lo 0 then some ⟨bk,o',none⟩ else(some (⟨bk,o',none⟩:Addr)).map (·.add (bnd K.E get lo 0*esz))) (bnd K.E get hi k-bnd K.E get lo 0) (M-bnd K.E get lo 0)):=by
       simp only[z7c,Option.map_some,Addr.add_mid]
       by_cases hML:M=bnd K.E get lo 0
       ·rw[if_pos hML]
        have e0:bnd K.E get hi k-bnd K.E get lo 0=0:=by omega
        rw[e0,Nat.zero_mul,List.take_zero]
        exact .inl ⟨bk,o',_,rfl,by omega,by simp[z0f],hnl,fun hm=>by have:=hmd hm;omega⟩
       ·rw[if_neg hML]
        exact .inl ⟨bk,_,_,rfl,by omega,(hc.drop _).take _,hnl,fun hm=>by have:=hmd hm;omega⟩
      cases md with
      |plain=>simpa only[Rep] using hp
      |clip=>simpa only[Rep] using hp
      |own z=>exact absurd rfl (hno z)
     simp only[eff,ex]
     cases mx with
     |none=>exact key .plain (by simp) (by simp)
     |some y=>
      simp only[mxv] at h2⊢
      split
      ·rename_i heq
       exact key .clip (fun _=>by rw[h2,heq]) (by simp)
      ·exact key .plain (by simp) (by simp)
    ·subst hk hcs
     obtain⟨M,hr,h1,h2⟩:=hrun q 0 (Nat.le_refl _) vx
     have hz:bnd K.E get hi 0=0:=by omega
     have hl0:bnd K.E get lo 0=0:=by omega
     have hM:M=0:=by rw[h2];cases mx with|none=>rfl|some _=>simp only[mxv];omega
     refine z1c hI hS (c:=(eff K.E get getB (.slSl esz x lo hi mx)).val) (v:= .slice q 0 0) (by simp only[eff,ex]) (by rw[hr,hz,hl0,hM];simp) ?_
     simp only[eff,ex,hz,hl0,List.drop_nil,List.take_nil]
     have key:∀md:z0ea,(∀z,md≠ .own z)→Rep K.toCon g w (d.map .slot) (.sl md nl (0-0) []) (.slice q 0 0):=fun md hno=>by
      cases md with
      |plain=>simp only[Rep,z7c];exact .inr ⟨q,rfl,trivial,trivial,hnl⟩
      |clip=>simp only[Rep,z7c];exact .inr ⟨q,rfl,trivial,trivial,hnl⟩
      |own z=>exact absurd rfl (hno z)
     cases mx with
     |none=>exact key .plain (by simp)
     |some y=>
      simp only[]
      split
      ·exact key .clip (by simp)
      ·exact key .plain (by simp)
   ·rename_i ex
    rw[ex] at rx hnn
    simp only[z5t] at hnn
    subst hnn
    simp only[Rep] at rx
    obtain⟨M,hr,h1,h2⟩:=hrun none 0 (Nat.le_refl _) rx
    have hz:bnd K.E get hi 0=0:=by omega
    have hl0:bnd K.E get lo 0=0:=by omega
    have hM:M=0:=by rw[h2];cases mx with|none=>rfl|some _=>simp only[mxv];omega
    exact z1c hI hS (c:= .lit (.slice none 0 0)) (v:= .slice none 0 0) (by simp only[eff,ex]) (by rw[hr,hz,hl0,hM];simp) (z8r _ _)
   ·cases hok
  ·cases h
 ·cases h

def z2Fa (K:Cx) (op:Op) (x:Arg) (lo hi:Option Arg):Bool:=
 match op with
 | .slice t x' lo' hi' none=>z3Y K.P t z3ca&&z5j K x' x&&z65 K lo' lo&&z65 K hi' hi
 |_=>false
theorem z16a (hI:Inv K base g w getB) (hS:z5e K g w get a) {x:Arg} {lo hi:Option Arg} (h:z2Fa K o.op x lo hi=true) (hok:okp K.E get getB (.slStr x lo hi)):z3K K base a get getB d o (.slStr x lo hi) w:=by
 unfold z2Fa at h
 split at h
 ·rename_i t x' lo' hi' ho
  simp only[Bool.and_eq_true] at h
  obtain⟨⟨⟨h,hx⟩,hlo⟩,hhi⟩:=h
  obtain⟨D,hu,hD⟩:=z7k h
  have:=z7N hD
  subst this
  obtain⟨hs,k2,k1⟩:=hok
  obtain⟨ex,vx⟩:=z6ea (z8b hI hS hx) hs
  generalize asS (arg K.E get x)=s at*
  have hb:=z0ba (mx:=none) (mx':=none) hI hS hlo hhi rfl false s.size s.size (Nat.le_refl _) s.size (Nat.le_refl _) (by simp) trivial k2 k1
  refine z1c hI hS (c:= .lit (.string (s.extract (bnd K.E get lo 0) (bnd K.E get hi s.size)))) (v:= .string (s.extract (bnd K.E get lo 0) (bnd K.E get hi s.size))) (by simp only[eff,ex,asS]) ?_ (z8r _ _)
  simp only[Option.map_none] at hb
  simp only[execOp,ho,vx,Instr.sliceAt,Instr.slice,Sem.run_bind,run_underlying hu,Result.andThen_ok,Option.map_none,Option.isSome_none,Bool.false_eq_true,if_false,hb,Sem.run_pure]
 ·cases h

end
end Go.Abs
end

section
namespace Go.Abs

mutual
theorem z7c.isPure {K:Con} {S:Nat→Nat} {w:World}:∀(d:z2a) (v:Value),z7c K S w d v→z6f d=true
 | .undef,_,_=>rfl
 | .lit _,_,_=>rfl
 | .agg cs,v,h=>by simp only[z7c] at h;obtain⟨a,_,h⟩:=h;simp only[z6f];exact z6c.isPure cs _ h
 | .tup cs,v,h=>by simp only[z7c] at h;obtain⟨a,_,h⟩:=h;simp only[z6f];exact z6c.isPure cs _ h
 | .sl _ _ _ _,_,_=>rfl
 | .ep _,_,_=>rfl
 | .otup _ _ _ _ rest,v,h=>by
  simp only[z7c] at h
  obtain⟨a,x,xs,_,_,h1,h2⟩:=h
  simp only[z6f,z6c.isPure rest _ h2]
 | .oagg pre _ _ _ _ rest,v,h=>by
  simp only[z7c] at h
  obtain⟨a,ps,x,xs,_,_,h3,h1,h2⟩:=h
  simp only[z6f,z6c.isPure rest _ h2,z6c.isPure pre _ h3,Bool.and_self]
 | .fn f x y,v,h=>by simp only[z7c] at h;obtain⟨a,c,_,h1,h2⟩:=h;simp only[z6f,z6c.isPure x _ h1,z6c.isPure y _ h2,Bool.and_self]
 | .bp _ _,_,h=>by simp[z7c] at h
 | .bv _ _ _ _ _,_,h=>by simp[z7c] at h
theorem z6c.isPure {K:Con} {S:Nat→Nat} {w:World}:∀(ds:List z2a) (vs:List Value),z6c K S w ds vs→z2h ds=true
 |[],_,_=>rfl
 |c::cs,l,h=>by simp only[z6c] at h;obtain⟨x,xs,_,h1,h2⟩:=h;simp only[z2h,z7c.isPure c x h1,z6c.isPure cs xs h2,Bool.and_self]
end

theorem z6na (a b:List z2a):z2h (a++b)=(z2h a&&z2h b):=by
 induction a with
 |nil=>simp[z2h]
 |cons x a ih=>simp[z2h,ih,Bool.and_assoc]

section
variable {P : Program}

theorem z3Z (w:World) {t1 t2 ty e:TypeId} {i:TypeInfo} {d2:TypeDesc} (h1:P.underlying t1=some (.slice e)) (h2:P.underlying t2=some d2) (hd:d2= .string∨∃e',d2= .slice e') (hi:P.info? e=some i) {base:Option Addr} {sLen sCap m:Nat} {x:Value} {news:List Value}
  (hlen:(Builtin.lenOf x).run P w= .ok m w) (hnews:(Builtin.firstCells i.size m x).run P w= .ok news.toArray w) (hfit:sLen+m≤sCap):
  (Builtin.append_ #[t1,t2] ty #[.slice base sLen sCap,x]).run P w=(((match base with|some a=>storeCells (a.add (sLen*i.size)) news|none=>pure ()):Sem Unit).run P w).andThen fun _ w'=> .ok (.slice base (sLen+m) sCap) w':=by
 rcases hd with rfl|⟨e',rfl⟩
 ·cases base<;>simp[Builtin.append_,run_underlying h1,run_underlying h2,sizeOf,typeInfo,hi,hlen,hnews,hfit]
 ·cases base<;>simp[Builtin.append_,run_underlying h1,run_underlying h2,sizeOf,typeInfo,hi,hlen,hnews,hfit]

theorem z8sa (w:World) {t1 t2 ty e:TypeId} {i:TypeInfo} {z:Value} {d2:TypeDesc} (h1:P.underlying t1=some (.slice e)) (h2:P.underlying t2=some d2) (hd:d2= .string∨∃e',d2= .slice e') (hi:P.info? e=some i) (hz0:i.zero=some z) {base:Option Addr} {sLen sCap m:Nat} {x:Value} {olds news:List Value}
  (hlen:(Builtin.lenOf x).run P w= .ok m w) (hnews:(Builtin.firstCells i.size m x).run P w.drew= .ok news.toArray w.drew) (holds:(Builtin.firstCells i.size sLen (.slice base sLen sCap)).run P w.drew= .ok olds.toArray w.drew)
  (hfit:sCap<sLen+m) (hb:(sLen+m)*i.bytes≤140737488355328) (h63:sLen+m≤9223372036854775807):
  (Builtin.append_ #[t1,t2] ty #[.slice base sLen sCap,x]).run P w= .ok (.slice (some ⟨w.heap.size,0,none⟩) (sLen+m) (grownCap w (sLen+m) sCap e))
   (w.drew.alloc (.cells (olds.toArray++news.toArray++Builtin.zeroCells z.cells (grownCap w (sLen+m) sCap e-(sLen+m))) e)):=by
 have hn:¬(sLen+m≤sCap):=by omega
 have h63':¬(9223372036854775807<((sLen:Int)+(m:Int))):=by omega
 have h48':¬(281474976710656<Builtin.nextslicecap (sLen+m) sCap*i.bytes):=by
  have:=growslice_fits hfit hb
  omega
 rcases hd with rfl|⟨e',rfl⟩
 ·simp[Builtin.append_,run_underlying h1,run_underlying h2,sizeOf,typeInfo,zeroValue,hi,hz0,hlen,hn,h63',h48',Question.forced,hnews,holds,newRow,grownCap]
  congr 2;apply Array.ext';simp
 ·simp[Builtin.append_,run_underlying h1,run_underlying h2,sizeOf,typeInfo,zeroValue,hi,hz0,hlen,hn,h63',h48',Question.forced,hnews,holds,newRow,grownCap]
  congr 2;apply Array.ext';simp

end

section
variable {K : Cx} {base : z1P} {g g' : Gh} {w w' : World} {get : Nat → z2a} {getB : Nat → Option (List z2a)} {a : Act} {o : Oper} {d : Option Nat}

def z3na (K:Cx) (op:Op) (esz bytes:Nat) (str:Bool) (x y:Arg):Bool:=
 match op with
 | .call c=>(match c.callee,c.args.toList,c.argTypes.toList with
  | .builtin .append,[x',y'],[t1,t2]=>(match K.P.underlying t1 with
    |some (.slice e)=>(match K.P.info? e with
      |some i=>(i.size==esz)&&(i.bytes==bytes)&&(match i.zero with|some z=>z.cells.size==esz|none=>false)
      |none=>false)
    |_=>false)&&(if str then z3Y K.P t2 z3ca else z3Y K.P t2 z3kb)&&z5j K x' x&&z5j K y' y
  |_,_,_=>false)
 |_=>false

theorem z54a (hI:Inv K base g w getB) (hS:z5e K g w get a) {esz:Nat} {str:Bool} {b:Option Nat} {y:Arg} {y':Operand} (hy:z5j K y' y=true)
  (hok:if str then isS (arg K.E get y)∧esz=1 else okS esz b (bxc getB b) (arg K.E get y)):
  ∃news:List Value,z1e K.toCon g w (z1i (bxl getB b) (arg K.E get y)) news∧news.length=z5t (arg K.E get y)*esz∧
   (∀w1:World,(Builtin.lenOf (a.eval y')).run K.P w1= .ok (z5t (arg K.E get y)) w1)∧
   (∀m w1,m≤z5t (arg K.E get y)→(w1=w∨w1=w.drew)→(Builtin.firstCells esz m (a.eval y')).run K.P w1= .ok (news.take (m*esz)).toArray w1):=by
 have ry:=z8b hI hS hy
 cases str with
 |true=>
  simp only[if_true] at hok
  obtain⟨hs,rfl⟩:=hok
  obtain⟨ex,vx⟩:=z6ea ry hs
  generalize asS (arg K.E get y)=s at*
  rw[ex,vx]
  refine⟨s.data.toList.map fun c=> .int .u8 c.toNat,by simp only[z1i];exact z4Eb _,by simp only[z5t,List.length_map,z8Nc,Nat.mul_one],fun w1=>by simp[Builtin.lenOf,z5t],fun m w1 hm _=> ?_⟩
  simp only[Builtin.firstCells,Sem.run_pure,Nat.mul_one]
  congr 1
  apply Array.ext'
  simp only[Array.toList_map,List.toList_toArray]
  rw[←List.map_take]
  congr 1
  have:s.extract 0 m=ByteArray.mk ((s.data.toList.drop 0).take (m-0)).toArray:=by
   have:=ByteArray.extract_mk s.data.toList 0 m
   rw[←this]
  rw[this]
  simp
 |false=>
  simp only[Bool.false_eq_true,if_false] at hok
  obtain⟨vs,h1,h2,h3⟩:=z4Ta hI hok ry
  refine⟨vs,h1,h2,fun w1=> ?_,fun m w1 hm hw=> ?_⟩
  ·rcases h3 with⟨q,e,_,e0⟩|⟨bk,o,cap,e,_⟩
   ·rw[e,e0];rfl
   ·rw[e];rfl
  ·rcases h3 with⟨q,e,e1,e0⟩|⟨bk,o,cap,e,_,hr⟩
   ·rw[e,e1]
    have hm0:m=0:=by omega
    cases q with
    |none=>simp[Builtin.firstCells]
    |some q=>
     simp only[Builtin.firstCells,hm0,Nat.zero_mul,List.take_nil]
     exact z3B w1 q
   ·rw[e]
    have hcell:∀j v,(vs.take (m*esz))[j]? =some v→w1.cell? ((⟨bk,o,none⟩:Addr).add j)=some v:=fun j v hv=>by
     rw[List.getElem?_take] at hv
     rw[Addr.add_mid]
     split at hv
     ·rcases hw with rfl|rfl
      ·exact hr j v hv
      ·exact hr j v hv
     ·cases hv
    have hl:(vs.take (m*esz)).length=m*esz:=by
     rw[List.length_take,h2]
     exact Nat.min_eq_left (Nat.mul_le_mul_right _ hm)
    have:=run_loadCells_list (P:=K.P) w1 ⟨bk,o,none⟩ (vs.take (m*esz)) hcell
    rw[hl] at this
    exact this

theorem z47a {α:Type} {l:List α} (p:α→Prop) (h:∀(i:Nat) x,l[i]? =some x→p x):∀x∈l,p x:=fun x hx=>by
 obtain⟨i,hi,rfl⟩:=List.mem_iff_getElem.1 hx
 exact h i _ (List.getElem?_eq_getElem hi)

theorem z52c {cs:List z2a} {vs:List Value} (h:z1e K.toCon g w cs vs) (hc:∀c∈cs,z2d c):∀x∈vs,x.oneCell'=true:=z47a _ fun i x hx=>by
 have hl:=h.len
 have hi:=(List.getElem?_eq_some_iff.1 hx).1
 obtain⟨y,hy,hr⟩:=h.get i cs[i] (List.getElem?_eq_getElem (by omega))
 rw[hx] at hy;cases hy
 exact z4r hr (hc _ (List.getElem_mem _))

theorem z6ya (hI:Inv K base g w getB) (hS:z5e K g w get a) {esz n m cap:Nat} {nlr:Option Bool} {cs ys:List z2a} {olds news:List Value} {R:Array Value} {e:TypeId} {sl:List (Nat×z2a)}
  (hS':∀g1 w1,Ext g w g1 w1→z5e K g1 w1 get a→z5e K g1 w1 (upd get sl) a) (hnl:nlr≠some true) (hcap:n+m≤cap) (hold:z1e K.toCon g w cs olds) (hp1:z2h cs=true) (ho:olds.length=n*esz)
  (hnew:z1e K.toCon g w ys news) (hp2:z2h ys=true) (hn:news.length=m*esz) (hR:R.size=(cap-(n+m))*esz):
  z3Oa K base a get getB d {val:= .sl (.own esz) nlr (n+m) (cs++ys),sl:=sl} (.slice (some ⟨w.heap.size,0,none⟩) (n+m) cap) (w.drew.alloc (.cells (olds.toArray++news.toArray++R) e)):=by
 have hI':=z6pa hI
 have hx:=z5Z hI' (.cells (olds.toArray++news.toArray++R) e) ((n+m)*esz) (d.map .slot)
 have hx':Ext g w (z1Q g w.heap.size ((n+m)*esz) (d.map .slot)) (w.drew.alloc (.cells (olds.toArray++news.toArray++R) e)):=
  ⟨hx.keeps,hx.mu,hx.own⟩
 have hall:=hold.append hnew
 refine⟨z1Q g w.heap.size ((n+m)*esz) (d.map .slot),z8ha hI' _ _ _,hS' _ _ hx' (hx'.slots hS),?_⟩
 have hlen:(cs++ys).length=(n+m)*esz:=by rw[hall.len,List.length_append,ho,hn,Nat.add_mul]
 simp only[Rep]
 refine⟨?_,fun l hl=> .inr ⟨_,cap,rfl,hcap,hlen,by simp[z1Q],by simp[z1Q,hl],?_⟩⟩
 ·simp only[z7c]
  refine .inl ⟨_,_,_,rfl,hcap,z0f.mk fun i c hi=> ?_,hnl,by simp⟩
  have hlt:=(List.getElem?_eq_some_iff.1 hi).1
  obtain⟨v,hv,hrv⟩:=hall.get i c hi
  refine⟨by simp[z1Q];omega,v,?_,z7c.mono hx'.keeps c v (Rep.pure c v none ((z5m (cs++ys)).1 (by rw[z6na,hp1,hp2];rfl) c (z3l hi)) hrv)⟩
  rw[Nat.zero_add]
  have:=World.cell?_alloc_new w.drew (olds.toArray++news.toArray++R) e i
  rw[show w.drew.heap.size=w.heap.size from rfl] at this
  rw[this,Array.getElem?_append_left (by
   have:=(List.getElem?_eq_some_iff.1 hv).1
   simpa using this)]
  simpa using hv
 ·refine z5I w.drew (olds.toArray++news.toArray++R) e (0,0) (by simp) _ _ ?_
  have h3:(n+m)*esz+(cap-(n+m))*esz=cap*esz:=by rw[←Nat.add_mul];congr 1;omega
  simp only[Array.size_append,List.size_toArray,ho,hn,hR]
  have h4:n*esz+m*esz=(n+m)*esz:=(Nat.add_mul _ _ _).symm
  omega

theorem z0ra {op:Op} {esz bytes:Nat} {str:Bool} {x y:Arg} (h:z3na K op esz bytes str x y=true):
  ∃x' y' t1 t2 e i z d2,op= .call {callee:= .builtin .append,args:= #[x',y'],argTypes:= #[t1,t2]}∧K.P.underlying t1=some (.slice e)∧K.P.info? e=some i∧i.size=esz∧i.bytes=bytes∧i.zero=some z∧z.cells.size=esz∧
   K.P.underlying t2=some d2∧(d2= .string∨∃e',d2= .slice e')∧z5j K x' x=true∧z5j K y' y=true:=by
 unfold z3na at h
 split at h
 ·rename_i c
  split at h
  ·rename_i x' y' t1 t2 hc hargs hts
   obtain⟨callee,args,ts⟩:=c
   simp only at hc hargs hts
   subst hc
   have:=z5dc hargs
   subst this
   have:=z5dc hts
   subst this
   simp only[Bool.and_eq_true] at h
   obtain⟨⟨⟨h,ht2⟩,hx⟩,hy⟩:=h
   have hd2:∃d2,K.P.underlying t2=some d2∧(d2= .string∨∃e',d2= .slice e'):=by
    cases str with
    |true=>
     simp only[if_true] at ht2
     obtain⟨D,hu,hD⟩:=z7k ht2
     have:=z7N hD
     subst this
     exact⟨_,hu,.inl rfl⟩
    |false=>
     simp only[Bool.false_eq_true,if_false] at ht2
     obtain⟨D,hu,hD⟩:=z7k ht2
     obtain⟨e,rfl⟩:=z7Fa hD
     exact⟨_,hu,.inr ⟨_,rfl⟩⟩
   obtain⟨d2,hd2,hd2'⟩:=hd2
   split at h
   ·rename_i e he
    split at h
    ·rename_i i hi
     simp only[Bool.and_eq_true,beq_iff_eq] at h
     obtain⟨⟨h1,h2⟩,h3⟩:=h
     split at h3
     ·rename_i z hz
      simp only[beq_iff_eq] at h3
      exact⟨x',y',t1,t2,e,i,z,d2,rfl,he,hi,h1,h2,hz,h3,hd2,hd2',hx,hy⟩
     ·cases h3
    ·cases h
   ·cases h
  ·cases h
 ·cases h

theorem z5y {x' y':Operand} {t1 t2:TypeId} (ho:o.op= .call {callee:= .builtin .append,args:= #[x',y'],argTypes:= #[t1,t2]}) {v:Value} {w1:World}
  (hr:(Builtin.append_ #[t1,t2] o.type #[a.eval x',a.eval y']).run K.P w= .ok v w1):(execOp a.eval o).run K.P w= .ok (.value v) w1:=by
 simp only[execOp,ho,resolve,Sem.run_bind,Sem.run_pure,Result.andThen_ok,invoke,builtin]
 simp[hr]

theorem z6Ea {esz bytes:Nat} {str:Bool} {nlr b:Option _} {X Y:z2a} (hok:okp.okApp getB esz bytes str nlr b X Y) (hm:0<z5t Y):nlr≠some true:=by
 intro e
 subst e
 obtain⟨_,_,_,h,_⟩:=hok
 simp only at h
 split at h
 ·omega
 ·cases h

theorem z6Ja (hI:Inv K base g w getB) (hS:z5e K g w get a) {esz bytes:Nat} {str:Bool} {nlr:Option Bool} {b:Option Nat} {x y:Arg} (h:z3na K o.op esz bytes str x y=true) (hok:okp K.E get getB (.appendC esz bytes str nlr b x y)):
  z3K K base a get getB d o (.appendC esz bytes str nlr b x y) w:=by
 obtain⟨x',y',t1,t2,e,i,z,d2,ho,hu,hi,hsz,hby,hz,hzs,hd2,hd2',hx,hy⟩:=z0ra h
 obtain⟨hx0,hap⟩:=hok
 have rx:=z8b hI hS hx
 split at hx0
 ·rename_i nl n cs ex
  have hlen:=hx0
  have hap':=hap
  obtain⟨hy0,hbytes,h40,hnl,hcells⟩:=hap
  rw[ex] at rx hbytes h40 hnl hap'
  obtain⟨news,n1,n2,n3,n4⟩:=z54a hI hS hy hy0
  generalize hm:z5t (arg K.E get y)=m at*
  simp only[z5t] at hbytes h40
  have hnews:∀w1,(w1=w∨w1=w.drew)→(Builtin.firstCells i.size m (a.eval y')).run K.P w1= .ok news.toArray w1:=fun w1 hw=>by
   have:=n4 m w1 (Nat.le_refl _) hw
   rw[List.take_of_length_le (by rw[n2];exact Nat.le_refl _)] at this
   rw[hsz];exact this
  have hpy:z2h (z1i (bxl getB b) (arg K.E get y))=true:=(z5m _).2 fun c hc=>(hcells c hc).1
  have hef:eff K.E get getB (.appendC esz bytes str nlr b x y)={val:= .sl (if n=0 then .own esz else .plain) nlr (n+m) (cs++z1i (bxl getB b) (arg K.E get y))}:=by simp only[eff,ex,hm];rfl
  have grow:∀(base':Option Addr) (cap:Nat) (olds:List Value),a.eval x'= .slice base' n cap→cap<n+m→z1e K.toCon g w cs olds→z2h cs=true→olds.length=n*esz→
    (Builtin.firstCells i.size n (.slice base' n cap)).run K.P w.drew= .ok olds.toArray w.drew→0<m→z3K K base a get getB d o (.appendC esz bytes str nlr b x y) w:=fun base' cap olds hv hc hold hpc hol hfc hm0=>by
   have hr:=z8sa (P:=K.P) (ty:=o.type) w hu hd2 hd2' hi hz (x:=a.eval y') (news:=news) (olds:=olds) (n3 w) (hnews _ (.inr rfl)) hfc hc (by rw[hby];omega) (by omega)
   rw[←hv] at hr
   refine⟨_,_,_,z5y ho hr,.inl rfl,?_⟩
   rw[hef]
   have fin:∀v w',z3Oa K base a get getB d {val:= .sl (.own esz) nlr (n+m) (cs++z1i (bxl getB b) (arg K.E get y))} v w'→
     z3Oa K base a get getB d {val:= .sl (if n=0 then .own esz else .plain) nlr (n+m) (cs++z1i (bxl getB b) (arg K.E get y))} v w':=fun v w' hgood=>by
    by_cases hn0:n=0
    ·rw[if_pos hn0];exact hgood
    ·rw[if_neg hn0]
     obtain⟨g',h1,h2,h3⟩:=hgood
     exact⟨g',h1,h2,Rep.dem _ h3⟩
   exact fin _ _ (z6ya hI hS (fun _ _ _ h=>h) (z6Ea hap' (by rw[hm];exact hm0)) (grownCap_ge _ _ _ _) hold hpc hol n1 hpy n2 (by rw[size_zeroCells,hzs]))
  simp only[Rep,z7c] at rx
  rcases rx with⟨bk,off,cap,vx,hcap,hc,hnlx,hclip⟩|⟨q,vx,rfl,rfl,hnlx⟩
  ·have hcapn:=hclip trivial
   obtain⟨olds,v1,v2,v3⟩:=hc.vals
   have hol:olds.length=n*esz:=by rw[←v2.len,hlen]
   have hfc:(Builtin.firstCells i.size n (.slice (some ⟨bk,off,none⟩) n cap)).run K.P w.drew= .ok olds.toArray w.drew:=
    run_firstCells_some (P:=K.P) w.drew i.size n ⟨bk,off,none⟩ n cap olds (by rw[hsz,hol]) (fun j v hv=>by rw[Addr.add_mid];exact v1 j v hv)
   by_cases hm0:m=0
   ·have hnews0:news=[]:=List.eq_nil_of_length_eq_zero (by rw[n2,hm0,Nat.zero_mul])
    have hys0:z1i (bxl getB b) (arg K.E get y)=[]:=List.eq_nil_of_length_eq_zero (by rw[n1.len,hnews0];rfl)
    have hr:=z3Z (P:=K.P) (ty:=o.type) w hu hd2 hd2' hi (base:=some ⟨bk,off,none⟩) (sLen:=n) (sCap:=cap) (x:=a.eval y') (news:=news) (n3 w) (hnews _ (.inl rfl)) (by omega)
    rw[←vx,hnews0] at hr
    simp only[storeCells,Sem.run_pure,Result.andThen_ok] at hr
    refine⟨_,_,_,z5y ho hr,.inl rfl,?_⟩
    rw[hef,hys0]
    have hnlr:nlr≠some true:=by
     intro e
     subst e
     simp only at hnl
     split at hnl
     ·rename_i hsl;cases hsl;exact hnlx rfl
     ·cases hnl
    by_cases hn0:n=0
    ·have hcs0:cs=[]:=List.eq_nil_of_length_eq_zero (by rw[hlen,hn0,Nat.zero_mul])
     rw[if_pos hn0,hcs0]
     refine⟨g,hI,hS,?_⟩
     subst hn0 hm0
     simp only[Rep,z7c,List.append_nil,Nat.add_zero]
     exact⟨.inl ⟨bk,off,cap,rfl,by omega,by simp[z0f],hnlr,by simp⟩,fun l hl=> .inl (.inr ⟨⟨some ⟨bk,off,none⟩,by rw[hcapn]⟩,trivial⟩)⟩
    ·rw[if_neg hn0]
     refine⟨g,hI,hS,?_⟩
     subst hm0
     simp only[Rep,z7c,List.append_nil,Nat.add_zero]
     exact .inl ⟨bk,off,cap,rfl,hcap,hc,hnlr,by simp⟩
   ·exact grow _ cap olds vx (by omega) v2 (z6c.isPure _ _ v3) hol hfc (by omega)
  ·by_cases hm0:m=0
   ·have hnews0:news=[]:=List.eq_nil_of_length_eq_zero (by rw[n2,hm0,Nat.zero_mul])
    have hys0:z1i (bxl getB b) (arg K.E get y)=[]:=List.eq_nil_of_length_eq_zero (by rw[n1.len,hnews0];rfl)
    have hr:=z3Z (P:=K.P) (ty:=o.type) w hu hd2 hd2' hi (base:=q) (sLen:=0) (sCap:=0) (x:=a.eval y') (news:=news) (n3 w) (hnews _ (.inl rfl)) (by omega)
    rw[←vx,hnews0] at hr
    have hr:(Builtin.append_ #[t1,t2] o.type #[a.eval x',a.eval y']).run K.P w= .ok (.slice q (0+m) 0) w:=by
     rw[hr];cases q<;>simp[storeCells]
    refine⟨_,_,_,z5y ho hr,.inl rfl,?_⟩
    rw[hef,hys0,if_pos rfl]
    refine⟨g,hI,hS,?_⟩
    subst hm0
    simp only[Rep,z7c,List.append_nil,Nat.add_zero]
    refine⟨.inr ⟨q,rfl,trivial,trivial,?_⟩,fun l hl=> .inl (.inr ⟨⟨q,rfl⟩,trivial⟩)⟩
    intro e
    cases q with
    |none=>
     simp only[Option.isSome_none] at e hnlx
     subst e
     simp only at hnl
     split at hnl
     ·rename_i hsl;cases hsl;exact hnlx rfl
     ·omega
    |some q=>
     simp only[Option.isSome_some] at e hnlx
     subst e
     simp only at hnl
     split at hnl
     ·rename_i hsl;cases hsl;exact hnlx rfl
     ·cases hnl
   ·exact grow q 0 [] vx (by omega) (by simp[z1e]) rfl (by simp) (by
     cases q with
     |none=>simp[Builtin.firstCells]
     |some q=>simp only[Builtin.firstCells,Nat.zero_mul];exact z3B w.drew q) (by omega)
 ·cases hx0

theorem z4Wa (hI:Inv K base g w getB) (hS:z5e K g w get a) {esz bytes:Nat} {str:Bool} {nlr:Option Bool} {b:Option Nat} {x:Nat} {y:Arg} (h:z3na K o.op esz bytes str (.s x) y=true) (hok:okp K.E get getB (.append esz bytes str nlr b x y)):
  z3K K base a get getB d o (.append esz bytes str nlr b x y) w:=by
 obtain⟨x',y',t1,t2,e,i,z,d2,ho,hu,hi,hsz,hby,hz,hzs,hd2,hd2',hx,hy⟩:=z0ra h
 have:=z6L hx
 subst this
 obtain⟨hx0,hap⟩:=hok
 have rx:=z5ga hS x
 split at hx0
 ·rename_i e0 nl n cs ex
  subst hx0
  have hap':=hap
  obtain⟨hy0,hbytes,h40,hnl,hcells⟩:=hap
  rw[ex] at rx hbytes h40 hnl hap'
  obtain⟨news,n1,n2,n3,n4⟩:=z54a hI hS hy hy0
  generalize hm:z5t (arg K.E get y)=m at*
  simp only[z5t] at hbytes h40
  have hnews:∀w1,(w1=w∨w1=w.drew)→(Builtin.firstCells i.size m (a.eval y')).run K.P w1= .ok news.toArray w1:=fun w1 hw=>by
   have:=n4 m w1 (Nat.le_refl _) hw
   rw[List.take_of_length_le (by rw[n2];exact Nat.le_refl _)] at this
   rw[hsz];exact this
  have hpy:z2h (z1i (bxl getB b) (arg K.E get y))=true:=(z5m _).2 fun c hc=>(hcells c hc).1
  have hones:=z52c n1 fun c hc=>(hcells c hc).2
  have hef:eff K.E get getB (.append e0 bytes str nlr b x y)={val:= .sl (.own e0) nlr (n+m) (cs++z1i (bxl getB b) (arg K.E get y)),sl:=[(x,dem (get x))]}:=by simp only[eff,ex,hm];rfl
  have hsl:∀g1 w1,z5e K g1 w1 get a→z5e K g1 w1 (upd get [(x,dem (get x))]) a:=fun g1 w1 hslots s=>by
   simp only[upd,lk]
   by_cases hs:s=x
   ·rw[if_pos hs,hs];exact Rep.dem _ (hslots x)
   ·simp only[if_neg hs,Option.getD_none];exact hslots s
  have grow:∀(base':Option Addr) (cap:Nat) (olds:List Value),a.eval (.tmp x)= .slice base' n cap→cap<n+m→z1e K.toCon g w cs olds→z2h cs=true→olds.length=n*e0→
    (Builtin.firstCells i.size n (.slice base' n cap)).run K.P w.drew= .ok olds.toArray w.drew→0<m→z3K K base a get getB d o (.append e0 bytes str nlr b x y) w:=fun base' cap olds hv hc hold hpc hol hfc hm0=>by
   have hr:=z8sa (P:=K.P) (ty:=o.type) w hu hd2 hd2' hi hz (x:=a.eval y') (news:=news) (olds:=olds) (n3 w) (hnews _ (.inr rfl)) hfc hc (by rw[hby];omega) (by omega)
   rw[←hv] at hr
   refine⟨_,_,_,z5y ho hr,.inl rfl,?_⟩
   rw[hef]
   exact z6ya hI hS (fun g1 w1 _ h=>hsl g1 w1 h) (z6Ea hap' (by rw[hm];exact hm0)) (grownCap_ge _ _ _ _) hold hpc hol n1 hpy n2 (by rw[size_zeroCells,hzs])
  simp only[Rep] at rx
  obtain⟨rp,hown⟩:=rx
  simp only[z7c] at rp
  by_cases hm0:m=0
  ·
   have hnews0:news=[]:=List.eq_nil_of_length_eq_zero (by rw[n2,hm0,Nat.zero_mul])
   have hys0:z1i (bxl getB b) (arg K.E get y)=[]:=List.eq_nil_of_length_eq_zero (by rw[n1.len,hnews0];rfl)
   have hvx:∃p cap,a.eval (.tmp x)= .slice p n cap∧n≤cap:=by
    rcases rp with⟨bk,off,cap,vx,hcap,_⟩|⟨q,vx,rfl,_⟩
    ·exact⟨_,_,vx,hcap⟩
    ·exact⟨_,_,vx,Nat.le_refl _⟩
   obtain⟨p,cap,vx,hcap⟩:=hvx
   have hr:=z3Z (P:=K.P) (ty:=o.type) w hu hd2 hd2' hi (base:=p) (sLen:=n) (sCap:=cap) (x:=a.eval y') (news:=news) (n3 w) (hnews _ (.inl rfl)) (by omega)
   rw[←vx,hnews0] at hr
   have hr':(Builtin.append_ #[t1,t2] o.type #[a.eval (.tmp x),a.eval y']).run K.P w= .ok (a.eval (.tmp x)) w:=by
    rw[hr,vx,hm0]
    cases p<;>simp[storeCells]
   obtain⟨g',h1,h2,h3,_⟩:=z8R hI hS x (d.map .slot)
   refine⟨_,_,_,z5y ho hr',.inl rfl,?_⟩
   rw[hef,hys0,hm0,List.append_nil,Nat.add_zero]
   refine⟨g',h1,h2,?_⟩
   rw[ex] at h3
   simp only[Rep] at h3⊢
   refine⟨?_,h3.2⟩
   have h31:=h3.1
   simp only[z7c] at h31⊢
   rcases h31 with⟨bk,off,cap,q1,q2,q3,q4,q5⟩|⟨q,q1,q2,q3,q4⟩
   ·refine .inl ⟨bk,off,cap,q1,q2,q3,?_,q5⟩
    intro e1
    subst e1
    simp only at hnl
    split at hnl
    ·rename_i hsl';cases hsl';exact q4 rfl
    ·cases hnl
   ·refine .inr ⟨q,q1,q2,q3,?_⟩
    intro e1
    cases q with
    |none=>
     simp only[Option.isSome_none] at e1 q4
     subst e1
     simp only at hnl
     split at hnl
     ·rename_i hsl';cases hsl';exact q4 rfl
     ·omega
    |some q=>
     simp only[Option.isSome_some] at e1 q4
     subst e1
     simp only at hnl
     split at hnl
     ·rename_i hsl';cases hsl';exact q4 rfl
     ·cases hnl
  ·rcases rp with⟨bk,off,cap,vx,hcap,hc,hnlx,_⟩|⟨q,vx,rfl,rfl,hnlx⟩
   ·rw[vx] at hown
    rcases hown (.slot x) rfl with(hz0|⟨⟨p,hz0⟩,hcs0⟩)|hO
    ·simp at hz0
    ·simp only[Value.slice.injEq] at hz0
     obtain⟨_,rfl,rfl⟩:=hz0
     subst hcs0
     have hfc0:(Builtin.firstCells i.size 0 (.slice (some ⟨bk,off,none⟩) 0 0)).run K.P w.drew= .ok ([]:List Value).toArray w.drew:=by
      simp only[Builtin.firstCells,Nat.zero_mul]
      exact z3B w.drew _
     exact grow _ 0 [] vx (by omega) (by simp[z1e]) rfl (by simp) hfc0 (by omega)
    ·obtain⟨b',cap',q1,q2,q3,q4,q5,q6⟩:=hO
     simp only[Value.slice.injEq,Option.some.injEq,Addr.mk.injEq] at q1
     obtain⟨⟨rfl,rfl,_⟩,_,rfl⟩:=q1
     obtain⟨olds,v1,v2,v3⟩:=hc.vals
     have hol:olds.length=n*e0:=by rw[←v2.len,q3]
     have q6t:w.there bk (n*e0) (cap*e0-n*e0):=fun j hj=>by
      have:=q6 (n*e0+j) (by omega)
      rw[Nat.zero_add] at this
      exact this
     by_cases hroom:n+m≤cap
     ·have hthere:w.there bk (n*e0) news.length:=fun j hj=>by
       have:n*e0+m*e0≤cap*e0:=by rw[←Nat.add_mul];exact Nat.mul_le_mul_right _ hroom
       exact q6t j (by omega)
      have hst:=run_storeCells_cells (P:=K.P) bk (n*e0) news 0 w (fun j hj=>by simpa using(hthere j hj).1) (fun j hj=>by simpa using(hthere j hj).2) hones
      have hr:=z3Z (P:=K.P) (ty:=o.type) w hu hd2 hd2' hi (base:=some ⟨bk,0,none⟩) (sLen:=n) (sCap:=cap) (x:=a.eval y') (news:=news) (n3 w) (hnews _ (.inl rfl)) hroom
      rw[←vx] at hr
      simp only[hsz,Addr.add_mid,Nat.zero_add,Nat.add_zero] at hr hst
      rw[hst] at hr
      simp only[Result.andThen_ok] at hr
      obtain⟨k1,k2,k3⟩:=z3qb hI q5 q4 q6t (d.map .slot) news n2 hroom
      refine⟨_,_,_,z5y ho hr,.inl rfl,?_⟩
      rw[hef]
      refine⟨z1Q g bk ((n+m)*e0) (d.map .slot),k3 (by simp),fun s=> ?_,?_⟩
      ·simp only[upd,lk]
       by_cases hs:s=x
       ·subst hs
        simp only[if_true,Option.getD_some,ex,Abs.dem,Rep]
        have:z7c K.toCon g.S w (.sl .plain nl n cs) (a.tmps.getD s undef):=by
         have hh:=hS s
         rw[ex] at hh
         simp only[Rep] at hh
         exact hh.1
        exact z7c.mono k1 _ _ this
       ·simp only[if_neg hs,Option.getD_none]
        exact Rep.mono k1 _ _ _ _ (fun _ _ _ h=>h) (fun l hl=>⟨l,hl,k2 l (by cases hl;simpa using hs)⟩) (hS s)
      ·simp only[Rep]
       have hlen:(cs++z1i (bxl getB b) (arg K.E get y)).length=(n+m)*e0:=by rw[List.length_append,q3,n1.len,n2,Nat.add_mul]
       refine⟨?_,fun l hl=> .inr ⟨bk,cap,rfl,hroom,hlen,by simp[z1Q],by simp[z1Q,hl],?_⟩⟩
       ·simp only[z7c]
        refine .inl ⟨bk,0,cap,rfl,hroom,z0f.mk fun j c hj=> ?_,z6Ea hap' (by rw[hm];omega),by simp⟩
        have hlt:=(List.getElem?_eq_some_iff.1 hj).1
        refine⟨by simp[z1Q];omega,?_⟩
        rw[Nat.zero_add]
        by_cases hjn:j<cs.length
        ·rw[List.getElem?_append_left hjn] at hj
         obtain⟨q,⟨u,hu,hp⟩⟩:=hc.get j c hj
         rw[Nat.zero_add] at q hu
         obtain⟨_,hu'⟩:=k1 bk j u q hu
         exact⟨u,hu',z7c.mono k1 c u hp⟩
        ·rw[List.getElem?_append_right (by omega)] at hj
         obtain⟨u,hu,hru⟩:=n1.get _ c hj
         have hju:j-cs.length<news.length:=(List.getElem?_eq_some_iff.1 hu).1
         refine⟨u,?_,z7c.mono k1 c u (Rep.pure c u none ((z5m _).1 hpy c (z3l hj)) hru)⟩
         have:=World.cell?_setCells_in bk news (n*e0) w (fun j hj=>(hthere j hj).1) (j-cs.length) hju
         rw[show n*e0+(j-cs.length)=j by omega] at this
         rw[this,←hu,List.getElem?_eq_getElem hju]
       ·intro j hj
        exact World.there_setCells q6 bk (n*e0) news j hj
     ·have hfc:(Builtin.firstCells i.size n (.slice (some ⟨bk,0,none⟩) n cap)).run K.P w.drew= .ok olds.toArray w.drew:=
       run_firstCells_some (P:=K.P) w.drew i.size n ⟨bk,0,none⟩ n cap olds (by rw[hsz,hol]) (fun j v hv=>by rw[Addr.add_mid];exact v1 j v hv)
      exact grow _ cap olds vx (by omega) v2 (z6c.isPure _ _ v3) hol hfc (by omega)
   ·exact grow q 0 [] vx (by omega) (by simp[z1e]) rfl (by simp) (by
     cases q with
     |none=>simp[Builtin.firstCells]
     |some q=>simp only[Builtin.firstCells,Nat.zero_mul];exact z3B w.drew q) (by omega)
 ·cases hx0

end
end Go.Abs
end

section
namespace Go.Abs

section
variable {K : Cx} {base : z1P} {g g' : Gh} {w w' : World} {get : Nat → z2a} {getB : Nat → Option (List z2a)} {a : Act} {o : Oper} {d : Option Nat}

def z4Ra (K:Cx) (op:Op) (esz:Nat) (str:Bool) (x y:Arg):Bool:=
 match op with
 | .call c=>(match c.callee,c.args.toList,c.argTypes.toList with
  | .builtin .copy,[x',y'],[t1,_]=>(match K.P.underlying t1 with|some (.slice e)=>z2A K.P e esz|_=>false)&&z5j K x' x&&z5j K y' y
  |_,_,_=>false)
 |_=>false

theorem z8zb {P:Program} (w:World) {t1 t2 ty e:TypeId} {esz:Nat} (h1:P.underlying t1=some (.slice e)) (hs:z2A P e esz=true) {bk o dLen dCap m:Nat} {x:Value} {news:List Value}
  (hlen:(Builtin.lenOf x).run P w= .ok m w) (hnews:(Builtin.firstCells esz (Nat.min m dLen) x).run P w= .ok news.toArray w) (ht:w.there bk o news.length) (h1c:∀v∈news,v.oneCell'=true):
  (Builtin.copy_ #[t1,t2] ty #[.slice (some ⟨bk,o,none⟩) dLen dCap,x]).run P w= .ok (.int .i64 (Nat.min m dLen:Nat)) (w.setCells bk o news):=by
 have hst:=run_storeCells_cells (P:=P) bk o news 0 w (fun j hj=>by simpa using(ht j hj).1) (fun j hj=>by simpa using(ht j hj).2) h1c
 simp only[Nat.add_zero] at hst
 simp[Builtin.copy_,run_underlying h1,run_sizeOf w hs,hlen,hnews,hst,goInt]

theorem z9kb (hI:Inv K base g w getB) (hS:z5e K g w get a) {esz:Nat} {str:Bool} {db:Nat} {b:Option Nat} {x y:Arg} (h:z4Ra K o.op esz str x y=true) (hok:okp K.E get getB (.copy esz str db b x y)):z3K K base a get getB d o (.copy esz str db b x y) w:=by
 unfold z4Ra at h
 split at h
 ·rename_i c ho
  split at h
  ·rename_i x' y' t1 t2 hc hargs hts
   obtain⟨callee,args,ts⟩:=c
   simp only at hc hargs hts
   subst hc
   have:=z5dc hargs
   subst this
   have:=z5dc hts
   subst this
   simp only[Bool.and_eq_true] at h
   obtain⟨⟨h,hx⟩,hy⟩:=h
   split at h
   ·rename_i e hu
    obtain⟨hob,hx0,hy0,hcells⟩:=hok
    have rx:=z8b hI hS hx
    split at hx0
    ·rename_i id e' off n cp ex
     obtain⟨rfl,rfl,cs,hcs,hfit⟩:=hx0
     rw[ex] at rx
     simp only[Rep] at rx
     obtain⟨bk,cap,o',hbk,vx,hcap,_,ho'⟩:=rx
     obtain⟨news,n1,n2,n3,n4⟩:=z54a hI hS hy hy0
     generalize hm:z5t (arg K.E get y)=m at*
     have hf:=n4 (Nat.min m n) w (Nat.min_le_left _ _) (.inl rfl)
     have hones:=z52c n1 fun c hc=>(hcells c hc).1
     have hle:(Nat.min m n)*e'≤m*e':=Nat.mul_le_mul_right _ (Nat.min_le_left _ _)
     have hle2:(Nat.min m n)*e'≤n*e':=Nat.mul_le_mul_right _ (Nat.min_le_right _ _)
     have htl:(news.take (Nat.min m n*e')).length=Nat.min m n*e':=by rw[List.length_take,n2];exact Nat.min_eq_left hle
     have hthere:w.there bk o' (news.take (Nat.min m n*e')).length:=by
      rw[htl]
      rcases ho' with rfl|⟨rfl,_⟩
      ·exact z99 hI hcs hbk o' _ (by omega)
      ·intro j hj;simp at hj
     have hr:=z8zb (P:=K.P) (ty:=o.type) (t2:=t2) w hu h (dCap:=cap) (n3 w) hf hthere (fun v hv=>hones v (List.mem_of_mem_take hv))
     rw[←vx] at hr
     have hrun:(execOp a.eval o).run K.P w= .ok (.value (.int .i64 (Nat.min m n:Nat))) (w.setCells bk o' (news.take (Nat.min m n*e'))):=by
      simp only[execOp,ho,resolve,Sem.run_bind,Sem.run_pure,Result.andThen_ok,invoke,builtin]
      simp[hr]
     have hbx:bxl getB (some id)=cs:=by simp[bxl,bxc,hcs]
     have hef:eff K.E get getB (.copy e' str id b x y)={val:= .lit (.int .i64 (Nat.min m n:Nat)),bx:=[(id,some (splice cs off ((z1i (bxl getB b) (arg K.E get y)).take (Nat.min m n*e'))))]}:=by
      simp only[eff,ex,hbx,hm]
     refine⟨_,_,_,hrun,.inl rfl,?_⟩
     rw[hef]
     have n1':=n1.take (Nat.min m n*e')
     have hlen':=n1'.len
     have hown:∀c∈(z1i (bxl getB b) (arg K.E get y)).take (Nat.min m n*e'),z1f c=false:=fun c hc=>(hcells c (List.mem_of_mem_take hc)).2
     generalize hds:(z1i (bxl getB b) (arg K.E get y)).take (Nat.min m n*e')=ds at*
     generalize hvs:news.take (Nat.min m n*e')=vs at*
     rcases ho' with rfl|⟨rfl,_⟩
     ·obtain⟨bk',k1,k2,k3⟩:=z61 hI hob hcs o' vs ds hlen' (by omega) (fun i c u hc hu=>by
       obtain⟨u',hu',hr'⟩:=n1'.get i c hc
       rw[hu] at hu';cases hu'
       exact z5T _ (hown c (z3l hc)) hr')
      rw[hbk] at k1;cases k1
      exact⟨g,k3,k2.slots hS,z8r _ _⟩
     ·have hz:Nat.min m 0=0:=Nat.min_zero m
      have hvs0:vs=[]:=List.eq_nil_of_length_eq_zero (by rw[htl,hz,Nat.zero_mul])
      have hds0:ds=[]:=List.eq_nil_of_length_eq_zero (by rw[hlen',hvs0];rfl)
      rw[hvs0,hds0]
      have hsp:splice cs off ([]:List z2a)=cs:=by simp[splice]
      rw[hsp]
      have hup:z29 getB [(id,some cs)]=getB:=funext fun j=>by
       rw[z0va]
       split
       ·rename_i hj;rw[hj,hcs]
       ·rfl
      exact⟨g,by rw[hup];exact hI,hS,z8r _ _⟩
    ·cases hx0
   ·cases h
  ·cases h
 ·cases h

theorem z7Ha (hI:Inv K base g w getB) (hS:z5e K g w get a) {esz bytes:Nat} {str:Bool} {id:Nat} {b:Option Nat} {x y:Arg} (h:z3na K o.op esz bytes str x y=true) (hok:okp K.E get getB (.appendB esz bytes str id b x y)):
  z3K K base a get getB d o (.appendB esz bytes str id b x y) w:=by
 obtain⟨x',y',t1,t2,e,i,z,d2,ho,hu,hi,hsz,hby,hz,hzs,hd2,hd2',hx,hy⟩:=z0ra h
 obtain⟨hob,hx0,hy0,hcells⟩:=hok
 have rx:=z8b hI hS hx
 split at hx0
 ·rename_i id' e' off n c ex
  obtain⟨rfl,rfl,⟨cs,hcs,hfit⟩,hc,hc0⟩:=hx0
  rw[ex] at rx
  simp only[Rep] at rx
  obtain⟨bk,cap,o',hbk,vx,hcap,hccap,ho',hxc⟩:=rx
  have hoo:o'=off:=ho'.resolve_right (by omega)
  subst hoo
  obtain⟨news,n1,n2,n3,n4⟩:=z54a hI hS hy hy0
  generalize hm:z5t (arg K.E get y)=m at*
  have hnews:(Builtin.firstCells i.size m (a.eval y')).run K.P w= .ok news.toArray w:=by
   have:=n4 m w (Nat.le_refl _) (.inl rfl)
   rw[List.take_of_length_le (by rw[n2];exact Nat.le_refl _)] at this
   rw[hsz];exact this
  have hones:=z52c n1 fun c hc=>(hcells c hc).1
  have hfit':o'+n*e'+m*e'≤cs.length:=by rw[Nat.add_assoc,←Nat.add_mul];exact hfit
  have hthere:w.there bk (o'+n*e') news.length:=z99 hI hcs hbk _ _ (by rw[n2];exact hfit')
  have hst:=run_storeCells_cells (P:=K.P) bk (o'+n*e') news 0 w (fun j hj=>by simpa using(hthere j hj).1) (fun j hj=>by simpa using(hthere j hj).2) hones
  have hr:=z3Z (P:=K.P) (ty:=o.type) w hu hd2 hd2' hi (base:=some ⟨bk,o',none⟩) (sLen:=n) (sCap:=cap) (x:=a.eval y') (news:=news) (n3 w) hnews (by omega)
  rw[←vx] at hr
  simp only[hsz,Addr.add_mid,Nat.add_zero] at hr hst
  rw[hst] at hr
  simp only[Result.andThen_ok] at hr
  have hbx:bxl getB (some id')=cs:=by simp[bxl,bxc,hcs]
  have hef:eff K.E get getB (.appendB e' bytes str id' b x y)={val:= .bv id' e' o' (n+m) c,bx:=[(id',some (splice cs (o'+n*e') (z1i (bxl getB b) (arg K.E get y))))]}:=by
   simp only[eff,ex,hbx,hm]
  refine⟨_,_,_,z5y ho hr,.inl rfl,?_⟩
  rw[hef]
  obtain⟨bk',k1,k2,k3⟩:=z61 hI hob hcs (o'+n*e') news _ n1.len (by rw[n1.len,n2];exact hfit') (fun i c u hc hu=>by
   obtain⟨u',hu',hr'⟩:=n1.get i c hc
   rw[hu] at hu';cases hu'
   exact z5T _ (hcells c (z3l hc)).2 hr')
  rw[hbk] at k1;cases k1
  exact⟨g,k3,k2.slots hS,by simp only[Rep];exact⟨bk,cap,o',hbk,rfl,by omega,hccap,.inl rfl,hxc⟩⟩
 ·cases hx0


/-! ### clearing -/
def z7Ba (K:Cx) (op:Op) (esz:Nat) (x:Arg):Bool:=
 match op with
 | .call c=>(match c.callee,c.args.toList,c.argTypes.toList with
  | .builtin .clear,[x'],[t1]=>(match K.P.underlying t1 with
    |some (.slice e)=>(match K.P.info? e with
      |some i=>(match i.zero with|some z=>z.cells.size==esz&&z.cells.toList.all (·.oneCell')|none=>false)
      |none=>false)
    |_=>false)&&z5j K x' x
  |_,_,_=>false)
 |_=>false
theorem z8Ea {zs:Array Value} {n:Nat} {v:Value} (h:v∈(Builtin.zeroCells zs n).toList):v∈zs.toList:=by
 simp only[Builtin.zeroCells,Array.toList_map,List.mem_map,Array.toList_range,List.mem_range] at h
 obtain⟨i,hi,rfl⟩:=h
 have h0:0<zs.size:=by
  rcases Nat.eq_zero_or_pos zs.size with h0|h0
  ·rw[h0,Nat.mul_zero] at hi;omega
  ·exact h0
 have hlt:=Nat.mod_lt i h0
 rw[getElem!_pos zs (i% zs.size) hlt]
 exact Array.mem_toList_iff.2 (Array.getElem_mem _)
theorem z5Sa (hI:Inv K base g w getB) (hS:z5e K g w get a) {esz id:Nat} {x:Arg} (h:z7Ba K o.op esz x=true) (hok:okp K.E get getB (.clearB esz id x)):z3K K base a get getB d o (.clearB esz id x) w:=by
 unfold z7Ba at h
 split at h
 ·rename_i c ho
  split at h
  ·rename_i x' t1 hc hargs hts
   obtain⟨callee,args,ts⟩:=c
   simp only at hc hargs hts
   subst hc
   have:args= #[x']:=by apply Array.ext';rw[hargs]
   subst this
   have:ts= #[t1]:=by apply Array.ext';rw[hts]
   subst this
   simp only[Bool.and_eq_true] at h
   obtain⟨h,hx⟩:=h
   split at h
   ·rename_i e hu
    split at h
    ·rename_i i hi
     split at h
     ·rename_i z hz
      simp only[Bool.and_eq_true,beq_iff_eq] at h
      obtain⟨hsz,h1c⟩:=h
      rw[List.all_eq_true] at h1c
      obtain⟨hob,hx0⟩:=hok
      have rx:=z8b hI hS hx
      split at hx0
      ·rename_i id' e' off n cp ex
       obtain⟨rfl,rfl,cs,hcs,hfit⟩:=hx0
       rw[ex] at rx
       simp only[Rep] at rx
       obtain⟨bk,cap,o',hbk,vx,hcap,_,ho',_⟩:=rx
       have hbx:bxl getB (some id')=cs:=by simp[bxl,bxc,hcs]
       have hef:eff K.E get getB (.clearB e' id' x)={val:= .undef,bx:=[(id',some (splice cs off (List.replicate (n*e') .undef)))]}:=by
        simp only[eff,ex,hbx]
       have hzr:(zeroValue e).run K.P w= .ok z w:=by simp[zeroValue,typeInfo,hi,hz]
       generalize hN:(Builtin.zeroCells z.cells n).toList=N at*
       have hNl:N.length=n*e':=by rw[←hN];simp[Builtin.zeroCells,hsz]
       have hones:∀v∈N,v.oneCell'=true:=fun v hv=>h1c v (z8Ea (by rw[hN];exact hv))
       by_cases hn0:n=0
       ·subst hn0
        have hrun:(execOp a.eval o).run K.P w= .ok (.value (.tuple #[])) w:=by
         simp only[execOp,ho,resolve,Sem.run_bind,Sem.run_pure,Result.andThen_ok,invoke,builtin]
         simp[Builtin.clear_,run_underlying hu,vx]
        refine⟨_,_,_,hrun,.inl rfl,?_⟩
        rw[hef]
        have hsp:splice cs off (List.replicate (0*e') z2a.undef)=cs:=by simp[splice]
        rw[hsp]
        have hup:z29 getB [(id',some cs)]=getB:=funext fun j=>by
         rw[z0va]
         split
         ·rename_i hj;rw[hj,hcs]
         ·rfl
        exact⟨g,by rw[hup];exact hI,hS,by simp[Rep]⟩
       ·have hoo:o'=off:=ho'.resolve_right fun h=>hn0 h.1
        subst hoo
        have hthere:w.there bk o' N.length:=by rw[hNl];exact z99 hI hcs hbk o' _ (by omega)
        have hst:=run_storeCells_cells (P:=K.P) bk o' N 0 w (fun j hj=>by simpa using(hthere j hj).1) (fun j hj=>by simpa using(hthere j hj).2) hones
        simp only[Nat.add_zero] at hst
        obtain⟨k,rfl⟩:∃k,n=k+1:=⟨n-1,by omega⟩
        have hrun:(execOp a.eval o).run K.P w= .ok (.value (.tuple #[])) (w.setCells bk o' N):=by
         simp only[execOp,ho,resolve,Sem.run_bind,Sem.run_pure,Result.andThen_ok,invoke,builtin]
         simp[Builtin.clear_,run_underlying hu,vx,hzr,hN,hst]
        refine⟨_,_,_,hrun,.inl rfl,?_⟩
        rw[hef]
        obtain⟨bk',k1,k2,k3⟩:=z61 hI hob hcs o' N (List.replicate ((k+1)*e') .undef) (by rw[List.length_replicate,hNl]) (by rw[List.length_replicate];omega) (fun i c u hc hu=>by
         obtain⟨_,this⟩:=(List.getElem?_eq_some_iff.1 hc)
         rw[List.getElem_replicate] at this
         subst this
         simp[Rep])
        rw[hbk] at k1;cases k1
        exact⟨g,k3,k2.slots hS,by simp[Rep]⟩
      ·cases hx0
     ·cases h
    ·cases h
   ·cases h
  ·cases h
 ·cases h

/-! ### a new strings.Builder -/
def z4Qa (K:Cx) (op:Op):Bool:=match op with| .alloc t=>decide (t=K.bt)&&(match K.P.info? t with|some i=>(match i.zero with|some (.agg a)=>(match a.toList with|[.pointer none,.slice none 0 0]=>true|_=>false)|_=>false)|none=>false)|_=>false
theorem z5lb (hI:Inv K base g w getB) (hS:z5e K g w get a) {id:Nat} (h:z4Qa K o.op=true) (hok:okp K.E get getB (.newB id)):z3K K base a get getB d o (.newB id) w:=by
 unfold z4Qa at h
 split at h
 ·rename_i t ho
  simp only[Bool.and_eq_true,decide_eq_true_eq] at h
  obtain⟨rfl,h⟩:=h
  split at h
  ·rename_i i hi
   split at h
   ·rename_i v hz
    split at h
    ·rename_i hv
     have hv':v= #[.pointer none,.slice none 0 0]:=by apply Array.ext';rw[hv]
     subst hv'
     have hb:=z13a hI id hok.2 #[.pointer none,.slice none 0 0] K.bt [.undef,.sl (.own 1) (some true) 0 []] (fun i c hc=>by
      match i,hc with
      |0,hc=>simp at hc;subst hc;exact⟨_,rfl,by simp[Rep]⟩
      |1,hc=>simp at hc;subst hc;exact⟨_,rfl,by simp[Rep,z7c]⟩
      |_+2,hc=>simp at hc) (fun _ _=>⟨.pointer none,.slice none 0 0,(show(w.heap.push (Obj.cells #[.pointer none,.slice none 0 0] K.bt (0,0)))[w.heap.size]? =_ by simp),.inl rfl,.inl rfl⟩)
     have hrun:(execOp a.eval o).run K.P w= .ok (.value (.pointer (some ⟨w.heap.size,0,none⟩))) (w.alloc (.cells #[.pointer none,.slice none 0 0] K.bt)):=by
      simp[execOp,ho,Instr.alloc,zeroValue,typeInfo,hi,hz,newVar,newRow,Value.cells]
     exact⟨_,_,_,hrun,.inl rfl,_,hb.2,hb.1.slots hS,by simp only[eff,Rep];exact⟨w.heap.size,by simp[z4Y],rfl⟩⟩
    ·cases h
   ·cases h
  ·cases h
 ·cases h

/-! ### all but calls -/
def z86a:z2a→Bool| .agg _=>false| .tup _=>false| .otup _ _ _ _ _=>false| .oagg _ _ _ _ _ _=>false| .undef=>false| .lit (.agg _)=>false| .lit (.tuple _)=>false|_=>true
theorem z79 {c:z2a} (h:z86a c=true):z2d c:=by
 unfold z86a at h
 unfold z2d
 split at h<;>simp_all

def z0Db (K:Cx) (op:Op) (x:AOp):Bool:=
 match x with
 | .mv _ y=>z3Xb K op y
 | .pick c p q=>z8Ra K op c p q
 | .bin bo p q=>z1kb K op bo p q
 | .eqb n p q=>z0pb K op n p q
 | .eqF ks n p q=>z8fb K op ks n p q
 | .eqnil n p q=>z2Ba K op n p q
 | .un uo p=>z1Xb K op uo p
 | .toInt k p=>z2D K op (z6ac K.P k) p
 | .toStr _ p=>z2D K op (z60b K.P) p
 | .toBytes p=>z2D K op (z6Ta K.P) p
 | .same p=>z2D K op (z0mb K.P) p
 | .mark x=>z2D K op (z0db K.P) (.s x)
 | .extractO x=>z3Sa op x
 | .build z ps=>z6aa K op z ps&&z.all z86a
 | .buildO z ps i s=>z6aa K op z (ps++[(i,1,.s s)])&&z.all z86a
 | .storeO k _ p s=>z4ba K op (some k) p (.s s)
 | .buildSl esz n z ps=>z3R K op esz n z ps&&z.all z86a
 | .load k _ _ p=>z1Sa K op k p
 | .store k _ _ p v=>z4ba K op k p v
 | .nilchk p=>z7ob K op p
 | .buildBx _ esz n z ps=>(z3R K op esz n z ps||(z8Va K op esz n z&&ps.isEmpty))&&z.all z86a
 | .fieldAddr off p=>z83b K op off p
 | .idxArr n esz p i=>z36b K op n esz p i
 | .idxSl esz p i=>z77b K op esz p i
 | .slArr n esz p l h m=>z0gb K op n esz p l h m
 | .slSl esz p l h m=>z9Aa K op esz p l h m
 | .slCap esz p l h=>z9Aa K op esz p (some l) (some h) none
 | .slStr p l h=>z2Fa K op p l h
 | .s2ap n p=>z48b K op n p
 | .alloc _ z=>z3Ga K op z
 | .box _ k _ p=>z3cb K op k p
 | .extract i p=>z9mb K op i p
 | .field k off p=>z6Ba K op k off p
 | .idxA k esz n p i=>z0Ua K op k esz n p i
 | .idxStr p i=>z5Wa K op p i
 | .call _ _ _=>false
 | .callv _ _ _ _=>false
 | .callm _ _ _ _ _=>false
 | .callw _ _ _ _ _=>false
 | .newB _=>z4Qa K op
 | .bld _ _ _ _ _=>false
 | .len s p=>z8eb K op s p
 | .append esz by' s _ _ p q=>z3na K op esz by' s (.s p) q
 | .appendC esz by' s _ _ p q=>z3na K op esz by' s p q
 | .copy esz s _ _ p q=>z4Ra K op esz s p q
 | .appendB esz by' s _ _ p q=>z3na K op esz by' s p q
 | .clearB esz _ p=>z7Ba K op esz p
 | .min2 p q=>z0Ba K op false p q
 | .max2 p q=>z0Ba K op true p q
 | .mkfn f p q=>z8Da K op f p q
 | .unsup=>true

theorem z1Bb (hI:Inv K base g w getB) (hS:z5e K g w get a) {x:AOp} (h:z0Db K o.op x=true) (hok:okp K.E get getB x):z3K K base a get getB d o x w:=by
 cases x<;>simp only[z0Db,Bool.and_eq_true,List.all_eq_true] at h
 case mv t y=>exact z0Zb hI hS t h
 case pick=>exact z7db hI hS h hok
 case bin=>exact z2sb hI hS h hok
 case eqb=>exact z1Hb hI hS h hok
 case eqF=>exact z2Ib hI hS h hok
 case eqnil=>exact z0ab hI hS h hok
 case un=>exact z4Tb hI hS h hok
 case toInt=>exact z18a hI hS h hok
 case toStr=>exact z57a hI hS h hok
 case toBytes=>exact z6Ia hI hS h hok
 case same=>exact z8hb hI hS h hok
 case mark=>exact z0ob hI hS h hok
 case extractO=>exact z4Da hI hS h hok
 case build=>exact z46a hI hS h.1 (fun c hc=>z79 (h.2 c hc)) hok
 case buildO=>exact z5Qa hI hS h.1 (fun c hc=>z79 (h.2 c hc)) hok
 case storeO=>exact z9Ua hI hS h hok
 case buildSl=>exact z4Oa hI hS h.1 (fun c hc=>z79 (h.2 c hc)) hok
 case load=>exact z5bb hI hS h hok
 case store=>exact z58a hI hS h hok
 case nilchk=>exact z7Qa hI hS h hok
 case buildBx id esz n z ps=>
  obtain⟨h1,h2⟩:=h
  rw[Bool.or_eq_true] at h1
  rcases h1 with h1|h1
  ·exact z1Qa hI hS h1 (fun c hc=>z79 (h2 c hc)) hok
  ·simp only[Bool.and_eq_true,List.isEmpty_iff] at h1
   obtain⟨h1,rfl⟩:=h1
   exact z7pb hI hS h1 (fun c hc=>z79 (h2 c hc)) hok
 case fieldAddr=>exact z9xa hI hS h hok
 case idxArr=>exact z9Ta hI hS h hok
 case idxSl=>exact z1ab hI hS h hok
 case slArr=>exact z6ab hI hS h hok
 case slSl=>exact z2nb hI hS h hok
 case slCap=>exact z87a hI hS h hok
 case slStr=>exact z16a hI hS h hok
 case s2ap=>exact z1gb hI hS h hok
 case alloc=>exact z59a hI hS h hok
 case box=>exact z6Bb hI hS h hok
 case extract=>exact z0Ma hI hS h hok
 case field=>exact z89a hI hS h hok
 case idxA=>exact z3eb hI hS h hok
 case idxStr=>exact z7Ra hI hS h hok
 case call=>cases h
 case callv=>cases h
 case callm=>cases h
 case callw=>cases h
 case newB=>exact z5lb hI hS h hok
 case bld=>cases h
 case len=>exact z3Ab hI hS h hok
 case append=>exact z4Wa hI hS h hok
 case appendC=>exact z6Ja hI hS h hok
 case copy=>exact z9kb hI hS h hok
 case appendB=>exact z7Ha hI hS h hok
 case clearB=>exact z5Sa hI hS h hok
 case min2=>exact z8Eb hI hS h hok
 case max2=>exact z3wb hI hS h hok
 case mkfn=>exact z6lb hI hS h
 case unsup=>exact hok.elim

end
end Go.Abs
end

section
namespace Go.Abs

def z1aa (P:Program) (f:FuncId):Prop:=∃fn,P.funcs[f]? =some fn∧fn.body.isSome=true∧(fn.name== "runtime.NumGoroutine")=false

def z7h (K:Cx) (f:Nat) (c:z5a):Prop:=
 z1aa K.P (K.nu f)∧∀(S:Nat→Nat) (w:World) (ds:List z2a) (vs:List Value),(∀n∈K.N.gs,z0f K.toCon S w (K.E.T n) (K.N.gnum n) 0)→z6c K.toCon S w ds vs→c.pre ds→
  Calls K.P (K.nu f) vs.toArray w fun e w'=>∃v g',e= .returned v∧Fr w.heap.size (fun _=>False) w w'∧Rep K.toCon g' w' (some .ret) (c.post ds) v∧
   (∀b l,g'.ow b=some l→w.heap.size≤b∧b<w'.heap.size)∧∀b,b<w.heap.size→g'.S b=S b

section
variable {K : Cx} {base : z1P} {g g' : Gh} {w w' : World} {get : Nat → z2a} {getB : Nat → Option (List z2a)} {a : Act} {o : Oper} {d : Option Nat}

mutual
theorem z5K {g':Gh} {w':World}:∀(c:z2a) (v:Value) (l l':Option Loc),z2f c=true→Rep K.toCon g w l c v→Rep K.toCon g' w' l' c v
 | .lit x,v,_,_,_,h=>by simpa only[Rep] using h
 | .agg cs,v,_,_,hm,h=>by
  simp only[Rep,z2f] at h hm⊢
  obtain⟨a,rfl,h⟩:=h
  exact⟨a,rfl,z38 cs _ hm h⟩
 | .tup cs,v,_,_,hm,h=>by
  simp only[Rep,z2f] at h hm⊢
  obtain⟨a,rfl,h⟩:=h
  exact⟨a,rfl,z38 cs _ hm h⟩
 | .undef,_,_,_,_,_=>by simp[Rep]
 | .sl _ _ _ _,_,_,_,hm,_=>by simp[z2f] at hm
 | .ep _,_,_,_,hm,_=>by simp[z2f] at hm
 | .otup _ _ _ _ _,_,_,_,hm,_=>by simp[z2f] at hm
 | .oagg _ _ _ _ _ _,_,_,_,hm,_=>by simp[z2f] at hm
 | .fn _ _ _,_,_,_,hm,_=>by simp[z2f] at hm
 | .bp _ _,_,_,_,hm,_=>by simp[z2f] at hm
 | .bv _ _ _ _ _,_,_,_,hm,_=>by simp[z2f] at hm
theorem z38 {g':Gh} {w':World}:∀(cs:List z2a) (vs:List Value),z0c cs=true→z1e K.toCon g w cs vs→z1e K.toCon g' w' cs vs
 |[],vs,_,h=>by simpa only[z1e] using h
 |c::cs,vs,hm,h=>by
  simp only[z1e,z0c,Bool.and_eq_true] at h hm⊢
  obtain⟨x,xs,rfl,h1,h2⟩:=h
  exact⟨x,xs,rfl,z5K c x none none hm.1 h1,z38 cs xs hm.2 h2⟩
end

noncomputable def z0ca (g:Gh) (getB:Nat→Option (List z2a)) (bs:List Nat):Nat→Nat:=fun b=>by
 classical exact if h:∃id,id∈bs∧g.mu id=some b then((getB h.choose).getD []).length else g.S b

theorem z7La (hI:Inv K base g w getB) {bs:List Nat} {id b:Nat} (hid:id∈bs) (hb:g.mu id=some b):z0ca g getB bs b=((getB id).getD []).length:=by
 unfold z0ca
 have h:∃id,id∈bs∧g.mu id=some b:=⟨id,hid,hb⟩
 rw[dif_pos h]
 have:=hI.inj _ _ _ h.choose_spec.2 hb
 rw[this]
theorem z0L {bs:List Nat} {b:Nat} (h:∀id,id∈bs→g.mu id≠some b):z0ca g getB bs b=g.S b:=by
 unfold z0ca
 rw[dif_neg]
 rintro⟨id,h1,h2⟩
 exact h id h1 h2

theorem z9y (hI:Inv K base g w getB) (bs:List Nat) (hbs:∀id∈bs,∃cs,getB id=some cs∧∀c∈cs,z6f c=true):z9k g.S w (z0ca g getB bs) w:=fun b i x hi hc=>by
 refine⟨?_,hc⟩
 by_cases h:∃id,id∈bs∧g.mu id=some b
 ·obtain⟨id,h1,h2⟩:=h
  obtain⟨cs,hcs,_⟩:=hbs id h1
  obtain⟨b',k1,k2,_⟩:=hI.bxok id cs hcs
  rw[h2] at k1;cases k1
  omega
 ·rw[z0L fun id h1 h2=>h ⟨id,h1,h2⟩]
  exact hi

theorem z1Ka (hI:Inv K base g w getB) {bs:List Nat} (hbs:∀id∈bs,∃cs,getB id=some cs∧∀c∈cs,z6f c=true) {c:z2a} {v:Value} {l:Option Loc} (h:Rep K.toCon g w l c v)
  (hok:z6n bs (fun id=>if id∈bs then getB id else none) c):z7c K.toCon (z0ca g getB bs) w (z9q (fun id=>if id∈bs then(getB id).getD [] else []) c) v:=by
 have hk:=z9y hI bs hbs
 have box:∀{id b:Nat} {cs:List z2a},id∈bs→getB id=some cs→g.mu id=some b→z0f K.toCon (z0ca g getB bs) w cs b 0:=fun {id b cs} h1 h2 h3=>z0f.mk fun i e he=>by
  obtain⟨b',k1,k2,k3⟩:=hI.bxok id cs h2
  rw[h3] at k1;cases k1
  obtain⟨⟨x,hx,hr⟩,_⟩:=k3 i e he
  obtain⟨cs',hcs',hp⟩:=hbs id h1
  rw[h2] at hcs';cases hcs'
  rw[Nat.zero_add]
  refine⟨?_,x,hx,z7c.mono hk e x (Rep.pure e x _ (hp e (z3l he)) hr)⟩
  rw[z7La hI h1 h3,h2]
  exact(List.getElem?_eq_some_iff.1 he).1
 cases c with
 |sl m nl n cs=>
  simp only[z9q];exact z7c.mono hk _ _ (z0pa h)
 |lit x=>
  simp only[Rep] at h
  subst h
  by_cases hx:v= .slice none 0 0
  ·subst hx
   simp only[z9q,z7c]
   exact .inr (by simp)
  ·have:z9q (fun id=>if id∈bs then(getB id).getD [] else []) (.lit v)= .lit v:=by
    unfold z9q
    split
    ·rename_i hh;cases hh
    ·rename_i hh;cases hh;exact absurd rfl hx
    ·rename_i hh;cases hh
    ·rename_i hh;cases hh
    ·rfl
   rw[this]
   simp[z7c]
 |bp id off=>
  simp only[z6n] at hok
  obtain⟨h1,cs,h2,h3⟩:=hok
  rw[if_pos h1] at h2
  simp only[Rep] at h
  obtain⟨b,hb,rfl⟩:=h
  simp only[z9q,if_pos h1,h2,Option.getD_some,z7c]
  refine⟨b,off,rfl,?_⟩
  have:=(box h1 h2 hb).drop off
  rwa[Nat.zero_add] at this
 |bv id e off n cp=>
  simp only[z6n] at hok
  obtain⟨h1,cs,h2,h3⟩:=hok
  rw[if_pos h1] at h2
  simp only[Rep] at h
  obtain⟨b,cap,o',hb,rfl,hcap,_,ho'⟩:=h
  simp only[z9q,if_pos h1,h2,Option.getD_some,z7c]
  refine .inl ⟨b,o',cap,rfl,hcap,?_,by simp,by simp⟩
  rcases ho' with rfl|⟨rfl,_⟩
  ·have:=((box h1 h2 hb).drop o').take (n*e)
   rwa[Nat.zero_add] at this
  ·rw[Nat.zero_mul,List.take_zero];simp[z0f]
 |_=>simp only[z9q];exact z7c.mono hk _ _ (Rep.pure _ _ l hok h)

theorem z5ja (hI:Inv K base g w getB) {bs:List Nat} (hbs:∀id∈bs,∃cs,getB id=some cs∧∀c∈cs,z6f c=true):∀{cs:List z2a} {vs:List Value},z1e K.toCon g w cs vs→
  (∀c∈cs,z6n bs (fun id=>if id∈bs then getB id else none) c)→z6c K.toCon (z0ca g getB bs) w (cs.map (z9q (fun id=>if id∈bs then(getB id).getD [] else []))) vs
 |[],vs,h,_=>by simpa only[z1e,z6c,List.map_nil] using h
 |c::cs,vs,h,hok=>by
  simp only[z1e] at h
  obtain⟨x,xs,rfl,h1,h2⟩:=h
  simp only[List.map_cons,z6c]
  exact⟨x,xs,rfl,z1Ka hI hbs h1 (hok c (by simp)),z5ja hI hbs h2 (fun c hc=>hok c (by simp[hc]))⟩

theorem z5Fa (hI:Inv K base g w getB) {bs:List Nat} (hbs:∀id∈bs,∃cs,getB id=some cs∧∀c∈cs,z6f c=true) {c:z2a} {v:Value} {l:Option Loc} (h:Rep K.toCon g w l c v)
  (hok:z3v bs (fun id=>if id∈bs then getB id else none) c):z7c K.toCon (z0ca g getB bs) w (z7T (fun id=>if id∈bs then(getB id).getD [] else []) c) v:=by
 cases c with
 |fn f x y=>
  simp only[z3v] at hok
  simp only[Rep] at h
  obtain⟨p,q,rfl,h1,h2⟩:=h
  simp only[z7T,z7c]
  exact⟨p,q,rfl,z5ja hI hbs h1 hok.1,z5ja hI hbs h2 hok.2⟩
 |_=>exact z1Ka hI hbs h hok

theorem z4Na (hI:Inv K base g w getB) {bs:List Nat} (hbs:∀id∈bs,∃cs,getB id=some cs∧∀c∈cs,z6f c=true):∀{cs:List z2a} {vs:List Value},z1e K.toCon g w cs vs→
  (∀c∈cs,z3v bs (fun id=>if id∈bs then getB id else none) c)→z6c K.toCon (z0ca g getB bs) w (cs.map (z7T (fun id=>if id∈bs then(getB id).getD [] else []))) vs
 |[],vs,h,_=>by simpa only[z1e,z6c,List.map_nil] using h
 |c::cs,vs,h,hok=>by
  simp only[z1e] at h
  obtain⟨x,xs,rfl,h1,h2⟩:=h
  simp only[List.map_cons,z6c]
  exact⟨x,xs,rfl,z5Fa hI hbs h1 (hok c (by simp)),z4Na hI hbs h2 (fun c hc=>hok c (by simp[hc]))⟩

theorem z00 {w w':World} {b:Nat} (h:w'.heap[b]? =w.heap[b]?) {o n:Nat} (ht:w.there b o n):w'.there b o n:=fun j hj=>by
 obtain⟨h1,h2⟩:=ht j hj
 exact⟨by rw[World.cell?_of_block (w:=w) (a:=⟨b,o+j,none⟩) h];exact h1,by rw[World.frozen?_of_block (w:=w) (a:=⟨b,o+j,none⟩) h];exact h2⟩

theorem z5ka (hI:Inv K base g w getB) (hS:z5e K g w get a) {S:Nat→Nat} {g1:Gh} {w1:World} {D:z2a} {v:Value} (hfr:Fr w.heap.size (fun _=>False) w w1) (hr:Rep K.toCon g1 w1 (some .ret) D v)
  (how:∀b l,g1.ow b=some l→w.heap.size≤b∧b<w1.heap.size) (hSS:∀b,b<w.heap.size→g1.S b=S b) (hpure:z6f D=true) (hmem:S=g.S∨z2f D=true):
  z3Oa K base a get getB d {val:=D} v w1:=by
 have hblk:∀b,b<w.heap.size→w1.heap[b]? =w.heap[b]? :=fun b hb=>hfr.block b hb (fun h=>h)
 let g2:Gh:={S:=fun b=>if b<w.heap.size then g.S b else g1.S b,ow:=fun b=>if b<w.heap.size then g.ow b else if g1.ow b=some .ret then d.map .slot else none,mu:=g.mu}
 have hkeep:z9k g.S w g2.S w1:=fun b i x hi hc=>by
  have hb:=World.block_lt_of_cell? w ⟨b,i,none⟩ hc
  have hb':b<w.heap.size:=hb
  exact⟨by simp only[g2,if_pos hb'];exact hi,by rw[World.cell?_of_block (w:=w) (a:=⟨b,i,none⟩) (hblk b hb')];exact hc⟩
 have hx:Ext g w g2 w1:=⟨hkeep,fun _ _ h=>h,fun m b hb=>by
  have hlt:=(hI.owW b m hb).2
  simp only[g2,if_pos hlt]
  exact⟨hb,trivial,fun o n ht=>z00 (hblk b hlt) ht⟩⟩
 have hz:=hI.sz
 have hinv:Inv K base g2 w1 getB:=by
  refine⟨hI.fr.trans (hfr.mono hz (fun k _ h=>h.elim)),fun b hb hw=> ?_,hI.inj,fun id cs hc=> ?_,hI.nobx,fun id b hb=> ?_,fun b m hb=> ?_,fun n hn=>z0f.mono hkeep _ _ _ (hI.glob n hn),hI.kp.trans hkeep,fun id b cs ho hb hc hd=>by
   refine z2U.keep (hI.obok id b cs ho hb hc hd) (hblk b (hI.muW id b hb).2.1) fun k hk=> ?_
   have hlt:=(hI.owW k _ hk).2
   exact⟨by simp only[g2,if_pos hlt];exact hk,hblk k hlt⟩⟩
  ·simp only[g2,if_pos (show b<w.heap.size by omega)];exact hI.sS b hb hw
  ·obtain⟨b,h1,h2,h3⟩:=hI.bxok id cs hc
   have hlt:=(hI.muW id b h1).2.1
   refine⟨b,h1,by simp only[g2,if_pos hlt];exact h2,fun i c hi=> ?_⟩
   obtain⟨⟨x,h4,h5⟩,h6⟩:=h3 i c hi
   exact⟨⟨x,by rw[World.cell?_of_block (w:=w) (a:=⟨b,i,none⟩) (hblk b hlt)];exact h4,hx.rep h5⟩,by rw[World.frozen?_of_block (w:=w) (a:=⟨b,i,none⟩) (hblk b hlt)];exact h6⟩
  ·obtain⟨h1,h2,h3⟩:=hI.muW id b hb
   exact⟨h1,Nat.lt_of_lt_of_le h2 hfr.size,by simp only[g2,if_pos h2];exact h3⟩
  ·simp only[g2] at hb
   split at hb
   ·obtain⟨h1,h2⟩:=hI.owW b m hb
    exact⟨h1,Nat.lt_of_lt_of_le h2 hfr.size⟩
   ·split at hb
    ·rename_i hret
     obtain⟨h1,h2⟩:=how b _ hret
     exact⟨.inl (by omega),h2⟩
    ·cases hb
 refine⟨g2,hinv,hx.slots hS,?_⟩
 rcases hmem with rfl|hmem
 ·have hk2:z9k g1.S w1 g2.S w1:=fun b i x hi hc=>by
   refine⟨?_,hc⟩
   simp only[g2]
   split
   ·rename_i hb;rw[←hSS b hb];exact hi
   ·exact hi
  refine Rep.mono hk2 D v (some .ret) (d.map .slot) (fun id hid=> ?_) (fun m hm=>⟨.ret,rfl,fun b hb=> ?_⟩) hr
  ·exfalso
   exact absurd hpure (by
    have:∀D:z2a,z6f D=true→z0r D=[]:=by
     intro D
     exact(pure_refs D)
    rw[this D hpure] at hid
    cases hid)
  ·obtain⟨h1,h2⟩:=how b _ hb
   refine⟨?_,?_,fun _ _ h=>h⟩
   ·simp only[g2,if_neg (show ¬b<w.heap.size by omega),hb,if_true];exact hm
   ·simp only[g2,if_neg (show ¬b<w.heap.size by omega)]
 ·exact z5K D v _ _ hmem hr
where
 pure_refs:∀D:z2a,z6f D=true→z0r D=[]
  | .undef,_=>rfl
  | .lit _,_=>rfl
  | .sl _ _ _ _,_=>rfl
  | .ep _,_=>rfl
  | .otup _ _ _ _ rest,h=>by simp only[z6f] at h;simp only[z0r];exact pure_refsL rest h
  | .oagg pre _ _ _ _ rest,h=>by simp only[z6f,Bool.and_eq_true] at h;simp only[z0r,pure_refsL pre h.1,pure_refsL rest h.2,List.append_nil]
  | .agg cs,h=>by simp only[z6f] at h;simp only[z0r];exact pure_refsL cs h
  | .tup cs,h=>by simp only[z6f] at h;simp only[z0r];exact pure_refsL cs h
  | .fn _ x y,h=>by simp only[z6f,Bool.and_eq_true] at h;simp only[z0r,pure_refsL x h.1,pure_refsL y h.2,List.append_nil]
  | .bp _ _,h=>by simp[z6f] at h
  | .bv _ _ _ _ _,h=>by simp[z6f] at h
 pure_refsL:∀Ds:List z2a,z2h Ds=true→z7g Ds=[]
  |[],_=>rfl
  |c::cs,h=>by simp only[z2h,Bool.and_eq_true] at h;simp only[z7g,pure_refs c h.1,pure_refsL cs h.2,List.append_nil]

def z4la (K:Cx) (op:Op) (f:Nat) (args:List Arg):Bool:=
 match op with
 | .call c=>(match c.callee with| .value (.func f')=>K.nu f==f'|_=>false)&&z8Da.argsOk K c.args.toList args
 |_=>false
def z0aa (K:Cx) (op:Op) (t:Arg) (args:List Arg):Bool:=
 match op with
 | .call c=>(match c.callee with| .value x=>z5j K x t|_=>false)&&z8Da.argsOk K c.args.toList args
 |_=>false

theorem z1z {P:Program} (w:World) {f:FuncId} (h:z1aa P f) (args:Array Value):(callFunc f args).run P w= .ok (.enter f args) w:=by
 obtain⟨fn,h1,h2,h3⟩:=h
 have h4:fn.body≠none:=fun h=>by simp[h] at h2
 have h5:¬fn.name= "runtime.NumGoroutine" :=by simpa using h3
 simp[callFunc,h1,h5,h4]

theorem z1Ja (hI:Inv K base g w getB) (hS:z5e K g w get a) {f:Nat} (hV:z7h K f (K.E.G f)) {as:List z2a} {bs:List Nat} {vs:List Value} (hr:z1e K.toCon g w as vs) (hok:z6ra K.E getB f as bs)
  {next:Act→World→Prop} {Q:Exit→Act→World→Prop} (hn:∀v w',z3Oa K base a get getB d {val:=z5Oa K.E getB f as bs} v w'→next (a.put o.dst v) w') (hrun:(execOp a.eval o).run K.P w= .ok (.enter (K.nu f) vs.toArray) w):
  o.wp K.P a w next Q:=by
 obtain⟨h1,h2,h3,h4,h5⟩:=hok
 unfold Oper.wp
 rw[hrun,Oper.upon_enter]
 have hargs:=z4Na hI h2 hr h1
 refine(hV.2 (z0ca g getB bs) w _ vs (fun n hn=>z0f.mono (z9y hI bs h2) _ _ _ (hI.glob n hn)) hargs h3).mono ?_
 rintro e w' ⟨v,g1,rfl,hfr,hrep,how,hSS⟩
 refine hn v w' (z5ka hI hS hfr hrep how hSS h4 ?_)
 rcases h5 with rfl|h5
 ·left
  funext b
  exact z0L (by simp)
 ·exact .inr h5

theorem z7gb (hI:Inv K base g w getB) (hS:z5e K g w get a) {f:Nat} {args:List Arg} {bs:List Nat} (h:z4la K o.op f args=true) (hV:z7h K f (K.E.G f)) (hok:okp K.E get getB (.call f args bs))
  {next:Act→World→Prop} {Q:Exit→Act→World→Prop} (hn:∀v w',z3Oa K base a get getB d (eff K.E get getB (.call f args bs)) v w'→next (a.put o.dst v) w'):o.wp K.P a w next Q:=by
 unfold z4la at h
 split at h
 ·rename_i c ho
  simp only[Bool.and_eq_true] at h
  obtain⟨hc,ha⟩:=h
  split at hc
  ·rename_i f' hcal
   simp only[beq_iff_eq] at hc
   subst hc
   obtain⟨_,hr⟩:=z7Q hI hS ha
   refine z1Ja hI hS hV hr hok hn ?_
   simp only[execOp,ho,resolve,hcal,Act.eval,Deferred.ofValue,Sem.run_bind,Sem.run_pure,Result.andThen_ok,invoke]
   rw[z1z w hV.1]
   congr 2
   apply Array.ext'
   simp
  ·cases hc
 ·cases h

theorem z88a (hI:Inv K base g w getB) (hS:z5e K g w get a) {f:Nat} {t:Arg} {args:List Arg} {bs:List Nat} (h:z0aa K o.op t args=true) (hV:z7h K f (K.E.G f)) (hok:okp K.E get getB (.callv f t args bs))
  {next:Act→World→Prop} {Q:Exit→Act→World→Prop} (hn:∀v w',z3Oa K base a get getB d (eff K.E get getB (.callv f t args bs)) v w'→next (a.put o.dst v) w'):o.wp K.P a w next Q:=by
 unfold z0aa at h
 split at h
 ·rename_i c ho
  simp only[Bool.and_eq_true] at h
  obtain⟨hc,ha⟩:=h
  split at hc
  ·rename_i x hcal
   obtain⟨_,hr⟩:=z7Q hI hS ha
   obtain⟨ht,hok⟩:=hok
   have rt:=z8b hI hS hc
   split at ht
   ·rename_i f' p q et
    subst ht
    rw[et] at rt hok
    simp only[Rep] at rt
    obtain⟨pv,qv,vt,hp,hq⟩:=rt
    simp only[z0A] at hok
    have hef:eff K.E get getB (.callv f' t args bs)={val:=z5Oa K.E getB f' (p++args.map (arg K.E get)++q) bs}:=by simp only[eff,et,z0A]
    rw[hef] at hn
    refine z1Ja hI hS hV ((hp.append hr).append hq) hok hn ?_
    simp only[execOp,ho,resolve,hcal,vt,Deferred.ofValue,Sem.run_bind,Sem.run_pure,Result.andThen_ok,invoke]
    rw[z1z w hV.1]
    congr 2
    apply Array.ext'
    simp
   ·cases ht
  ·cases hc
 ·cases h

end
end Go.Abs
end

section
namespace Go.Abs

def z2la:z2a→List z2a| .ep cs=>cs|_=>[]
def CM.ins (c:CM) (ds:List z2a) (j:Nat):Option (List z2a):=if j∈c.bx then some (z2la (ds.getD j .undef)) else none
def CM.outs (c:CM) (ds:List z2a) (j:Nat):Option (List z2a):=if j∈c.bx++c.nb then some (c.out ds j) else none

def Wr (g:Gh) (b:Nat):Prop:=(∃j,g.mu j=some b)∨g.ow b≠none

def z1Wb (K:Cx) (c:CM) (g:Gh) (w:World) (ds:List z2a) (vs:List Value):Prop:=
 ds.length=vs.length∧∀i d v,ds[i]? =some d→vs[i]? =some v→if i∈c.bx then∃b,g.mu i=some b∧v= .pointer (some ⟨b,0,none⟩) else z7c K.toCon g.S w d v

def z33 (K:Cx) (f:Nat) (c:CM):Prop:=
 z1aa K.P (K.nu f)∧∀(g:Gh) (w:World) (ds:List z2a) (vs:List Value),Inv K ⟨w,Wr g,g.S,[]⟩ g w (c.ins ds)→z1Wb K c g w ds vs→c.pre ds→
  Calls K.P (K.nu f) vs.toArray w fun e w'=>∃v g',e= .returned v∧Inv K ⟨w,Wr g,g.S,[]⟩ g' w' (c.outs ds)∧(∀j∈c.bx,g'.mu j=g.mu j)∧Rep K.toCon g' w' (some .ret) (c.post ds) v

section
variable {K : Cx} {base : z1P} {g g' : Gh} {w w' : World} {get : Nat → z2a} {getB : Nat → Option (List z2a)} {a : Act} {o : Oper} {d : Option Nat}

theorem z6q:∀{l:List (Nat×Nat)} {k x:Nat},fnd l k=some x→(k,x)∈l
 |[],_,_,h=>by simp[fnd] at h
 |(k',y)::l,k,x,h=>by
  simp only[fnd] at h
  split at h
  ·cases h;subst_vars;simp
  ·exact List.mem_cons_of_mem _ (z6q h)
theorem z2aa:∀{l:List (Nat×Nat)} {k:Nat},k∈l.map (·.1)→∃x,fnd l k=some x
 |[],_,h=>by simp at h
 |(k',y)::l,k,h=>by
  simp only[List.map_cons,List.mem_cons] at h
  simp only[fnd]
  by_cases hk:k=k'
  ·exact⟨y,by rw[if_pos hk]⟩
  ·rw[if_neg hk];exact z2aa (h.resolve_left hk)
theorem z6qa {l:List (Nat×Nat)} {k:Nat} (h:k∉l.map (·.1)):fnd l k=none:=by
 cases hf:fnd l k with
 |none=>rfl
 |some x=>exact absurd (List.mem_map.2 ⟨_,z6q hf,rfl⟩) h
theorem z7l:∀{l:List (Nat×Nat)} {k x:Nat},(l.map (·.1)).Nodup→(k,x)∈l→fnd l k=some x
 |[],_,_,_,h=>by simp at h
 |(k',y)::l,k,x,hn,h=>by
  simp only[List.map_cons,List.nodup_cons] at hn
  simp only[fnd]
  rcases List.mem_cons.1 h with h|h
  ·cases h;simp
  ·rw[if_neg (fun(e:k=k')=>hn.1 (e▸List.mem_map.2 ⟨_,h,rfl⟩))]
   exact z7l hn.2 h
def swp (l:List (Nat×Nat)):List (Nat×Nat):=l.map fun p=>(p.2,p.1)
theorem z24 (l:List (Nat×Nat)):(swp l).map (·.1)=l.map (·.2):=by simp[swp,Function.comp_def]
theorem z9K {l:List (Nat×Nat)} {k x:Nat}:(k,x)∈swp l↔(x,k)∈l:=by
 simp only[swp,List.mem_map,Prod.exists,Prod.mk.injEq]
 constructor
 ·rintro⟨a,b,h,rfl,rfl⟩;exact h
 ·intro h;exact⟨x,k,h,rfl,rfl⟩

theorem z1fb {m:List (Nat×Nat)} (h:∀p∈m,500000≤p.2→500000≤p.1) (id:Nat):500000≤(fnd m id).getD id→500000≤id:=by
 cases hf:fnd m id with
 |none=>exact fun h=>h
 |some y=>exact h _ (z6q hf)
/-! ### The same value by other numbers of boxes -/
mutual
theorem Rep.ren {K:Con} {g g':Gh} {w w':World} {m:List (Nat×Nat)} (hk:z9k g.S w g'.S w') (hp:∀id,500000≤(fnd m id).getD id→500000≤id):∀(d:z2a) (v:Value) (l l':Option Loc),
  (∀id∈z0r d,∀b,g.mu id=some b→g'.mu ((fnd m id).getD id)=some b)→(∀m',l'=some m'→∃m,l=some m∧z7C g w g' w' m m')→Rep K g w l d v→Rep K g' w' l' (Abs.ren m d) v
 | .undef,_,_,_,_,_,_=>by simp[Abs.ren,Rep]
 | .lit x,v,_,_,_,_,h=>by simpa[Abs.ren,Rep] using h
 | .agg cs,v,_,_,hr,_,h=>by
  simp only[Rep,Abs.ren] at h⊢
  obtain⟨a,rfl,h⟩:=h
  exact⟨a,rfl,z1e.ren hk hp cs _ (by simpa[z0r] using hr) h⟩
 | .tup cs,v,_,_,hr,_,h=>by
  simp only[Rep,Abs.ren] at h⊢
  obtain⟨a,rfl,h⟩:=h
  exact⟨a,rfl,z1e.ren hk hp cs _ (by simpa[z0r] using hr) h⟩
 | .sl md nl n cs,v,l,l',_,hl,h=>by
  simp only[Abs.ren]
  exact Rep.mono hk _ v l l' (by simp[z0r]) hl h
 | .ep cs,v,l,l',_,hl,h=>by
  simp only[Abs.ren]
  exact Rep.mono hk _ v l l' (by simp[z0r]) hl h
 | .otup _ _ _ _ _,v,_,_,_,_,_=>by simp[Abs.ren,Rep]
 | .oagg _ _ _ _ _ _,v,_,_,_,_,_=>by simp[Abs.ren,Rep]
 | .fn f x y,v,_,_,hr,_,h=>by
  simp only[Rep,Abs.ren] at h⊢
  obtain⟨a,c,rfl,h1,h2⟩:=h
  simp only[z0r,List.mem_append] at hr
  exact⟨a,c,rfl,z1e.ren hk hp x _ (fun id hi=>hr id (.inl hi)) h1,z1e.ren hk hp y _ (fun id hi=>hr id (.inr hi)) h2⟩
 | .bp id off,v,_,_,hr,_,h=>by
  simp only[Rep,Abs.ren] at h⊢
  obtain⟨b,hb,rfl⟩:=h
  exact⟨b,hr id (by simp[z0r]) b hb,rfl⟩
 | .bv id e off n c,v,_,_,hr,_,h=>by
  simp only[Rep,Abs.ren] at h⊢
  obtain⟨b,cap,o,hb,rfl,h1,h2,h3,h4⟩:=h
  exact⟨b,cap,o,hr id (by simp[z0r]) b hb,rfl,h1,h2,h3,fun h=>h4 (hp id h)⟩
theorem z1e.ren {K:Con} {g g':Gh} {w w':World} {m:List (Nat×Nat)} (hk:z9k g.S w g'.S w') (hp:∀id,500000≤(fnd m id).getD id→500000≤id):∀(ds:List z2a) (vs:List Value),
  (∀id∈z7g ds,∀b,g.mu id=some b→g'.mu ((fnd m id).getD id)=some b)→z1e K g w ds vs→z1e K g' w' (z5na m ds) vs
 |[],_,_,h=>by simpa[z1e,z5na] using h
 |c::cs,l,hr,h=>by
  simp only[z1e,z5na] at h⊢
  obtain⟨x,xs,rfl,h1,h2⟩:=h
  simp only[z7g,List.mem_append] at hr
  exact⟨x,xs,rfl,Rep.ren hk hp c x none none (fun id hi=>hr id (.inl hi)) (fun _ h=>by cases h) h1,z1e.ren hk hp cs xs (fun id hi=>hr id (.inr hi)) h2⟩
end
theorem z52a (m:List (Nat×Nat)):∀(ds:List z2a) (i:Nat),(z5na m ds)[i]? =(ds[i]?).map (Abs.ren m)
 |[],i=>by simp[z5na]
 |c::cs,0=>by simp[z5na]
 |c::cs,i+1=>by simp[z5na,z52a m cs i]

/-! ### The callee's view -/
theorem z7ra (getB:Nat→Option (List z2a)) (ws:List (Nat×Nat)):∀(as:List z2a) (j i:Nat),(z1ca getB ws j as)[i]? =(as[i]?).map fun a=>match fnd ws (j+i) with|some id=> .ep ((getB id).getD [])|none=>z7T (fun _=>[]) a
 |[],j,i=>by simp[z1ca]
 |x::as,j,0=>by simp only[z1ca,List.getElem?_cons_zero,Option.map_some,Nat.add_zero];cases fnd ws j<;>rfl
 |x::as,j,i+1=>by
  simp only[z1ca,List.getElem?_cons_succ]
  rw[z7ra getB ws as (j+1) i,show j+1+i=j+(i+1) by omega]
theorem z1qa {getB:Nat→Option (List z2a)} {ws:List (Nat×Nat)}:∀{as:List z2a} {j:Nat},z5ub getB ws j as→∀i a,as[i]? =some a→match fnd ws (j+i) with|some id=>a= .bp id 0∧∃cs,getB id=some cs∧z2h cs=true|none=>z3v [] (fun _=>none) a
 |[],_,_,i,a,h=>by simp at h
 |x::as,j,hok,0,a,h=>by
  simp only[List.getElem?_cons_zero,Option.some.injEq] at h
  subst h
  exact hok.1
 |x::as,j,hok,i+1,a,h=>by
  simp only[List.getElem?_cons_succ] at h
  have:=z1qa hok.2 i a h
  rwa[show j+1+i=j+(i+1) by omega] at this

def ghM (g:Gh) (ws:List (Nat×Nat)):Gh:=
 {S:=g.S
  ow:=fun b=>match g.ow b with|some (.cell id i)=>(fnd (swp ws) id).map fun j=> .cell j i|_=>none
  mu:=fun j=>(fnd ws j).bind g.mu}

theorem z7fa {ws:List (Nat×Nat)} {j b:Nat} (h:(ghM g ws).mu j=some b):∃id,fnd ws j=some id∧g.mu id=some b:=by
 simp only[ghM] at h
 cases hf:fnd ws j with
 |none=>rw[hf] at h;cases h
 |some id=>rw[hf] at h;exact⟨id,rfl,h⟩
theorem z8ob {ws:List (Nat×Nat)} {b:Nat} {l:Loc} (h:(ghM g ws).ow b=some l):∃id i j,g.ow b=some (.cell id i)∧(j,id)∈ws∧l= .cell j i:=by
 simp only[ghM] at h
 split at h
 ·rename_i id i hb
  cases hf:fnd (swp ws) id with
  |none=>rw[hf] at h;cases h
  |some j=>
   rw[hf] at h
   simp only[Option.map_some,Option.some.injEq] at h
   exact⟨id,i,j,hb,z9K.1 (z6q hf),h.symm⟩
 ·cases h
theorem z2wa {ws:List (Nat×Nat)} {b:Nat} (h:g.ow b=none):(ghM g ws).ow b=none:=by simp[ghM,h]
theorem z0ua {ws:List (Nat×Nat)} (hn:(ws.map (·.2)).Nodup) {b id i j:Nat} (hm:(j,id)∈ws) (h:g.ow b=some (.cell id i)):(ghM g ws).ow b=some (.cell j i):=by
 simp only[ghM,h]
 rw[z7l (by rw[z24];exact hn) (z9K.2 hm)]
 rfl

theorem z4Ya (hI:Inv K base g w getB) {ws:List (Nat×Nat)} {b:Nat} (h:Wr (ghM g ws) b):(base.w0.heap.size≤b∨base.W b)∧b<w.heap.size∧((∃j id,(j,id)∈ws∧g.mu id=some b)∨∃j id i,(j,id)∈ws∧g.ow b=some (.cell id i)):=by
 rcases h with⟨j,hj⟩|h
 ·obtain⟨id,h1,h2⟩:=z7fa hj
  have:=hI.muW id b h2
  exact⟨this.1,this.2.1,.inl ⟨j,id,z6q h1,h2⟩⟩
 ·cases ho:(ghM g ws).ow b with
  |none=>exact absurd ho h
  |some l=>
   obtain⟨id,i,j,h1,h2,_⟩:=z8ob ho
   have:=hI.owW b _ h1
   exact⟨this.1,this.2,.inr ⟨j,id,i,h2,h1⟩⟩

theorem z2ab (hI:Inv K base g w getB) {ws:List (Nat×Nat)} {as:List z2a} {c:CM} (hok:z5ub getB ws 0 as) (hbx:ws.map (·.1)=c.bx) (hn1:c.bx.Nodup) (hn:(ws.map (·.2)).Nodup) (hlt:∀j∈c.bx,j<as.length) (hlo:∀p∈ws,p.1<1000000):
  Inv K ⟨w,Wr (ghM g ws),(ghM g ws).S,[]⟩ (ghM g ws) w (c.ins (z1ca getB ws 0 as)):=by
 have box:∀j id,(j,id)∈ws→∃cs,getB id=some cs∧z2h cs=true∧c.ins (z1ca getB ws 0 as) j=some cs:=fun j id hm=>by
  have hj:j∈c.bx:=by rw[←hbx];exact List.mem_map.2 ⟨_,hm,rfl⟩
  have hf:fnd ws j=some id:=z7l (by rw[hbx];exact hn1) hm
  have hl:=hlt j hj
  have:=z1qa hok j _ (List.getElem?_eq_getElem hl)
  rw[Nat.zero_add,hf] at this
  obtain⟨_,cs,h1,h2⟩:=this
  refine⟨cs,h1,h2,?_⟩
  unfold CM.ins
  rw[if_pos hj,List.getD_eq_getElem?_getD,z7ra,List.getElem?_eq_getElem hl,Nat.zero_add]
  simp only[Option.map_some,hf,h1,Option.getD_some,z2la]
 have nofnd:∀j,j∉c.bx→fnd ws j=none:=fun j hj=>z6qa (by rw[hbx];exact hj)
 have inj1:∀j j' id,fnd ws j=some id→fnd ws j'=some id→j=j':=fun j j' id h h'=>by
  have e1:=z7l (l:=swp ws) (by rw[z24];exact hn) (z9K.2 (z6q h))
  have e2:=z7l (l:=swp ws) (by rw[z24];exact hn) (z9K.2 (z6q h'))
  rw[e1] at e2;cases e2;rfl
 refine⟨Fr.refl _ _ _,fun _ _ _=>rfl,fun i j b hi hj=> ?_,fun j cs hc=> ?_,fun j hj=> ?_,fun j b hb=> ?_,fun b l hb=> ?_,hI.glob,z9k.refl _ _,fun j b cs hj hb _ _=>by
  obtain⟨id,h1,_⟩:=z7fa hb
  have:=hlo _ (z6q h1)
  simp only at this
  omega⟩
 ·obtain⟨x,h1,h2⟩:=z7fa hi
  obtain⟨y,h3,h4⟩:=z7fa hj
  have:=hI.inj x y b h2 h4
  subst this
  exact inj1 i j x h1 h3
 ·have hj:j∈c.bx:=by
   unfold CM.ins at hc
   split at hc
   ·assumption
   ·cases hc
  obtain⟨id,hf⟩:=z2aa (l:=ws) (k:=j) (by rw[hbx];exact hj)
  obtain⟨cs',h1,h2,h3⟩:=box j id (z6q hf)
  rw[hc] at h3;cases h3
  obtain⟨b,k1,k2,k3⟩:=hI.bxok id cs h1
  refine⟨b,by simp only[ghM,hf,Option.bind_some];exact k1,k2,fun i e hi=> ?_⟩
  obtain⟨⟨x,hx,hr⟩,hz⟩:=k3 i e hi
  refine⟨⟨x,hx,?_⟩,hz⟩
  refine Rep.mono (g:=g) (g':=ghM g ws) (z9k.refl _ _) e x _ _ (fun id' hid'=> ?_) (fun m' hm'=> ?_) hr
  ·have:z0r e=[]:=z5ka.pure_refs e ((z5m cs).1 h2 e (z3l hi))
   rw[this] at hid';cases hid'
  ·cases hm'
   exact⟨_,rfl,fun b' hb'=>⟨z0ua hn (z6q hf) hb',rfl,fun _ _ h=>h⟩⟩
 ·have hj':j∉c.bx:=fun h=>by simp[CM.ins,h] at hj
  simp only[ghM,nofnd j hj',Option.bind_none]
 ·obtain⟨id,h1,h2⟩:=z7fa hb
  have:=hI.muW id b h2
  exact⟨.inr (.inl ⟨j,hb⟩),this.2.1,z2wa this.2.2⟩
 ·obtain⟨id,i,j,h1,_,_⟩:=z8ob hb
  exact⟨.inr (.inr (by rw[hb];simp)),(hI.owW b _ h1).2⟩

theorem z9Sa (hI:Inv K base g w getB) {ws:List (Nat×Nat)} {as:List z2a} {vs:List Value} {c:CM} (hok:z5ub getB ws 0 as) (hbx:ws.map (·.1)=c.bx) (hr:z1e K.toCon g w as vs):
  z1Wb K c (ghM g ws) w (z1ca getB ws 0 as) vs:=by
 have hlen:∀(as:List z2a) j,(z1ca getB ws j as).length=as.length:=fun as=>by
  induction as with
  |nil=>intro j;rfl
  |cons x as ih=>intro j;simp only[z1ca,List.length_cons,ih]
 refine⟨by rw[hlen,hr.len],fun i x v hx hv=> ?_⟩
 rw[z7ra,Nat.zero_add] at hx
 cases ha:as[i]? with
 |none=>rw[ha] at hx;cases hx
 |some y=>
  rw[ha] at hx
  simp only[Option.map_some,Option.some.injEq] at hx
  obtain⟨v',hv',hrep⟩:=hr.get i y ha
  rw[hv] at hv';cases hv'
  have hk:=z1qa hok i y ha
  rw[Nat.zero_add] at hk
  by_cases hi:i∈c.bx
  ·rw[if_pos hi]
   obtain⟨id,hf⟩:=z2aa (l:=ws) (k:=i) (by rw[hbx];exact hi)
   rw[hf] at hk
   obtain⟨rfl,_⟩:=hk
   simp only[Rep] at hrep
   obtain⟨b,hb,rfl⟩:=hrep
   exact⟨b,by simp only[ghM,hf,Option.bind_some];exact hb,rfl⟩
  ·rw[if_neg hi]
   have hf:fnd ws i=none:=z6qa (by rw[hbx];exact hi)
   rw[hf] at hk hx
   simp only at hk hx
   have h1:=z5Fa (bs:=[]) hI (fun id hid=>by cases hid) hrep (by simpa using hk)
   have hS:z0ca g getB []=g.S:=funext fun b=>z0L (by simp)
   rw[hS] at h1
   rw[←hx]
   simpa[ghM] using h1

/-! ### Behind such a call -/
theorem z84a (m:List (Nat×Nat)) (f:Nat→Option (List z2a)) (id:Nat):∀l:List (Nat×Nat),lk (l.map fun p=>(p.2,f p.1)) id=(fnd (swp l) id).map f
 |[]=>rfl
 |(k,x)::l=>by
  simp only[List.map_cons,lk,swp,fnd]
  split
  ·rfl
  ·exact z84a m f id l

theorem z2ta (hI:Inv K base g w getB) (hS:z5e K g w get a) {ws ns:List (Nat×Nat)} {c:CM} (hbx:ws.map (·.1)=c.bx) (hns:ns.map (·.1)=c.nb) (hn1:(c.bx++c.nb).Nodup)
  (hn:(ws.map (·.2)).Nodup) (hn2:(ns.map (·.2)).Nodup) (hwb:∀p∈ws,∃cs,getB p.2=some cs) (hnb:∀p∈ns,getB p.2=none) (hlo:∀p∈ws++ns,p.1<1000000∧p.2<1000000∧(500000≤p.1↔500000≤p.2)) {ds:List z2a} {g1:Gh} {w1:World} {v:Value}
  (hI1:Inv K ⟨w,Wr (ghM g ws),(ghM g ws).S,[]⟩ g1 w1 (c.outs ds)) (hmu:∀j∈c.bx,g1.mu j=(ghM g ws).mu j) (hr:Rep K.toCon g1 w1 (some .ret) (c.post ds) v)
  (hr1:∀id∈z0r (c.post ds),id∈c.bx++c.nb) (hr2:∀j∈c.bx++c.nb,∀id∈z7g (c.out ds j),id∈c.bx++c.nb):
  z3Oa K base a get getB d {val:=Abs.ren (ws++ns) (c.post ds),bx:=(ws++ns).map fun p=>(p.2,some (z5na (ws++ns) (c.out ds p.1)))} v w1:=by
 classical
 have hz:=hI.sz
 have keys:(ws++ns).map (·.1)=c.bx++c.nb:=by rw[List.map_append,hbx,hns]
 have nkeys:((ws++ns).map (·.1)).Nodup:=by rw[keys];exact hn1
 have nids:((ws++ns).map (·.2)).Nodup:=by
  rw[List.map_append,List.nodup_append]
  refine⟨hn,hn2,fun x hx y hy he=> ?_⟩
  subst he
  obtain⟨p,hp,rfl⟩:=List.mem_map.1 hx
  obtain⟨q,hq,he⟩:=List.mem_map.1 hy
  obtain⟨cs,hcs⟩:=hwb p hp
  have:=hnb q hq
  rw[he,hcs] at this;cases this
 have nsw:((swp (ws++ns)).map (·.1)).Nodup:=by rw[z24];exact nids
 let N:Nat→Prop:=fun b=>w.heap.size≤b∨Wr (ghM g ws) b
 have old:∀b,¬N b→b<w.heap.size∧¬Wr (ghM g ws) b:=fun b h=>⟨Nat.lt_of_not_le fun hh=>h (.inl hh),fun hh=>h (.inr hh)⟩
 have oldS:∀b,¬N b→g1.S b=g.S b:=fun b h=>hI1.sS b (old b h).1 (old b h).2
 have oldH:∀b,¬N b→w1.heap[b]? =w.heap[b]? :=fun b h=>hI1.fr.block b (old b h).1 (old b h).2
 have newW:∀b,N b→base.w0.heap.size≤b∨base.W b:=fun b h=>h.elim (fun h=> .inl (by omega)) (fun h=>(z4Ya hI h).1)
 have muN:∀id b,g.mu id=some b→(∀p∈ws,p.2≠id)→¬N b:=fun id b hb hid h=>by
  have h3:=hI.muW id b hb
  rcases h with h|h
  ·omega
  ·rcases(z4Ya hI h).2.2 with⟨j,id',hm,hb'⟩|⟨j,id',i,hm,ho⟩
   ·exact hid _ hm (hI.inj _ _ _ hb' hb)
   ·rw[h3.2.2] at ho;cases ho
 have owN:∀l b,g.ow b=some l→(∀p∈ws,∀i,l≠ .cell p.2 i)→¬N b:=fun l b hb hl h=>by
  have h3:=hI.owW b l hb
  rcases h with h|h
  ·omega
  ·rcases(z4Ya hI h).2.2 with⟨j,id',hm,hb'⟩|⟨j,id',i,hm,ho⟩
   ·have:=(hI.muW _ _ hb').2.2
    rw[hb] at this;cases this
   ·rw[hb] at ho;cases ho;exact hl _ hm i rfl
 have mu1:∀j b,g1.mu j=some b→N b∧b<w1.heap.size∧g1.ow b=none:=fun j b h=>hI1.muW j b h
 have ow1:∀b l,g1.ow b=some l→N b∧b<w1.heap.size:=fun b l h=>hI1.owW b l h
 have wmu:∀j id,(j,id)∈ws→g1.mu j=g.mu id:=fun j id hm=>by
  have hj:j∈c.bx:=by rw[←hbx];exact List.mem_map.2 ⟨_,hm,rfl⟩
  rw[hmu j hj]
  simp only[ghM]
  rw[z7l (by rw[hbx];exact(List.nodup_append.1 hn1).1) hm]
  rfl
 let g2:Gh:=
  {S:=g1.S
   ow:=fun b=>if N b then(match g1.ow b with|some (.cell j i)=>(fnd (ws++ns) j).map fun id=> .cell id i|some .ret=>d.map .slot|_=>none) else g.ow b
   mu:=fun id=>match fnd (swp (ws++ns)) id with|some j=>g1.mu j|none=>g.mu id}
 have hpar:∀id,500000≤(fnd (ws++ns) id).getD id→500000≤id:=z1fb fun p hp h=>(hlo p hp).2.2.2 h
 have hk:z9k g.S w g2.S w1:=hI1.kp
 have hkr:z9k g1.S w1 g2.S w1:=z9k.refl _ _
 have notin:∀id,fnd (swp (ws++ns)) id=none→∀p∈ws,p.2≠id:=fun id h p hp he=>by
  obtain⟨x,hx⟩:=z2aa (l:=swp (ws++ns)) (k:=id) (by rw[z24];exact List.mem_map.2 ⟨p,by simp[hp],he⟩)
  rw[h] at hx;cases hx
 have mu2:∀id b,g.mu id=some b→g2.mu id=some b:=fun id b hb=>by
  simp only[g2]
  split
  ·rename_i j hf
   have hm:=z9K.1 (z6q hf)
   rcases List.mem_append.1 hm with hm|hm
   ·rw[wmu j id hm];exact hb
   ·have:=hI.nobx id (hnb _ hm)
    rw[hb] at this;cases this
  ·exact hb
 have own2:∀l,(∀p∈ws,∀i,l≠ .cell p.2 i)→z7C g w g2 w1 l l:=fun l hl b hb=>by
  have hN:=owN l b hb hl
  exact⟨by simp only[g2,if_neg hN];exact hb,oldS b hN,fun o n ht=>z00 (oldH b hN) ht⟩
 have rf:∀id,id∈c.bx++c.nb→∀b,g1.mu id=some b→g2.mu ((fnd (ws++ns) id).getD id)=some b:=fun id hid b hb=>by
  obtain⟨id',hf⟩:=z2aa (l:=ws++ns) (k:=id) (by rw[keys];exact hid)
  have:=z7l nsw (z9K.2 (z6q hf))
  rw[hf]
  simp only[g2,Option.getD_some,this]
  exact hb
 have hup:∀id,z29 getB ((ws++ns).map fun p=>(p.2,some (z5na (ws++ns) (c.out ds p.1)))) id=match fnd (swp (ws++ns)) id with|some j=>some (z5na (ws++ns) (c.out ds j))|none=>getB id:=fun id=>by
  unfold z29
  rw[z84a [] (fun j=>some (z5na (ws++ns) (c.out ds j))) id (ws++ns)]
  cases fnd (swp (ws++ns)) id<;>rfl
 refine⟨g2,⟨hI.fr.trans (hI1.fr.mono hz fun k hk hW=>(z4Ya hI hW).1.resolve_left (by omega)),fun b hb hw=> ?_,fun i j b hi hj=> ?_,fun id cs hc=> ?_,fun id hid=> ?_,fun id b hb=> ?_,fun b l hb=> ?_,
  fun n hn=>z0f.mono hk _ _ _ (hI.glob n hn),hI.kp.trans hk,fun id b cs hid hb hc hd=> ?_⟩,fun s=> ?_,?_⟩
 ·have hN:¬N b:=fun h=>(newW b h).elim (fun h=>by omega) hw
  show g1.S b=_
  rw[oldS b hN]
  exact hI.sS b hb hw
 ·simp only[g2] at hi hj
  split at hi
  ·rename_i x hx
   split at hj
   ·rename_i y hy
    have:=hI1.inj x y b hi hj
    subst this
    have e1:=z7l nkeys (z9K.1 (z6q hx))
    have e2:=z7l nkeys (z9K.1 (z6q hy))
    rw[e1] at e2;cases e2;rfl
   ·rename_i hy
    exact absurd (mu1 x b hi).1 (muN j b hj (notin j hy))
  ·rename_i hx
   split at hj
   ·rename_i y hy
    exact absurd (mu1 y b hj).1 (muN i b hi (notin i hx))
   ·exact hI.inj i j b hi hj
 ·rw[hup] at hc
  split at hc
  ·rename_i j hf
   cases hc
   have hm:=z9K.1 (z6q hf)
   have hjk:j∈c.bx++c.nb:=by rw[←keys];exact List.mem_map.2 ⟨_,hm,rfl⟩
   obtain⟨b,k1,k2,k3⟩:=hI1.bxok j (c.out ds j) (by unfold CM.outs;rw[if_pos hjk])
   refine⟨b,by simp only[g2,hf];exact k1,k2,fun i e hi=> ?_⟩
   rw[z52a] at hi
   cases he:(c.out ds j)[i]? with
   |none=>rw[he] at hi;cases hi
   |some e'=>
    rw[he] at hi
    simp only[Option.map_some,Option.some.injEq] at hi
    subst hi
    obtain⟨⟨x,hx,hrx⟩,hfz⟩:=k3 i e' he
    refine⟨⟨x,hx,Rep.ren hkr hpar e' x (some (.cell j i)) _ (fun id' hid'=>rf id' (hr2 j hjk id' (refsL_mem' (z3l he) hid'))) (fun m' hm'=> ?_) hrx⟩,hfz⟩
    cases hm'
    refine⟨_,rfl,fun b' hb'=>⟨?_,rfl,fun _ _ h=>h⟩⟩
    simp only[g2,if_pos (ow1 b' _ hb').1,hb',z7l nkeys hm,Option.map_some]
  ·rename_i hf
   obtain⟨b,k1,k2,k3⟩:=hI.bxok id cs hc
   have hN:=muN id b k1 (notin id hf)
   refine⟨b,mu2 id b k1,by show g1.S b=0;rw[oldS b hN];exact k2,fun i e hi=> ?_⟩
   obtain⟨⟨x,hx,hrx⟩,hfz⟩:=k3 i e hi
   refine⟨⟨x,by rw[World.cell?_of_block (w:=w) (a:=⟨b,i,none⟩) (oldH b hN)];exact hx,Rep.mono hk e x (some (.cell id i)) (some (.cell id i)) (fun id' _ b' hb'=>mu2 id' b' hb') (fun m' hm'=> ?_) hrx⟩,by rw[World.frozen?_of_block (w:=w) (a:=⟨b,i,none⟩) (oldH b hN)];exact hfz⟩
   cases hm'
   exact⟨_,rfl,own2 _ fun p hp i' he=>by cases he;exact notin _ hf p hp rfl⟩
 ·rw[hup] at hid
  split at hid
  ·cases hid
  ·rename_i hf
   simp only[g2,hf]
   exact hI.nobx id hid
 ·simp only[g2] at hb
  split at hb
  ·rename_i j hf
   obtain⟨h1,h2,h3⟩:=mu1 j b hb
   refine⟨newW b h1,h2,?_⟩
   simp only[g2,if_pos h1,h3]
  ·rename_i hf
   obtain⟨h1,h2,h3⟩:=hI.muW id b hb
   have hN:=muN id b hb (notin id hf)
   exact⟨h1,Nat.lt_of_lt_of_le h2 hI1.fr.size,by simp only[g2,if_neg hN];exact h3⟩
 ·simp only[g2] at hb
  split at hb
  ·rename_i hN
   cases ho:g1.ow b with
   |none=>rw[ho] at hb;cases hb
   |some l'=>exact⟨newW b hN,(ow1 b l' ho).2⟩
  ·obtain⟨h1,h2⟩:=hI.owW b l hb
   exact⟨h1,Nat.lt_of_lt_of_le h2 hI1.fr.size⟩
 ·have hf:fnd (swp (ws++ns)) id=none:=z6qa fun h=>by
   rw[z24] at h
   obtain⟨p,hp,he⟩:=List.mem_map.1 h
   have:=(hlo p hp).2.1
   omega
  rw[hup,hf] at hc
  simp only[g2,hf] at hb
  have hN:=muN id b hb (notin id hf)
  refine z2U.keep (hI.obok id b cs hid hb hc hd) (oldH b hN) fun k hk'=> ?_
  have hNk:=owN _ k hk' fun p hp i he=>by cases he;exact notin _ hf p hp rfl
  exact⟨by simp only[g2,if_neg hNk];exact hk',oldH k hNk⟩
 ·exact Rep.mono hk _ _ (some (.slot s)) (some (.slot s)) (fun id' _ b' hb'=>mu2 id' b' hb') (fun m' hm'=>by
   cases hm'
   exact⟨_,rfl,own2 _ fun p hp i' he=>by cases he⟩) (hS s)
 ·refine Rep.ren hkr hpar (c.post ds) v (some .ret) (d.map .slot) (fun id' hid'=>rf id' (hr1 id' hid')) (fun m' hm'=>⟨.ret,rfl,fun b' hb'=>⟨?_,rfl,fun _ _ h=>h⟩⟩) hr
  simp only[g2,if_pos (ow1 b' _ hb').1,hb']
  exact hm'
where
 refsL_mem':∀{cs:List z2a} {c:z2a} {id:Nat},c∈cs→id∈z0r c→id∈z7g cs
  |[],_,_,h,_=>by cases h
  |d::ds,c,id,h,hi=>by
   simp only[z7g,List.mem_append]
   rcases List.mem_cons.1 h with rfl|h
   ·exact .inl hi
   ·exact .inr (refsL_mem' h hi)

theorem z2Aa (hI:Inv K base g w getB) (hS:z5e K g w get a) {f:Nat} (hV:z33 K f (K.E.M f)) {as:List z2a} {ws ns:List (Nat×Nat)} {vs:List Value} (hr:z1e K.toCon g w as vs) (hok:okM K.E getB f as ws ns)
  {next:Act→World→Prop} {Q:Exit→Act→World→Prop} (hn:∀v w',z3Oa K base a get getB d (z8qb K.E getB f as ws ns) v w'→next (a.put o.dst v) w') (hrun:(execOp a.eval o).run K.P w= .ok (.enter (K.nu f) vs.toArray) w):
  o.wp K.P a w next Q:=by
 obtain⟨h1,h2,h3,h4,h5,h6,h7,h8,hlo,h9,h10,h11⟩:=hok
 unfold Oper.wp
 rw[hrun,Oper.upon_enter]
 have hb1:=(List.nodup_append.1 h8).1
 refine(hV.2 (ghM g ws) w _ vs (z2ab hI h1 h2 hb1 h3 h4 fun p hp=>(hlo p (List.mem_append_left _ hp)).1) (z9Sa hI h1 h2 hr) h9).mono ?_
 rintro e w' ⟨v,g1,rfl,hI1,hmu,hrep⟩
 refine hn v w' (z2ta hI hS h2 h5 h8 h3 h6 (fun p hp=> ?_) h7 hlo hI1 hmu hrep h10 h11)
 have hj:p.1∈(K.E.M f).bx:=by rw[←h2];exact List.mem_map.2 ⟨_,hp,rfl⟩
 have:=z1qa h1 p.1 _ (List.getElem?_eq_getElem (h4 _ hj))
 rw[Nat.zero_add,z7l (l:=ws) (k:=p.1) (x:=p.2) (by rw[h2];exact hb1) hp] at this
 obtain⟨_,cs,hcs,_⟩:=this
 exact⟨cs,hcs⟩

def z2M (K:Cx) (op:Op) (f:Nat) (t:Option Arg) (args:List Arg):Bool:=match t with|none=>z4la K op f args|some t=>z0aa K op t args

theorem z3ab (hI:Inv K base g w getB) (hS:z5e K g w get a) {f:Nat} {t:Option Arg} {args:List Arg} {ws ns:List (Nat×Nat)} (h:z2M K o.op f t args=true) (hV:z33 K f (K.E.M f)) (hok:okp K.E get getB (.callm f t args ws ns))
  {next:Act→World→Prop} {Q:Exit→Act→World→Prop} (hn:∀v w',z3Oa K base a get getB d (eff K.E get getB (.callm f t args ws ns)) v w'→next (a.put o.dst v) w'):o.wp K.P a w next Q:=by
 cases t with
 |none=>
  simp only[z2M] at h
  obtain⟨_,hok⟩:=hok
  unfold z4la at h
  split at h
  ·rename_i c ho
   simp only[Bool.and_eq_true] at h
   obtain⟨hc,ha⟩:=h
   split at hc
   ·rename_i f' hcal
    simp only[beq_iff_eq] at hc
    subst hc
    obtain⟨_,hr⟩:=z7Q hI hS ha
    refine z2Aa hI hS hV hr hok hn ?_
    simp only[execOp,ho,resolve,hcal,Act.eval,Deferred.ofValue,Sem.run_bind,Sem.run_pure,Result.andThen_ok,invoke]
    rw[z1z w hV.1]
    congr 2
    apply Array.ext'
    simp
   ·cases hc
  ·cases h
 |some t=>
  simp only[z2M] at h
  unfold z0aa at h
  split at h
  ·rename_i c ho
   simp only[Bool.and_eq_true] at h
   obtain⟨hc,ha⟩:=h
   split at hc
   ·rename_i x hcal
    obtain⟨_,hr⟩:=z7Q hI hS ha
    obtain⟨ht,hok⟩:=hok
    have rt:=z8b hI hS hc
    simp only at ht
    split at ht
    ·rename_i f' p q et
     subst ht
     rw[et] at rt
     simp only[et,z0A] at hok
     simp only[Rep] at rt
     obtain⟨pv,qv,vt,hp,hq⟩:=rt
     have hef:eff K.E get getB (.callm f' (some t) args ws ns)=z8qb K.E getB f' (p++args.map (arg K.E get)++q) ws ns:=by simp only[eff,et,z0A]
     rw[hef] at hn
     refine z2Aa hI hS hV ((hp.append hr).append hq) hok hn ?_
     simp only[execOp,ho,resolve,hcal,vt,Deferred.ofValue,Sem.run_bind,Sem.run_pure,Result.andThen_ok,invoke]
     rw[z1z w hV.1]
     congr 2
     apply Array.ext'
     simp
    ·cases ht
   ·cases hc
  ·cases h

end
end Go.Abs
end

section
namespace Go.Abs

def CW.ins (c:CW) (bs:Nat→List z2a) (j:Nat):Option (List z2a):=if j∈c.bx then some (bs j) else none
def CW.outs (c:CW) (ds:List z2a) (bs:Nat→List z2a) (j:Nat):Option (List z2a):=if j∈c.bx++c.nb then some (c.out ds bs j) else none
def z5za (K:Cx) (f:Nat) (c:CW):Prop:=
 z1aa K.P (K.nu f)∧∀(g:Gh) (w:World) (ds:List z2a) (bs:Nat→List z2a) (vs:List Value),Inv K ⟨w,Wr g,g.S,[]⟩ g w (c.ins bs)→z1e K.toCon g w ds vs→(∀j∈c.bx,∃i∈c.hold,∃d,ds[i]? =some d∧j∈z0r d)→c.pre ds bs→
  Calls K.P (K.nu f) vs.toArray w fun e w'=>∃v g',e= .returned v∧Inv K ⟨w,Wr g,g.S,[]⟩ g' w' (c.outs ds bs)∧(∀j∈c.bx,g'.mu j=g.mu j)∧Rep K.toCon g' w' (some .ret) (c.post ds bs) v

section
variable {K : Cx} {base : z1P} {g g' : Gh} {w w' : World} {get : Nat → z2a} {getB : Nat → Option (List z2a)} {a : Act} {o : Oper} {d : Option Nat}

theorem z2Ta (hI:Inv K base g w getB) {ws:List (Nat×Nat)} {c:CW} (hok:∀p∈ws,∃cs,getB p.2=some cs∧z2h cs=true) (hbx:ws.map (·.1)=c.bx) (hn1:c.bx.Nodup) (hn:(ws.map (·.2)).Nodup) (hlo:∀p∈ws,p.1<1000000):
  Inv K ⟨w,Wr (ghM g ws),(ghM g ws).S,[]⟩ (ghM g ws) w (c.ins (z4Va getB ws)):=by
 have nofnd:∀j,j∉c.bx→fnd ws j=none:=fun j hj=>z6qa (by rw[hbx];exact hj)
 have inj1:∀j j' id,fnd ws j=some id→fnd ws j'=some id→j=j':=fun j j' id h h'=>by
  have e1:=z7l (l:=swp ws) (by rw[z24];exact hn) (z9K.2 (z6q h))
  have e2:=z7l (l:=swp ws) (by rw[z24];exact hn) (z9K.2 (z6q h'))
  rw[e1] at e2;cases e2;rfl
 refine⟨Fr.refl _ _ _,fun _ _ _=>rfl,fun i j b hi hj=> ?_,fun j cs hc=> ?_,fun j hj=> ?_,fun j b hb=> ?_,fun b l hb=> ?_,hI.glob,z9k.refl _ _,fun j b cs hj hb _ _=>by
  obtain⟨id,h1,_⟩:=z7fa hb
  have:=hlo _ (z6q h1)
  simp only at this
  omega⟩
 ·obtain⟨x,h1,h2⟩:=z7fa hi
  obtain⟨y,h3,h4⟩:=z7fa hj
  have:=hI.inj x y b h2 h4
  subst this
  exact inj1 i j x h1 h3
 ·have hj:j∈c.bx:=by
   unfold CW.ins at hc
   split at hc
   ·assumption
   ·cases hc
  obtain⟨id,hf⟩:=z2aa (l:=ws) (k:=j) (by rw[hbx];exact hj)
  obtain⟨cs',h1,h2⟩:=hok _ (z6q hf)
  have h3:c.ins (z4Va getB ws) j=some cs':=by
   unfold CW.ins z4Va
   rw[if_pos hj,hf]
   simp only[h1,Option.getD_some]
  rw[hc] at h3;cases h3
  obtain⟨b,k1,k2,k3⟩:=hI.bxok id cs h1
  refine⟨b,by simp only[ghM,hf,Option.bind_some];exact k1,k2,fun i e hi=> ?_⟩
  obtain⟨⟨x,hx,hr⟩,hz⟩:=k3 i e hi
  refine⟨⟨x,hx,?_⟩,hz⟩
  refine Rep.mono (g:=g) (g':=ghM g ws) (z9k.refl _ _) e x _ _ (fun id' hid'=> ?_) (fun m' hm'=> ?_) hr
  ·have:z0r e=[]:=z5ka.pure_refs e ((z5m cs).1 h2 e (z3l hi))
   rw[this] at hid';cases hid'
  ·cases hm'
   exact⟨_,rfl,fun b' hb'=>⟨z0ua hn (z6q hf) hb',rfl,fun _ _ h=>h⟩⟩
 ·have hj':j∉c.bx:=fun h=>by simp[CW.ins,h] at hj
  simp only[ghM,nofnd j hj',Option.bind_none]
 ·obtain⟨id,h1,h2⟩:=z7fa hb
  have:=hI.muW id b h2
  exact⟨.inr (.inl ⟨j,hb⟩),this.2.1,z2wa this.2.2⟩
 ·obtain⟨id,i,j,h1,_,_⟩:=z8ob hb
  exact⟨.inr (.inr (by rw[hb];simp)),(hI.owW b _ h1).2⟩

theorem z2Na (hI:Inv K base g w getB) {ws:List (Nat×Nat)} {as:List z2a} {vs:List Value} {c:CW} (hok:∀a∈as,z1Kc ws a) (hbx:ws.map (·.1)=c.bx) (hn1:c.bx.Nodup) (hn:(ws.map (·.2)).Nodup) (hlo:∀p∈ws,500000≤p.1→500000≤p.2) (hr:z1e K.toCon g w as vs):
  z1e K.toCon (ghM g ws) w (as.map (z44b ws)) vs:=by
 refine z1e.mk (by rw[List.length_map];exact hr.len) fun i x v hx hv=> ?_
 rw[List.getElem?_map,Option.map_eq_some_iff] at hx
 obtain⟨y,hy,rfl⟩:=hx
 obtain⟨v',hv',hrep⟩:=hr.get i y hy
 rw[hv] at hv';cases hv'
 have hk:=hok y (z3l hy)
 unfold z1Kc at hk
 unfold z44b
 cases hrf:z0r y with
 |nil=>
  rw[hrf] at hk
  simp only at hk⊢
  have h1:=z5Fa (bs:=[]) hI (fun id hid=>by cases hid) hrep (by simpa using hk)
  have hS:z0ca g getB []=g.S:=funext fun b=>z0L (by simp)
  rw[hS] at h1
  exact z7c.rep (g:=ghM g ws) _ _ (by simpa[ghM] using h1)
 |cons r rs=>
  rw[hrf] at hk
  simp only at hk⊢
  rw[←hrf] at hk
  refine Rep.ren (g:=g) (g':=ghM g ws) (m:=swp ws) (z9k.refl _ _) (z1fb fun p hp h=>by obtain⟨k,x⟩:=p;exact hlo (x,k) (z9K.1 hp) h) y v none none (fun id hid b hb=> ?_) (fun _ h=>by cases h) hrep
  obtain⟨p,hp,rfl⟩:=List.mem_map.1 (hk id hid)
  obtain⟨j,id⟩:=p
  have e1:=z7l (l:=swp ws) (by rw[z24];exact hn) (z9K.2 hp)
  have e2:=z7l (l:=ws) (by rw[hbx];exact hn1) hp
  rw[e1]
  simp only[ghM,Option.getD_some,e2,Option.bind_some]
  exact hb

theorem z9ya (hI:Inv K base g w getB) (hS:z5e K g w get a) {f:Nat} (hV:z5za K f (K.E.C f)) {as:List z2a} {ws ns:List (Nat×Nat)} {vs:List Value} (hr:z1e K.toCon g w as vs) (hok:okW K.E getB f as ws ns)
  {next:Act→World→Prop} {Q:Exit→Act→World→Prop} (hn:∀v w',z3Oa K base a get getB d (z5rb K.E getB f as ws ns) v w'→next (a.put o.dst v) w') (hrun:(execOp a.eval o).run K.P w= .ok (.enter (K.nu f) vs.toArray) w):
  o.wp K.P a w next Q:=by
 obtain⟨h1,h4,h2,h3,h5,h6,h7,h8,hlo,hh,h9,h10,h11⟩:=hok
 unfold Oper.wp
 rw[hrun,Oper.upon_enter]
 have hb1:=(List.nodup_append.1 h8).1
 refine(hV.2 (ghM g ws) w _ (z4Va getB ws) vs (z2Ta hI h4 h2 hb1 h3 fun p hp=>(hlo p (List.mem_append_left _ hp)).1) (z2Na hI h1 h2 hb1 h3 (fun p hp=>(hlo p (List.mem_append_left _ hp)).2.2.1) hr) hh h9).mono ?_
 rintro e w' ⟨v,g1,rfl,hI1,hmu,hrep⟩
 refine hn v w' (z2ta (c:=⟨(K.E.C f).bx,(K.E.C f).nb,fun _=>True,fun _=>(K.E.C f).post (as.map (z44b ws)) (z4Va getB ws),fun _=>(K.E.C f).out (as.map (z44b ws)) (z4Va getB ws)⟩) (ds:=[]) hI hS h2 h5 h8 h3 h6 (fun p hp=> ?_) h7 hlo hI1 hmu hrep h10 h11)
 obtain⟨cs,hcs,_⟩:=h4 p hp
 exact⟨cs,hcs⟩

theorem z27a (hI:Inv K base g w getB) (hS:z5e K g w get a) {f:Nat} {t:Option Arg} {args:List Arg} {ws ns:List (Nat×Nat)} (h:z2M K o.op f t args=true) (hV:z5za K f (K.E.C f)) (hok:okp K.E get getB (.callw f t args ws ns))
  {next:Act→World→Prop} {Q:Exit→Act→World→Prop} (hn:∀v w',z3Oa K base a get getB d (eff K.E get getB (.callw f t args ws ns)) v w'→next (a.put o.dst v) w'):o.wp K.P a w next Q:=by
 cases t with
 |none=>
  simp only[z2M] at h
  obtain⟨_,hok⟩:=hok
  unfold z4la at h
  split at h
  ·rename_i c ho
   simp only[Bool.and_eq_true] at h
   obtain⟨hc,ha⟩:=h
   split at hc
   ·rename_i f' hcal
    simp only[beq_iff_eq] at hc
    subst hc
    obtain⟨_,hr⟩:=z7Q hI hS ha
    refine z9ya hI hS hV hr hok hn ?_
    simp only[execOp,ho,resolve,hcal,Act.eval,Deferred.ofValue,Sem.run_bind,Sem.run_pure,Result.andThen_ok,invoke]
    rw[z1z w hV.1]
    congr 2
    apply Array.ext'
    simp
   ·cases hc
  ·cases h
 |some t=>
  simp only[z2M] at h
  unfold z0aa at h
  split at h
  ·rename_i c ho
   simp only[Bool.and_eq_true] at h
   obtain⟨hc,ha⟩:=h
   split at hc
   ·rename_i x hcal
    obtain⟨_,hr⟩:=z7Q hI hS ha
    obtain⟨ht,hok⟩:=hok
    have rt:=z8b hI hS hc
    simp only at ht
    split at ht
    ·rename_i f' p q et
     subst ht
     rw[et] at rt
     simp only[et,z0A] at hok
     simp only[Rep] at rt
     obtain⟨pv,qv,vt,hp,hq⟩:=rt
     have hef:eff K.E get getB (.callw f' (some t) args ws ns)=z5rb K.E getB f' (p++args.map (arg K.E get)++q) ws ns:=by simp only[eff,et,z0A]
     rw[hef] at hn
     refine z9ya hI hS hV ((hp.append hr).append hq) hok hn ?_
     simp only[execOp,ho,resolve,hcal,vt,Deferred.ofValue,Sem.run_bind,Sem.run_pure,Result.andThen_ok,invoke]
     rw[z1z w hV.1]
     congr 2
     apply Array.ext'
     simp
    ·cases ht
   ·cases hc
  ·cases h

end
end Go.Abs
end

section
namespace Go.Abs

structure z1d where
 dst:Option Nat
 guard:Option (Nat×Bool)
 op:AOp
 deriving Inhabited

section
variable {E : Env} {get get' : Nat → z2a} {getB getB' : Nat → Option (List z2a)}

theorem z7a {y:Arg} (h:∀s∈y.rd,get s=get' s):arg E get y=arg E get' y:=by
 cases y with
 |s n=>exact h n (by simp[Arg.rd])
 |_=>rfl
theorem z1I {y:Option Arg} {n:Nat} (h:∀s∈rdO y,get s=get' s):bnd E get y n=bnd E get' y n:=by
 cases y with
 |none=>rfl
 |some y=>simp only[bnd];rw[z7a h]
theorem z4q {y:Option Arg} {n:Nat} (h:∀s∈rdO y,get s=get' s):z4M E get y n=z4M E get' y n:=by
 cases y with
 |none=>rfl
 |some y=>simp only[z4M];rw[z7a h]
theorem z7ha {ys:List Arg} (h:∀s∈rdL ys,get s=get' s):ys.map (arg E get)=ys.map (arg E get'):=
 List.map_congr_left fun y hy=>z7a fun s hs=>h s (List.mem_flatMap.2 ⟨y,hy,hs⟩)
theorem z1Aa {ys:List Arg} (h:∀s∈rdL ys,get s=get' s):(ys.map fun y=>dem (arg E get y))=ys.map fun y=>dem (arg E get' y):=
 List.map_congr_left fun y hy=>by rw[z7a fun s hs=>h s (List.mem_flatMap.2 ⟨y,hy,hs⟩)]
theorem z50:∀{ps:List (Nat×Nat×Arg)} {z:List z2a},(∀s∈rdL (ps.map (·.2.2)),get s=get' s)→z8L E get ps z=z8L E get' ps z
 |[],_,_=>rfl
 |(off,k,y)::ps,z,h=>by
  simp only[List.map_cons,rdL,List.flatMap_cons,List.mem_append] at h
  simp only[z8L]
  rw[z7a fun s hs=>h s (.inl hs)]
  exact z50 fun s hs=>h s (.inr hs)
theorem z3N:∀{ps:List (Nat×Nat×Arg)} {n:Nat},(∀s∈rdL (ps.map (·.2.2)),get s=get' s)→z6B E get ps n=z6B E get' ps n
 |[],_,_=>rfl
 |(off,k,y)::ps,n,h=>by
  simp only[List.map_cons,rdL,List.flatMap_cons,List.mem_append] at h
  simp only[z6B]
  rw[z7a fun s hs=>h s (.inl hs),z3N fun s hs=>h s (.inr hs)]
theorem z3S {b:Option Nat} (h:∀i∈b.toList,getB i=getB' i):bxc getB b=bxc getB' b:=by
 cases b with
 |none=>rfl
 |some i=>exact h i (by simp)
theorem z4u {b:Option Nat} (h:∀i∈b.toList,getB i=getB' i):bxl getB b=bxl getB' b:=by unfold bxl;rw[z3S h]
theorem z4X {f:Nat} {as:List z2a} {bs:List Nat} (h:∀i∈bs,getB i=getB' i):z6ra E getB f as bs=z6ra E getB' f as bs∧z5Oa E getB f as bs=z5Oa E getB' f as bs:=by
 have h1:(fun id=>if id∈bs then getB id else none)=fun id=>if id∈bs then getB' id else none:=funext fun id=>by
  split
  ·rename_i hi;exact h id hi
  ·rfl
 have h2:(fun id=>if id∈bs then(getB id).getD [] else [])=fun id=>if id∈bs then(getB' id).getD [] else []:=funext fun id=>by
  split
  ·rename_i hi;rw[h id hi]
  ·rfl
 have h3:(∀id∈bs,∃cs,getB id=some cs∧∀c∈cs,z6f c=true)=(∀id∈bs,∃cs,getB' id=some cs∧∀c∈cs,z6f c=true):=by
  apply propext
  constructor
  ·intro hh id hi;rw[←h id hi];exact hh id hi
  ·intro hh id hi;rw[h id hi];exact hh id hi
 refine⟨?_,by unfold z5Oa;rw[h2]⟩
 unfold z6ra
 simp only[h1,h2,h3]

theorem z6sa {ws:List (Nat×Nat)} (h:∀p∈ws,getB p.2=getB' p.2):∀(as:List z2a) (j:Nat),z1ca getB ws j as=z1ca getB' ws j as∧z5ub getB ws j as=z5ub getB' ws j as
 |[],_=>⟨rfl,rfl⟩
 |a::as,j=>by
  obtain⟨h1,h2⟩:=z6sa h as (j+1)
  simp only[z1ca,z5ub,h1,h2]
  cases hf:fnd ws j with
  |none=>exact⟨rfl,rfl⟩
  |some id=>simp only[h _ (z6q hf),and_self]
theorem z0kb {f:Nat} {as:List z2a} {ws ns:List (Nat×Nat)} (h:∀i∈(ws++ns).map (·.2),getB i=getB' i):okM E getB f as ws ns=okM E getB' f as ws ns∧z8qb E getB f as ws ns=z8qb E getB' f as ws ns:=by
 obtain⟨h1,h2⟩:=z6sa (ws:=ws) (fun p hp=>h p.2 (List.mem_map.2 ⟨p,by simp[hp],rfl⟩)) as 0
 have h3:(∀p∈ns,getB p.2=none)=(∀p∈ns,getB' p.2=none):=by
  apply propext
  constructor
  ·intro hh p hp;rw[←h p.2 (List.mem_map.2 ⟨p,by simp[hp],rfl⟩)];exact hh p hp
  ·intro hh p hp;rw[h p.2 (List.mem_map.2 ⟨p,by simp[hp],rfl⟩)];exact hh p hp
 unfold okM z8qb
 simp only[h1,h2,h3,and_self]

theorem z9fb {f:Nat} {as:List z2a} {ws ns:List (Nat×Nat)} (h:∀i∈(ws++ns).map (·.2),getB i=getB' i):okW E getB f as ws ns=okW E getB' f as ws ns∧z5rb E getB f as ws ns=z5rb E getB' f as ws ns:=by
 have h1:(∀p∈ws,∃cs,getB p.2=some cs∧z2h cs=true)=(∀p∈ws,∃cs,getB' p.2=some cs∧z2h cs=true):=by
  apply propext
  constructor
  ·intro hh p hp;rw[←h p.2 (List.mem_map.2 ⟨p,by simp[hp],rfl⟩)];exact hh p hp
  ·intro hh p hp;rw[h p.2 (List.mem_map.2 ⟨p,by simp[hp],rfl⟩)];exact hh p hp
 have h3:(∀p∈ns,getB p.2=none)=(∀p∈ns,getB' p.2=none):=by
  apply propext
  constructor
  ·intro hh p hp;rw[←h p.2 (List.mem_map.2 ⟨p,by simp[hp],rfl⟩)];exact hh p hp
  ·intro hh p hp;rw[h p.2 (List.mem_map.2 ⟨p,by simp[hp],rfl⟩)];exact hh p hp
 have mem:∀{l:List (Nat×Nat)} {k x:Nat},fnd l k=some x→(k,x)∈l:=fun {l}=>by
  induction l with
  |nil=>intro k x h;simp[fnd] at h
  |cons p l ih=>
   intro k x h
   obtain⟨k',y⟩:=p
   simp only[fnd] at h
   split at h
   ·cases h;subst_vars;simp
   ·exact List.mem_cons_of_mem _ (ih h)
 have h2:z4Va getB ws=z4Va getB' ws:=funext fun j=>by
  unfold z4Va
  cases hf:fnd ws j with
  |none=>rfl
  |some id=>simp only[h id (List.mem_map.2 ⟨(j,id),by simp[mem hf],rfl⟩)]
 unfold okW z5rb
 simp only[h1,h2,h3,and_self]

theorem z5Ra {b:Option Nat} {n:Nat} {p:z2a} (h:∀i∈b.toList,getB i=getB' i) (hp:∀id off,p= .bp id off→b=some id→getB id=getB' id):z3xa getB b n p=z3xa getB' b n p:=by
 unfold z3xa
 cases p with
 |bp id off=>
  simp only
  apply propext
  constructor
  ·rintro⟨rfl,h1⟩;rw[hp id off rfl rfl] at h1;exact⟨rfl,h1⟩
  ·rintro⟨rfl,h1⟩;rw[←hp id off rfl rfl] at h1;exact⟨rfl,h1⟩
 |_=>rfl

theorem z9W {id b:Nat} {p q:Prop} (h:id=b→p=q):(id=b∧p)=(id=b∧q):=by
 apply propext
 constructor
 ·rintro⟨rfl,h1⟩;rw[h rfl] at h1;exact⟨rfl,h1⟩
 ·rintro⟨rfl,h1⟩;rw[←h rfl] at h1;exact⟨rfl,h1⟩

theorem z6za (x:AOp) (hs:∀s∈x.rdS,get s=get' s) (hb:∀i∈x.rdB,getB i=getB' i):eff E get getB x=eff E get' getB' x∧okp E get getB x=okp E get' getB' x:=by
 cases x<;>simp only[AOp.rdS,AOp.rdB,List.mem_append,or_imp,forall_and,List.mem_cons,List.not_mem_nil,or_false,false_imp_iff,implies_true,forall_eq,and_true] at hs hb
 case mv take y=>
  have h1:=z7a (E:=E) hs
  refine⟨?_,rfl⟩
  cases take<;>cases y<;>simp only[eff,h1]<;>simp_all [Arg.rd]
 case pick c p q=>
  obtain⟨⟨h1,h2⟩,h3⟩:=hs
  simp only[eff,okp,z7a (E:=E) h1,z7a (E:=E) h2,z7a (E:=E) h3,and_self]
 case bin=>simp only[eff,okp,z7a (E:=E) hs.1,z7a (E:=E) hs.2,and_self]
 case eqb=>simp only[eff,okp,z7a (E:=E) hs.1,z7a (E:=E) hs.2,and_self]
 case eqF=>simp only[eff,okp,z7a (E:=E) hs.1,z7a (E:=E) hs.2,and_self]
 case eqnil=>simp only[eff,okp,z7a (E:=E) hs.1,z7a (E:=E) hs.2,and_self]
 case un=>simp only[eff,okp,z7a (E:=E) hs,and_self]
 case toInt=>simp only[eff,okp,z7a (E:=E) hs,and_self]
 case toStr=>simp only[eff,okp,z7a (E:=E) hs,z4u hb,z3S hb,and_self]
 case toBytes=>simp only[eff,okp,z7a (E:=E) hs,and_self]
 case same=>simp only[eff,okp,z7a (E:=E) hs,and_self]
 case mark=>simp only[eff,okp,hs,and_self]
 case extractO=>simp only[eff,okp,hs,and_self]
 case buildO z ps i s=>
  obtain⟨hs0,hs⟩:=hs
  have hs':∀s'∈rdL ((ps++[((i,1,Arg.s s):Nat×Nat×Arg)]).map (·.2.2)),(fun n=>dem (get n)) s'=(fun n=>dem (get' n)) s':=fun s h=>congrArg dem (hs s h)
  simp only[eff,okp,hs0,z50 (E:=E) hs',z3N (E:=E) hs',and_self]
 case storeO k b p s=>
  have h1:=z7a (E:=E) hs.2
  have h3:bxl getB (some b)=bxl getB' (some b):=z4u (by simpa using hb)
  refine⟨by simp only[eff,hs.1,h1,h3],?_⟩
  simp only[okp,hs.1,h1]
  congr 1
  congr 1
  split
  ·exact z9W fun e=>by rw[e,hb]
  ·rfl
 case build=>
  have hs':∀s∈rdL _,(fun n=>dem (get n)) s=(fun n=>dem (get' n)) s:=fun s h=>congrArg dem (hs s h)
  simp only[eff,okp,z50 (E:=E) hs',z3N (E:=E) hs',and_self]
 case buildSl=>simp only[eff,okp,z50 (E:=E) hs,z3N (E:=E) hs,and_self]
 case load k b take y=>
  have h1:=z7a (E:=E) hs
  have h2:=z4u hb
  refine⟨?_,?_⟩
  ·have h3:∀p,z0t getB b p=z0t getB' b p:=fun p=>by cases p<;>simp only[z0t,h2]
   cases k<;>cases take<;>simp only[eff,h1,h3,h2]
  ·simp only[okp,h1]
   exact congrArg (· ∧_) (z5Ra hb (fun id _ _ e=>hb id (by simp[e])))
 case store k b take p v=>
  have h1:=z7a (E:=E) hs.1
  have h2:=z7a (E:=E) hs.2
  have h3:bxl getB (some b)=bxl getB' (some b):=z4u (by simpa using hb)
  refine⟨?_,?_⟩
  ·cases k<;>cases take<;>cases v<;>simp only[eff,h1,h2,h3]<;>simp_all [Arg.rd]
  ·simp only[okp,h1,h2]
   congr 1
   congr 1
   split
   ·rename_i id off e
    exact z9W fun e=>by rw[e,hb]
   ·rfl
 case nilchk=>simp only[eff,okp,z7a (E:=E) hs,and_self]
 case buildBx=>simp only[eff,okp,z50 (E:=E) hs,z3N (E:=E) hs,hb,and_self]
 case fieldAddr=>simp only[eff,okp,z7a (E:=E) hs,and_self]
 case idxArr=>simp only[eff,okp,z7a (E:=E) hs.1,z7a (E:=E) hs.2,and_self]
 case idxSl=>simp only[eff,okp,z7a (E:=E) hs.1,z7a (E:=E) hs.2,and_self]
 case slArr=>
  obtain⟨⟨⟨h1,h2⟩,h3⟩,h4⟩:=hs
  simp only[eff,okp,z7a (E:=E) h1,z1I (E:=E) h2,z1I (E:=E) h3,z1I (E:=E) h4,z4q (E:=E) h2,z4q (E:=E) h3,z4q (E:=E) h4,and_self]
 case slSl=>
  obtain⟨⟨⟨h1,h2⟩,h3⟩,h4⟩:=hs
  simp only[eff,okp,z7a (E:=E) h1,z1I (E:=E) h2,z1I (E:=E) h3,z1I (E:=E) h4,z4q (E:=E) h2,z4q (E:=E) h3,z4q (E:=E) h4,and_self]
 case slCap esz x lo hi=>
  obtain⟨⟨h1,h2⟩,h3⟩:=hs
  have g2:∀s∈rdO (some lo),get s=get' s:=h2
  have g3:∀s∈rdO (some hi),get s=get' s:=h3
  simp only[eff,okp,z7a (E:=E) h1,z7a (E:=E) h2,z7a (E:=E) h3,z4q (E:=E) g2,z4q (E:=E) g3,z1I (E:=E) g3,and_self]
 case slStr=>
  obtain⟨⟨h1,h2⟩,h3⟩:=hs
  simp only[eff,okp,z7a (E:=E) h1,z1I (E:=E) h2,z1I (E:=E) h3,z4q (E:=E) h2,z4q (E:=E) h3,and_self]
 case s2ap=>simp only[eff,okp,z7a (E:=E) hs,and_self]
 case alloc=>simp only[eff,okp,hb,and_self]
 case box id k take y=>
  have h1:=z7a (E:=E) hs
  refine⟨?_,by simp only[okp,h1,hb]⟩
  cases k<;>cases take<;>cases y<;>simp only[eff,h1]<;>simp_all [Arg.rd]
 case extract=>simp only[eff,okp,z7a (E:=E) hs,and_self]
 case field=>simp only[eff,okp,z7a (E:=E) hs,and_self]
 case idxA=>simp only[eff,okp,z7a (E:=E) hs.1,z7a (E:=E) hs.2,and_self]
 case idxStr=>simp only[eff,okp,z7a (E:=E) hs.1,z7a (E:=E) hs.2,and_self]
 case call f as bs=>simp only[eff,okp,z7ha (E:=E) hs,(z4X (E:=E) hb).1,(z4X (E:=E) hb).2,and_self]
 case callv f t as bs=>simp only[eff,okp,z7a (E:=E) hs.1,z7ha (E:=E) hs.2,(z4X (E:=E) hb).1,(z4X (E:=E) hb).2,and_self]
 case callm f t as ws ns=>
  have h1:=z7ha (E:=E) hs.2
  obtain⟨h2,h3⟩:=z0kb (E:=E) (f:=f) (as:=match t with|none=>as.map (arg E get')|some t=>z0A (arg E get' t) (as.map (arg E get'))) hb
  cases t with
  |none=>simp only[eff,okp,h1];exact⟨h3,by rw[h2]⟩
  |some t=>
   have h4:=z7a (E:=E) (y:=t) (by simpa[rdO] using hs.1)
   simp only[eff,okp,h1,h4]
   exact⟨h3,by rw[h2]⟩
 case callw f t as ws ns=>
  have h1:=z7ha (E:=E) hs.2
  obtain⟨h2,h3⟩:=z9fb (E:=E) (f:=f) (as:=match t with|none=>as.map (arg E get')|some t=>z0A (arg E get' t) (as.map (arg E get'))) hb
  cases t with
  |none=>simp only[eff,okp,h1];exact⟨h3,by rw[h2]⟩
  |some t=>
   have h4:=z7a (E:=E) (y:=t) (by simpa[rdO] using hs.1)
   simp only[eff,okp,h1,h4]
   exact⟨h3,by rw[h2]⟩
 case len=>simp only[eff,okp,z7a (E:=E) hs,and_self]
 case append=>simp only[eff,okp,okp.okApp,hs.1,z7a (E:=E) hs.2,z4u hb,z3S hb,and_self]
 case appendC=>simp only[eff,okp,okp.okApp,z7a (E:=E) hs.1,z7a (E:=E) hs.2,z4u hb,z3S hb,and_self]
 case copy esz str db b p q=>
  have h1:=z7a (E:=E) hs.1
  have h2:=z7a (E:=E) hs.2
  have h3:bxl getB (some db)=bxl getB' (some db):=z4u (by simpa using hb.1)
  have h4:=z4u hb.2
  have h5:=z3S hb.2
  refine⟨?_,?_⟩
  ·simp only[eff,h1,h2,h3,h4]
  ·simp only[okp,h1,h2,h4,h5]
   congr 1
   congr 1
   split
   ·exact z9W fun e=>by rw[e,hb.1]
   ·rfl
 case clearB esz db p=>
  have h1:=z7a (E:=E) hs
  have h3:bxl getB (some db)=bxl getB' (some db):=z4u (by simpa using hb)
  refine⟨?_,?_⟩
  ·simp only[eff,h1,h3]
  ·simp only[okp,h1]
   congr 1
   split
   ·rw[hb]
   ·rfl
 case appendB esz by' str db b p q=>
  have h1:=z7a (E:=E) hs.1
  have h2:=z7a (E:=E) hs.2
  have h3:bxl getB (some db)=bxl getB' (some db):=z4u (by simpa using hb.1)
  have h4:=z4u hb.2
  have h5:=z3S hb.2
  refine⟨?_,?_⟩
  ·simp only[eff,h1,h2,h3,h4]
  ·simp only[okp,h1,h2,h4,h5]
   congr 1
   congr 1
   split
   ·exact z9W fun e=>by rw[hb.1]
   ·rfl
 case min2=>simp only[eff,okp,z7a (E:=E) hs.1,z7a (E:=E) hs.2,and_self]
 case max2=>simp only[eff,okp,z7a (E:=E) hs.1,z7a (E:=E) hs.2,and_self]
 case mkfn=>simp only[eff,okp,z1Aa (E:=E) hs.1,z1Aa (E:=E) hs.2,and_self]
 case newB=>simp only[eff,okp,hb,and_self]
 case bld=>simp only[eff,okp,z7a (E:=E) hs.1,z7a (E:=E) hs.2,hb.1,z4u hb.2,z3S hb.2,and_self]
 case unsup=>exact⟨rfl,rfl⟩

end
end Go.Abs
end

section
namespace Go.Abs

def z1d.W (o:z1d):List Nat:=o.dst.toList++o.op.wrS
def z1d.R (o:z1d):List Nat:=(match o.guard with|some (s,_)=>[s]|none=>[])++o.op.rdS

def z47:z2a:= .lit undef
def z1Va (v:z2a) (want:Bool):Bool:=match v with| .lit (.bool b)=>b==want|_=>false
def okG (v:z2a):Prop:=isB v∨v=z47
def z6g (E:Env) (o:z1d) (st:ASt):ASt:=
 let e:=eff E st.get st.getB o.op
 let run:ASt:={st with env:=(o.dst.toList.map fun s=>(s,e.val))++e.sl++st.env,box:=e.bx++st.box}
 match o.guard with
 |none=>run
 |some (s,want)=>if z1Va (st.get s) want=true then run else {st with env:=(o.dst.toList.map fun s=>(s,z47))++st.env}

def okA (E:Env) (o:z1d) (st:ASt):Prop:=
 (∀s∈o.W,lk st.org s=none)∧
 match o.guard with
 |none=>okp E st.get st.getB o.op
 |some (s,want)=>okG (st.get s)∧(z1Va (st.get s) want=true→okp E st.get st.getB o.op)

def z7ma (E:Env):List z1d→ASt→ASt
 |[],st=>st
 |o::os,st=>z7ma E os (z6g E o st)
def z73 (E:Env):List z1d→ASt→Prop
 |[],_=>True
 |o::os,st=>okA E o st∧z73 E os (z6g E o st)

structure z4ka (st st':ASt):Prop where
 org:st.org=st'.org
 env:∀s,lk st.env s=lk st'.env s
 box:∀id,lk st.box id=lk st'.box id
theorem z4ka.refl (st:ASt):z4ka st st:=⟨rfl,fun _=>rfl,fun _=>rfl⟩
theorem z4ka.trans {a b c:ASt} (h:z4ka a b) (k:z4ka b c):z4ka a c:=⟨h.org.trans k.org,fun s=>(h.env s).trans (k.env s),fun s=>(h.box s).trans (k.box s)⟩
theorem z4ka.symm {a b:ASt} (h:z4ka a b):z4ka b a:=⟨h.org.symm,fun s=>(h.env s).symm,fun s=>(h.box s).symm⟩
theorem z4ka.get {a b:ASt} (h:z4ka a b):a.get=b.get:=funext fun s=>by simp only[ASt.get,h.env,h.org]
theorem z4ka.getB {a b:ASt} (h:z4ka a b):a.getB=b.getB:=funext fun s=>by simp only[ASt.getB,h.box]

theorem z3Ia {E:Env} (o:z1d) {a b:ASt} (h:z4ka a b):z4ka (z6g E o a) (z6g E o b):=by
 have hg:=h.get
 have hb:=h.getB
 have key:∀(l:List (Nat×z2a)) (m:List (Nat×Option (List z2a))),z4ka {a with env:=l++a.env,box:=m++a.box} {b with env:=l++b.env,box:=m++b.box}:=fun l m=>
  ⟨h.org,fun s=>by simp only[z9p,h.env],fun s=>by simp only[z9p,h.box]⟩
 unfold z6g
 rw[hg,hb]
 cases o.guard with
 |none=>exact key _ _
 |some sw=>
  obtain⟨s,want⟩:=sw
  simp only
  split
  ·exact key _ _
  ·exact key _ []
theorem z7Wb {E:Env} (o:z1d) {a b:ASt} (h:z4ka a b) (hok:okA E o a):okA E o b:=by
 have hg:=h.get
 have hb:=h.getB
 unfold okA at*
 rw[←hg,←hb,←h.org]
 exact hok
theorem z02a {E:Env}:∀(os:List z1d) {a b:ASt},z4ka a b→z4ka (z7ma E os a) (z7ma E os b)
 |[],_,_,h=>h
 |o::os,_,_,h=>z02a os (z3Ia o h)
theorem z9za {E:Env}:∀(os:List z1d) {a b:ASt},z4ka a b→z73 E os a→z73 E os b
 |[],_,_,_,_=>trivial
 |o::os,_,_,h,hk=>⟨z7Wb o h hk.1,z9za os (z3Ia o h) hk.2⟩

/-! ### What a step writes -/
theorem z7pa (E:Env) (get:Nat→z2a) (getB:Nat→Option (List z2a)) (x:AOp):(∀p∈(eff E get getB x).sl,p.1∈x.wrS)∧(∀p∈(eff E get getB x).bx,p.1∈x.wrB):=by
 cases x
 case mv take y=>cases take<;>cases y<;>simp[eff,AOp.wrS]
 case load k b take y=>
  cases k<;>cases take<;>cases b<;>simp only[eff]<;>(try split)<;>simp[AOp.wrB]<;>(intros;simp_all)
 case store k b take p v=>cases k<;>cases take<;>cases v<;>simp[eff,AOp.wrS,AOp.wrB]
 case box id k take y=>cases k<;>cases take<;>cases y<;>simp[eff,AOp.wrS,AOp.wrB]
 case copy=>simp only[eff];split<;>simp[AOp.wrB]
 case buildO=>simp only[eff];split<;>simp[AOp.wrS]
 case storeO=>simp only[eff];split<;>simp[AOp.wrS,AOp.wrB]
 case appendB=>simp only[eff];split<;>simp[AOp.wrB]
 case clearB=>simp only[eff];split<;>simp[AOp.wrB]
 case slCap=>simp only[eff];split<;>simp
 case bld k _ _ _ _=>simp only[eff,z75];split<;>simp[AOp.wrB]
 case callm f t as ws ns=>
  refine⟨by cases t<;>simp[eff,z8qb],fun p hp=> ?_⟩
  have:∀as',p∈(z8qb E getB f as' ws ns).bx→p.1∈(ws++ns).map (·.2):=fun as' h=>by
   simp only[z8qb,List.mem_map] at h
   obtain⟨q,hq,rfl⟩:=h
   exact List.mem_map.2 ⟨q,hq,rfl⟩
  exact this _ hp
 case callw f t as ws ns=>
  refine⟨by cases t<;>simp[eff,z5rb],fun p hp=> ?_⟩
  have:∀as',p∈(z5rb E getB f as' ws ns).bx→p.1∈(ws++ns).map (·.2):=fun as' h=>by
   simp only[z5rb,List.mem_map] at h
   obtain⟨q,hq,rfl⟩:=h
   exact List.mem_map.2 ⟨q,hq,rfl⟩
  exact this _ hp
 all_goals simp[eff,AOp.wrS,AOp.wrB]

theorem z97 {α:Type} {l:List (Nat×α)} {s:Nat} (h:∀p∈l,p.1≠s):lk l s=none:=by
 induction l with
 |nil=>rfl
 |cons p l ih=>
  obtain⟨k,x⟩:=p
  simp only[lk]
  rw[if_neg (fun e=>h (k,x) (by simp) e.symm)]
  exact ih fun p hp=>h p (by simp[hp])

theorem z9wb {E:Env} (o:z1d) (st:ASt) {s:Nat} (h:s∉o.W):lk (z6g E o st).env s=lk st.env s:=by
 simp only[z1d.W,List.mem_append,not_or,Option.mem_toList] at h
 have hk:=z7pa E st.get st.getB o.op
 have h1:∀d:z2a,lk (o.dst.toList.map fun s=>(s,d)) s=none:=fun d=>z97 fun p hp=>by
  simp only[List.mem_map,Option.mem_toList] at hp
  obtain⟨t,ht,rfl⟩:=hp
  exact fun e=>h.1 (e▸ht)
 have h2:lk (eff E st.get st.getB o.op).sl s=none:=z97 fun p hp e=>h.2 (e▸hk.1 p hp)
 unfold z6g
 cases o.guard with
 |none=>simp only[z9p,h1,h2,Option.none_or]
 |some sw=>
  simp only
  split
  ·simp only[z9p,h1,h2,Option.none_or]
  ·simp only[z9p,h1,Option.none_or]
theorem z8xb {E:Env} (o:z1d) (st:ASt) {id:Nat} (h:id∉o.op.wrB):lk (z6g E o st).box id=lk st.box id:=by
 have hk:=z7pa E st.get st.getB o.op
 have h2:lk (eff E st.get st.getB o.op).bx id=none:=z97 fun p hp e=>h (e▸hk.2 p hp)
 unfold z6g
 cases o.guard with
 |none=>simp only[z9p,h2,Option.none_or]
 |some sw=>
  simp only
  split
  ·simp only[z9p,h2,Option.none_or]
  ·rfl
theorem z3Da {E:Env} (o:z1d) (st:ASt):(z6g E o st).org=st.org:=by
 unfold z6g
 cases o.guard with
 |none=>rfl
 |some sw=>simp only;split<;>rfl

def z7jc (a b:List Nat):Bool:=a.all fun x=> !b.contains x
theorem z3Cb {a b:List Nat}:z7jc a b=true↔∀x∈a,x∉b:=by simp[z7jc]
def z8lb (o p:z1d):Bool:=z7jc o.W (p.R++p.W)&&z7jc p.W o.R&&z7jc o.op.wrB (p.op.rdB++p.op.wrB)&&z7jc p.op.wrB o.op.rdB

def z2Ia (o p:z1d):Bool:=match o,p with
 |⟨some d1,none,.mv true (.s n)⟩,⟨some d2,none,.mv false (.s m)⟩=>n==m&&d1 !=d2&&d1 !=n&&d2 !=n
 |⟨some d1,none,.extractO n⟩,⟨some d2,none,.extract _ (.s m)⟩=>n==m&&d1 !=d2&&d1 !=n&&d2 !=n
 |_,_=>false
def z96a (o p:z1d):Bool:=z8lb o p||z2Ia o p

def z7ka (E:Env) (o:z1d) (get:Nat→z2a) (getB:Nat→Option (List z2a)):List (Nat×z2a)×List (Nat×Option (List z2a)):=
 let e:=eff E get getB o.op
 let run:=((o.dst.toList.map fun s=>(s,e.val))++e.sl,e.bx)
 match o.guard with
 |none=>run
 |some (s,want)=>if z1Va (get s) want=true then run else((o.dst.toList.map fun s=>(s,z47)),[])
theorem z2ba (E:Env) (o:z1d) (st:ASt):z6g E o st={st with env:=(z7ka E o st.get st.getB).1++st.env,box:=(z7ka E o st.get st.getB).2++st.box}:=by
 unfold z6g z7ka
 cases o.guard with
 |none=>simp
 |some sw=>simp only;split<;>simp
theorem z7va {E:Env} (o:z1d) {get get':Nat→z2a} {getB getB':Nat→Option (List z2a)} (hs:∀s∈o.R,get s=get' s) (hb:∀i∈o.op.rdB,getB i=getB' i):z7ka E o get getB=z7ka E o get' getB':=by
 simp only[z1d.R,List.mem_append,or_imp,forall_and] at hs
 have h1:=(z6za (E:=E) o.op hs.2 hb).1
 unfold z7ka
 rw[h1]
 cases hg:o.guard with
 |none=>rfl
 |some sw=>
  obtain⟨s,want⟩:=sw
  simp only[hg,List.mem_singleton,forall_eq] at hs
  simp only[hs.1]
theorem z3Na {E:Env} (o:z1d) {a b:ASt} (ho:a.org=b.org) (hs:∀s∈o.R,a.get s=b.get s) (hb:∀i∈o.op.rdB,a.getB i=b.getB i) (h:okA E o a):okA E o b:=by
 simp only[z1d.R,List.mem_append,or_imp,forall_and] at hs
 have h1:=(z6za (E:=E) o.op hs.2 hb).2
 unfold okA at*
 rw[←h1,←ho]
 cases hg:o.guard with
 |none=>simpa[hg] using h
 |some sw=>
  obtain⟨s,want⟩:=sw
  simp only[hg,List.mem_singleton,forall_eq] at hs h
  simp only[←hs.1]
  exact h

theorem z3Aa (E:Env) (o:z1d) (get:Nat→z2a) (getB:Nat→Option (List z2a)):(∀p∈(z7ka E o get getB).1,p.1∈o.W)∧(∀p∈(z7ka E o get getB).2,p.1∈o.op.wrB):=by
 have hk:=z7pa E get getB o.op
 have hd:∀(d:z2a),∀p∈(o.dst.toList.map fun s=>(s,d)),p.1∈o.W:=fun d p hp=>by
  simp only[List.mem_map,Option.mem_toList] at hp
  obtain⟨t,ht,rfl⟩:=hp
  simp only[z1d.W,List.mem_append,Option.mem_toList]
  exact .inl ht
 have hw:∀p∈(eff E get getB o.op).sl,p.1∈o.W:=fun p hp=>by simp only[z1d.W,List.mem_append];exact .inr (hk.1 p hp)
 unfold z7ka
 cases o.guard with
 |none=>
  simp only[List.mem_append]
  exact⟨fun p hp=>hp.elim (hd _ p) (hw p),hk.2⟩
 |some sw=>
  simp only
  split
  ·simp only[List.mem_append]
   exact⟨fun p hp=>hp.elim (hd _ p) (hw p),hk.2⟩
  ·exact⟨hd _,by simp⟩

theorem z7Pa {E:Env} (o:z1d) (st:ASt) {id:Nat} (h:id∉o.op.wrB):(z6g E o st).getB id=st.getB id:=by simp only[ASt.getB,z8xb o st h]
theorem z62a {E:Env} (o:z1d) (st:ASt) {s:Nat} (h:s∉o.W):(z6g E o st).get s=st.get s:=by simp only[ASt.get,z9wb o st h,z3Da]

theorem z4Ab {E:Env} {o p:z1d} (hi:z8lb o p=true) (st:ASt) (h1:okA E o st) (h2:okA E p (z6g E o st)):
  okA E p st∧okA E o (z6g E p st)∧z4ka (z6g E o (z6g E p st)) (z6g E p (z6g E o st)):=by
 simp only[z8lb,Bool.and_eq_true,z3Cb,List.mem_append,not_or] at hi
 obtain⟨⟨⟨i1,i2⟩,i3⟩,i4⟩:=hi
 have g1:∀s∈p.R,(z6g E o st).get s=st.get s:=fun s hs=>z62a o st fun h=>(i1 s h).1 hs
 have b1:∀i∈p.op.rdB,(z6g E o st).getB i=st.getB i:=fun s hs=>z7Pa o st fun h=>(i3 s h).1 hs
 have g2:∀s∈o.R,(z6g E p st).get s=st.get s:=fun s hs=>z62a p st fun h=>i2 s h hs
 have b2:∀i∈o.op.rdB,(z6g E p st).getB i=st.getB i:=fun s hs=>z7Pa p st fun h=>i4 s h hs
 refine⟨z3Na p (z3Da o st) g1 b1 h2,z3Na o (z3Da p st).symm (fun s hs=>(g2 s hs).symm) (fun s hs=>(b2 s hs).symm) h1,?_⟩
 have d1:=z7va (E:=E) p g1 b1
 have d2:=z7va (E:=E) o g2 b2
 have k1:=z3Aa E o st.get st.getB
 have k2:=z3Aa E p st.get st.getB
 rw[z2ba E o (z6g E p st),z2ba E p (z6g E o st),d1,d2,z2ba E o st,z2ba E p st]
 refine⟨rfl,fun s=> ?_,fun id=> ?_⟩
 ·simp only[z9p]
  by_cases hs:s∈o.W
  ·have:lk (z7ka E p st.get st.getB).1 s=none:=z97 fun q hq e=>(i1 s hs).2 (e▸k2.1 q hq)
   simp only[this,Option.none_or]
  ·have:lk (z7ka E o st.get st.getB).1 s=none:=z97 fun q hq e=>hs (e▸k1.1 q hq)
   simp only[this,Option.none_or]
 ·simp only[z9p]
  by_cases hs:id∈o.op.wrB
  ·have:lk (z7ka E p st.get st.getB).2 id=none:=z97 fun q hq e=>(i3 id hs).2 (e▸k2.2 q hq)
   simp only[this,Option.none_or]
  ·have:lk (z7ka E o st.get st.getB).2 id=none:=z97 fun q hq e=>hs (e▸k1.2 q hq)
   simp only[this,Option.none_or]

theorem z9Wa (d:z2a):dem (dem d)=dem d:=by
 cases d with
 |sl m _ _ _=>cases m<;>rfl
 |_=>rfl
theorem z9Db {E:Env} {d1 d2 n:Nat} (h12:d1≠d2) (h1n:d1≠n) (h2n:d2≠n) (st:ASt) (h1:okA E ⟨some d1,none,.mv true (.s n)⟩ st) (h2:okA E ⟨some d2,none,.mv false (.s n)⟩ (z6g E ⟨some d1,none,.mv true (.s n)⟩ st)):
  okA E ⟨some d2,none,.mv false (.s n)⟩ st∧okA E ⟨some d1,none,.mv true (.s n)⟩ (z6g E ⟨some d2,none,.mv false (.s n)⟩ st)∧
   z4ka (z6g E ⟨some d1,none,.mv true (.s n)⟩ (z6g E ⟨some d2,none,.mv false (.s n)⟩ st)) (z6g E ⟨some d2,none,.mv false (.s n)⟩ (z6g E ⟨some d1,none,.mv true (.s n)⟩ st)):=by
 have eA:∀st:ASt,z6g E ⟨some d1,none,.mv true (.s n)⟩ st={st with env:=(d1,st.get n)::(n,dem (st.get n))::st.env}:=fun _=>rfl
 have eB:∀st:ASt,z6g E ⟨some d2,none,.mv false (.s n)⟩ st={st with env:=(d2,dem (st.get n))::st.env}:=fun _=>rfl
 have gA:(z6g E ⟨some d1,none,.mv true (.s n)⟩ st).get n=dem (st.get n):=by
  rw[eA];simp only[ASt.get,lk,if_neg (Ne.symm h1n),if_true]
 have gB:(z6g E ⟨some d2,none,.mv false (.s n)⟩ st).get n=st.get n:=by
  rw[eB];simp only[ASt.get,lk,if_neg (Ne.symm h2n)]
 refine⟨h2,h1,?_⟩
 rw[eA (z6g _ _ _),eB (z6g _ _ _),gA,gB,z9Wa,eA,eB]
 refine⟨rfl,fun s=> ?_,fun _=>rfl⟩
 simp only[lk]
 by_cases e1:s=d1
 ·rw[if_pos e1,if_neg (by rw[e1];exact h12),if_pos e1]
 ·rw[if_neg e1,if_neg e1]
  by_cases e2:s=d2
  ·rw[if_pos e2,if_pos e2,if_neg (by rw[e2];exact h2n)]
  ·rw[if_neg e2,if_neg e2]
theorem z9Hb {E:Env} {d1 d2 n i:Nat} (h12:d1≠d2) (h1n:d1≠n) (h2n:d2≠n) (st:ASt) (h1:okA E ⟨some d1,none,.extractO n⟩ st) (h2:okA E ⟨some d2,none,.extract i (.s n)⟩ (z6g E ⟨some d1,none,.extractO n⟩ st)):
  okA E ⟨some d2,none,.extract i (.s n)⟩ st∧okA E ⟨some d1,none,.extractO n⟩ (z6g E ⟨some d2,none,.extract i (.s n)⟩ st)∧
   z4ka (z6g E ⟨some d1,none,.extractO n⟩ (z6g E ⟨some d2,none,.extract i (.s n)⟩ st)) (z6g E ⟨some d2,none,.extract i (.s n)⟩ (z6g E ⟨some d1,none,.extractO n⟩ st)):=by
 obtain⟨V,hV⟩:∃V:z2a→z2a,V=fun d=>match d with| .otup e nl n cs _=> .sl (.own e) nl n cs|_=> .undef:=⟨_,rfl⟩
 obtain⟨X,hX⟩:∃X:z2a→z2a,X=fun d=>match d with| .tup vs=>dem (vs.getD i .undef)|_=> .undef:=⟨_,rfl⟩
 have eA:∀st:ASt,z6g E ⟨some d1,none,.extractO n⟩ st={st with env:=(d1,V (st.get n))::(n,dem (st.get n))::st.env}:=fun _=>by rw[hV];rfl
 have eB:∀st:ASt,z6g E ⟨some d2,none,.extract i (.s n)⟩ st={st with env:=(d2,X (dem (st.get n)))::st.env}:=fun _=>by rw[hX];rfl
 have gA:(z6g E ⟨some d1,none,.extractO n⟩ st).get n=dem (st.get n):=by
  rw[eA];simp only[ASt.get,lk,if_neg (Ne.symm h1n),if_true]
 have gB:(z6g E ⟨some d2,none,.extract i (.s n)⟩ st).get n=st.get n:=by
  rw[eB];simp only[ASt.get,lk,if_neg (Ne.symm h2n)]
 have ok2:∀st:ASt,okA E ⟨some d2,none,.extract i (.s n)⟩ st↔(∀s∈[d2],lk st.org s=none)∧(match dem (st.get n) with| .tup vs=>i<vs.length|_=>False):=fun _=>Iff.rfl
 have ok1:∀st:ASt,okA E ⟨some d1,none,.extractO n⟩ st↔(∀s∈[d1,n],lk st.org s=none)∧(match st.get n with| .otup _ _ _ _ _=>True|_=>False):=fun _=>Iff.rfl
 refine⟨?_,?_,?_⟩
 ·rw[ok2] at h2⊢
  rw[gA,z9Wa,eA] at h2
  exact h2
 ·rw[ok1] at h1⊢
  rw[gB,eB]
  exact h1
 rw[eA (z6g _ _ _),eB (z6g _ _ _),gA,gB,z9Wa,eA,eB]
 refine⟨rfl,fun s=> ?_,fun _=>rfl⟩
 simp only[lk]
 by_cases e1:s=d1
 ·rw[if_pos e1,if_neg (by rw[e1];exact h12),if_pos e1]
 ·rw[if_neg e1,if_neg e1]
  by_cases e2:s=d2
  ·rw[if_pos e2,if_pos e2,if_neg (by rw[e2];exact h2n)]
  ·rw[if_neg e2,if_neg e2]
theorem z5Wb {E:Env} {o p:z1d} (hi:z96a o p=true) (st:ASt) (h1:okA E o st) (h2:okA E p (z6g E o st)):
  okA E p st∧okA E o (z6g E p st)∧z4ka (z6g E o (z6g E p st)) (z6g E p (z6g E o st)):=by
 rw[z96a,Bool.or_eq_true] at hi
 rcases hi with hi|hi
 ·exact z4Ab hi st h1 h2
 ·unfold z2Ia at hi
  split at hi
  ·rename_i d1 n d2 m
   simp only[Bool.and_eq_true,beq_iff_eq,bne_iff_ne] at hi
   obtain⟨⟨⟨rfl,h12⟩,h1n⟩,h2n⟩:=hi
   exact z9Db h12 h1n h2n st h1 h2
  ·rename_i d1 n d2 i m
   simp only[Bool.and_eq_true,beq_iff_eq,bne_iff_ne] at hi
   obtain⟨⟨⟨rfl,h12⟩,h1n⟩,h2n⟩:=hi
   exact z9Hb h12 h1n h2n st h1 h2
  ·cases hi

theorem z00a {E:Env} {o:z1d}:∀(pre post:List z1d) (st:ASt),(∀p∈pre,z96a p o=true)→z73 E (pre++o::post) st→
  okA E o st∧z73 E (pre++post) (z6g E o st)∧z4ka (z7ma E (pre++post) (z6g E o st)) (z7ma E (pre++o::post) st)
 |[],post,st,_,h=>⟨h.1,h.2,z4ka.refl _⟩
 |p::pre,post,st,hi,h=>by
  obtain⟨h1,h2⟩:=h
  obtain⟨k1,k2,k3⟩:=z00a pre post (z6g E p st) (fun q hq=>hi q (by simp[hq])) h2
  obtain⟨c1,c2,c3⟩:=z5Wb (hi p (by simp)) st h1 k1
  refine⟨c1,⟨c2,z9za _ c3.symm k2⟩,?_⟩
  exact(z02a _ c3).trans k3

end Go.Abs
end
