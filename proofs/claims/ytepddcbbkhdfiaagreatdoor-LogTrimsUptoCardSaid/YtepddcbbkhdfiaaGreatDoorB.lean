/- Lemmas: an abstract interpreter, and what the functions compute. -/
import Derived.Test.YtepddcbbkhdfiaaGreatDoorA
import Derived.WalkSpells
import Derived.Laws.Cover3
import Derived.Laws.MakeOwn
set_option linter.unusedSimpArgs false
set_option linter.unusedVariables false
set_option linter.unusedSectionVars false
section
namespace Go.Abs

def z3Ua (K:Cx) (base:z4f) (a:Act) (get:Nat→z0a) (getB:Nat→Option (List z0a)) (d:Option Nat) (o:Oper) (x:AOp) (w:World):Prop:=
 ∃r v w',(execOp a.eval o).run K.P w= .ok r w'∧(r= .value v∨(r= .skip∧v=undef))∧z5kc K base a get getB d (eff K.E get getB x) v w'

section
variable {K : Cx} {base : z4f} {g g' : Gh} {w w' : World} {get : Nat → z0a} {getB : Nat → Option (List z0a)} {a : Act} {o : Oper} {d : Option Nat}

theorem z7qa {x:AOp} {c:z0a} {v:Value} (hI:Inv K base g w getB) (hS:z2v K g w get a) (he:eff K.E get getB x={val:=c}) (hr:(execOp a.eval o).run K.P w= .ok (.value v) w) (hc:Rep K.toCon g w (d.map .slot) c v):
  z3Ua K base a get getB d o x w:=⟨_,v,w,hr,.inl rfl,by rw[he];exact z6Sc hI hS hc⟩

/-! ### moves -/
def z8nd (K:Cx) (op:Op) (y:Arg):Bool:=match op with| .move x=>z8ua K x y| .assign x=>z8ua K x y|_=>false

theorem z8Ua {x:Operand} {n:Nat} (h:z8ua K x (.s n)=true):x= .tmp n:=by
 unfold z8ua at h
 split at h
 ·rename_i h1;cases h1;simp only[beq_iff_eq] at h;rw[h]
 ·rename_i h1;cases h1
 ·rename_i h1;cases h1
 ·rename_i h1;cases h1
 ·cases h

theorem z94a (hI:Inv K base g w getB) (hS:z2v K g w get a) (n:Nat) (l:Option Loc):
  ∃g',Inv K base g' w getB∧z2v K g' w (upd get [(n,dem (get n))]) a∧Rep K.toCon g' w l (get n) (a.eval (.tmp n))∧(∀id b,g.mu id=some b→g'.mu id=some b)∧g'.S=g.S∧g'.mu=g.mu:=by
 cases l with
 |none=>
  refine⟨g,hI,fun s=> ?_,z87a (z4Ab hS n),fun _ _ h=>h,rfl,rfl⟩
  simp only[upd,lk]
  by_cases hs:s=n
  ·subst hs;simp only[if_true,Option.getD_some];exact Rep.dem _ (hS s)
  ·simp only[if_neg hs,Option.getD_none];exact hS s
 |some l1=>exact⟨z4Pa g (.slot n) l1,z4bb hI n l1,z4qc hS n l1,z8Ca (z4Ab hS n),fun _ _ h=>h,rfl,rfl⟩

theorem z1Cd (hI:Inv K base g w getB) (hS:z2v K g w get a) {y:Arg} (take:Bool) (h:z8nd K o.op y=true):z3Ua K base a get getB d o (.mv take y) w:=by
 have hrun:∃x,z8ua K x y=true∧(execOp a.eval o).run K.P w= .ok (.value (a.eval x)) w:=by
  unfold z8nd at h
  split at h
  ·rename_i x ho;exact⟨x,h,by simp[execOp,ho]⟩
  ·rename_i x ho;exact⟨x,h,by simp[execOp,ho]⟩
  ·cases h
 obtain⟨x,hx,hrun⟩:=hrun
 have plain:z3Ua K base a get getB d o (.mv false y) w:=z7qa hI hS (c:=dem (arg K.E get y)) (by cases y<;>rfl) hrun (Rep.dem _ (z3qa hI hS hx))
 cases take with
 |false=>exact plain
 |true=>
  cases y with
  |c e=>
   refine z7qa hI hS (c:=e) rfl hrun ?_
   unfold z8ua at hx
   split at hx
   ·rename_i h1;cases h1
   ·rename_i v e' h1
    cases h1
    exact z2ub _ _ _ hx
   ·rename_i h1;cases h1
   ·rename_i f n h1
    cases h1
    exact z80a _ rfl (z3qa (x:= .func f) (y:= .c (.fn n [] [])) hI hS (by simpa[z8ua] using hx))
   ·cases hx
  |g _=>exact plain
  |s n=>
   have:=z8Ua hx
   subst this
   obtain⟨g',h1,h2,h3,_⟩:=z94a hI hS n (d.map .slot)
   exact⟨_,_,w,hrun,.inl rfl,g',h1,h2,h3⟩

def z1rc (K:Cx) (op:Op) (c x y:Arg):Bool:=match op with| .pick c' x' y'=>z8ua K c' c&&z8ua K x' x&&z8ua K y' y|_=>false
theorem z6Hc (hI:Inv K base g w getB) (hS:z2v K g w get a) {c x y:Arg} (h:z1rc K o.op c x y=true) (hok:okp K.E get getB (.pick c x y)):z3Ua K base a get getB d o (.pick c x y) w:=by
 unfold z1rc at h
 split at h
 ·rename_i c' x' y' ho
  simp only[Bool.and_eq_true] at h
  obtain⟨⟨hc,hx⟩,hy⟩:=h
  obtain⟨_,hcv⟩:=z3kb (z3qa hI hS hc) hok
  refine z7qa (v:=if asB (arg K.E get c) then a.eval x' else a.eval y') hI hS rfl ?_ ?_
  ·simp only[execOp,ho,hcv,asBool]
   rfl
  ·split
   ·exact Rep.dem _ (z3qa hI hS hx)
   ·exact Rep.dem _ (z3qa hI hS hy)
 ·cases h

/-! ### arithmetic -/
def z0Zc (K:Cx) (op:Op) (bo:BinOp) (x y:Arg):Bool:=match op with| .binOp bo' _ x' y' _=>decide (bo=bo')&&z8ua K x' x&&z8ua K y' y|_=>false
theorem z74c (hI:Inv K base g w getB) (hS:z2v K g w get a) {bo:BinOp} {x y:Arg} (h:z0Zc K o.op bo x y=true) (hok:okp K.E get getB (.bin bo x y)):z3Ua K base a get getB d o (.bin bo x y) w:=by
 unfold z0Zc at h
 split at h
 ·rename_i bo' t x' y' _ ho
  simp only[Bool.and_eq_true,decide_eq_true_eq] at h
  obtain⟨⟨rfl,hx⟩,hy⟩:=h
  obtain⟨⟨u,hu⟩,⟨v,hv⟩⟩:=z8Oc hok
  have e1:=z66b (z3qa hI hS hx) hu
  have e2:=z66b (z3qa hI hS hy) hv
  obtain⟨h1,h2⟩:=z6zd (P:=K.P) w bo t x' y' hu hv hok
  refine z7qa hI hS (c:=z9c bo (arg K.E get x) (arg K.E get y)) (v:=asV (z9c bo (arg K.E get x) (arg K.E get y))) rfl ?_ (by rw[h2];exact z5Ia _ _)
  simp only[execOp,ho,e1,e2]
  rw[Sem.run_bind,h1]
  rfl
 ·cases h

def z3md (K:Cx) (op:Op) (uo:UnOp) (x:Arg):Bool:=match op with| .unOp uo' _ x'=>decide (uo=uo')&&z8ua K x' x|_=>false
theorem z3qd (hI:Inv K base g w getB) (hS:z2v K g w get a) {uo:UnOp} {x:Arg} (h:z3md K o.op uo x=true) (hok:okp K.E get getB (.un uo x)):z3Ua K base a get getB d o (.un uo x) w:=by
 unfold z3md at h
 split at h
 ·rename_i uo' t x' ho
  simp only[Bool.and_eq_true,decide_eq_true_eq] at h
  obtain⟨rfl,hx⟩:=h
  obtain⟨u,hu⟩:=z66c hok
  have e1:=z66b (z3qa hI hS hx) hu
  obtain⟨h1,h2⟩:=z3Od (P:=K.P) w uo hu hok
  refine z7qa hI hS (c:=unV uo (arg K.E get x)) (v:=asV (unV uo (arg K.E get x))) rfl ?_ (by rw[h2];exact z5Ia _ _)
  simp only[execOp,ho,e1,Sem.run_bind,h1,Result.andThen_ok,Sem.run_pure]
 ·cases h

def z9Gd (neg:Bool) (bo:BinOp):Bool:=match bo with| .eql=> !neg| .neq=>neg|_=>false
theorem z17b {P:Program} (w:World) {neg:Bool} {bo:BinOp} (hb:z9Gd neg bo=true) (t:TypeId) (x y:Operand) {u v:Value} {r:Bool} (hg:(eqGuard bo t x y u v).run P w= .ok () w)
  (hq:(binOp .eql t u v)=(do pure (.bool (←Op.equal t u v)))∧(binOp .neq t u v)=(do pure (.bool (!(←Op.equal t u v))))) (hr:(Op.equal t u v).run P w= .ok r w):
  ((do eqGuard bo t x y u v;binOp bo t u v):Sem Value).run P w= .ok (.bool (r !=neg)) w:=by
 rw[Sem.run_bind,hg]
 cases bo<;>simp only[z9Gd,Bool.false_eq_true] at hb
 ·simp only[Bool.not_eq_true'] at hb
  subst hb
  simp only[Result.andThen_ok,hq.1,Sem.run_bind,hr,Sem.run_pure]
  cases r<;>rfl
 ·subst hb
  simp only[Result.andThen_ok,hq.2,Sem.run_bind,hr,Sem.run_pure]
  cases r<;>rfl

def z7Lc (K:Cx) (op:Op) (neg:Bool) (x y:Arg):Bool:=match op with| .binOp bo t x' y' _=>z9Gd neg bo&&z9bb K.P t z1oc&&z8ua K x' x&&z8ua K y' y|_=>false
theorem z32c (hI:Inv K base g w getB) (hS:z2v K g w get a) {neg:Bool} {x y:Arg} (h:z7Lc K o.op neg x y=true) (hok:okp K.E get getB (.eqb neg x y)):z3Ua K base a get getB d o (.eqb neg x y) w:=by
 unfold z7Lc at h
 split at h
 ·rename_i bo t x' y' _ ho
  simp only[Bool.and_eq_true] at h
  obtain⟨⟨⟨hb,ht⟩,hx⟩,hy⟩:=h
  obtain⟨D,hu,hD⟩:=z3wa ht
  have:=z2Bc hD
  subst this
  obtain⟨_,e1⟩:=z3kb (z3qa hI hS hx) hok.1
  obtain⟨_,e2⟩:=z3kb (z3qa hI hS hy) hok.2
  refine z7qa hI hS rfl (v:= .bool ((asB (arg K.E get x)==asB (arg K.E get y)) !=neg)) ?_ (z5Ia _ _)
  simp only[execOp,ho,e1,e2]
  rw[Sem.run_bind,z17b w hb t x' y' (z4Ja w bo t x' y' trivial) ⟨rfl,rfl⟩ (run_equal_bool w t _ _ hu)]
  rfl
 ·cases h

theorem z1yb:∀{ks:List LK} {cs:List z0a} {vs:List Value},z2b K.toCon g w cs vs→z6n ks cs→z1Ga ks vs=true∧∀{cs':List z0a} {vs':List Value},z2b K.toCon g w cs' vs'→z6n ks cs'→decide (vs.map z67a=vs'.map z67a)=z7s ks cs cs'
 |[],[],vs,h,_=>by
  simp only[z2b] at h;subst h
  refine⟨rfl,fun {cs' vs'} h' hk=> ?_⟩
  cases cs' with
  |nil=>simp only[z2b] at h';subst h';simp[z7s]
  |cons _ _=>simp[z6n] at hk
 |[],_::_,_,_,h=>by simp[z6n] at h
 |_::_,[],_,_,h=>by simp[z6n] at h
 |k::ks,c::cs,vs,h,hk=>by
  simp only[z2b] at h
  obtain⟨x,xs,rfl,h1,h2⟩:=h
  simp only[z6n] at hk
  obtain⟨hm,hrest⟩:=z1yb h2 hk.2
  have one:∀{c:z0a} {x:Value},Rep K.toCon g w none c x→z91d k c→z4Gd k x=true∧(c= .lit x):=fun {c x} hr ho=>by
   cases k<;>(unfold z91d at ho;split at ho<;>simp_all)<;>(simp only[Rep] at hr;subst hr;simp_all [z4Gd])
  obtain⟨o1,e1⟩:=one h1 hk.1
  refine⟨by simp[z1Ga,o1,hm],fun {cs' vs'} h' hk'=> ?_⟩
  cases cs' with
  |nil=>simp[z6n] at hk'
  |cons c' cs'=>
   simp only[z2b] at h'
   obtain⟨x',xs',rfl,h1',h2'⟩:=h'
   simp only[z6n] at hk'
   obtain⟨o1',e1'⟩:=one h1' hk'.1
   have:=hrest h2' hk'.2
   simp only[List.map_cons,List.cons.injEq,Bool.decide_and,z7s,this]
   congr 1
   rw[e1,e1']
   cases k<;>cases x<;>simp[z4Gd] at o1<;>cases x'<;>simp[z4Gd] at o1'<;>simp[z67a,z15d,asI,asB,asS]<;>exact Bool.eq_iff_iff.2 (by simp)

def z3Pc (K:Cx) (op:Op) (ks:List LK) (neg:Bool) (x y:Arg):Bool:=
 match op with
 | .binOp bo t x' y' _=>z9Gd neg bo&&z9bb K.P t (fun D=>D.isRow)&&decide (z3Nb K.P 9 t=some ks)&& !(K.P.eqGuardType K.P.depth t)&&z8ua K x' x&&z8ua K y' y
 |_=>false
theorem z6bd (hI:Inv K base g w getB) (hS:z2v K g w get a) {ks:List LK} {neg:Bool} {x y:Arg} (h:z3Pc K o.op ks neg x y=true) (hok:okp K.E get getB (.eqF ks neg x y)):z3Ua K base a get getB d o (.eqF ks neg x y) w:=by
 unfold z3Pc at h
 split at h
 ·rename_i bo t x' y' _ ho
  simp only[Bool.and_eq_true,decide_eq_true_eq,Bool.not_eq_true'] at h
  obtain⟨⟨⟨⟨⟨hb,ht⟩,hf⟩,hgd⟩,hx⟩,hy⟩:=h
  have rx:=z3qa hI hS hx
  have ry:=z3qa hI hS hy
  simp only[okp] at hok
  split at hok
  ·rename_i xs ys ex ey
   rw[ex] at rx
   rw[ey] at ry
   simp only[Rep] at rx ry
   obtain⟨ax,vx,rx⟩:=rx
   obtain⟨ay,vy,ry⟩:=ry
   obtain⟨m1,hd⟩:=z1yb rx hok.1
   obtain⟨m2,_⟩:=z1yb ry hok.2
   obtain⟨D,hu,hD⟩:=z3wa ht
   have hmk:∀l:Array Value,mkv K.P t l.toList= .agg l:=fun l=>by
    unfold mkv
    rw[hu]
    cases D<;>simp[TypeDesc.isRow] at hD<;>simp
   have hq:=z9cb (P:=K.P) 9991 9 t ks hf w ax.toList ay.toList m1 m2
   rw[hmk,hmk,hd ry hok.2] at hq
   refine z7qa hI hS (c:= .lit (.bool (z7s ks xs ys !=neg))) (v:= .bool (z7s ks xs ys !=neg)) (by simp[eff,ex,ey,z4c]) ?_ (z5Ia _ _)
   simp only[execOp,ho,vx,vy]
   have hgu:(eqGuard bo t x' y' (.agg ax) (.agg ay)).run K.P w= .ok () w:=by
    cases bo<;>simp[z9Gd] at hb<;>simp[eqGuard,hgd]
   rw[Sem.run_bind,z17b w hb t x' y' hgu ⟨rfl,rfl⟩ (show(Op.equal t (.agg ax) (.agg ay)).run K.P w=_ from hq)]
   rfl
  ·cases hok
 ·cases h

def z85b (K:Cx) (op:Op) (neg:Bool) (x y:Arg):Bool:=match op with| .binOp bo t x' y' _=>z9Gd neg bo&&z9bb K.P t z8Sc&&z8ua K x' x&&z8ua K y' y|_=>false
theorem z5jd {l:Option Loc} {m:z4r} {b:Bool} {n:Nat} {cs:List z0a} {v:Value} (h:Rep K.toCon g w l (.sl m (some b) n cs) v):∃a k c,v= .slice a k c∧a.isNone=b:=by
 have:z9b K.toCon g.S w (.sl .plain (some b) n cs) v:=by
  cases m<;>simp only[Rep] at h
  ·exact h
  ·simp only[z9b] at h⊢
   rcases h with⟨b,o,cap,h1,h2,h3,h4,_⟩|h
   ·exact .inl ⟨b,o,cap,h1,h2,h3,h4,by simp⟩
   ·exact .inr h
  ·exact h.1
 simp only[z9b] at this
 rcases this with⟨bk,o,cap,rfl,_,_,h4,_⟩|⟨q,rfl,_,_,h4⟩
 ·exact⟨_,_,_,rfl,by cases b<;>simp_all⟩
 ·exact⟨_,_,_,rfl,by cases b<;>cases q<;>simp_all⟩
theorem z0tb {P:Program} (w:World) (d:Nat) (t e:TypeId) (a:Option Addr) (l c:Nat) (h:P.underlying t=some (.slice e)):(Op.equalIn (d+1) t (.slice none 0 0) (.slice a l c)).run P w= .ok a.isNone w:=by
 simp[Op.equalIn,run_underlying h]
theorem z8Cc (hI:Inv K base g w getB) (hS:z2v K g w get a) {neg:Bool} {x y:Arg} (h:z85b K o.op neg x y=true) (hok:okp K.E get getB (.eqnil neg x y)):z3Ua K base a get getB d o (.eqnil neg x y) w:=by
 unfold z85b at h
 split at h
 ·rename_i bo t x' y' _ ho
  simp only[Bool.and_eq_true] at h
  obtain⟨⟨⟨hb,ht⟩,hx⟩,hy⟩:=h
  have rx:=z3qa hI hS hx
  have ry:=z3qa hI hS hy
  obtain⟨D,hu,hD⟩:=z3wa ht
  obtain⟨e,rfl⟩:=z33b hD
  simp only[okp] at hok
  split at hok
  ·rename_i m b n cs ex ey
   rw[ex] at rx
   rw[ey] at ry
   simp only[Rep] at rx
   obtain⟨aa,k,c,vy,hn⟩:=z5jd ry
   refine z7qa hI hS (c:= .lit (.bool (b !=neg))) (v:= .bool (b !=neg)) (by simp[eff,ex,ey]) ?_ (z5Ia _ _)
   simp only[execOp,ho,rx,vy]
   have hgu:(eqGuard bo t x' y' (.slice none 0 0) (.slice aa k c)).run K.P w= .ok () w:=z4Ja w bo t x' y' trivial
   have hq:(Op.equal t (.slice none 0 0) (.slice aa k c)).run K.P w= .ok b w:=by
    subst hn
    exact z0tb w 9999 t e aa k c hu
   rw[Sem.run_bind,z17b w hb t x' y' hgu ⟨rfl,rfl⟩ hq]
   rfl
  ·rename_i m b n cs ex ey
   rw[ex] at rx
   rw[ey] at ry
   simp only[Rep] at ry
   obtain⟨aa,k,c,vx,hn⟩:=z5jd rx
   refine z7qa hI hS (c:= .lit (.bool (b !=neg))) (v:= .bool (b !=neg)) (by simp[eff,ex,ey]) ?_ (z5Ia _ _)
   simp only[execOp,ho,ry,vx]
   have hgu:(eqGuard bo t x' y' (.slice aa k c) (.slice none 0 0)).run K.P w= .ok () w:=z4Ja w bo t x' y' trivial
   have hq:(Op.equal t (.slice aa k c) (.slice none 0 0)).run K.P w= .ok b w:=by
    rw[run_equal_slice_nil w t e aa k c hu,hn]
   rw[Sem.run_bind,z17b w hb t x' y' hgu ⟨rfl,rfl⟩ hq]
   rfl
  ·cases hok
 ·cases h

/-! ### lengths, least and greatest -/
def z2Wc (K:Cx) (op:Op) (str:Bool) (x:Arg):Bool:=
 match op with
 | .call c=>(match c.callee,c.args.toList,c.argTypes.toList with
  | .builtin .len,[x'],[t]=>(if str then z9bb K.P t z9wb else z9bb K.P t z8Sc)&&z8ua K x' x
  |_,_,_=>false)
 |_=>false
theorem arr1 {α:Type} {l:Array α} {x:α} (h:l.toList=[x]):l= #[x]:=Array.ext' h
theorem z3Gd {α:Type} {l:Array α} {x y:α} (h:l.toList=[x,y]):l= #[x,y]:=Array.ext' h
theorem z90c {l:Option Loc} {d:z0a} {v:Value} (h:Rep K.toCon g w l d v) (hs:z4aa d):∃a c,v= .slice a (z7e d) c:=by
 unfold z4aa at hs
 split at hs
 ·rename_i m nl n cs
  have:z9b K.toCon g.S w (.sl .plain nl n cs) v:=by
   cases m<;>simp only[Rep] at h
   ·exact h
   ·simp only[z9b] at h⊢
    rcases h with⟨b,o,cap,h1,h2,h3,h4,_⟩|h
    ·exact .inl ⟨b,o,cap,h1,h2,h3,h4,by simp⟩
    ·exact .inr h
   ·exact h.1
  simp only[z9b] at this
  rcases this with⟨bk,o,cap,rfl,_⟩|⟨q,rfl,rfl,_⟩
  ·exact⟨_,_,rfl⟩
  ·exact⟨_,_,rfl⟩
 ·simp only[Rep] at h;obtain⟨_,_,_,_,rfl,_⟩:=h;exact⟨_,_,rfl⟩
 ·simp only[Rep] at h;subst h;exact⟨_,_,rfl⟩
 ·cases hs
theorem z94c (hI:Inv K base g w getB) (hS:z2v K g w get a) {str:Bool} {x:Arg} (h:z2Wc K o.op str x=true) (hok:okp K.E get getB (.len str x)):z3Ua K base a get getB d o (.len str x) w:=by
 unfold z2Wc at h
 split at h
 ·rename_i c ho
  split at h
  ·rename_i x' t hc hargs hts
   obtain⟨callee,args,ts⟩:=c
   simp only at hc hargs hts
   subst hc
   have:=arr1 hargs
   subst this
   have:=arr1 hts
   subst this
   simp only[Bool.and_eq_true] at h
   obtain⟨ht,hx⟩:=h
   have rx:=z3qa hI hS hx
   simp only[okp] at hok
   refine z7qa hI hS (c:= .lit (.int .i64 (z7e (arg K.E get x)))) (v:= .int .i64 (z7e (arg K.E get x))) (by simp[eff]) ?_ (z5Ia _ _)
   cases str with
   |true=>
    simp only[if_true] at ht hok
    obtain⟨D,hu,hD⟩:=z3wa ht
    have:=z2Ya hD
    subst this
    obtain⟨e0,e1⟩:=z9Hb rx hok
    have hsl:z7e (arg K.E get x)=(asS (arg K.E get x)).size:=by rw[e0];rfl
    simp[execOp,ho,resolve,invoke,builtin,Builtin.len_,e1,run_underlying hu,goInt,hsl]
   |false=>
    simp only[Bool.false_eq_true,if_false] at ht hok
    obtain⟨D,hu,hD⟩:=z3wa ht
    obtain⟨e,rfl⟩:=z33b hD
    obtain⟨aa,c,e1⟩:=z90c rx hok
    simp[execOp,ho,resolve,invoke,builtin,Builtin.len_,e1,run_underlying hu,goInt]
  ·cases h
 ·cases h

def z30b (K:Cx) (op:Op) (mx:Bool) (x y:Arg):Bool:=
 match op with
 | .call c=>(match c.callee,c.args.toList with
  | .builtin b,[x',y']=>(match b with| .min=> !mx| .max=>mx|_=>false)&&z8ua K x' x&&z8ua K y' y
  |_,_=>false)
 |_=>false
theorem z24c (hI:Inv K base g w getB) (hS:z2v K g w get a) {x y:Arg} (h:z30b K o.op false x y=true) (hok:okp K.E get getB (.min2 x y)):z3Ua K base a get getB d o (.min2 x y) w:=by
 unfold z30b at h
 split at h
 case h_2=>cases h
 rename_i c ho
 split at h
 ·rename_i b x' y' hc hargs
  obtain⟨callee,args,ts⟩:=c
  simp only at hc hargs
  subst hc
  have:=z3Gd hargs
  subst this
  simp only[Bool.and_eq_true] at h
  obtain⟨⟨hb,hx⟩,hy⟩:=h
  cases b<;>simp at hb
  obtain⟨k,e0,e1⟩:=z0bb (z3qa hI hS hx) hok.1
  obtain⟨k',e0',e1'⟩:=z0bb (z3qa hI hS hy) hok.2
  refine z7qa hI hS (c:= .lit (.int k (if asI (arg K.E get y)<asI (arg K.E get x) then asI (arg K.E get y) else asI (arg K.E get x)))) (v:= .int k (if asI (arg K.E get y)<asI (arg K.E get x) then asI (arg K.E get y) else asI (arg K.E get x))) ?_ ?_ (z5Ia _ _)
  ·simp only[eff];rw[e0,e0'];rfl
  ·simp only[execOp,ho,resolve]
   simp[e1,e1',invoke,builtin,Builtin.min_,Builtin.min2]
 ·cases h
theorem z36c (hI:Inv K base g w getB) (hS:z2v K g w get a) {x y:Arg} (h:z30b K o.op true x y=true) (hok:okp K.E get getB (.max2 x y)):z3Ua K base a get getB d o (.max2 x y) w:=by
 unfold z30b at h
 split at h
 case h_2=>cases h
 rename_i c ho
 split at h
 ·rename_i b x' y' hc hargs
  obtain⟨callee,args,ts⟩:=c
  simp only at hc hargs
  subst hc
  have:=z3Gd hargs
  subst this
  simp only[Bool.and_eq_true] at h
  obtain⟨⟨hb,hx⟩,hy⟩:=h
  cases b<;>simp at hb
  obtain⟨k,e0,e1⟩:=z0bb (z3qa hI hS hx) hok.1
  obtain⟨k',e0',e1'⟩:=z0bb (z3qa hI hS hy) hok.2
  refine z7qa hI hS (c:= .lit (.int k (if asI (arg K.E get y)>asI (arg K.E get x) then asI (arg K.E get y) else asI (arg K.E get x)))) (v:= .int k (if asI (arg K.E get y)>asI (arg K.E get x) then asI (arg K.E get y) else asI (arg K.E get x))) ?_ ?_ (z5Ia _ _)
  ·simp only[eff];rw[e0,e0'];rfl
  ·simp only[execOp,ho,resolve]
   simp[e1,e1',invoke,builtin,Builtin.max_,Builtin.max2]
 ·cases h

end
end Go.Abs
end

section
namespace Go.Abs

section
variable {K : Cx} {base : z4f} {g g' : Gh} {w w' : World} {get : Nat → z0a} {getB : Nat → Option (List z0a)} {a : Act} {o : Oper} {d : Option Nat}

/-! ### conversions -/
def z9La (K:Cx) (op:Op) (f:TypeId→TypeId→Bool) (x:Arg):Bool:=match op with| .convert s t x'=>f s t&&z8ua K x' x|_=>false
def z7Wb (P:Program) (t:TypeId):Bool:=match P.underlying t with|some (.slice e)=>z9bb P e (z7zc .u8)&&z2Ka P e 1|_=>false
def z5nd (P:Program) (k:IntKind) (s t:TypeId):Bool:=z9bb P s (fun _=>true)&&z9bb P t (z7zc k)
def z7jd (P:Program) (s t:TypeId):Bool:=z7Wb P s&&z9bb P t z9wb
def z2nc (P:Program) (s t:TypeId):Bool:=z9bb P s z9wb&&z7Wb P t
def z8Ic (P:Program) (s t:TypeId):Bool:=z9bb P s z9wb&&z9bb P t z9wb

theorem z3Jb {P:Program} {t:TypeId} (h:z7Wb P t=true):∃e,P.underlying t=some (.slice e)∧P.underlying e=some (.int .u8)∧z2Ka P e 1=true:=by
 unfold z7Wb at h
 split at h
 ·rename_i e hu
  simp only[Bool.and_eq_true] at h
  obtain⟨D,h1,h2⟩:=z3wa h.1
  have:=z69b h2
  subst this
  exact⟨e,hu,h1,h.2⟩
 ·cases h

theorem z8Bc (hI:Inv K base g w getB) (hS:z2v K g w get a) {k:IntKind} {x:Arg} (h:z9La K o.op (z5nd K.P k) x=true) (hok:okp K.E get getB (.toInt k x)):z3Ua K base a get getB d o (.toInt k x) w:=by
 unfold z9La at h
 split at h
 ·rename_i s t x' ho
  simp only[Bool.and_eq_true,z5nd] at h
  obtain⟨⟨hs,ht⟩,hx⟩:=h
  obtain⟨k',e0,e1⟩:=z0bb (z3qa hI hS hx) hok
  obtain⟨D,hu,_⟩:=z3wa hs
  obtain⟨D',hu',hD⟩:=z3wa ht
  have:=z69b hD
  subst this
  refine z7qa hI hS rfl (v:= .int k (k.wrap (asI (arg K.E get x)))) ?_ (z5Ia _ _)
  simp only[execOp,ho,e1,convert,Sem.run_bind,run_underlying hu,run_underlying hu',Result.andThen_ok,Conv.intToInt,Sem.run_pure]
 ·cases h

theorem z6Lc (hI:Inv K base g w getB) (hS:z2v K g w get a) {x:Arg} (h:z9La K o.op (z8Ic K.P) x=true) (hok:okp K.E get getB (.same x)):z3Ua K base a get getB d o (.same x) w:=by
 unfold z9La at h
 split at h
 ·rename_i s t x' ho
  simp only[Bool.and_eq_true,z8Ic] at h
  obtain⟨⟨hs,ht⟩,hx⟩:=h
  obtain⟨e0,e1⟩:=z9Hb (z3qa hI hS hx) hok
  obtain⟨D,hu,hD0⟩:=z3wa hs
  have:=z2Ya hD0
  subst this
  obtain⟨D',hu',hD⟩:=z3wa ht
  have:=z2Ya hD
  subst this
  refine z7qa hI hS (c:= .lit (.string (asS (arg K.E get x)))) (v:= .string (asS (arg K.E get x))) (by simp only[eff];rw[←e0]) ?_ (z5Ia _ _)
  simp only[execOp,ho,e1,convert,Sem.run_bind,run_underlying hu,run_underlying hu',Result.andThen_ok,Sem.run_pure]
 ·cases h

theorem z9Ka {P:Program} (w:World) (x:Addr):(loadCells x 0).run P w= .ok #[] w:=by simpa using run_loadCells_list (P:=P) w x [] (by simp)

theorem z2Qc {P:Program} (w:World) {s t e:TypeId} (hs:P.underlying s=some (.slice e)) (he:P.underlying e=some (.int .u8)) (ht:P.underlying t=some .string) {v:Value} {n:Nat} (ns:List Int) (hn:ns.length=n)
  (hv:(∃q:Option Addr,v= .slice q 0 0∧ns=[])∨∃bk o cap,v= .slice (some ⟨bk,o,none⟩) n cap∧w.rangeAt bk o (ns.map (Value.int .u8))):
  (convert s t v).run P w= .ok (.string (ns.foldl (fun r n=>r.push (UInt8.ofNat n.toNat)) ByteArray.empty)) w:=by
 rcases hv with⟨q,rfl,rfl⟩|⟨bk,o,cap,rfl,hr⟩
 ·cases q with
  |none=>simp[convert,run_underlying hs,run_underlying ht,run_underlying he,Conv.bytesToString]
  |some q=>
   simp only[convert,Sem.run_bind,run_underlying hs,run_underlying ht,run_underlying he,Result.andThen_ok]
   exact run_bytesToString w q 0 0 [] (z9Ka w q)
 ·have hl:(loadCells ⟨bk,o,none⟩ n).run P w= .ok (ns.map (Value.int .u8)).toArray w:=by
   have:=run_loadCells_list (P:=P) w ⟨bk,o,none⟩ (ns.map (Value.int .u8)) (fun j v hv=>by rw[Addr.add_mid];exact hr j v hv)
   rwa[List.length_map,hn] at this
  simp only[convert,Sem.run_bind,run_underlying hs,run_underlying ht,run_underlying he,Result.andThen_ok]
  exact run_bytesToString w ⟨bk,o,none⟩ n cap ns hl

theorem z4Xc:∀{cs:List z0a} {vs:List Value},z2b K.toCon g w cs vs→(∀c∈cs,z28 .u8 c)→vs=(cs.map asI).map (Value.int .u8)
 |[],vs,h,_=>by simp only[z2b] at h;subst h;rfl
 |c::cs,vs,h,hc=>by
  simp only[z2b] at h
  obtain⟨x,xs,rfl,h1,h2⟩:=h
  have:=hc c (by simp)
  unfold z28 at this
  split at this
  ·subst this
   simp only[Rep] at h1
   subst h1
   rw[z4Xc h2 (fun c hm=>hc c (by simp[hm]))]
   rfl
  ·cases this

theorem z6Bc (hI:Inv K base g w getB) (hS:z2v K g w get a) {b:Option Nat} {x:Arg} (h:z9La K o.op (z7jd K.P) x=true) (hok:okp K.E get getB (.toStr b x)):z3Ua K base a get getB d o (.toStr b x) w:=by
 unfold z9La at h
 split at h
 ·rename_i s t x' ho
  simp only[Bool.and_eq_true,z7jd] at h
  obtain⟨⟨hs,ht⟩,hx⟩:=h
  obtain⟨e,hu,he,_⟩:=z3Jb hs
  obtain⟨D',hu',hD⟩:=z3wa ht
  have:=z2Ya hD
  subst this
  obtain⟨vs,h1,h2,h3⟩:=z4Kc hI hok.1 (z3qa hI hS hx)
  have hvs:=z4Xc h1 hok.2
  have hlen:((z0c (bxl getB b) (arg K.E get x)).map asI).length=z7e (arg K.E get x):=by
   rw[List.length_map,h1.len,h2,Nat.mul_one]
  refine z7qa hI hS rfl (v:= .string (z9e (z0c (bxl getB b) (arg K.E get x)))) ?_ (z5Ia _ _)
  simp only[execOp,ho]
  rw[Sem.run_bind,z2Qc w hu he hu' ((z0c (bxl getB b) (arg K.E get x)).map asI) hlen (by
   rcases h3 with⟨q,k1,k2,k3⟩|⟨bk,o,cap,k1,_,k2⟩
   ·left
    refine⟨q,k1,List.eq_nil_of_length_eq_zero ?_⟩
    rw[hlen,k3]
   ·right
    exact⟨bk,o,cap,k1,by rw[←hvs];exact k2⟩)]
  rw[foldl_push_bytes]
  simp only[Result.andThen_ok,Sem.run_pure,z9e,List.map_map]
  congr 3
  show(ByteArray.mk (#[]++_))=_
  simp
 ·cases h

theorem z6ae (s:ByteArray):s.data.toList.length=s.size:=by rw[Array.length_toList];rfl

theorem z3Vd {S:Nat→Nat} (s:ByteArray) (b n:Nat) (hS:n≤S b) (hn:s.data.toList.length=n) (hc:∀j (hj:j<s.data.size),w.cell? ⟨b,j,none⟩=some (.int .u8 (s.data[j].toNat:Int))):
  z4b K.toCon S w (z3i s.data.toList) b 0:=z4b.mk fun i c hi=>by
 simp only[z3i,List.getElem?_map] at hi
 cases hl:s.data.toList[i]? with
 |none=>simp[hl] at hi
 |some u=>
  simp only[hl,Option.map_some,Option.some.injEq] at hi
  subst hi
  obtain⟨hlt,hu⟩:=List.getElem?_eq_some_iff.1 hl
  have hlt':i<s.data.size:=by simpa using hlt
  refine⟨by omega,_,by rw[Nat.zero_add];exact hc i hlt',?_⟩
  simp only[z9b]
  rw[←hu]
  rfl

theorem z9gc (hI:Inv K base g w getB) (hS:z2v K g w get a) {x:Arg} (h:z9La K o.op (z2nc K.P) x=true) (hok:okp K.E get getB (.toBytes x)):z3Ua K base a get getB d o (.toBytes x) w:=by
 unfold z9La at h
 split at h
 ·rename_i s t x' ho
  simp only[Bool.and_eq_true,z2nc] at h
  obtain⟨⟨hs,ht⟩,hx⟩:=h
  obtain⟨e,hu,he,_⟩:=z3Jb ht
  obtain⟨D',hu',hD⟩:=z3wa hs
  have:=z2Ya hD
  subst this
  obtain⟨e0,e1⟩:=z9Hb (z3qa hI hS hx) hok
  have hrun:=run_bytes_of_string (P:=K.P) w s t e (asS (arg K.E get x)) hu' hu he
  generalize hcap:grownCap w (asS (arg K.E get x)).size 0 e=cap at hrun
  have hge:(asS (arg K.E get x)).size≤cap:=by rw[←hcap];exact grownCap_ge _ _ _ _
  generalize asS (arg K.E get x)=str at*
  have hsz:(bytesRow str cap).size=cap:=by
   have e:str.data.size=str.size:=rfl
   simp only[bytesRow,Array.size_append,Array.size_map,Array.size_replicate,e]
   omega
  have hrun':(execOp a.eval o).run K.P w= .ok (.value (.slice (some ⟨w.heap.size,0,none⟩) str.size cap)) (w.drew.alloc (.cells (bytesRow str cap) e ((bytesRow str cap).size,(bytesRow str cap).size+1))):=by
   simp only[execOp,ho,e1]
   rw[Sem.run_bind,hrun]
   rfl
  refine⟨_,_,_,hrun',.inl rfl,z7Ra g w.heap.size str.size (d.map .slot),z46a (z9Eb hI) _ _ _,(z9Wa (z9Eb hI) _ _ _).slots (z6tb.slots hS),?_⟩
  ·have hcell:∀j (hj:j<str.data.size),(w.drew.alloc (.cells (bytesRow str cap) e ((bytesRow str cap).size,(bytesRow str cap).size+1))).cell? ⟨w.heap.size,j,none⟩=some (.int .u8 (str.data[j].toNat:Int)):=fun j hj=>by
    have:=World.cell?_alloc_mark w.drew (bytesRow str cap) e ((bytesRow str cap).size,(bytesRow str cap).size+1) j
    rw[show w.drew.heap.size=w.heap.size from rfl] at this
    rw[this]
    exact bytesRow_at str cap j hj
   have hp:z9b K.toCon (z7Ra g w.heap.size str.size (d.map .slot)).S (w.drew.alloc (.cells (bytesRow str cap) e ((bytesRow str cap).size,(bytesRow str cap).size+1))) (.sl .plain (some false) str.size (z3i str.data.toList)) (.slice (some ⟨w.heap.size,0,none⟩) str.size cap):=by
    simp only[z9b]
    exact .inl ⟨_,_,_,rfl,hge,z3Vd str _ str.size (by simp[z7Ra]) (z6ae str) hcell,by simp,by simp⟩
   have hef:(eff K.E get getB (.toBytes x)).val= .sl (.own 1) (some false) str.size (z3i str.data.toList):=by simp only[eff,e0,asS]
   rw[hef]
   simp only[Rep]
   refine⟨hp,fun l hl=> .inr ⟨_,cap,rfl,hge,by rw[z3i,List.length_map,z6ae,Nat.mul_one],by simp[z7Ra],by simp[z7Ra,hl],?_⟩⟩
   have:=z6Ia w.drew (bytesRow str cap) e ((bytesRow str cap).size,(bytesRow str cap).size+1) (fun i hi=>by simp;omega) 0 (cap*1) (by rw[hsz];omega)
   exact this
 ·cases h

/-! ### a slice of letters that is shared with a string's kind -/
def z1Xc (P:Program) (s t:TypeId):Bool:=s==t&&z7Wb P s
theorem z5pc (w:World) (a:Addr) (n:Nat) (x:Addr):(w.freeze a n).cell? x=w.cell? x:=by
 unfold World.freeze
 split
 ·rfl
 ·simp only[World.cell?,Array.getElem?_modify]
  by_cases h:a.block=x.block
  ·rw[if_pos h]
   cases hx:w.heap[x.block]? with
   |none=>rfl
   |some o=>cases o with
    |cells c e fr=>obtain⟨lo,hi⟩:=fr;rfl
    |_=>rfl
  ·rw[if_neg h]
theorem z2Lb (w:World) (a:Addr) (n k:Nat) (h:k≠a.block):(w.freeze a n).heap[k]? =w.heap[k]? :=by
 unfold World.freeze
 split
 ·rfl
 ·simp only[Array.getElem?_modify]
  rw[if_neg (fun e=>h e.symm)]
theorem z8lc (w:World) (a:Addr) (n:Nat):(w.freeze a n).heap.size=w.heap.size:=by
 unfold World.freeze
 split
 ·rfl
 ·simp
theorem z84b (w:World) (a:Addr) (n:Nat) (x:Addr) (h:x.block≠a.block):(w.freeze a n).frozen? x=w.frozen? x:=by
 simp only[World.frozen?,z2Lb w a n _ h]
theorem z4Ic (hI:Inv K base g w getB) (hS:z2v K g w get a) {x:Nat} (h:z9La K o.op (z1Xc K.P) (.s x)=true) (hok:okp K.E get getB (.mark x)):z3Ua K base a get getB d o (.mark x) w:=by
 unfold z9La at h
 split at h
 ·rename_i s t x' ho
  simp only[Bool.and_eq_true,z1Xc,beq_iff_eq] at h
  obtain⟨⟨rfl,hs⟩,hx⟩:=h
  have:=z8Ua hx
  subst this
  obtain⟨e,hu,he,_⟩:=z3Jb hs
  simp only[okp] at hok
  split at hok
  ·rename_i n c cs hget
   have hr:=hS x
   rw[hget] at hr
   simp only[Rep] at hr
   obtain⟨hp,ho'⟩:=hr
   obtain⟨b,cap,hv,hle,hlen,hSb,how,hth⟩:z7l g w (.slot x) 1 n (c::cs).length (a.tmps.getD x undef):=by
    rcases ho' _ rfl with(h1|⟨_,h1⟩)|h1
    ·rw[h1] at hp
     simp[z9b] at hp
    ·cases h1
    ·exact h1
   obtain⟨hB,hbs⟩:=hI.owW b _ how
   have hev:a.eval (.tmp x)=a.tmps.getD x undef:=rfl
   let W:=match w.shape? b with|some (_,m)=>w.freeze ⟨b,m,none⟩ 1|none=>w
   have hW:∀y,W.cell? y=w.cell? y:=fun y=>by simp only[W];split<;>simp[z5pc]
   have hWb:∀k,k≠b→W.heap[k]? =w.heap[k]? :=fun k hk=>by
    simp only[W];split
    ·exact z2Lb _ _ _ _ hk
    ·rfl
   have hWs:W.heap.size=w.heap.size:=by simp only[W];split<;>simp[z8lc]
   have hWf:∀y:Addr,y.block≠b→W.frozen? y=w.frozen? y:=fun y hy=>by
    simp only[W];split
    ·exact z84b _ _ _ _ hy
    ·rfl
   have hWo:W.os=w.os∧W.tape=w.tape∧W.output=w.output:=by simp only[W,World.freeze];split<;>simp
   have hrun:(execOp a.eval o).run K.P w= .ok (.value (a.tmps.getD x undef)) W:=by
    simp only[execOp,ho,hev,hv,convert,Sem.run_bind,run_underlying hu,run_underlying he,Result.andThen_ok,beq_self_eq_true,markStringish]
    simp only[W]
    cases hsh:w.shape? b with
    |none=>simp[hsh]
    |some q=>obtain⟨q1,q2⟩:=q;simp[hsh]
   let g1:Gh:={g with ow:=fun y=>if y=b then none else g.ow y}
   have hk:z9d g.S w g1.S W:=fun b' i y hi hc=>⟨hi,by rw[hW];exact hc⟩
   have hown:∀m:Loc,m≠ .slot x→z8f g w g1 W m m:=fun m hm b' hb'=>by
    have hne:b'≠b:=fun e=>by rw[e,how] at hb';exact hm (Option.some.inj hb').symm
    refine⟨by simp only[g1,if_neg hne];exact hb',rfl,fun o' n' ht j hj=> ?_⟩
    obtain⟨t1,t2⟩:=ht j hj
    exact⟨by rw[hW];exact t1,by rw[hWf _ hne];exact t2⟩
   have rep:∀{d':z0a} {v':Value} {l:Option Loc},l≠some (.slot x)→Rep K.toCon g w l d' v'→Rep K.toCon g1 W l d' v':=fun {d' v' l} hl hr=>
    Rep.mono hk d' v' l l (fun id _ b' hb'=>hb') (fun m hm=>⟨m,hm,hown m (fun e=>hl (by rw[hm,e]))⟩) hr
   refine⟨_,_,W,hrun,.inl rfl,g1,⟨?_,hI.sS,hI.inj,fun id cs' hc=> ?_,hI.nobx,fun id b' hb'=> ?_,fun b' l hb'=> ?_,fun m hm=>z4b.mono hk _ _ _ (hI.glob m hm),hI.kp.trans hk,fun id b' cs' ho hb' hc hd=>by
    simp only[eff,z6Kb] at hc
    refine z8t.keep (hI.obok id b' cs' ho hb' (by simpa[z6Kb,lk] using hc) hd) (hWb b' fun e=> ?_) fun k hk'=> ?_
    ·have:=(hI.muW id b' hb').2.2
     rw[e,how] at this;cases this
    ·have hkb:k≠b:=fun e=>by rw[e,how] at hk';cases hk'
     exact⟨by simp only[g1,if_neg hkb];exact hk',hWb k hkb⟩,hI.old⟩,fun s'=> ?_,?_⟩
   ·refine⟨hWo.1.trans hI.fr.os,hWo.2.1.trans hI.fr.tape,hWo.2.2.trans hI.fr.output,by rw[hWs];exact hI.fr.size,fun k hk1 hk2=> ?_⟩
    rw[hWb k (fun e=>hB.elim (fun h3=>by omega) (fun h3=>hk2 (e▸h3)))]
    exact hI.fr.block k hk1 hk2
   ·simp only[eff,z6Kb] at hc
    obtain⟨b',k1,k2,k3⟩:=hI.bxok id cs' (by simpa[z6Kb,lk] using hc)
    have hne:b'≠b:=fun e=>by
     have:=(hI.muW id b' k1).2.2
     rw[e,how] at this
     cases this
    refine⟨b',k1,k2,fun i d' hi=> ?_⟩
    obtain⟨⟨y,h4,h5⟩,h6⟩:=k3 i d' hi
    exact⟨⟨y,by rw[hW];exact h4,rep (by simp) h5⟩,by rw[hWf _ hne];exact h6⟩
   ·obtain⟨k1,k2,k3⟩:=hI.muW id b' hb'
    refine⟨k1,by rw[hWs];exact k2,?_⟩
    simp only[g1]
    split
    ·rfl
    ·exact k3
   ·simp only[g1] at hb'
    split at hb'
    ·cases hb'
    ·obtain⟨k1,k2⟩:=hI.owW b' l hb'
     exact⟨k1,by rw[hWs];exact k2⟩
   ·simp only[eff,upd,lk]
    by_cases hs':s'=x
    ·subst hs'
     simp only[if_true,Option.getD_some]
     rw[hget]
     simp only[dem,Rep]
     exact z9b.mono hk _ _ hp
    ·simp only[if_neg hs',Option.getD_none]
     exact rep (by simp;exact hs') (hS s')
   ·simp only[eff]
    rw[hget]
    simp only[dem,Rep]
    exact z9b.mono hk _ _ hp
  ·exact hok.elim
 ·cases h

/-! ### tuples, structs, arrays by value -/
def z9Mc (K:Cx) (op:Op) (i:Nat) (x:Arg):Bool:=match op with| .extract x' i'=>(i==i')&&z8ua K x' x|_=>false
theorem z0ec (hI:Inv K base g w getB) (hS:z2v K g w get a) {i:Nat} {x:Arg} (h:z9Mc K o.op i x=true) (hok:okp K.E get getB (.extract i x)):z3Ua K base a get getB d o (.extract i x) w:=by
 unfold z9Mc at h
 split at h
 ·rename_i x' i' ho
  simp only[Bool.and_eq_true,beq_iff_eq] at h
  obtain⟨rfl,hx⟩:=h
  have rx:=Rep.dem none (z3qa hI hS hx)
  simp only[okp] at hok
  split at hok
  ·rename_i vs ex
   rw[ex] at rx
   simp only[Rep] at rx
   obtain⟨ax,vx,rx⟩:=rx
   obtain⟨v,hv,hr⟩:=rx.get i (vs.getD i .undef) (by rw[List.getD,List.getElem?_eq_getElem hok];rfl)
   refine z7qa hI hS (c:=dem (vs.getD i .undef)) (v:=v) (by simp only[eff,ex]) ?_ (Rep.dem _ hr)
   have hv':ax[i]? =some v:=by rw[←Array.getElem?_toList];exact hv
   simp only[execOp,ho,vx,Instr.extract,hv',Sem.run_bind,Sem.run_pure,Result.andThen_ok]
  ·cases hok
 ·cases h

def z9lc (op:Op) (n:Nat):Bool:=match op with| .extract (.tmp t) i=>(i==0)&&(t==n)|_=>false
theorem z52b (hI:Inv K base g w getB) (hS:z2v K g w get a) {n:Nat} (h:z9lc o.op n=true) (hok:okp K.E get getB (.extractO n)):z3Ua K base a get getB d o (.extractO n) w:=by
 unfold z9lc at h
 split at h
 ·rename_i t i ho
  simp only[Bool.and_eq_true,beq_iff_eq] at h
  obtain⟨rfl,rfl⟩:=h
  simp only[okp] at hok
  split at hok
  ·rename_i e nl n cs rest ex
   obtain⟨g',hI',hS',hv,hm,hs,hmu⟩:=z94a hI hS t (d.map .slot)
   rw[ex] at hv
   simp only[Rep] at hv
   obtain⟨ax,x,xs,vx,h0,h1,_⟩:=hv
   have hv':ax[0]? =some x:=by rw[←Array.getElem?_toList,h0];rfl
   refine⟨_,x,w,?_,.inl rfl,?_⟩
   ·simp only[execOp,ho,vx,Instr.extract,hv',Sem.run_bind,Sem.run_pure,Result.andThen_ok]
   ·exact⟨g',hI',hS',by simp only[eff,ex,Rep];exact h1⟩
  ·cases hok
 ·cases h
theorem z1uc {t:TypeId} {k:Option Nat} {off:Nat} {cs:List z0a} {ax:Array Value} (hk:z0Gc K.P t k=true) (hr:z2b K.toCon g w cs ax.toList) (hoff:off+k.getD 1≤cs.length):
  ∃v,(part t ax off).run K.P w= .ok v w∧(match k with|none=>Rep K.toCon g w none (cs.getD off .undef) v|some n=>Rep K.toCon g w none (.agg ((cs.drop off).take n)) v):=by
 cases k with
 |none=>
  simp only[z0Gc,Bool.and_eq_true] at hk
  obtain⟨D,hu,hD⟩:=z3wa hk.1
  simp only[Option.getD_none] at hoff
  obtain⟨v,hv,hr⟩:=hr.get off (cs.getD off .undef) (by rw[List.getD,List.getElem?_eq_getElem (by omega)];rfl)
  have hv':ax[off]? =some v:=by rw[←Array.getElem?_toList];exact hv
  refine⟨v,?_,hr⟩
  cases D<;>simp[TypeDesc.isRow] at hD<;>simp[part,isAgg,run_underlying hu,hv']
 |some n=>
  simp only[z0Gc,Bool.and_eq_true] at hk
  obtain⟨D,hu,hD⟩:=z3wa hk.1
  simp only[Option.getD_some] at hoff
  refine⟨.agg (ax.extract off (off+n)),?_,?_⟩
  ·cases D<;>simp[TypeDesc.isRow] at hD<;>simp[part,isAgg,run_underlying hu,run_sizeOf w hk.2]
  ·simp only[Rep]
   refine⟨_,rfl,?_⟩
   rw[Array.toList_extract]
   simp only[List.extract,Nat.add_sub_cancel_left]
   exact(hr.drop off).take n

def z06b (K:Cx) (op:Op) (k:Option Nat) (off:Nat) (x:Arg):Bool:=
 match op with
 | .field t x' f=>(match K.P.underlying t with|some (.struct fs)=>(match fs[f]? with|some fd=>(fd.offset==off)&&z0Gc K.P fd.type k|none=>false)|_=>false)&&z8ua K x' x
 |_=>false
theorem z5Ec (hI:Inv K base g w getB) (hS:z2v K g w get a) {k:Option Nat} {off:Nat} {x:Arg} (h:z06b K o.op k off x=true) (hok:okp K.E get getB (.field k off x)):z3Ua K base a get getB d o (.field k off x) w:=by
 unfold z06b at h
 split at h
 ·rename_i t x' f ho
  simp only[Bool.and_eq_true] at h
  obtain⟨h,hx⟩:=h
  split at h
  ·rename_i fs hu
   split at h
   ·rename_i fd hf
    simp only[Bool.and_eq_true,beq_iff_eq] at h
    obtain⟨rfl,hk⟩:=h
    have rx:=z3qa hI hS hx
    simp only[okp] at hok
    split at hok
    ·rename_i cs ex
     rw[ex] at rx
     simp only[Rep] at rx
     obtain⟨ax,vx,rx⟩:=rx
     obtain⟨v,h1,h2⟩:=z1uc hk rx hok
     have hrun:(execOp a.eval o).run K.P w= .ok (.value v) w:=by
      simp[execOp,ho,vx,Instr.field,run_underlying hu,hf,asAgg,h1]
     cases k with
     |none=>exact z7qa hI hS (c:=dem (cs.getD fd.offset .undef)) (v:=v) (by simp only[eff,ex]) hrun (Rep.dem _ h2)
     |some n=>exact z7qa hI hS (c:= .agg ((cs.drop fd.offset).take n)) (v:=v) (by simp only[eff,ex]) hrun (z80a _ rfl h2)
    ·cases hok
   ·cases h
  ·cases h
 ·cases h

def z6mc (K:Cx) (op:Op) (k:Option Nat) (esz n:Nat) (x i:Arg):Bool:=
 match op with
 | .index t x' i'=>(match K.P.underlying t with|some (.array m e)=>(m==n)&&z2Ka K.P e esz&&z0Gc K.P e k|_=>false)&&z8ua K x' x&&z8ua K i' i
 |_=>false
theorem z2Ic (hI:Inv K base g w getB) (hS:z2v K g w get a) {k:Option Nat} {esz n:Nat} {x i:Arg} (h:z6mc K o.op k esz n x i=true) (hok:okp K.E get getB (.idxA k esz n x i)):z3Ua K base a get getB d o (.idxA k esz n x i) w:=by
 unfold z6mc at h
 split at h
 ·rename_i t x' i' ho
  simp only[Bool.and_eq_true] at h
  obtain⟨⟨h,hx⟩,hi⟩:=h
  split at h
  ·rename_i m e hu
   simp only[Bool.and_eq_true,beq_iff_eq] at h
   obtain⟨⟨rfl,hsz⟩,hk⟩:=h
   have rx:=z3qa hI hS hx
   simp only[okp] at hok
   obtain⟨hok,hii,h0,hlt⟩:=hok
   obtain⟨ki,_,vi⟩:=z0bb (z3qa hI hS hi) hii
   split at hok
   ·rename_i cs ex
    rw[ex] at rx
    simp only[Rep] at rx
    obtain⟨ax,vx,rx⟩:=rx
    obtain⟨v,h1,h2⟩:=z1uc hk rx hok
    have hrun:(execOp a.eval o).run K.P w= .ok (.value v) w:=by
     simp[execOp,ho,vx,vi,Instr.index,asIntOf,run_underlying hu,h0,hlt,run_sizeOf w hsz,h1]
    cases k with
    |none=>exact z7qa hI hS (c:=dem (cs.getD ((asI (arg K.E get i)).toNat*esz) .undef)) (v:=v) (by simp only[eff,ex]) hrun (Rep.dem _ h2)
    |some n=>exact z7qa hI hS (c:= .agg ((cs.drop ((asI (arg K.E get i)).toNat*esz)).take n)) (v:=v) (by simp only[eff,ex]) hrun (z80a _ rfl h2)
   ·cases hok
  ·cases h
 ·cases h

def z1sc (K:Cx) (op:Op) (x i:Arg):Bool:=match op with| .index t x' i'=>z9bb K.P t z9wb&&z8ua K x' x&&z8ua K i' i|_=>false
theorem z2pc (hI:Inv K base g w getB) (hS:z2v K g w get a) {x i:Arg} (h:z1sc K o.op x i=true) (hok:okp K.E get getB (.idxStr x i)):z3Ua K base a get getB d o (.idxStr x i) w:=by
 unfold z1sc at h
 split at h
 ·rename_i t x' i' ho
  simp only[Bool.and_eq_true] at h
  obtain⟨⟨ht,hx⟩,hi⟩:=h
  obtain⟨D,hu,hD⟩:=z3wa ht
  have:=z2Ya hD
  subst this
  obtain⟨hs,hii,h0,hlt⟩:=hok
  obtain⟨_,vx⟩:=z9Hb (z3qa hI hS hx) hs
  obtain⟨ki,_,vi⟩:=z0bb (z3qa hI hS hi) hii
  have hn:(asI (arg K.E get i)).toNat<(asS (arg K.E get x)).size:=by omega
  refine z7qa hI hS rfl (v:= .int .u8 ((asS (arg K.E get x)).data.toList.getD (asI (arg K.E get i)).toNat 0).toNat) ?_ (z5Ia _ _)
  have hg:(asS (arg K.E get x)).data.toList.getD (asI (arg K.E get i)).toNat 0=(asS (arg K.E get x))[(asI (arg K.E get i)).toNat]:=by
   rw[List.getD,List.getElem?_eq_getElem (by simpa using hn)]
   rfl
  rw[hg]
  simp[execOp,ho,vx,vi,Instr.index,asIntOf,run_underlying hu,h0,ByteArray.getElem?_lt' _ _ hn]
 ·cases h

def z62b (K:Cx) (op:Op) (f:Nat) (x y:List Arg):Bool:=
 match op with
 | .makeFunc (.func f') p q=>(K.nu f==f')&&argsOk p.toList x&&argsOk q.toList y
 |_=>false
where argsOk : List Operand → List Arg → Bool
 |[],[]=>true
 |x::xs,y::ys=>z8ua K x y&&argsOk xs ys
 |_,_=>false
theorem z22a (hI:Inv K base g w getB) (hS:z2v K g w get a):∀{xs:List Operand} {ys:List Arg},z62b.argsOk K xs ys=true→z2b K.toCon g w (ys.map fun y=>dem (arg K.E get y)) (xs.map a.eval)∧z2b K.toCon g w (ys.map (arg K.E get)) (xs.map a.eval)
 |[],[],_=>by simp[z2b]
 |[],_::_,h=>by simp[z62b.argsOk] at h
 |_::_,[],h=>by simp[z62b.argsOk] at h
 |x::xs,y::ys,h=>by
  simp only[z62b.argsOk,Bool.and_eq_true] at h
  have ih:=z22a hI hS h.2
  simp only[List.map_cons,z2b]
  exact⟨⟨_,_,rfl,Rep.dem _ (z3qa hI hS h.1),ih.1⟩,⟨_,_,rfl,z3qa hI hS h.1,ih.2⟩⟩
theorem z5Vc (hI:Inv K base g w getB) (hS:z2v K g w get a) {f:Nat} {x y:List Arg} (h:z62b K o.op f x y=true):z3Ua K base a get getB d o (.mkfn f x y) w:=by
 unfold z62b at h
 split at h
 ·rename_i f' p q ho
  simp only[Bool.and_eq_true,beq_iff_eq] at h
  obtain⟨⟨rfl,hx⟩,hy⟩:=h
  refine z7qa hI hS rfl (v:= .func (.func (K.nu f)) (p.map a.eval) (q.map a.eval)) ?_ ?_
  ·simp[execOp,ho,Instr.makeFunc]
  ·simp only[Rep]
   exact⟨_,_,rfl,by rw[Array.toList_map];exact(z22a hI hS hx).1,by rw[Array.toList_map];exact(z22a hI hS hy).1⟩
 ·cases h

/-! ### pointers -/
def z6ud (K:Cx) (op:Op) (off:Nat) (x:Arg):Bool:=
 match op with
 | .fieldAddr t x' f=>(match K.P.underlying t with|some (.struct fs)=>(match fs[f]? with|some fd=>(fd.offset==off)&&(match K.P.info? fd.type with|some i=>i.size !=0|none=>false)|none=>false)|_=>false)&&z8ua K x' x
 |_=>false
theorem z3Yb (hI:Inv K base g w getB) (hS:z2v K g w get a) {off:Nat} {x:Arg} (h:z6ud K o.op off x=true) (hok:okp K.E get getB (.fieldAddr off x)):z3Ua K base a get getB d o (.fieldAddr off x) w:=by
 unfold z6ud at h
 split at h
 ·rename_i t x' f ho
  simp only[Bool.and_eq_true] at h
  obtain⟨h,hx⟩:=h
  split at h
  ·rename_i fs hu
   split at h
   ·rename_i fd hf
    simp only[Bool.and_eq_true,beq_iff_eq] at h
    obtain⟨rfl,hz⟩:=h
    split at hz
    ·rename_i i hi
     simp only[bne_iff_ne,ne_eq] at hz
     have rx:=z3qa hI hS hx
     have hrun:∀b o',a.eval x'= .pointer (some ⟨b,o',none⟩)→(execOp a.eval o).run K.P w= .ok (.value (.pointer (some ⟨b,o'+fd.offset,none⟩))) w:=fun b o' e=>by
      simp[execOp,ho,e,Instr.fieldAt,run_underlying hu,hf,Instr.sureAddr,fieldPlace,sizeOf,typeInfo,hi,hz,Addr.add_mid]
     simp only[okp] at hok
     split at hok
     ·rename_i id o' ex
      rw[ex] at rx
      simp only[Rep] at rx
      obtain⟨b,hb,vx⟩:=rx
      exact z7qa hI hS (c:= .bp id (o'+fd.offset)) (by simp only[eff,ex]) (hrun b o' vx) (by simp only[Rep];exact⟨b,hb,rfl⟩)
     ·rename_i cs ex
      rw[ex] at rx
      simp only[Rep,z9b] at rx
      obtain⟨b,o',vx,hc⟩:=rx
      exact z7qa hI hS (c:= .ep (cs.drop fd.offset)) (by simp only[eff,ex]) (hrun b o' vx) (by simp only[Rep,z9b];exact⟨b,_,rfl,hc.drop _⟩)
     ·cases hok
    ·cases hz
   ·cases h
  ·cases h
 ·cases h

def z9Tc (K:Cx) (op:Op) (x:Arg):Bool:=match op with| .nilCheck x'=>z8ua K x' x|_=>false
theorem z6lc (hI:Inv K base g w getB) (hS:z2v K g w get a) {x:Arg} (h:z9Tc K o.op x=true) (hok:okp K.E get getB (.nilchk x)):z3Ua K base a get getB d o (.nilchk x) w:=by
 unfold z9Tc at h
 split at h
 ·rename_i x' ho
  have rx:=z3qa hI hS h
  simp only[okp] at hok
  split at hok
  ·rename_i id o' ex
   rw[ex] at rx
   simp only[Rep] at rx
   obtain⟨b,hb,vx⟩:=rx
   exact z7qa hI hS (v:= .pointer (some ⟨b,o',none⟩)) (c:= .bp id o') (by simp only[eff,ex]) (by simp[execOp,ho,vx]) (by simp only[Rep];exact⟨b,hb,rfl⟩)
  ·rename_i cs ex
   rw[ex] at rx
   simp only[Rep,z9b] at rx
   obtain⟨b,o',vx,hc⟩:=rx
   exact z7qa hI hS (v:= .pointer (some ⟨b,o',none⟩)) (c:= .ep cs) (by simp only[eff,ex]) (by simp[execOp,ho,vx]) (by simp only[Rep,z9b];exact⟨b,o',rfl,hc⟩)
  ·cases hok
 ·cases h

def z8Bd (K:Cx) (op:Op) (n esz:Nat) (x i:Arg):Bool:=
 match op with
 | .indexAddr t x' i'=>(match K.P.underlying t with|some (.array m e)=>(m==n)&&z2Ka K.P e esz|_=>false)&&z8ua K x' x&&z8ua K i' i
 |_=>false
theorem z1lc (hI:Inv K base g w getB) (hS:z2v K g w get a) {n esz:Nat} {x i:Arg} (h:z8Bd K o.op n esz x i=true) (hok:okp K.E get getB (.idxArr n esz x i)):z3Ua K base a get getB d o (.idxArr n esz x i) w:=by
 unfold z8Bd at h
 split at h
 ·rename_i t x' i' ho
  simp only[Bool.and_eq_true] at h
  obtain⟨⟨h,hx⟩,hi⟩:=h
  split at h
  ·rename_i m e hu
   simp only[Bool.and_eq_true,beq_iff_eq] at h
   obtain⟨rfl,hsz⟩:=h
   have rx:=z3qa hI hS hx
   simp only[okp] at hok
   obtain⟨hok,hii,h0,hlt⟩:=hok
   obtain⟨ki,_,vi⟩:=z0bb (z3qa hI hS hi) hii
   have hrun:∀b o',a.eval x'= .pointer (some ⟨b,o',none⟩)→(execOp a.eval o).run K.P w= .ok (.value (.pointer (some ⟨b,o'+(asI (arg K.E get i)).toNat*esz,none⟩))) w:=fun b o' e=>by
    simp[execOp,ho,e,vi,Instr.indexAt,asIntOf,run_underlying hu,Instr.sureAddr,h0,hlt,run_sizeOf w hsz,Addr.add_mid]
   split at hok
   ·rename_i id o' ex
    rw[ex] at rx
    simp only[Rep] at rx
    obtain⟨b,hb,vx⟩:=rx
    exact z7qa hI hS (c:= .bp id (o'+(asI (arg K.E get i)).toNat*esz)) (by simp only[eff,ex]) (hrun b o' vx) (by simp only[Rep];exact⟨b,hb,rfl⟩)
   ·rename_i cs ex
    rw[ex] at rx
    simp only[Rep,z9b] at rx
    obtain⟨b,o',vx,hc⟩:=rx
    exact z7qa hI hS (c:= .ep (cs.drop ((asI (arg K.E get i)).toNat*esz))) (by simp only[eff,ex]) (hrun b o' vx) (by simp only[Rep,z9b];exact⟨b,_,rfl,hc.drop _⟩)
   ·cases hok
  ·cases h
 ·cases h

theorem z2Ob {l:Option Loc} {m:z4r} {nl:Option Bool} {n:Nat} {cs:List z0a} {v:Value} (h:Rep K.toCon g w l (.sl m nl n cs) v):z9b K.toCon g.S w (.sl .plain nl n cs) v:=by
 cases m<;>simp only[Rep] at h
 ·exact h
 ·simp only[z9b] at h⊢
  rcases h with⟨b,o,cap,h1,h2,h3,h4,_⟩|h
  ·exact .inl ⟨b,o,cap,h1,h2,h3,h4,by simp⟩
  ·exact .inr h
 ·exact h.1

def z1Ad (K:Cx) (op:Op) (esz:Nat) (x i:Arg):Bool:=
 match op with
 | .indexAddr t x' i'=>(match K.P.underlying t with|some (.slice e)=>z2Ka K.P e esz|_=>false)&&z8ua K x' x&&z8ua K i' i
 |_=>false
theorem z5Bc (hI:Inv K base g w getB) (hS:z2v K g w get a) {esz:Nat} {x i:Arg} (h:z1Ad K o.op esz x i=true) (hok:okp K.E get getB (.idxSl esz x i)):z3Ua K base a get getB d o (.idxSl esz x i) w:=by
 unfold z1Ad at h
 split at h
 ·rename_i t x' i' ho
  simp only[Bool.and_eq_true] at h
  obtain⟨⟨h,hx⟩,hi⟩:=h
  split at h
  ·rename_i e hu
   have rx:=z3qa hI hS hx
   simp only[okp] at hok
   obtain⟨hok,hii,h0,hlt⟩:=hok
   obtain⟨ki,_,vi⟩:=z0bb (z3qa hI hS hi) hii
   have hrun:∀b o' n cap,(asI (arg K.E get i))<(n:Nat)→a.eval x'= .slice (some ⟨b,o',none⟩) n cap→(execOp a.eval o).run K.P w= .ok (.value (.pointer (some ⟨b,o'+(asI (arg K.E get i)).toNat*esz,none⟩))) w:=fun b o' n cap hl e=>by
    simp[execOp,ho,e,vi,Instr.indexAt,asIntOf,run_underlying hu,h0,hl,run_sizeOf w h,Addr.add_mid]
   split at hok
   ·rename_i id e' off n c ex
    rw[ex] at rx hlt
    simp only[z7e] at hlt
    simp only[Rep] at rx
    obtain⟨b,cap,o',hb,vx,_,_,ho'⟩:=rx
    have ho':o'=off:=by rcases ho' with rfl|⟨rfl,_⟩;rfl;simp at hlt;omega
    subst ho'
    exact z7qa hI hS (c:= .bp id (o'+(asI (arg K.E get i)).toNat*esz)) (by simp only[eff,ex]) (hrun b o' n cap hlt vx) (by simp only[Rep];exact⟨b,hb,rfl⟩)
   ·rename_i m nl n cs ex
    rw[ex] at rx hlt
    simp only[z7e] at hlt
    have rx:=z2Ob rx
    simp only[z9b] at rx
    rcases rx with⟨b,o',cap,vx,_,hc,_⟩|⟨q,vx,rfl,_⟩
    ·exact z7qa hI hS (c:= .ep (cs.drop ((asI (arg K.E get i)).toNat*esz))) (by simp only[eff,ex]) (hrun b o' n cap hlt vx) (by simp only[Rep,z9b];exact⟨b,_,rfl,hc.drop _⟩)
    ·simp at hlt;omega
   ·cases hok
  ·cases h
 ·cases h

def z1wd (K:Cx) (op:Op) (n:Nat) (x:Arg):Bool:=
 match op with
 | .sliceToArrayPointer t x'=>(match K.P.underlying t with|some (.array m _)=>m==n|_=>false)&&z8ua K x' x
 |_=>false
theorem z2Yc (hI:Inv K base g w getB) (hS:z2v K g w get a) {n:Nat} {x:Arg} (h:z1wd K o.op n x=true) (hok:okp K.E get getB (.s2ap n x)):z3Ua K base a get getB d o (.s2ap n x) w:=by
 unfold z1wd at h
 split at h
 ·rename_i t x' ho
  simp only[Bool.and_eq_true] at h
  obtain⟨h,hx⟩:=h
  split at h
  ·rename_i m e hu
   simp only[beq_iff_eq] at h
   subst h
   have rx:=z3qa hI hS hx
   have hrun:∀p k cap,m≤k→a.eval x'= .slice p k cap→(execOp a.eval o).run K.P w= .ok (.value (.pointer p)) w:=fun p k cap hl e=>by
    simp[execOp,ho,e,Instr.arrayAt,run_underlying hu,Nat.not_lt.2 hl]
   simp only[okp] at hok
   split at hok
   ·rename_i id e' off k c ex
    rw[ex] at rx
    simp only[Rep] at rx
    obtain⟨b,cap,o',hb,vx,_,_,ho'⟩:=rx
    have ho':o'=off:=by rcases ho' with rfl|⟨rfl,_⟩;rfl;omega
    subst ho'
    exact z7qa hI hS (c:= .bp id o') (by simp only[eff,ex]) (hrun _ _ _ hok.1 vx) (by simp only[Rep];exact⟨b,hb,rfl⟩)
   ·rename_i m' nl k cs ex
    rw[ex] at rx
    have rx:=z2Ob rx
    simp only[z9b] at rx
    rcases rx with⟨b,o',cap,vx,_,hc,_⟩|⟨q,vx,rfl,_⟩
    ·exact z7qa hI hS (c:= .ep cs) (by simp only[eff,ex]) (hrun _ _ _ hok.1 vx) (by simp only[Rep,z9b];exact⟨b,_,rfl,hc⟩)
    ·omega
   ·cases hok
  ·cases h
 ·cases h

end
end Go.Abs
end

section
namespace Go.Abs

section
variable {K : Cx} {base : z4f} {g g' : Gh} {w w' : World} {get : Nat → z0a} {getB : Nat → Option (List z0a)} {a : Act} {o : Oper} {d : Option Nat}

/-! ### loads -/
theorem z4xc (hI:Inv K base g w getB) {b:Option Nat} {n:Nat} {p:z0a} {v:Value} (hok:z1o getB b n p) (hn:0<n) (hr:Rep K.toCon g w none p v):
  ∃bk o vs,v= .pointer (some ⟨bk,o,none⟩)∧w.rangeAt bk o vs∧z2b K.toCon g w (z6d getB b p) vs∧n≤vs.length:=by
 unfold z1o at hok
 split at hok
 ·rename_i id off
  obtain⟨rfl,cs,hcs,hfit⟩:=hok
  simp only[Rep] at hr
  obtain⟨bk,hb,rfl⟩:=hr
  obtain⟨b',k1,k2,k3⟩:=hI.bxok id cs hcs
  rw[hb] at k1;cases k1
  have hbx:bxl getB (some id)=cs:=by simp[bxl,bxc,hcs]
  let f:Nat→Value:=fun i=>(w.cell? ⟨bk,i,none⟩).getD undef
  have hcell:∀i d,cs[i]? =some d→w.cell? ⟨bk,i,none⟩=some (f i)∧Rep K.toCon g w none d (f i):=fun i d hd=>by
   obtain⟨⟨x,h4,h5⟩,_⟩:=k3 i d hd
   have hf:f i=x:=by simp only[f,h4,Option.getD_some]
   rw[hf]
   exact⟨h4,z87a h5⟩
  refine⟨bk,off,(List.range (cs.length-off)).map fun j=>f (off+j),rfl,fun j v hv=> ?_,z2b.mk (by simp[z6d,hbx]) (fun i d v hd hv=> ?_),by simp;omega⟩
  ·have hj:j<cs.length-off:=by have:=(List.getElem?_eq_some_iff.1 hv).1;simpa using this
   rw[List.getElem?_map,List.getElem?_range hj] at hv
   simp only[Option.map_some,Option.some.injEq] at hv
   subst hv
   exact(hcell (off+j) _ (List.getElem?_eq_getElem (by omega))).1
  ·simp only[z6d,hbx,List.getElem?_drop] at hd
   have hi:i<cs.length-off:=by have:=(List.getElem?_eq_some_iff.1 hd).1;omega
   rw[List.getElem?_map,List.getElem?_range hi] at hv
   simp only[Option.map_some,Option.some.injEq] at hv
   subst hv
   exact(hcell _ d hd).2
 ·rename_i cs
  obtain⟨rfl,hfit⟩:=hok
  simp only[Rep,z9b] at hr
  obtain⟨bk,o,rfl,hc⟩:=hr
  obtain⟨vs,k1,k2,_⟩:=hc.vals
  exact⟨bk,o,vs,rfl,k1,k2,by rw[←k2.len];exact hfit⟩
 ·cases hok

def z8fc (k:Option Nat) (vs:List Value):Value:=match k with|none=>vs.headD undef|some n=> .agg (vs.take n).toArray
def z9Wb (K:Cx) (op:Op) (k:Option Nat) (x:Arg):Bool:=match op with| .load t x'=>z0Gc K.P t k&&(match k with|some n=>n !=0|none=>true)&&z8ua K x' x|_=>false

theorem z1Zb {P:Program} {t:TypeId} {k:Option Nat} (hk:z0Gc P t k=true) {bk o:Nat} {vs:List Value} (hr:w.rangeAt bk o vs) (hn:k.getD 1≤vs.length):
  (Instr.loadAt t (.pointer (some ⟨bk,o,none⟩))).run P w= .ok (z8fc k vs) w:=by
 unfold z8fc
 cases k with
 |none=>
  simp only[z0Gc,Bool.and_eq_true] at hk
  obtain⟨D,hu,hD⟩:=z3wa hk.1
  cases vs with
  |nil=>simp at hn
  |cons v r=>
   have h0:=hr 0 v (by simp)
   simp only[Nat.add_zero] at h0
   cases D<;>simp[TypeDesc.isRow] at hD<;>simp[Instr.loadAt,Instr.sureAddr,loadVar,isAgg,run_underlying hu,h0]
 |some n=>
  simp only[z0Gc,Bool.and_eq_true] at hk
  obtain⟨D,hu,hD⟩:=z3wa hk.1
  simp only[Option.getD_some] at hn
  exact run_loadAt_mid w bk o t (vs.take n) D (fun j v hv=>by
   rw[List.getElem?_take] at hv
   split at hv
   ·exact hr j v hv
   ·cases hv) hu hD (by rw[List.length_take,Nat.min_eq_left hn];exact z1Ub hk.2)

theorem z1Wc (hI:Inv K base g w getB) (hS:z2v K g w get a) {k b:Option Nat} {take:Bool} {x:Arg} (h:z9Wb K o.op k x=true) (hok:okp K.E get getB (.load k b take x)):z3Ua K base a get getB d o (.load k b take x) w:=by
 unfold z9Wb at h
 split at h
 ·rename_i t x' ho
  simp only[Bool.and_eq_true] at h
  obtain⟨⟨hk,hn0⟩,hx⟩:=h
  have hpos:0<k.getD 1:=by
   cases k with
   |none=>simp
   |some n=>simp at hn0⊢;omega
  obtain⟨bk,off,vs,hv,hr,hrl,hn⟩:=z4xc hI hok.1 hpos (z3qa hI hS hx)
  have hl:=z1Zb (P:=K.P) hk hr hn
  have hrun:(execOp a.eval o).run K.P w= .ok (.value (z8fc k vs)) w:=by
   simp only[execOp,ho,hv,Sem.run_bind,hl,Result.andThen_ok,Sem.run_pure]
  cases k with
  |some n=>
   refine z7qa hI hS (c:= .agg ((z6d getB b (arg K.E get x)).take n)) rfl hrun ?_
   simp only[Rep]
   exact⟨_,rfl,by simpa using hrl.take n⟩
  |none=>
   simp only[Option.getD_none] at hn
   cases hcs:z6d getB b (arg K.E get x) with
   |nil=>have:=hrl.len;rw[hcs] at this;simp at this;omega
   |cons c cs=>
    rw[hcs] at hrl
    simp only[z2b] at hrl
    obtain⟨v,r,rfl,h1,h2⟩:=hrl
    have plain:eff K.E get getB (.load none b take x)={val:=dem c}→z3Ua K base a get getB d o (.load none b take x) w:=fun e=>
     z7qa hI hS e hrun (Rep.dem _ h1)
    cases take with
    |false=>exact plain (by simp only[eff,hcs,hdA,List.headD_cons])
    |true=>
     cases b with
     |none=>exact plain (by simp only[eff,hcs,hdA,List.headD_cons])
     |some id=>
      cases hax:arg K.E get x with
      |bp id' off'=>
       have hob:id<1000000:=hok.2 rfl id rfl
       have hok:=hok.1
       simp only[hax,z1o,Option.some.injEq] at hok
       obtain⟨rfl,es,hes,hfit⟩:=hok
       have hbx:bxl getB (some id)=es:=by simp[bxl,bxc,hes]
       have hc:es[off']? =some c:=by
        have:(es.drop off')[0]? =some c:=by
         simp only[hax,z6d,hbx] at hcs
         rw[hcs];rfl
        simpa using this
       obtain⟨b',k1,k2,k3⟩:=hI.bxok id es hes
       obtain⟨⟨x0,hx0,hrep⟩,_⟩:=k3 off' c hc
       have hvx:v=x0:=by
        have e0:=hr 0 v (by simp)
        have rx:=z3qa hI hS hx
        rw[hax] at rx
        simp only[Rep] at rx
        obtain⟨b'',kb,kv⟩:=rx
        rw[k1] at kb;cases kb
        rw[hv] at kv
        simp only[Value.pointer.injEq,Option.some.injEq,Addr.mk.injEq] at kv
        obtain⟨rfl,rfl,_⟩:=kv
        simp only[Nat.add_zero,hx0,Option.some.injEq] at e0
        exact e0.symm
       subst hvx
       have hef:eff K.E get getB (.load none (some id) true x)={val:=c,bx:=[(id,some (es.set off' (dem (es.getD off' .undef))))]}:=by
        rw[hax] at hcs
        simp only[eff,hax,hcs,hdA,List.headD_cons,hbx]
        rw[List.getD,hc]
        rfl
       refine⟨_,v,w,hrun,.inl rfl,?_⟩
       rw[hef]
       cases d with
       |none=>
        refine⟨z4Pa g (.cell id off') .ret,z6xb hI hob hes off' .ret (by simp),z9mb hS id off' .ret,?_⟩
        exact z1ib (by simp) (z87a hrep)
       |some n=>
        exact⟨z4Pa g (.cell id off') (.slot n),z6xb hI hob hes off' (.slot n) (by simp),z9mb hS id off' (.slot n),z8Ca hrep⟩
      |_=>exact plain (by simp only[eff,hax] at hcs⊢;simp only[hcs,hdA,List.headD_cons])
 ·cases h

/-! ### stores -/
def z5ub (K:Cx) (op:Op) (k:Option Nat) (x v:Arg):Bool:=match op with| .store t x' v'=>z2Ka K.P t (k.getD 1)&&z8ua K x' x&&z8ua K v' v|_=>false

theorem z80b {k:Option Nat} {c:z0a} {v:Value} (h:Rep K.toCon g w none c v) (hk:isK k c):
  z2b K.toCon g w (z7p k c) v.cells.toList∧(∀x∈v.cells.toList,x.oneCell'=true)∧(z7p k c).length=k.getD 1∧∀x∈z7p k c,z5b x=false:=by
 cases k with
 |none=>
  simp only[isK] at hk
  have h1:=z7q h hk
  have hvc:v.cells= #[v]:=by cases v<;>simp_all [Value.cells,Value.oneCell']
  rw[hvc]
  refine⟨by simp only[z7p,z2b];exact⟨v,[],rfl,Rep.dem _ h,rfl⟩,by simpa using h1,rfl,?_⟩
  simp only[z7p,List.mem_singleton,forall_eq]
  exact z9Ua c
 |some n=>
  simp only[isK] at hk
  split at hk
  ·rename_i cs
   obtain⟨h1,h2,h3⟩:=hk
   obtain⟨k1,k2⟩:=z1dc h (by simpa[z4c] using h2)
   exact⟨k1,k2,h1,h3⟩
  ·cases hk

theorem z9Rb {P:Program} {t:TypeId} {n:Nat} (hk:z2Ka P t n=true) {bk o:Nat} {v:Value} (hn:v.cells.size=n) (h1:∀x∈v.cells.toList,x.oneCell'=true) (ht:w.there bk o n):
  (Instr.storeAt t (.pointer (some ⟨bk,o,none⟩)) v).run P w= .ok () (w.setCells bk o v.cells.toList):=by
 have hst:=run_storeCells_cells (P:=P) bk o v.cells.toList 0 w (fun j hj=>by simpa using(ht j (by simpa[hn] using hj)).1) (fun j hj=>by simpa using(ht j (by simpa[hn] using hj)).2) h1
 simp only[Nat.add_zero] at hst
 simp[Instr.storeAt,Instr.sureAddr,storeVar,run_sizeOf w hk,hn,hst]

theorem z6sb (hI:Inv K base g w getB) {id:Nat} {cs:List z0a} (hid:getB id=some cs) {bk:Nat} (hb:g.mu id=some bk) (o n:Nat) (h:o+n≤cs.length):w.there bk o n:=fun j hj=>by
 obtain⟨b',k1,_,k3⟩:=hI.bxok id cs hid
 rw[hb] at k1;cases k1
 obtain⟨⟨x,hx,_⟩,hf⟩:=k3 (o+j) _ (List.getElem?_eq_getElem (by omega))
 exact⟨by rw[hx];rfl,hf⟩

theorem z9va {α:Type} {l:List α} {i:Nat} {x:α} (h:l[i]? =some x):x∈l:=by
 obtain⟨hi,rfl⟩:=List.getElem?_eq_some_iff.1 h
 exact List.getElem_mem _

theorem z3Vb (getB:Nat→Option (List z0a)) (id:Nat) (x:Option (List z0a)) (j:Nat):z6Kb getB [(id,x)] j=if j=id then x else getB j:=by
 simp only[z6Kb,lk]
 by_cases h:j=id
 ·simp[h]
 ·simp[h]

theorem z1Ec (hI:Inv K base g w getB) (hS:z2v K g w get a) {k:Option Nat} {b:Nat} {take:Bool} {x v:Arg} (h:z5ub K o.op k x v=true) (hok:okp K.E get getB (.store k b take x v)):z3Ua K base a get getB d o (.store k b take x v) w:=by
 unfold z5ub at h
 split at h
 ·rename_i t x' v' ho
  simp only[Bool.and_eq_true] at h
  obtain⟨⟨hk,hx⟩,hv⟩:=h
  have rx:=z3qa hI hS hx
  have rv:=z3qa hI hS hv
  simp only[okp] at hok
  obtain⟨hob,hp,hkv⟩:=hok
  split at hp
  ·rename_i id off ex
   obtain⟨rfl,cs,hcs,hfit⟩:=hp
   rw[ex] at rx
   simp only[Rep] at rx
   obtain⟨bk,hb,vx⟩:=rx
   obtain⟨c1,c2,c3,c4⟩:=z80b rv hkv
   have hsz:(a.eval v').cells.size=k.getD 1:=by rw[←Array.length_toList,←c1.len,c3]
   have hrun:(execOp a.eval o).run K.P w= .ok .skip (w.setCells bk off (a.eval v').cells.toList):=by
    simp only[execOp,ho,vx]
    rw[Sem.run_bind,z9Rb (P:=K.P) hk hsz c2 (z6sb hI hcs hb off _ hfit)]
    rfl
   have hbx:bxl getB (some id)=cs:=by simp[bxl,bxc,hcs]
   have plain:eff K.E get getB (.store k id take x v)={val:= .undef,bx:=[(id,some (splice cs off (z7p k (arg K.E get v))))]}→z3Ua K base a get getB d o (.store k id take x v) w:=fun e=>by
    obtain⟨bk',k1,k2,k3⟩:=z1eb hI hob hcs off (a.eval v').cells.toList (z7p k (arg K.E get v)) c1.len (by rw[c3];exact hfit) (fun i c u hc hu=>by
     obtain⟨u',hu',hr⟩:=c1.get i c hc
     rw[hu] at hu';cases hu'
     exact z80a _ (c4 c (z9va hc)) hr)
    rw[hb] at k1;cases k1
    refine⟨_,undef,_,hrun,.inr ⟨rfl,rfl⟩,?_⟩
    rw[e]
    exact⟨g,k3,k2.slots hS,by simp[Rep]⟩
   have ep:∀(k':Option Nat) (t':Bool) (v'':Arg),(k'≠none∨t'=false∨∀n,v''≠ .s n)→eff K.E get getB (.store k' id t' x v'')={val:= .undef,bx:=[(id,some (splice cs off (z7p k' (arg K.E get v''))))]}:=fun k' t' v'' hc=>by
    cases k'<;>cases t'<;>cases v''<;>simp at hc<;>simp only[eff,ex,hbx]
   cases k with
   |some n=>exact plain (ep _ _ _ (.inl (by simp)))
   |none=>
    cases take with
    |false=>exact plain (ep _ _ _ (.inr (.inl rfl)))
    |true=>
     cases v with
     |c _=>exact plain (ep _ _ _ (.inr (.inr (by simp))))
     |g _=>exact plain (ep _ _ _ (.inr (.inr (by simp))))
     |s n=>
      have:=z8Ua hv
      subst this
      have hcell:z8a (get n):=hkv
      have hcs':=getB
      obtain⟨g',h1,h2,h3,h4,hSe,hmue⟩:=z94a hI hS n (some (.cell id off))
      have hone:=z7q h3 hcell
      have hvc:(a.eval (.tmp n)).cells= #[a.eval (.tmp n)]:=by
       generalize a.eval (.tmp n)=u at hone
       cases u<;>simp_all [Value.cells,Value.oneCell']
      obtain⟨bk',k1,k2,k3⟩:=z1eb h1 hob hcs off (a.eval (.tmp n)).cells.toList [get n] (by rw[hvc];rfl) (by simpa using hfit) (fun i c u hc hu=>by
       rw[hvc] at hu
       cases i with
       |zero=>simp at hc hu;subst hc hu;exact h3
       |succ i=>simp at hc)
      rw[h4 id bk hb] at k1;cases k1
      refine⟨_,undef,_,hrun,.inr ⟨rfl,rfl⟩,?_⟩
      have hef:eff K.E get getB (.store none id true x (.s n))={val:= .undef,sl:=[(n,dem (get n))],bx:=[(id,some (splice cs off [get n]))]}:=by simp only[eff,ex,hbx]
      rw[hef]
      exact⟨g',k3,k2.slots h2,by simp[Rep]⟩
  ·cases hp
 ·cases h

/-! ### new variables -/
def z8yc (P:Program) (t:TypeId) (z:List z0a):Bool:=match P.info? t with|some i=>(match i.zero with|some v=>z5Va z v.cells.toList|none=>false)|none=>false
theorem z3cc {P:Program} {t:TypeId} {z:List z0a} (h:z8yc P t z=true):∃i v,P.info? t=some i∧i.zero=some v∧z5Va z v.cells.toList=true:=by
 unfold z8yc at h
 split at h
 ·rename_i i hi
  split at h
  ·rename_i v hv;exact⟨i,v,hi,hv,h⟩
  ·cases h
 ·cases h

theorem z0Rb {g:Gh} {w:World}:∀{ds:List z0a} {vs:List Value},z5Va ds vs=true→ds.length=vs.length∧∀(i:Nat) (d:z0a),ds[i]? =some d→∀l,∃v,vs[i]? =some v∧Rep K.toCon g w l d v
 |[],vs,h=>by simp only[z5Va,List.isEmpty_iff] at h;subst h;simp
 |d::ds,vs,h=>by
  simp only[z5Va] at h
  split at h
  ·rename_i v vs
   simp only[Bool.and_eq_true] at h
   obtain⟨h1,h2⟩:=z0Rb (g:=g) (w:=w) h.2
   refine⟨by simp[h1],fun i d' hd l=> ?_⟩
   cases i with
   |zero=>simp at hd;subst hd;exact⟨v,by simp,z2ub d v l h.1⟩
   |succ i=>simp at hd;obtain⟨u,hu,hr⟩:=h2 i d' hd l;exact⟨u,by simpa using hu,hr⟩
  ·cases h

def z35b (K:Cx) (op:Op) (z:List z0a):Bool:=match op with| .alloc t=>z8yc K.P t z|_=>false
theorem z2Cc (hI:Inv K base g w getB) (hS:z2v K g w get a) {id:Nat} {z:List z0a} (h:z35b K o.op z=true) (hok:okp K.E get getB (.alloc id z)):z3Ua K base a get getB d o (.alloc id z) w:=by
 unfold z35b at h
 split at h
 ·rename_i t ho
  obtain⟨i,v,hi,hz,hm⟩:=z3cc h
  have hb:=z8Wb hI id hok.1 hok.2 v.cells t z (fun i c hc=>by
   obtain⟨u,hu,hr⟩:=(z0Rb (K:=K) (g:=g) (w:=w) hm).2 i c hc (some (.cell id i))
   exact⟨u,by rw[←Array.getElem?_toList];exact hu,hr⟩)
  have hrun:(execOp a.eval o).run K.P w= .ok (.value (.pointer (some ⟨w.heap.size,0,none⟩))) (w.alloc (.cells v.cells t)):=by
   simp[execOp,ho,Instr.alloc,zeroValue,typeInfo,hi,hz,newVar,newRow]
  exact⟨_,_,_,hrun,.inl rfl,_,hb.2,hb.1.slots hS,by simp only[eff,Rep];exact⟨w.heap.size,by simp[z57a],rfl⟩⟩
 ·cases h

def z0Pc (K:Cx) (op:Op) (k:Option Nat) (x:Arg):Bool:=match op with| .box _ x'=>z8ua K x' x|_=>false
theorem z3cd (hI:Inv K base g w getB) (hS:z2v K g w get a) {id:Nat} {k:Option Nat} {take:Bool} {x:Arg} (h:z0Pc K o.op k x=true) (hok:okp K.E get getB (.box id k take x)):z3Ua K base a get getB d o (.box id k take x) w:=by
 unfold z0Pc at h
 split at h
 ·rename_i t x' ho
  obtain⟨hob,hid,hk⟩:=hok
  have rv:=z3qa hI hS h
  obtain⟨c1,c2,c3,c4⟩:=z80b rv hk
  have hrun:(execOp a.eval o).run K.P w= .ok (.value (.pointer (some ⟨w.heap.size,0,none⟩))) (w.alloc (.cells (a.eval x').cells t)):=by
   simp[execOp,ho,Instr.box,newVar,newRow]
  have plain:eff K.E get getB (.box id k take x)={val:= .bp id 0,bx:=[(id,some (z7p k (arg K.E get x)))]}→z3Ua K base a get getB d o (.box id k take x) w:=fun e=>by
   have hb:=z8Wb hI id hob hid (a.eval x').cells t (z7p k (arg K.E get x)) (fun i c hc=>by
    obtain⟨u,hu,hr⟩:=c1.get i c hc
    exact⟨u,by rw[←Array.getElem?_toList];exact hu,z80a _ (c4 c (z9va hc)) hr⟩)
   refine⟨_,_,_,hrun,.inl rfl,?_⟩
   rw[e]
   exact⟨_,hb.2,hb.1.slots hS,by simp only[Rep];exact⟨w.heap.size,by simp[z57a],rfl⟩⟩
  cases k with
  |some n=>exact plain (by cases take<;>cases x<;>rfl)
  |none=>
   cases take with
   |false=>exact plain (by cases x<;>rfl)
   |true=>
    cases x with
    |c _=>exact plain rfl
    |g _=>exact plain rfl
    |s n=>
     have:=z8Ua h
     subst this
     have hcell:z8a (get n):=hk
     obtain⟨g',h1,h2,h3,_⟩:=z94a hI hS n (some (.cell id 0))
     have hone:=z7q h3 hcell
     have hvc:(a.eval (.tmp n)).cells= #[a.eval (.tmp n)]:=by
      generalize a.eval (.tmp n)=u at hone
      cases u<;>simp_all [Value.cells,Value.oneCell']
     have hb:=z8Wb h1 id hob hid (a.eval (.tmp n)).cells t [get n] (fun i c hc=>by
      cases i with
      |zero=>simp at hc;subst hc;exact⟨_,by rw[hvc];rfl,h3⟩
      |succ i=>simp at hc)
     refine⟨_,_,_,hrun,.inl rfl,_,hb.2,hb.1.slots h2,by simp only[eff,Rep];exact⟨w.heap.size,by simp[z57a],rfl⟩⟩
 ·cases h

end
end Go.Abs
end

section
namespace Go.Abs

section
variable {K : Cx} {base : z4f} {g g' : Gh} {w w' : World} {get : Nat → z0a} {getB : Nat → Option (List z0a)} {a : Act} {o : Oper} {d : Option Nat}

/-! ### filling -/
theorem z8Nc (vs:List Value):∀(k:Nat) (cells:Array Value) (off:Nat),off+k+vs.length≤cells.size→
  ((vs.zipIdx k).foldl (fun cs (p:Value×Nat)=>cs.setIfInBounds (off+p.2) p.1) cells).toList=splice cells.toList (off+k) vs:=by
 induction vs with
 |nil=>
  intro k cells off h
  simp only[List.zipIdx_nil,List.foldl_nil,splice,List.append_nil,List.length_nil,Nat.add_zero,List.take_append_drop]
 |cons v vs ih=>
  intro k cells off h
  simp only[List.length_cons] at h
  simp only[List.zipIdx_cons,List.foldl_cons]
  rw[ih (k+1) _ off (by simp;omega)]
  unfold splice
  apply List.ext_getElem?
  intro i
  simp only[Array.toList_setIfInBounds,List.append_assoc,List.getElem?_append,List.length_take,List.length_set,Array.length_toList,List.getElem?_take,List.getElem?_drop,List.getElem?_set,List.length_cons]
  rw[Nat.min_eq_left (by omega),Nat.min_eq_left (by omega)]
  by_cases h1:i<off+k
  ·rw[if_pos (by omega),if_pos (by omega),if_neg (by omega),if_pos h1,if_pos h1]
  ·rw[if_neg h1]
   by_cases h2:i=off+k
   ·subst h2
    rw[if_pos (by omega),if_pos (by omega),if_pos rfl,if_pos (by omega)]
    simp
   ·rw[if_neg (by omega)]
    have e:i-(off+k)=(i-(off+(k+1)))+1:=by omega
    rw[e]
    simp only[List.getElem?_cons_succ]
    by_cases h3:i-(off+(k+1))<vs.length
    ·rw[if_pos h3,if_pos (by omega)]
    ·rw[if_neg h3,if_neg (by omega),if_neg (by omega)]
     congr 1
     omega

def z0Hb:List (Nat×Value)→List Value→List Value
 |[],z=>z
 |(off,v)::r,z=>z0Hb r (splice z off v.cells.toList)

theorem z6Gb {α:Type} {z:List α} {off:Nat} {xs:List α} (h:off+xs.length≤z.length):(splice z off xs).length=z.length:=by
 simp[splice];omega

theorem z18b (place:Nat→Option (Nat×Nat)):∀(ps:List (Nat×Value)) (os:List Nat) (cells:Array Value),ps.length=os.length→
  (∀(i:Nat) (p:Nat×Value) (off:Nat),ps[i]? =some p→os[i]? =some off→place p.1=some (off,p.2.cells.size)∧off+p.2.cells.size≤cells.size)→
  ∃r,Instr.fill place cells ps=some r∧r.toList=z0Hb (os.zip (ps.map (·.2))) cells.toList
 |[],[],cells,_,_=>⟨cells,rfl,rfl⟩
 |[],_::_,_,h,_=>by simp at h
 |_::_,[],_,h,_=>by simp at h
 |(i,v)::ps,off::os,cells,hl,h=>by
  obtain⟨h1,h2⟩:=h 0 (i,v) off (by simp) (by simp)
  have hf:=z8Nc v.cells.toList 0 cells off (by simpa using h2)
  have hf':(v.cells.zipIdx.foldl (fun cs (p:Value×Nat)=>cs.setIfInBounds (off+p.2) p.1) cells).toList=splice cells.toList off v.cells.toList:=by
   rw[←Array.foldl_toList,Array.toList_zipIdx]
   simpa using hf
  obtain⟨r,k1,k2⟩:=z18b place ps os (v.cells.zipIdx.foldl (fun cs (p:Value×Nat)=>cs.setIfInBounds (off+p.2) p.1) cells) (by simpa using hl) (fun j p o' hp ho=>by
   obtain⟨k1,k2⟩:=h (j+1) p o' (by simpa using hp) (by simpa using ho)
   refine⟨k1,?_⟩
   have hsz':(v.cells.zipIdx.foldl (fun cs (p:Value×Nat)=>cs.setIfInBounds (off+p.2) p.1) cells).size=cells.size:=by
    rw[←Array.length_toList,hf',z6Gb (by simpa using h2),Array.length_toList]
   rw[hsz']
   exact k2)
  refine⟨r,?_,?_⟩
  ·simp only[Instr.fill]
   simp only at h1 h2
   rw[h1]
   simp only[ne_eq,not_true_eq_false,decide_false,Bool.false_or,decide_eq_true_eq]
   rw[if_neg (by omega)]
   exact k1
  ·rw[k2,hf']
   rfl

theorem z2b.splice {ds ds':List z0a} {vs vs':List Value} (off:Nat) (h:z2b K.toCon g w ds vs) (h':z2b K.toCon g w ds' vs'):z2b K.toCon g w (Abs.splice ds off ds') (Abs.splice vs off vs'):=by
 unfold Abs.splice
 rw[←h'.len]
 exact((h.take off).append h').append (h.drop _)

def z0Ma (K:Cx) (f:Nat→Nat→Nat→Bool):List (Nat×Operand)→List (Nat×Nat×Arg)→Bool
 |[],[]=>true
 |(i,x)::ps,(off,k,y)::qs=>f i off k&&z8ua K x y&&z0Ma K f ps qs
 |_,_=>false

theorem z0Db (hI:Inv K base g w getB) (hS:z2v K g w get a) {f:Nat→Nat→Nat→Bool}:∀{ps:List (Nat×Operand)} {qs:List (Nat×Nat×Arg)} {n:Nat} {z:List z0a} {zv:List Value},z0Ma K f ps qs=true→z1e K.E get qs n→
  z2b K.toCon g w z zv→zv.length=n→(∀x∈zv,x.oneCell'=true)→
  ps.length=qs.length∧z2b K.toCon g w (z5g K.E get qs z) (z0Hb ((qs.map (·.1)).zip (ps.map fun p=>a.eval p.2)) zv)∧(z0Hb ((qs.map (·.1)).zip (ps.map fun p=>a.eval p.2)) zv).length=n∧
  (∀x∈z0Hb ((qs.map (·.1)).zip (ps.map fun p=>a.eval p.2)) zv,x.oneCell'=true)∧
  (∀(i:Nat) p q,ps[i]? =some p→qs[i]? =some q→f p.1 q.1 q.2.1=true∧(a.eval p.2).cells.size=q.2.1∧q.1+q.2.1≤n)
 |[],[],n,z,zv,_,_,hz,hn,h1=>⟨rfl,hz,hn,h1,by simp⟩
 |[],_::_,_,_,_,h,_,_,_,_=>by simp[z0Ma] at h
 |_::_,[],_,_,_,h,_,_,_,_=>by simp[z0Ma] at h
 |(i,x)::ps,(off,k,y)::qs,n,z,zv,h,hok,hz,hn,h1=>by
  simp only[z0Ma,Bool.and_eq_true] at h
  obtain⟨⟨hf,hx⟩,hr⟩:=h
  simp only[z1e] at hok
  obtain⟨e1,e2,e3,e4⟩:=hok
  obtain⟨c1,c2⟩:=z1dc (z3qa hI hS hx) e3
  have hlen:(a.eval x).cells.toList.length=k:=by rw[←c1.len,e1]
  have ih:=z0Db hI hS (zv:=Abs.splice zv off (a.eval x).cells.toList) hr e4 (hz.splice off c1) (by rw[z6Gb (by omega)];exact hn) (fun u hu=>by
   unfold Abs.splice at hu
   simp only[List.mem_append] at hu
   rcases hu with(hu|hu)|hu
   ·exact h1 u (List.mem_of_mem_take hu)
   ·exact c2 u hu
   ·exact h1 u (List.mem_of_mem_drop hu))
  obtain⟨i1,i2,i3,i4,i5⟩:=ih
  refine⟨by simp[i1],i2,i3,i4,fun j p q hp hq=> ?_⟩
  cases j with
  |zero=>
   simp at hp hq
   subst hp hq
   exact⟨hf,by simpa using hlen,e2⟩
  |succ j=>exact i5 j p q (by simpa using hp) (by simpa using hq)

def z4ub (K:Cx) (op:Op) (z:List z0a) (parts:List (Nat×Nat×Arg)):Bool:=
 match op with
 | .build t ps=>z8yc K.P t z&&z9bb K.P t (fun D=>D.isRow)&&z0Ma K (fun i off k=>match K.P.underlying t with
   |some (.struct fs)=>(match fs[i]? with|some fd=>(fd.offset==off)&&z2Ka K.P fd.type k|none=>false)&&fs.toList.all (fun fd=>(K.P.info? fd.type).isSome)
   |some (.array _ e)=>(i*k==off)&&z2Ka K.P e k
   |_=>false) ps.toList parts&&(match K.P.underlying t with|some (.struct fs)=>fs.toList.all (fun fd=>(K.P.info? fd.type).isSome)|some (.array _ e)=>(K.P.info? e).isSome|_=>false)
 |_=>false

theorem z67b {z:List z0a} {v:Value} (h:z5Va z v.cells.toList=true) (hr:∀x∈z,z8a x):z2b K.toCon g w z v.cells.toList∧∀x∈v.cells.toList,x.oneCell'=true:=by
 have h1:=z8Ta (K:=K.toCon) (g:=g) (w:=w) _ _ h
 refine⟨h1,fun x hx=> ?_⟩
 obtain⟨i,hi,rfl⟩:=List.mem_iff_getElem.1 hx
 have hl:=h1.len
 obtain⟨y,hy,hr'⟩:=h1.get i z[i] (List.getElem?_eq_getElem (by omega))
 rw[List.getElem?_eq_getElem hi] at hy
 cases hy
 exact z7q hr' (hr _ (List.getElem_mem _))

theorem z2Vb {P:Program}:∀(fs:List Field),fs.all (fun fd=>(P.info? fd.type).isSome)=true→
  ∃ps,fs.mapM (fun f=>(P.info? f.type).map fun i=>(f.offset,i.size))=some ps∧ps.length=fs.length∧∀(i:Nat) (fd:Field) (k:Nat),fs[i]? =some fd→z2Ka P fd.type k=true→ps[i]? =some (fd.offset,k)
 |[],_=>⟨[],by simp,rfl,by simp⟩
 |f::fs,h=>by
  simp only[List.all_cons,Bool.and_eq_true] at h
  obtain⟨i,hi⟩:=Option.isSome_iff_exists.1 h.1
  obtain⟨ps,h1,h2,h3⟩:=z2Vb fs h.2
  refine⟨(f.offset,i.size)::ps,by simp[List.mapM_cons,hi,h1],by simp[h2],fun j fd k hj hk=> ?_⟩
  cases j with
  |zero=>
   simp at hj
   subst hj
   obtain⟨i',hi',rfl⟩:=z7Ua hk
   rw[hi] at hi';cases hi'
   rfl
  |succ j=>simpa using h3 j fd k (by simpa using hj) hk

theorem z6bc (hI:Inv K base g w getB) (hS:z2v K g w get a) {z:List z0a} {parts:List (Nat×Nat×Arg)} (h:z4ub K o.op z parts=true) (hz1:∀x∈z,z8a x) (hok:okp K.E get getB (.build z parts)):
  ∃(r:Array Value) (ps:List (Nat×Operand)) (zv:List Value) (f:Nat→Nat→Nat→Bool),(execOp a.eval o).run K.P w= .ok (.value (.agg r)) w∧z2b K.toCon g w (z5g K.E (fun n=>dem (get n)) parts z) r.toList∧r.toList=z0Hb ((parts.map (·.1)).zip (ps.map fun p=>a.eval p.2)) zv∧z0Ma K f ps parts=true∧zv.length=z.length:=by
 unfold z4ub at h
 split at h
 ·rename_i t ps ho
  simp only[Bool.and_eq_true] at h
  obtain⟨⟨⟨hz,ht⟩,hps⟩,hinfo⟩:=h
  obtain⟨i,zv,hi,hzz,hm⟩:=z3cc hz
  obtain⟨c1,c2⟩:=z67b (K:=K) (g:=g) (w:=w) hm hz1
  simp only[okp] at hok
  have hS':z2v K g w (fun n=>dem (get n)) a:=fun s=>Rep.dem _ (hS s)
  rw[c1.len] at hok
  obtain⟨p1,p2,p3,p4,p5⟩:=z0Db hI hS' hps hok c1 rfl c2
  have hfin:∀(place:Nat→Option (Nat×Nat)),(∀(i:Nat) p q,ps.toList[i]? =some p→parts[i]? =some q→place p.1=some (q.1,q.2.1))→
    ∃r,Instr.fill place zv.cells (ps.map fun(i,x)=>(i,a.eval x)).toList=some r∧z2b K.toCon g w (z5g K.E (fun n=>dem (get n)) parts z) r.toList∧r.toList=z0Hb ((parts.map (·.1)).zip (ps.toList.map fun p=>a.eval p.2)) zv.cells.toList:=fun place hpl=>by
   have hlen:((ps.map fun(i,x)=>(i,a.eval x)).toList).length=(parts.map (·.1)).length:=by simpa using p1
   obtain⟨r,k1,k2⟩:=z18b place (ps.map fun(i,x)=>(i,a.eval x)).toList (parts.map (·.1)) zv.cells hlen (fun j p off hp hoff=>by
    simp only[Array.toList_map,List.getElem?_map,Option.map_eq_some_iff] at hp hoff
    obtain⟨p',hp',rfl⟩:=hp
    obtain⟨q',hq',rfl⟩:=hoff
    obtain⟨e1,e2,e3⟩:=p5 j p' q' hp' hq'
    simp only
    rw[e2]
    exact⟨hpl j p' q' hp' hq',by rw[←Array.length_toList];exact e3⟩)
   refine⟨r,k1,?_⟩
   rw[k2]
   have:(ps.map fun(i,x)=>(i,a.eval x)).toList.map (·.2)=ps.toList.map fun p=>a.eval p.2:=by simp[Array.toList_map,List.map_map,Function.comp_def]
   rw[this]
   exact⟨p2,rfl⟩
  obtain⟨D,hu,hD⟩:=z3wa ht
  have done:∀r,(Instr.build t (ps.map fun(i,x)=>(i,a.eval x))).run K.P w= .ok (.agg r) w→(z2b K.toCon g w (z5g K.E (fun n=>dem (get n)) parts z) r.toList∧r.toList=z0Hb ((parts.map (·.1)).zip (ps.toList.map fun p=>a.eval p.2)) zv.cells.toList)→
    ∃(r:Array Value) (ps:List (Nat×Operand)) (zv:List Value) (f:Nat→Nat→Nat→Bool),(execOp a.eval o).run K.P w= .ok (.value (.agg r)) w∧z2b K.toCon g w (z5g K.E (fun n=>dem (get n)) parts z) r.toList∧r.toList=z0Hb ((parts.map (·.1)).zip (ps.map fun p=>a.eval p.2)) zv∧z0Ma K f ps parts=true∧zv.length=z.length:=fun r h1 h2=>by
   refine⟨r,ps.toList,zv.cells.toList,_,?_,h2.1,h2.2,hps,c1.len.symm⟩
   simp only[execOp,ho]
   rw[Sem.run_bind,h1]
   rfl
  cases D<;>simp only[TypeDesc.isRow,Bool.false_eq_true] at hD
  case struct fs=>
   simp only[hu] at hinfo p5
   obtain⟨places,m1,m2,m3⟩:=z2Vb (P:=K.P) fs.toList hinfo
   obtain⟨r,k1,k2⟩:=hfin (places.toArray[·]?) (fun j p q hp hq=>by
    obtain⟨e1,_,_⟩:=p5 j p q hp hq
    simp only[Bool.and_eq_true] at e1
    obtain⟨e1,_⟩:=e1
    split at e1
    ·rename_i fd hfd
     simp only[Bool.and_eq_true,beq_iff_eq] at e1
     have:=m3 p.1 fd q.2.1 (by simpa using hfd) e1.2
     simp only[List.getElem?_toArray]
     rw[this,e1.1]
    ·cases e1)
   refine done r (run_build w t _ r ?_) k2
   unfold Program.built
   simp only[hi,hu,hzz,m1]
   exact k1
  case array n e=>
   simp only[hu] at hinfo p5
   obtain⟨ie,hie⟩:=Option.isSome_iff_exists.1 hinfo
   obtain⟨r,k1,k2⟩:=hfin (fun i=>some (i*ie.size,ie.size)) (fun j p q hp hq=>by
    obtain⟨e1,_,_⟩:=p5 j p q hp hq
    simp only[Bool.and_eq_true,beq_iff_eq] at e1
    obtain⟨i',hi',hs'⟩:=z7Ua e1.2
    rw[hie] at hi';cases hi'
    simp only[hs',e1.1])
   refine done r (run_build w t _ r ?_) k2
   unfold Program.built
   simp only[hi,hu,hzz,hie]
   exact k1
 ·cases h

theorem z4Bc (hI:Inv K base g w getB) (hS:z2v K g w get a) {z:List z0a} {parts:List (Nat×Nat×Arg)} (h:z4ub K o.op z parts=true) (hz1:∀x∈z,z8a x) (hok:okp K.E get getB (.build z parts)):z3Ua K base a get getB d o (.build z parts) w:=by
 obtain⟨r,_,_,_,h1,h2,_⟩:=z6bc hI hS h hz1 hok
 exact z7qa hI hS (c:= .agg (z5g K.E (fun n=>dem (get n)) parts z)) (v:= .agg r) rfl h1 (by simp only[Rep];exact⟨r,rfl,h2⟩)

theorem z4ac {E:Env} {get:Nat→z0a}:∀(qs:List (Nat×Nat×Arg)) (z:List z0a),z1e E get qs z.length→(z5g E get qs z).length=z.length
 |[],_,_=>rfl
 |(o1,k1,y1)::qs,z,hf=>by
  simp only[z1e] at hf
  simp only[z5g]
  have hl:(Abs.splice z o1 (z4c (arg E get y1))).length=z.length:=z6Gb (by omega)
  rw[z4ac qs _ (by rw[hl];exact hf.2.2.2),hl]
theorem z10b:∀(l:List (Nat×Value)) (off:Nat) (v:Value) (z:List Value),z0Hb (l++[(off,v)]) z=splice (z0Hb l z) off v.cells.toList
 |[],_,_,_=>rfl
 |(o,u)::l,off,v,z=>by simp only[List.cons_append,z0Hb];exact z10b l off v _
theorem z9Lb {K:Cx} {f:Nat→Nat→Nat→Bool}:∀{ps:List (Nat×Operand)} {qs:List (Nat×Nat×Arg)} {q:Nat×Nat×Arg},z0Ma K f ps (qs++[q])=true→∃ps' j x,ps=ps'++[(j,x)]∧ps'.length=qs.length∧z8ua K x q.2.2=true
 |[],[],q,h=>by simp[z0Ma] at h
 |[],_::_,q,h=>by simp[z0Ma] at h
 |(j,x)::ps,[],(off,k,y),h=>by
  simp only[List.nil_append,z0Ma,Bool.and_eq_true] at h
  cases ps with
  |nil=>exact⟨[],j,x,rfl,rfl,h.1.2⟩
  |cons p ps=>simp[z0Ma] at h
 |(j,x)::ps,(off,k,y)::qs,q,h=>by
  simp only[List.cons_append,z0Ma,Bool.and_eq_true] at h
  obtain⟨ps',j',x',rfl,h1,h2⟩:=z9Lb h.2
  exact⟨(j,x)::ps',j',x',rfl,by simp[h1],h2⟩
theorem z4pc (hI:Inv K base g w getB) (hS:z2v K g w get a) {z:List z0a} {parts:List (Nat×Nat×Arg)} {i s:Nat} (h:z4ub K o.op z (parts++[(i,1,.s s)])=true) (hz1:∀x∈z,z8a x) (hok:okp K.E get getB (.buildO z parts i s)):z3Ua K base a get getB d o (.buildO z parts i s) w:=by
 obtain⟨hok1,hok2⟩:=hok
 split at hok2
 ·rename_i e nl n c ex
  obtain⟨r,ps,zv,f,h1,h2,h3,h4,h5⟩:=z6bc hI hS h hz1 hok1
  obtain⟨ps',j,x,rfl,hpl,hx⟩:=z9Lb h4
  have:=z8Ua hx
  subst this
  generalize hcs:z5g K.E (fun n=>dem (get n)) (parts++[(i,1,.s s)]) z=cs at*
  rw[List.map_append,List.map_append,List.zip_append (by simp[hpl]),List.map_cons,List.map_nil,List.map_cons,List.map_nil,List.zip_cons_cons,List.zip_nil_right,z10b] at h3
  have hvc:(a.eval (.tmp s)).cells.toList=[a.eval (.tmp s)]:=by
   have hone:=z7q (z4Ab hS s) (by rw[ex];trivial)
   generalize a.eval (.tmp s)=u at hone
   cases u<;>simp_all [Value.cells,Value.oneCell']
  rw[hvc] at h3
  generalize z0Hb ((List.map (·.1) parts).zip (List.map (fun p=>a.eval p.2) ps')) zv=zr at h3
  obtain⟨g',k1,k2,k3,k4,k5,k6⟩:=z94a hI hS s (d.map .slot)
  have h2':z2b K.toCon g' w cs r.toList:=z2b.mono (g:=g) (g':=g') (by rw[k5];exact z9d.refl _ _) cs _ (fun id _ b hb=>k4 id b hb) h2
  have hi:i<r.toList.length:=by
   have hf:z1e K.E (fun n=>dem (get n)) (parts++[(i,1,.s s)]) z.length:=hok1
   have:∀(qs:List (Nat×Nat×Arg)) (m:Nat),z1e K.E (fun n=>dem (get n)) (qs++[(i,1,.s s)]) m→i+1≤m:=fun qs=>by
    induction qs with
    |nil=>intro m h;simp only[List.nil_append,z1e] at h;exact h.2.1
    |cons q qs ih=>intro m h;obtain⟨o1,k1,y1⟩:=q;simp only[List.cons_append,z1e] at h;exact ih m h.2.2.2
   have h6:=this _ _ hf
   have h7:=h2.len
   have h8:cs.length=z.length:=by rw[←hcs];exact z4ac _ _ hf
   omega
  have hsplit:r.toList=r.toList.take i++a.eval (.tmp s)::r.toList.drop (i+1):=by
   have hg:r.toList[i]? =some (a.eval (.tmp s)):=by
    rw[h3] at hi⊢
    unfold Abs.splice at hi⊢
    simp only[List.length_append,List.length_take,List.length_drop,List.length_cons,List.length_nil] at hi
    rw[List.append_assoc,List.getElem?_append_right (by rw[List.length_take];omega),List.length_take]
    by_cases hzl:i≤zr.length
    ·rw[Nat.min_eq_left hzl,Nat.sub_self];rfl
    ·omega
   have hge:=List.getElem?_eq_some_iff.1 hg
   obtain⟨hlt,hge⟩:=hge
   rw[←hge,←List.drop_eq_getElem_cons hlt,List.take_append_drop]
  have hef:eff K.E get getB (.buildO z parts i s)={val:= .oagg (cs.take i) e nl n c (cs.drop (i+1)),sl:=[(s,dem (get s))]}:=by simp only[eff,ex,hcs]
  refine⟨_,.agg r,w,h1,.inl rfl,?_⟩
  rw[hef]
  refine⟨g',k1,k2,?_⟩
  simp only[Rep]
  rw[ex] at k3
  simp only[Rep] at k3
  exact⟨r,r.toList.take i,a.eval (.tmp s),r.toList.drop (i+1),rfl,hsplit,h2'.take i,k3,h2'.drop (i+1)⟩
 ·cases hok2
theorem z8qc (hI:Inv K base g w getB) (hS:z2v K g w get a) {k b s:Nat} {x:Arg} (h:z5ub K o.op (some k) x (.s s)=true) (hok:okp K.E get getB (.storeO k b x s)):z3Ua K base a get getB d o (.storeO k b x s) w:=by
 unfold z5ub at h
 split at h
 ·rename_i t x' v' ho
  simp only[Bool.and_eq_true] at h
  obtain⟨⟨hk,hx⟩,hv⟩:=h
  have rx:=z3qa hI hS hx
  have:=z8Ua hv
  subst this
  simp only[okp] at hok
  obtain⟨hob,hp,hkv⟩:=hok
  split at hp
  ·rename_i id off ex
   obtain⟨rfl,cs,hcs,hfit⟩:=hp
   rw[ex] at rx
   simp only[Rep] at rx
   obtain⟨bk,hb,vx⟩:=rx
   split at hkv
   ·rename_i pre e nl n ss rest es
    obtain⟨hlen,hcell⟩:=hkv
    obtain⟨g',h1,h2,h3,h4,hSe,hmue⟩:=z94a hI hS s (some (.cell id (off+pre.length)))
    rw[es] at h3
    simp only[Rep] at h3
    obtain⟨ar,pv,u,rv,vv,hl,r1,r2,r3⟩:=h3
    have hcl:(a.eval (.tmp s)).cells=ar:=by rw[vv];rfl
    have hu:Rep K.toCon g' w (some (.cell id (off+pre.length))) (.sl (.own e) nl n ss) u:=by simp only[Rep];exact r2
    have hrl:z2b K.toCon g' w (pre++ .sl (.own e) nl n ss::rest) ar.toList:=by
     rw[hl]
     refine r1.append ?_
     simp only[z2b]
     exact⟨u,rv,rfl,z87a hu,r3⟩
    have hll:(pre++z0a.sl (.own e) nl n ss::rest).length=k:=by simp only[List.length_append,List.length_cons];omega
    have hone:∀q∈ar.toList,q.oneCell'=true:=fun q hq=>by
     obtain⟨i,hi,rfl⟩:=List.mem_iff_getElem.1 hq
     have hl2:=hrl.len
     obtain⟨y,hy,hr'⟩:=hrl.get i _ (List.getElem?_eq_getElem (by omega))
     rw[List.getElem?_eq_getElem hi] at hy
     cases hy
     refine z7q hr' ?_
     have hm:=List.getElem_mem (l:=pre++z0a.sl (.own e) nl n ss::rest) (n:=i) (by omega)
     rcases List.mem_append.1 hm with hm|hm
     ·exact(hcell _ (List.mem_append.2 (.inl hm))).1
     ·rcases List.mem_cons.1 hm with hm|hm
      ·rw[hm];trivial
      ·exact(hcell _ (List.mem_append.2 (.inr hm))).1
    have hsz:(a.eval (.tmp s)).cells.size=(some k).getD 1:=by rw[hcl,←Array.length_toList,←hrl.len,hll];rfl
    have hrun:(execOp a.eval o).run K.P w= .ok .skip (w.setCells bk off (a.eval (.tmp s)).cells.toList):=by
     simp only[execOp,ho,vx]
     rw[Sem.run_bind,z9Rb (P:=K.P) hk hsz (by rw[hcl];exact hone) (z6sb hI hcs hb off _ hfit)]
     rfl
    have hbx:bxl getB (some id)=cs:=by simp[bxl,bxc,hcs]
    obtain⟨bk',k1,k2,k3⟩:=z1eb h1 hob hcs off (a.eval (.tmp s)).cells.toList (pre++ .sl (.own e) nl n ss::rest) (by rw[hcl];exact hrl.len) (by rw[hll];exact hfit) (fun i c q hc hq=>by
     rw[hcl,hl] at hq
     rcases Nat.lt_or_ge i pre.length with hi|hi
     ·rw[List.getElem?_append_left hi] at hc
      rw[List.getElem?_append_left (by rw[←r1.len];exact hi)] at hq
      obtain⟨q',hq',hr⟩:=r1.get i c hc
      rw[hq] at hq';cases hq'
      exact z80a _ (hcell c (List.mem_append.2 (.inl (z9va hc)))).2 hr
     ·rw[List.getElem?_append_right hi] at hc
      rw[List.getElem?_append_right (by rw[←r1.len];exact hi),←r1.len] at hq
      rcases Nat.eq_or_lt_of_le hi with he|hlt
      ·rw[←he,Nat.sub_self] at hc hq
       simp only[List.getElem?_cons_zero,Option.some.injEq] at hc hq
       rw[←hc,←hq,←he]
       exact hu
      ·obtain⟨m,hm⟩:∃m,i-pre.length=m+1:=⟨i-pre.length-1,by omega⟩
       rw[hm] at hc hq
       simp only[List.getElem?_cons_succ] at hc hq
       obtain⟨q',hq',hr⟩:=r3.get m c hc
       rw[hq] at hq';cases hq'
       exact z80a _ (hcell c (List.mem_append.2 (.inr (z9va hc)))).2 hr)
    rw[h4 id bk hb] at k1;cases k1
    refine⟨_,undef,_,hrun,.inr ⟨rfl,rfl⟩,?_⟩
    have hef:eff K.E get getB (.storeO k id x s)={val:= .undef,sl:=[(s,dem (get s))],bx:=[(id,some (splice cs off (pre++ .sl (.own e) nl n ss::rest)))]}:=by simp only[eff,ex,es,hbx]
    rw[hef]
    exact⟨g',k3,k2.slots h2,by simp[Rep]⟩
   ·cases hkv
  ·cases hp
 ·cases h

def z5Ub (P:Program) (e:TypeId) (m:Nat):Option (Array Value):=
 if m=0 then some #[] else match P.info? e with|some i=>i.zero.map fun v=>(Array.range m).map (v.cells[· % v.cells.size]!)|none=>none
def z73a (K:Cx) (op:Op) (esz n:Nat) (z:List z0a) (parts:List (Nat×Nat×Arg)):Bool:=
 match op with
 | .buildSlice t n' ps=>(n==n')&&(match K.P.underlying t with
   |some (.slice e)=>z2Ka K.P e esz&&(match z5Ub K.P e (n*esz) with|some zv=>z5Va z zv.toList|none=>false)&&decide (n*esz≤16777216)&&z0Ma K (fun i off k=>(i*k==off)&&(k==esz)) ps.toList parts
   |_=>false)
 |_=>false

theorem z6md (hI:Inv K base g w getB) (hS:z2v K g w get a) {x:AOp} {esz n cap:Nat} {nl:Option Bool} {cs:List z0a} {vs:List Value} {C:Array Value} {e:TypeId} (hC:∀(i:Nat) v,vs[i]? =some v→C[i]? =some v) (hCs:cap*esz≤C.size)
  (hef:eff K.E get getB x={val:= .sl (.own esz) nl n cs}) (hnl:nl≠some true) (hn:n≤cap) (hlen:cs.length=n*esz) (hr:z2b K.toCon g w cs vs) (hp:z8b cs=true)
  (hrun:(execOp a.eval o).run K.P w= .ok (.value (.slice (some ⟨w.heap.size,0,none⟩) n cap)) (w.alloc (.cells C e))):z3Ua K base a get getB d o x w:=by
 refine⟨_,_,_,hrun,.inl rfl,?_⟩
 rw[hef]
 refine⟨z7Ra g w.heap.size (n*esz) (d.map .slot),z46a hI _ _ _,(z9Wa hI _ _ _).slots hS,?_⟩
 simp only[Rep]
 refine⟨?_,fun l hl=> .inr ⟨_,cap,rfl,hn,hlen,by simp[z7Ra],by simp[z7Ra,hl],?_⟩⟩
 ·simp only[z9b]
  refine .inl ⟨_,_,_,rfl,hn,z4b.mk fun i c hi=> ?_,hnl,by simp⟩
  have hlt:=(List.getElem?_eq_some_iff.1 hi).1
  obtain⟨v,hv,hrv⟩:=hr.get i c hi
  refine⟨by simp[z7Ra];omega,v,by rw[Nat.zero_add,World.cell?_alloc_new];exact hC i v hv,?_⟩
  exact z9b.mono (z9Wa hI (.cells C e) (n*esz) (d.map .slot)).keeps c v (Rep.pure c v none ((z4i cs).1 hp c (z9va hi)) hrv)
 ·exact z6Ia w C e (0,0) (by simp) _ _ (by
   have:n*esz≤cap*esz:=Nat.mul_le_mul_right _ hn
   omega)

theorem z1gc (hI:Inv K base g w getB) (hS:z2v K g w get a) {esz n:Nat} {z:List z0a} {parts:List (Nat×Nat×Arg)} (h:z73a K o.op esz n z parts=true) (hz1:∀x∈z,z8a x) (hok:okp K.E get getB (.buildSl esz n z parts)):z3Ua K base a get getB d o (.buildSl esz n z parts) w:=by
 unfold z73a at h
 split at h
 ·rename_i t n' ps ho
  simp only[Bool.and_eq_true,beq_iff_eq] at h
  obtain⟨rfl,h⟩:=h
  split at h
  ·rename_i e hu
   simp only[Bool.and_eq_true,decide_eq_true_eq] at h
   obtain⟨⟨⟨hsz,hz⟩,hle⟩,hps⟩:=h
   split at hz
   ·rename_i zv hzv
    obtain⟨hzl,hfill,hpure⟩:=hok
    have c1:=z8Ta (K:=K.toCon) (g:=g) (w:=w) _ _ hz
    have c2:∀x∈zv.toList,x.oneCell'=true:=fun x hx=>by
     obtain⟨i,hi,rfl⟩:=List.mem_iff_getElem.1 hx
     have hl:=c1.len
     obtain⟨y,hy,hr'⟩:=c1.get i z[i] (List.getElem?_eq_getElem (by omega))
     rw[List.getElem?_eq_getElem hi] at hy
     cases hy
     exact z7q hr' (hz1 _ (List.getElem_mem _))
    rw[c1.len] at hfill
    obtain⟨p1,p2,p3,p4,p5⟩:=z0Db hI hS hps hfill c1 rfl c2
    have hlen:((ps.map fun(i,x)=>(i,a.eval x)).toList).length=(parts.map (·.1)).length:=by simpa using p1
    obtain⟨r,k1,k2⟩:=z18b (fun i=>some (i*esz,esz)) (ps.map fun(i,x)=>(i,a.eval x)).toList (parts.map (·.1)) zv hlen (fun j p off hp hoff=>by
     simp only[Array.toList_map,List.getElem?_map,Option.map_eq_some_iff] at hp hoff
     obtain⟨p',hp',rfl⟩:=hp
     obtain⟨q',hq',rfl⟩:=hoff
     obtain⟨e1,e2,e3⟩:=p5 j p' q' hp' hq'
     simp only[Bool.and_eq_true,beq_iff_eq] at e1
     simp only
     rw[e2,e1.2,←e1.1,e1.2]
     refine⟨rfl,?_⟩
     rw[←Array.length_toList]
     rw[←e1.1,e1.2] at e3
     exact e3)
    have hsnd:(ps.map fun(i,x)=>(i,a.eval x)).toList.map (·.2)=ps.toList.map fun p=>a.eval p.2:=by simp[Array.toList_map,List.map_map,Function.comp_def]
    rw[hsnd] at k2
    rw[←k2] at p2 p3
    have hnotbig:¬(2^24<n*esz):=by simp;omega
    obtain⟨ie,hie,hies⟩:=z7Ua hsz
    have hrun:(execOp a.eval o).run K.P w= .ok (.value (.slice (some ⟨w.heap.size,0,none⟩) n n)) (w.alloc (.cells r e)):=by
     simp only[execOp,ho,Instr.buildSlice,Sem.run_bind,run_underlying hu,Result.andThen_ok,run_sizeOf w hsz]
     rw[if_neg hnotbig]
     unfold z5Ub at hzv
     by_cases h0:n*esz=0
     ·rw[if_pos h0,Option.some.injEq] at hzv
      subst hzv
      rw[if_pos h0]
      simp only[pure_bind]
      rw[h0,show(Array.map (fun x=>(#[]:Array Value)[x% (#[]:Array Value).size]!) (Array.range 0))= #[] from by simp,k1]
      simp[newRow]
     ·rw[if_neg h0,hie] at hzv
      simp only[Option.map_eq_some_iff] at hzv
      obtain⟨v,hv,rfl⟩:=hzv
      rw[if_neg h0]
      simp only[Sem.run_bind,zeroValue,typeInfo,run_program,Result.andThen_ok,hie,hv,Sem.run_pure]
      rw[k1]
      simp[newRow]
    refine z6md hI hS (C:=r) (e:=e) (vs:=r.toList) (cs:=z5g K.E get parts z) (esz:=esz) (n:=n) (cap:=n) (nl:=some false) (fun i v hv=>by rw[←Array.getElem?_toList];exact hv) ?_ rfl (by simp) (Nat.le_refl _) ?_ p2 hpure hrun
    ·rw[←Array.length_toList,p3,←c1.len,hzl];exact Nat.le_refl _
    ·rw[p2.len,p3,←c1.len,hzl]
   ·cases hz
  ·cases h
 ·cases h


theorem z8ec (hI:Inv K base g w getB) (hS:z2v K g w get a) {id esz n:Nat} {z:List z0a} {parts:List (Nat×Nat×Arg)} (h:z73a K o.op esz n z parts=true) (hz1:∀x∈z,z8a x) (hok:okp K.E get getB (.buildBx id esz n z parts)):z3Ua K base a get getB d o (.buildBx id esz n z parts) w:=by
 unfold z73a at h
 split at h
 ·rename_i t n' ps ho
  simp only[Bool.and_eq_true,beq_iff_eq] at h
  obtain⟨rfl,h⟩:=h
  split at h
  ·rename_i e hu
   simp only[Bool.and_eq_true,decide_eq_true_eq] at h
   obtain⟨⟨⟨hsz,hz⟩,hle⟩,hps⟩:=h
   split at hz
   ·rename_i zv hzv
    obtain⟨hid,hnone,hzl,hfill,p6⟩:=hok
    have c1:=z8Ta (K:=K.toCon) (g:=g) (w:=w) _ _ hz
    have c2:∀x∈zv.toList,x.oneCell'=true:=fun x hx=>by
     obtain⟨i,hi,rfl⟩:=List.mem_iff_getElem.1 hx
     have hl:=c1.len
     obtain⟨y,hy,hr'⟩:=c1.get i z[i] (List.getElem?_eq_getElem (by omega))
     rw[List.getElem?_eq_getElem hi] at hy
     cases hy
     exact z7q hr' (hz1 _ (List.getElem_mem _))
    rw[c1.len] at hfill
    obtain⟨p1,p2,p3,p4,p5⟩:=z0Db hI hS hps hfill c1 rfl c2
    have hlen:((ps.map fun(i,x)=>(i,a.eval x)).toList).length=(parts.map (·.1)).length:=by simpa using p1
    obtain⟨r,k1,k2⟩:=z18b (fun i=>some (i*esz,esz)) (ps.map fun(i,x)=>(i,a.eval x)).toList (parts.map (·.1)) zv hlen (fun j p off hp hoff=>by
     simp only[Array.toList_map,List.getElem?_map,Option.map_eq_some_iff] at hp hoff
     obtain⟨p',hp',rfl⟩:=hp
     obtain⟨q',hq',rfl⟩:=hoff
     obtain⟨e1,e2,e3⟩:=p5 j p' q' hp' hq'
     simp only[Bool.and_eq_true,beq_iff_eq] at e1
     simp only
     rw[e2,e1.2,←e1.1,e1.2]
     refine⟨rfl,?_⟩
     rw[←Array.length_toList]
     rw[←e1.1,e1.2] at e3
     exact e3)
    have hsnd:(ps.map fun(i,x)=>(i,a.eval x)).toList.map (·.2)=ps.toList.map fun p=>a.eval p.2:=by simp[Array.toList_map,List.map_map,Function.comp_def]
    rw[hsnd] at k2
    rw[←k2] at p2 p3
    have hnotbig:¬(2^24<n*esz):=by simp;omega
    obtain⟨ie,hie,hies⟩:=z7Ua hsz
    have hrun:(execOp a.eval o).run K.P w= .ok (.value (.slice (some ⟨w.heap.size,0,none⟩) n n)) (w.alloc (.cells r e)):=by
     simp only[execOp,ho,Instr.buildSlice,Sem.run_bind,run_underlying hu,Result.andThen_ok,run_sizeOf w hsz]
     rw[if_neg hnotbig]
     unfold z5Ub at hzv
     by_cases h0:n*esz=0
     ·rw[if_pos h0,Option.some.injEq] at hzv
      subst hzv
      rw[if_pos h0]
      simp only[pure_bind]
      rw[h0,show(Array.map (fun x=>(#[]:Array Value)[x% (#[]:Array Value).size]!) (Array.range 0))= #[] from by simp,k1]
      simp[newRow]
     ·rw[if_neg h0,hie] at hzv
      simp only[Option.map_eq_some_iff] at hzv
      obtain⟨v,hv,rfl⟩:=hzv
      rw[if_neg h0]
      simp only[Sem.run_bind,zeroValue,typeInfo,run_program,Result.andThen_ok,hie,hv,Sem.run_pure]
      rw[k1]
      simp[newRow]
    have hb:=z8Wb hI id hid hnone r e (z5g K.E get parts z) (fun i c hc=>by
     obtain⟨v,hv,hrv⟩:=p2.get i c hc
     exact⟨v,by rw[←Array.getElem?_toList];exact hv,z80a _ (p6 c (z9va hc)) hrv⟩)
    exact⟨_,_,_,hrun,.inl rfl,_,hb.2,hb.1.slots hS,by simp only[eff,Rep];exact⟨w.heap.size,n,0,by simp[z57a],rfl,Nat.le_refl _,Nat.le_refl _,.inl rfl,fun _=>rfl⟩⟩
   ·cases hz
  ·cases h
 ·cases h

def z9mc (K:Cx) (op:Op) (esz n:Nat) (z:List z0a):Bool:=
 match op with
 | .makeSlice t (.const (.int .i64 l)) (.const (.int .i64 c))=>decide (l=(n:Int))&&decide (c=(n:Int))&&(match K.P.underlying t with
   |some (.slice e)=>z2Ka K.P e esz&&(match z5Ub K.P e (n*esz) with|some zv=>z5Va z zv.toList|none=>false)&&decide (n≤1000000∧0<n*esz)&&(match K.P.info? e with|some i=>decide (i.bytes*n≤1000000)|none=>false)
   |_=>false)
 |_=>false
theorem z7Uc (hI:Inv K base g w getB) (hS:z2v K g w get a) {id esz n:Nat} {z:List z0a} (h:z9mc K o.op esz n z=true) (hz1:∀x∈z,z8a x) (hok:okp K.E get getB (.buildBx id esz n z [])):z3Ua K base a get getB d o (.buildBx id esz n z []) w:=by
 unfold z9mc at h
 split at h
 ·rename_i t l c ho
  simp only[Bool.and_eq_true,decide_eq_true_eq] at h
  obtain⟨⟨rfl,rfl⟩,h⟩:=h
  split at h
  ·rename_i e hu
   simp only[Bool.and_eq_true,decide_eq_true_eq] at h
   obtain⟨⟨⟨hsz,hz⟩,hn⟩,hby⟩:=h
   split at hz
   ·rename_i zv hzv
    obtain⟨hid,hnone,hzl,hfill,p6⟩:=hok
    have c1:=z8Ta (K:=K.toCon) (g:=g) (w:=w) _ _ hz
    split at hby
    ·rename_i ie hie
     simp only[decide_eq_true_eq] at hby
     have hfa:z5g K.E get [] z=z:=rfl
     have hby':(ie.bytes:Int)*(n:Int)≤281474976710656:=by
      have:((ie.bytes*n:Nat):Int)=(ie.bytes:Int)*(n:Int):=by simp
      omega
     have hsize:ie.size=esz:=by
      obtain⟨i2,hi2,hs2⟩:=z7Ua hsz
      rw[hie] at hi2;cases hi2;exact hs2
     have hrun:(execOp a.eval o).run K.P w= .ok (.value (.slice (some ⟨w.heap.size,0,none⟩) n n)) (w.alloc (.cells zv e)):=by
      unfold z5Ub at hzv
      rw[if_neg (by omega),hie] at hzv
      simp only[Option.map_eq_some_iff] at hzv
      obtain⟨v,hv,rfl⟩:=hzv
      have hr:=run_make (P:=K.P) w t e ie v hu hie hv .i64 .i64 n n (by omega) (Int.le_refl _) hby' (by omega)
      simp only[Int.toNat_natCast,hsize] at hr
      simp only[execOp,ho,Act.eval]
      rw[Sem.run_bind,hr]
      rfl
     have hb:=z8Wb hI id hid hnone zv e (z5g K.E get [] z) (fun i c hc=>by
      rw[hfa] at hc
      obtain⟨v,hv,hrv⟩:=c1.get i c hc
      exact⟨v,by rw[←Array.getElem?_toList];exact hv,z80a _ (p6 c (by rw[hfa];exact z9va hc)) hrv⟩)
     exact⟨_,_,_,hrun,.inl rfl,_,hb.2,hb.1.slots hS,by simp only[eff,Rep];exact⟨w.heap.size,n,0,by simp[z57a],rfl,Nat.le_refl _,Nat.le_refl _,.inl rfl,fun _=>rfl⟩⟩
    ·cases hby
   ·cases hz
  ·cases h
 ·cases h

end
end Go.Abs
end

section
namespace Go.Abs

section
variable {K : Cx} {base : z4f} {g g' : Gh} {w w' : World} {get : Nat → z0a} {getB : Nat → Option (List z0a)} {a : Act} {o : Oper} {d : Option Nat}

theorem z3Lc {m:Nat} {x:Option Arg} {dflt:Nat} (h:z2g K.E get x m) (hd:dflt≤m):bnd K.E get x dflt≤m:=by
 cases x with
 |none=>exact hd
 |some y=>simp only[z2g] at h;simp only[bnd];omega
theorem z3fd {n:Nat} {hi mx:Option Arg} (hmh:mx.isSome=true→hi.isSome=true) (k2:z2g K.E get hi (bnd K.E get mx n)):bnd K.E get hi n≤bnd K.E get mx n:=by
 cases hi with
 |none=>cases mx with
  |none=>exact Nat.le_refl _
  |some _=>simp at hmh
 |some y=>simp only[z2g] at k2;simp only[bnd] at k2⊢;omega

/-! ### slices of arrays -/
def z7Yc (K:Cx) (op:Op) (n esz:Nat) (x:Arg) (lo hi mx:Option Arg):Bool:=
 match op with
 | .slice t x' lo' hi' mx'=>(match K.P.underlying t with|some (.array m e)=>(m==n)&&z2Ka K.P e esz|_=>false)&&z8ua K x' x&&z0mb K lo' lo&&z0mb K hi' hi&&z0mb K mx' mx
 |_=>false

theorem z7Cc (hI:Inv K base g w getB) (hS:z2v K g w get a) {n esz:Nat} {x:Arg} {lo hi mx:Option Arg} (h:z7Yc K o.op n esz x lo hi mx=true) (hok:okp K.E get getB (.slArr n esz x lo hi mx)):z3Ua K base a get getB d o (.slArr n esz x lo hi mx) w:=by
 unfold z7Yc at h
 split at h
 ·rename_i t x' lo' hi' mx' ho
  simp only[Bool.and_eq_true] at h
  obtain⟨⟨⟨⟨h,hx⟩,hlo⟩,hhi⟩,hmx⟩:=h
  split at h
  ·rename_i m e hu
   simp only[Bool.and_eq_true,beq_iff_eq] at h
   obtain⟨rfl,hsz⟩:=h
   have rx:=z3qa hI hS hx
   simp only[okp] at hok
   obtain⟨hok,hmh,k3,k2,k1,hn⟩:=hok
   have hb:=z3ub hI hS hlo hhi hmx false m m (Nat.le_refl _) m (Nat.le_refl _) hmh k3 (by cases mx<;>exact k2) k1
   have hm:mxv K.E get mx m m=bnd K.E get mx m:=by cases mx<;>rfl
   rw[hm] at hb
   have hlh:bnd K.E get lo 0≤bnd K.E get hi m:=z3Lc k1 (Nat.zero_le _)
   have hhm:=z3fd (n:=m) hmh k2
   have hrun:∀b o',a.eval x'= .pointer (some ⟨b,o',none⟩)→(execOp a.eval o).run K.P w=
     .ok (.value (.slice (some ⟨b,if bnd K.E get mx m=bnd K.E get lo 0 then o' else o'+bnd K.E get lo 0*esz,none⟩) (bnd K.E get hi m-bnd K.E get lo 0) (bnd K.E get mx m-bnd K.E get lo 0))) w:=fun b o' e=>by
    simp only[execOp,ho,e,Instr.sliceAt,Sem.run_bind,run_underlying hu,Result.andThen_ok,Instr.sureAddr,Sem.run_pure,hb,run_sizeOf w hsz,Addr.add_mid]
    congr 3
    split<;>simp_all
   split at hok
   ·rename_i id off ex
    rw[ex] at rx
    simp only[Rep] at rx
    obtain⟨bk,hbk,vx⟩:=rx
    refine z7qa hI hS (c:= .bv id esz (off+bnd K.E get lo 0*esz) (bnd K.E get hi m-bnd K.E get lo 0) (bnd K.E get mx m-bnd K.E get lo 0)) (by simp only[eff,ex]) (hrun bk off vx) ?_
    simp only[Rep]
    refine⟨bk,_,_,hbk,rfl,by omega,Nat.le_refl _,?_,fun _=>rfl⟩
    split
    ·exact .inr ⟨by omega,by omega⟩
    ·exact .inl rfl
   ·rename_i cs ex
    rw[ex] at rx
    simp only[Rep,z9b] at rx
    obtain⟨bk,o',vx,hc⟩:=rx
    refine z7qa hI hS (c:= .sl .plain (some false) (bnd K.E get hi m-bnd K.E get lo 0) ((cs.drop (bnd K.E get lo 0*esz)).take ((bnd K.E get hi m-bnd K.E get lo 0)*esz))) (by simp only[eff,ex]) (hrun bk o' vx) ?_
    simp only[Rep,z9b]
    refine .inl ⟨bk,_,_,rfl,by omega,?_,by simp,by simp⟩
    split
    ·have:bnd K.E get hi m-bnd K.E get lo 0=0:=by omega
     rw[this]
     simp[z4b]
    ·exact(hc.drop _).take _
   ·cases hok
  ·cases h
 ·cases h

def z61b (K:Cx) (op:Op) (esz:Nat) (x:Arg) (lo hi mx:Option Arg):Bool:=
 match op with
 | .slice t x' lo' hi' mx'=>(match K.P.underlying t with|some (.slice e)=>z2Ka K.P e esz|_=>false)&&z8ua K x' x&&z0mb K lo' lo&&z0mb K hi' hi&&z0mb K mx' mx
 |_=>false

theorem z9Fc (hI:Inv K base g w getB) (hS:z2v K g w get a) {esz:Nat} {x lo hi:Arg} (h:z61b K o.op esz x (some lo) (some hi) none=true) (hok:okp K.E get getB (.slCap esz x lo hi)):z3Ua K base a get getB d o (.slCap esz x lo hi) w:=by
 unfold z61b at h
 split at h
 ·rename_i t x' lo' hi' mx' ho
  simp only[Bool.and_eq_true] at h
  obtain⟨⟨⟨⟨h,hx⟩,hlo⟩,hhi⟩,hmx⟩:=h
  split at h
  ·rename_i e hu
   have rx:=z3qa hI hS hx
   simp only[okp] at hok
   obtain⟨hok,k1⟩:=hok
   split at hok
   ·rename_i id e' off k c ex
    obtain⟨rfl,hkc,k2⟩:=hok
    rw[ex] at rx
    simp only[Rep] at rx
    obtain⟨bk,cap,o',hbk,vx,hcap,hc,ho',hxc⟩:=rx
    have hb:=z3ub hI hS hlo hhi hmx true k cap hcap k hcap (by simp) trivial (by
     simp only[z2g,mxv] at k2⊢
     exact⟨k2.1,k2.2.1,by have:=k2.2.2;omega⟩) (by
     simp only[z2g,bnd] at k1⊢
     exact k1)
    simp only[bnd,mxv] at hb
    simp only[z2g,bnd] at k1 k2
    generalize hL:(asI (arg K.E get lo)).toNat=L at*
    generalize hH:(asI (arg K.E get hi)).toNat=H at*
    have hLH:L≤H:=by omega
    have hHc:H≤c:=by omega
    have hrun:(execOp a.eval o).run K.P w= .ok (.value (.slice (if cap=L then some ⟨bk,o',none⟩ else(some (⟨bk,o',none⟩:Addr)).map (·.add (L*e'))) (H-L) (cap-L))) w:=by
     simp only[execOp,ho,vx,Instr.sliceAt,Instr.slice,Sem.run_bind,run_underlying hu,Result.andThen_ok,hb,run_sizeOf w h,Sem.run_pure]
    refine z7qa hI hS (c:= .bv id e' (off+L*e') (H-L) (c-L)) (by simp only[eff,ex,hL,hH]) hrun ?_
    simp only[Rep,Option.map_some,Addr.add_mid]
    by_cases hML:cap=L
    ·rw[if_pos hML]
     exact⟨bk,_,_,hbk,rfl,by omega,by omega,.inr ⟨by omega,by omega⟩,fun h=>by rw[hxc h]⟩
    ·rw[if_neg hML]
     refine⟨bk,_,_,hbk,rfl,by omega,by omega,?_,fun h=>by rw[hxc h]⟩
     rcases ho' with rfl|⟨hk0,hc0⟩
     ·exact .inl rfl
     ·exact .inr ⟨by omega,by omega⟩
   ·cases hok
  ·cases h
 ·cases h

theorem z5Oc (hI:Inv K base g w getB) (hS:z2v K g w get a) {esz:Nat} {x:Arg} {lo hi mx:Option Arg} (h:z61b K o.op esz x lo hi mx=true) (hok:okp K.E get getB (.slSl esz x lo hi mx)):z3Ua K base a get getB d o (.slSl esz x lo hi mx) w:=by
 unfold z61b at h
 split at h
 ·rename_i t x' lo' hi' mx' ho
  simp only[Bool.and_eq_true] at h
  obtain⟨⟨⟨⟨h,hx⟩,hlo⟩,hhi⟩,hmx⟩:=h
  split at h
  ·rename_i e hu
   have rx:=z3qa hI hS hx
   simp only[okp] at hok
   obtain⟨hok,hmh,k3,k2,k1⟩:=hok
   generalize hnn:z7e (arg K.E get x)=n at*
   have hlh:bnd K.E get lo 0≤bnd K.E get hi n:=z3Lc k1 (Nat.zero_le _)
   have hhm:=z3fd (n:=n) hmh k2
   have hmn:bnd K.E get mx n≤n:=z3Lc k3 (Nat.le_refl _)
   have hrun:∀(p:Option Addr) (cap:Nat),n≤cap→a.eval x'= .slice p n cap→∃M,(execOp a.eval o).run K.P w=
     .ok (.value (.slice (if M=bnd K.E get lo 0 then p else p.map (·.add (bnd K.E get lo 0*esz))) (bnd K.E get hi n-bnd K.E get lo 0) (M-bnd K.E get lo 0))) w∧bnd K.E get hi n≤M∧M=mxv K.E get mx n cap:=fun p cap hcap ev=>by
    have hb:=z3ub hI hS hlo hhi hmx true n cap hcap n hcap hmh k3 (by
     cases mx with
     |some _=>exact k2
     |none=>
      cases hi with
      |none=>trivial
      |some y=>
       have e:bnd K.E get none n=n:=rfl
       rw[e] at k2
       simp only[z2g,mxv] at k2⊢
       exact⟨k2.1,k2.2.1,by have:=k2.2.2;omega⟩) k1
    refine⟨_,?_,?_,rfl⟩
    ·simp only[execOp,ho,ev,Instr.sliceAt,Instr.slice,Sem.run_bind,run_underlying hu,Result.andThen_ok,hb,run_sizeOf w h,Sem.run_pure]
    ·cases mx with
     |some _=>exact hhm
     |none=>
      have:bnd K.E get none n=n:=rfl
      rw[this] at hhm
      simp only[mxv]
      omega
   split at hok
   ·rename_i id e' off k c ex
    subst hok
    rw[ex] at rx hnn
    simp only[z7e] at hnn
    subst hnn
    simp only[Rep] at rx
    obtain⟨bk,cap,o',hbk,vx,hcap,hc,ho',hxc⟩:=rx
    obtain⟨M,hr,h1,h2⟩:=hrun _ cap hcap vx
    refine z7qa hI hS (c:= .bv id e' (off+bnd K.E get lo 0*e') (bnd K.E get hi k-bnd K.E get lo 0) (mxv K.E get mx k c-bnd K.E get lo 0)) (by simp only[eff,ex];cases mx<;>rfl) hr ?_
    simp only[Rep,Option.map_some,Addr.add_mid]
    have hM:mxv K.E get mx k c≤M:=by
     rw[h2]
     cases mx with
     |none=>exact hc
     |some _=>exact Nat.le_refl _
    by_cases hML:M=bnd K.E get lo 0
    ·rw[if_pos hML]
     exact⟨bk,_,_,hbk,rfl,by omega,by omega,.inr ⟨by omega,by omega⟩,fun h=>by rw[h2,hxc h]⟩
    ·rw[if_neg hML]
     refine⟨bk,_,_,hbk,rfl,by omega,by omega,?_,fun h=>by rw[h2,hxc h]⟩
     rcases ho' with rfl|⟨hk0,hc0⟩
     ·exact .inl rfl
     ·refine .inr ⟨?_,?_⟩
      ·have:bnd K.E get hi k≤k:=Nat.le_trans hhm hmn
       omega
      ·cases mx with
       |none=>simp only[mxv];omega
       |some _=>simp only[mxv];omega
   ·rename_i m nl k cs ex
    rw[ex] at rx hnn
    simp only[z7e] at hnn
    subst hnn
    have rx:=z2Ob rx
    simp only[z9b] at rx
    rcases rx with⟨bk,o',cap,vx,hcap,hc,hnl,_⟩|⟨q,vx,hk,hcs,hnl⟩
    ·obtain⟨M,hr,h1,h2⟩:=hrun _ cap hcap vx
     refine z7qa hI hS (c:=(eff K.E get getB (.slSl esz x lo hi mx)).val) (by simp only[eff,ex]) hr ?_
     have key:∀md:z4r,(md= .clip→M=bnd K.E get hi k)→(∀z,md≠ .own z)→Rep K.toCon g w (d.map .slot) (.sl md nl (bnd K.E get hi k-bnd K.E get lo 0) ((cs.drop (bnd K.E get lo 0*esz)).take ((bnd K.E get hi k-bnd K.E get lo 0)*esz)))
       (.slice (if M=bnd K.E get lo 0 then some ⟨bk,o',none⟩ else(some (⟨bk,o',none⟩:Addr)).map (·.add (bnd K.E get lo 0*esz))) (bnd K.E get hi k-bnd K.E get lo 0) (M-bnd K.E get lo 0)):=fun md hmd hno=>by
      have hp:z9b K.toCon g.S w (.sl md nl (bnd K.E get hi k-bnd K.E get lo 0) ((cs.drop (bnd K.E get lo 0*esz)).take ((bnd K.E get hi k-bnd K.E get lo 0)*esz)))
        (.slice (if M=bnd K.E get lo 0 then some ⟨bk,o',none⟩ else(some (⟨bk,o',none⟩:Addr)).map (·.add (bnd K.E get lo 0*esz))) (bnd K.E get hi k-bnd K.E get lo 0) (M-bnd K.E get lo 0)):=by
       simp only[z9b,Option.map_some,Addr.add_mid]
       by_cases hML:M=bnd K.E get lo 0
       ·rw[if_pos hML]
        have e0:bnd K.E get hi k-bnd K.E get lo 0=0:=by omega
        rw[e0,Nat.zero_mul,List.take_zero]
        exact .inl ⟨bk,o',_,rfl,by omega,by simp[z4b],hnl,fun hm=>by have:=hmd hm;omega⟩
       ·rw[if_neg hML]
        exact .inl ⟨bk,_,_,rfl,by omega,(hc.drop _).take _,hnl,fun hm=>by have:=hmd hm;omega⟩
      cases md with
      |plain=>simpa only[Rep] using hp
      |clip=>simpa only[Rep] using hp
      |own z=>exact absurd rfl (hno z)
     simp only[eff,ex]
     cases mx with
     |none=>exact key .plain (by simp) (by simp)
     |some y=>
      simp only[mxv] at h2⊢
      split
      ·rename_i heq
       exact key .clip (fun _=>by rw[h2,heq]) (by simp)
      ·exact key .plain (by simp) (by simp)
    ·subst hk hcs
     obtain⟨M,hr,h1,h2⟩:=hrun q 0 (Nat.le_refl _) vx
     have hz:bnd K.E get hi 0=0:=by omega
     have hl0:bnd K.E get lo 0=0:=by omega
     have hM:M=0:=by rw[h2];cases mx with|none=>rfl|some _=>simp only[mxv];omega
     refine z7qa hI hS (c:=(eff K.E get getB (.slSl esz x lo hi mx)).val) (v:= .slice q 0 0) (by simp only[eff,ex]) (by rw[hr,hz,hl0,hM];simp) ?_
     simp only[eff,ex,hz,hl0,List.drop_nil,List.take_nil]
     have key:∀md:z4r,(∀z,md≠ .own z)→Rep K.toCon g w (d.map .slot) (.sl md nl (0-0) []) (.slice q 0 0):=fun md hno=>by
      cases md with
      |plain=>simp only[Rep,z9b];exact .inr ⟨q,rfl,trivial,trivial,hnl⟩
      |clip=>simp only[Rep,z9b];exact .inr ⟨q,rfl,trivial,trivial,hnl⟩
      |own z=>exact absurd rfl (hno z)
     cases mx with
     |none=>exact key .plain (by simp)
     |some y=>
      simp only[]
      split
      ·exact key .clip (by simp)
      ·exact key .plain (by simp)
   ·rename_i ex
    rw[ex] at rx hnn
    simp only[z7e] at hnn
    subst hnn
    simp only[Rep] at rx
    obtain⟨M,hr,h1,h2⟩:=hrun none 0 (Nat.le_refl _) rx
    have hz:bnd K.E get hi 0=0:=by omega
    have hl0:bnd K.E get lo 0=0:=by omega
    have hM:M=0:=by rw[h2];cases mx with|none=>rfl|some _=>simp only[mxv];omega
    exact z7qa hI hS (c:= .lit (.slice none 0 0)) (v:= .slice none 0 0) (by simp only[eff,ex]) (by rw[hr,hz,hl0,hM];simp) (z5Ia _ _)
   ·cases hok
  ·cases h
 ·cases h

def z42b (K:Cx) (op:Op) (x:Arg) (lo hi:Option Arg):Bool:=
 match op with
 | .slice t x' lo' hi' none=>z9bb K.P t z9wb&&z8ua K x' x&&z0mb K lo' lo&&z0mb K hi' hi
 |_=>false
theorem z4Dc (hI:Inv K base g w getB) (hS:z2v K g w get a) {x:Arg} {lo hi:Option Arg} (h:z42b K o.op x lo hi=true) (hok:okp K.E get getB (.slStr x lo hi)):z3Ua K base a get getB d o (.slStr x lo hi) w:=by
 unfold z42b at h
 split at h
 ·rename_i t x' lo' hi' ho
  simp only[Bool.and_eq_true] at h
  obtain⟨⟨⟨h,hx⟩,hlo⟩,hhi⟩:=h
  obtain⟨D,hu,hD⟩:=z3wa h
  have:=z2Ya hD
  subst this
  obtain⟨hs,k2,k1⟩:=hok
  obtain⟨ex,vx⟩:=z9Hb (z3qa hI hS hx) hs
  generalize asS (arg K.E get x)=s at*
  have hb:=z3ub (mx:=none) (mx':=none) hI hS hlo hhi rfl false s.size s.size (Nat.le_refl _) s.size (Nat.le_refl _) (by simp) trivial k2 k1
  refine z7qa hI hS (c:= .lit (.string (s.extract (bnd K.E get lo 0) (bnd K.E get hi s.size)))) (v:= .string (s.extract (bnd K.E get lo 0) (bnd K.E get hi s.size))) (by simp only[eff,ex,asS]) ?_ (z5Ia _ _)
  simp only[Option.map_none] at hb
  simp only[execOp,ho,vx,Instr.sliceAt,Instr.slice,Sem.run_bind,run_underlying hu,Result.andThen_ok,Option.map_none,Option.isSome_none,Bool.false_eq_true,if_false,hb,Sem.run_pure]
 ·cases h

end
end Go.Abs
end
