/- Lemmas: an abstract interpreter, and what the functions compute. -/
import Derived.Test.YtepddcbbkhdfiaaGreatDoorA
import Derived.WalkSpells
import Derived.Laws.Cover3
import Derived.Laws.MakeOwn
set_option linter.unusedSimpArgs false
set_option linter.unusedVariables false
set_option linter.unusedSectionVars false
section
namespace Go.Abs

def z51a (K:Cx) (base:z4f) (a:Act) (get:Nat→z0a) (getB:Nat→Option (List z0a)) (d:Option Nat) (o:Oper) (x:AOp) (w:World):Prop:=
 ∃r v w',(execOp a.eval o).run K.P w= .ok r w'∧(r= .value v∨(r= .skip∧v=undef))∧z0rc K base a get getB d (eff K.E get getB x) v w'

section
variable {K : Cx} {base : z4f} {g g' : Gh} {w w' : World} {get : Nat → z0a} {getB : Nat → Option (List z0a)} {a : Act} {o : Oper} {d : Option Nat}

theorem z7qa {x:AOp} {c:z0a} {v:Value} (hI:Inv K base g w getB) (hS:z3v K g w get a) (he:eff K.E get getB x={val:=c}) (hr:(execOp a.eval o).run K.P w= .ok (.value v) w) (hc:Rep K.toCon g w (d.map .slot) c v):
  z51a K base a get getB d o x w:=⟨_,v,w,hr,.inl rfl,by rw[he];exact z7Zc hI hS hc⟩

/-! ### moves -/
def z7vd (K:Cx) (op:Op) (y:Arg):Bool:=match op with| .move x=>z7wa K x y| .assign x=>z7wa K x y|_=>false

theorem z02a {x:Operand} {n:Nat} (h:z7wa K x (.s n)=true):x= .tmp n:=by
 unfold z7wa at h
 split at h
 ·rename_i h1;cases h1;simp only[beq_iff_eq] at h;rw[h]
 ·rename_i h1;cases h1
 ·rename_i h1;cases h1
 ·rename_i h1;cases h1
 ·cases h

theorem z5db (hI:Inv K base g w getB) (hS:z3v K g w get a) (n:Nat) (l:Option Loc):
  ∃g',Inv K base g' w getB∧z3v K g' w (upd get [(n,dem (get n))]) a∧Rep K.toCon g' w l (get n) (a.eval (.tmp n))∧(∀id b,g.mu id=some b→g'.mu id=some b)∧g'.S=g.S∧g'.mu=g.mu:=by
 cases l with
 |none=>
  refine⟨g,hI,fun s=> ?_,z7gb (z3Gb hS n),fun _ _ h=>h,rfl,rfl⟩
  simp only[upd,lk]
  by_cases hs:s=n
  ·subst hs;simp only[if_true,Option.getD_some];exact Rep.dem _ (hS s)
  ·simp only[if_neg hs,Option.getD_none];exact hS s
 |some l1=>exact⟨z2Va g (.slot n) l1,z6kb hI n l1,z9wc hS n l1,z6Fa (z3Gb hS n),fun _ _ h=>h,rfl,rfl⟩

theorem z9Kd (hI:Inv K base g w getB) (hS:z3v K g w get a) {y:Arg} (take:Bool) (h:z7vd K o.op y=true):z51a K base a get getB d o (.mv take y) w:=by
 have hrun:∃x,z7wa K x y=true∧(execOp a.eval o).run K.P w= .ok (.value (a.eval x)) w:=by
  unfold z7vd at h
  split at h
  ·rename_i x ho;exact⟨x,h,by simp[execOp,ho]⟩
  ·rename_i x ho;exact⟨x,h,by simp[execOp,ho]⟩
  ·cases h
 obtain⟨x,hx,hrun⟩:=hrun
 have plain:z51a K base a get getB d o (.mv false y) w:=z7qa hI hS (c:=dem (arg K.E get y)) (by cases y<;>rfl) hrun (Rep.dem _ (z3qa hI hS hx))
 cases take with
 |false=>exact plain
 |true=>
  cases y with
  |c e=>
   refine z7qa hI hS (c:=e) rfl hrun ?_
   unfold z7wa at hx
   split at hx
   ·rename_i h1;cases h1
   ·rename_i v e' h1
    cases h1
    exact z3Ab _ _ _ hx
   ·rename_i h1;cases h1
   ·rename_i f n h1
    cases h1
    exact z29a _ rfl (z3qa (x:= .func f) (y:= .c (.fn n [] [])) hI hS (by simpa[z7wa] using hx))
   ·cases hx
  |g _=>exact plain
  |s n=>
   have:=z02a hx
   subst this
   obtain⟨g',h1,h2,h3,_⟩:=z5db hI hS n (d.map .slot)
   exact⟨_,_,w,hrun,.inl rfl,g',h1,h2,h3⟩

def z7xc (K:Cx) (op:Op) (c x y:Arg):Bool:=match op with| .pick c' x' y'=>z7wa K c' c&&z7wa K x' x&&z7wa K y' y|_=>false
theorem z0Oc (hI:Inv K base g w getB) (hS:z3v K g w get a) {c x y:Arg} (h:z7xc K o.op c x y=true) (hok:okp K.E get getB (.pick c x y)):z51a K base a get getB d o (.pick c x y) w:=by
 unfold z7xc at h
 split at h
 ·rename_i c' x' y' ho
  simp only[Bool.and_eq_true] at h
  obtain⟨⟨hc,hx⟩,hy⟩:=h
  obtain⟨_,hcv⟩:=z7sb (z3qa hI hS hc) hok
  refine z7qa (v:=if asB (arg K.E get c) then a.eval x' else a.eval y') hI hS rfl ?_ ?_
  ·simp only[execOp,ho,hcv,asBool]
   rfl
  ·split
   ·exact Rep.dem _ (z3qa hI hS hx)
   ·exact Rep.dem _ (z3qa hI hS hy)
 ·cases h

/-! ### arithmetic -/
def z06c (K:Cx) (op:Op) (bo:BinOp) (x y:Arg):Bool:=match op with| .binOp bo' _ x' y' _=>decide (bo=bo')&&z7wa K x' x&&z7wa K y' y|_=>false
theorem z1cd (hI:Inv K base g w getB) (hS:z3v K g w get a) {bo:BinOp} {x y:Arg} (h:z06c K o.op bo x y=true) (hok:okp K.E get getB (.bin bo x y)):z51a K base a get getB d o (.bin bo x y) w:=by
 unfold z06c at h
 split at h
 ·rename_i bo' t x' y' _ ho
  simp only[Bool.and_eq_true,decide_eq_true_eq] at h
  obtain⟨⟨rfl,hx⟩,hy⟩:=h
  obtain⟨⟨u,hu⟩,⟨v,hv⟩⟩:=z5Vc hok
  have e1:=z1ec (z3qa hI hS hx) hu
  have e2:=z1ec (z3qa hI hS hy) hv
  obtain⟨h1,h2⟩:=z2Id (P:=K.P) w bo t x' y' hu hv hok
  refine z7qa hI hS (c:=z9c bo (arg K.E get x) (arg K.E get y)) (v:=asV (z9c bo (arg K.E get x) (arg K.E get y))) rfl ?_ (by rw[h2];exact z6Ma _ _)
  simp only[execOp,ho,e1,e2]
  rw[Sem.run_bind,h1]
  rfl
 ·cases h

def z2ud (K:Cx) (op:Op) (uo:UnOp) (x:Arg):Bool:=match op with| .unOp uo' _ x'=>decide (uo=uo')&&z7wa K x' x|_=>false
theorem z1yd (hI:Inv K base g w getB) (hS:z3v K g w get a) {uo:UnOp} {x:Arg} (h:z2ud K o.op uo x=true) (hok:okp K.E get getB (.un uo x)):z51a K base a get getB d o (.un uo x) w:=by
 unfold z2ud at h
 split at h
 ·rename_i uo' t x' ho
  simp only[Bool.and_eq_true,decide_eq_true_eq] at h
  obtain⟨rfl,hx⟩:=h
  obtain⟨u,hu⟩:=z3ed hok
  have e1:=z1ec (z3qa hI hS hx) hu
  obtain⟨h1,h2⟩:=z2Xd (P:=K.P) w uo hu hok
  refine z7qa hI hS (c:=unV uo (arg K.E get x)) (v:=asV (unV uo (arg K.E get x))) rfl ?_ (by rw[h2];exact z6Ma _ _)
  simp only[execOp,ho,e1,Sem.run_bind,h1,Result.andThen_ok,Sem.run_pure]
 ·cases h

def z4Pd (neg:Bool) (bo:BinOp):Bool:=match bo with| .eql=> !neg| .neq=>neg|_=>false
theorem z8ec {P:Program} (w:World) {neg:Bool} {bo:BinOp} (hb:z4Pd neg bo=true) (t:TypeId) (x y:Operand) {u v:Value} {r:Bool} (hg:(eqGuard bo t x y u v).run P w= .ok () w)
  (hq:(binOp .eql t u v)=(do pure (.bool (←Op.equal t u v)))∧(binOp .neq t u v)=(do pure (.bool (!(←Op.equal t u v))))) (hr:(Op.equal t u v).run P w= .ok r w):
  ((do eqGuard bo t x y u v;binOp bo t u v):Sem Value).run P w= .ok (.bool (r !=neg)) w:=by
 rw[Sem.run_bind,hg]
 cases bo<;>simp only[z4Pd,Bool.false_eq_true] at hb
 ·simp only[Bool.not_eq_true'] at hb
  subst hb
  simp only[Result.andThen_ok,hq.1,Sem.run_bind,hr,Sem.run_pure]
  cases r<;>rfl
 ·subst hb
  simp only[Result.andThen_ok,hq.2,Sem.run_bind,hr,Sem.run_pure]
  cases r<;>rfl

theorem z4Eb:∀{ks:List LK} {cs:List z0a} {vs:List Value},z2b K.toCon g w cs vs→z6n ks cs→z6Ja ks vs=true∧∀{cs':List z0a} {vs':List Value},z2b K.toCon g w cs' vs'→z6n ks cs'→decide (vs.map z5gb=vs'.map z5gb)=z8s ks cs cs'
 |[],[],vs,h,_=>by
  simp only[z2b] at h;subst h
  refine⟨rfl,fun {cs' vs'} h' hk=> ?_⟩
  cases cs' with
  |nil=>simp only[z2b] at h';subst h';simp[z8s]
  |cons _ _=>simp[z6n] at hk
 |[],_::_,_,_,h=>by simp[z6n] at h
 |_::_,[],_,_,h=>by simp[z6n] at h
 |k::ks,c::cs,vs,h,hk=>by
  simp only[z2b] at h
  obtain⟨x,xs,rfl,h1,h2⟩:=h
  simp only[z6n] at hk
  obtain⟨hm,hrest⟩:=z4Eb h2 hk.2
  have one:∀{c:z0a} {x:Value},Rep K.toCon g w none c x→z2be k c→z9Od k x=true∧(c= .lit x):=fun {c x} hr ho=>by
   cases k<;>(unfold z2be at ho;split at ho<;>simp_all)<;>(simp only[Rep] at hr;subst hr;simp_all [z9Od])
  obtain⟨o1,e1⟩:=one h1 hk.1
  refine⟨by simp[z6Ja,o1,hm],fun {cs' vs'} h' hk'=> ?_⟩
  cases cs' with
  |nil=>simp[z6n] at hk'
  |cons c' cs'=>
   simp only[z2b] at h'
   obtain⟨x',xs',rfl,h1',h2'⟩:=h'
   simp only[z6n] at hk'
   obtain⟨o1',e1'⟩:=one h1' hk'.1
   have:=hrest h2' hk'.2
   simp only[List.map_cons,List.cons.injEq,Bool.decide_and,z8s,this]
   congr 1
   rw[e1,e1']
   cases k<;>cases x<;>simp[z9Od] at o1<;>cases x'<;>simp[z9Od] at o1'<;>simp[z5gb,z3ee,asI,asB,asS]<;>exact Bool.eq_iff_iff.2 (by simp)

def z1Wc (K:Cx) (op:Op) (ks:List LK) (neg:Bool) (x y:Arg):Bool:=
 match op with
 | .binOp bo t x' y' _=>z4Pd neg bo&&z1lb K.P t (fun D=>D.isRow)&&decide (z1Ub K.P 9 t=some ks)&& !(K.P.eqGuardType K.P.depth t)&&z7wa K x' x&&z7wa K y' y
 |_=>false
theorem z6jd (hI:Inv K base g w getB) (hS:z3v K g w get a) {ks:List LK} {neg:Bool} {x y:Arg} (h:z1Wc K o.op ks neg x y=true) (hok:okp K.E get getB (.eqF ks neg x y)):z51a K base a get getB d o (.eqF ks neg x y) w:=by
 unfold z1Wc at h
 split at h
 ·rename_i bo t x' y' _ ho
  simp only[Bool.and_eq_true,decide_eq_true_eq,Bool.not_eq_true'] at h
  obtain⟨⟨⟨⟨⟨hb,ht⟩,hf⟩,hgd⟩,hx⟩,hy⟩:=h
  have rx:=z3qa hI hS hx
  have ry:=z3qa hI hS hy
  simp only[okp] at hok
  split at hok
  ·rename_i xs ys ex ey
   rw[ex] at rx
   rw[ey] at ry
   simp only[Rep] at rx ry
   obtain⟨ax,vx,rx⟩:=rx
   obtain⟨ay,vy,ry⟩:=ry
   obtain⟨m1,hd⟩:=z4Eb rx hok.1
   obtain⟨m2,_⟩:=z4Eb ry hok.2
   obtain⟨D,hu,hD⟩:=z7ya ht
   have hmk:∀l:Array Value,mkv K.P t l.toList= .agg l:=fun l=>by
    unfold mkv
    rw[hu]
    cases D<;>simp[TypeDesc.isRow] at hD<;>simp
   have hq:=z9lb (P:=K.P) 9991 9 t ks hf w ax.toList ay.toList m1 m2
   rw[hmk,hmk,hd ry hok.2] at hq
   refine z7qa hI hS (c:= .lit (.bool (z8s ks xs ys !=neg))) (v:= .bool (z8s ks xs ys !=neg)) (by simp[eff,ex,ey,z4c]) ?_ (z6Ma _ _)
   simp only[execOp,ho,vx,vy]
   have hgu:(eqGuard bo t x' y' (.agg ax) (.agg ay)).run K.P w= .ok () w:=by
    cases bo<;>simp[z4Pd] at hb<;>simp[eqGuard,hgd]
   rw[Sem.run_bind,z8ec w hb t x' y' hgu ⟨rfl,rfl⟩ (show(Op.equal t (.agg ax) (.agg ay)).run K.P w=_ from hq)]
   rfl
  ·cases hok
 ·cases h

def z5dc (K:Cx) (op:Op) (neg:Bool) (x y:Arg):Bool:=match op with| .binOp bo t x' y' _=>z4Pd neg bo&&z1lb K.P t z9Zc&&z7wa K x' x&&z7wa K y' y|_=>false
theorem z2rd {l:Option Loc} {m:z5r} {b:Bool} {n:Nat} {cs:List z0a} {v:Value} (h:Rep K.toCon g w l (.sl m (some b) n cs) v):∃a k c,v= .slice a k c∧a.isNone=b:=by
 have:z9b K.toCon g.S w (.sl .plain (some b) n cs) v:=by
  cases m<;>simp only[Rep] at h
  ·exact h
  ·simp only[z9b] at h⊢
   rcases h with⟨b,o,cap,h1,h2,h3,h4,_⟩|h
   ·exact .inl ⟨b,o,cap,h1,h2,h3,h4,by simp⟩
   ·exact .inr h
  ·exact h.1
 simp only[z9b] at this
 rcases this with⟨bk,o,cap,rfl,_,_,h4,_⟩|⟨q,rfl,_,_,h4⟩
 ·exact⟨_,_,_,rfl,by cases b<;>simp_all⟩
 ·exact⟨_,_,_,rfl,by cases b<;>cases q<;>simp_all⟩
theorem z0zb {P:Program} (w:World) (d:Nat) (t e:TypeId) (a:Option Addr) (l c:Nat) (h:P.underlying t=some (.slice e)):(Op.equalIn (d+1) t (.slice none 0 0) (.slice a l c)).run P w= .ok a.isNone w:=by
 simp[Op.equalIn,run_underlying h]
theorem z8Jc (hI:Inv K base g w getB) (hS:z3v K g w get a) {neg:Bool} {x y:Arg} (h:z5dc K o.op neg x y=true) (hok:okp K.E get getB (.eqnil neg x y)):z51a K base a get getB d o (.eqnil neg x y) w:=by
 unfold z5dc at h
 split at h
 ·rename_i bo t x' y' _ ho
  simp only[Bool.and_eq_true] at h
  obtain⟨⟨⟨hb,ht⟩,hx⟩,hy⟩:=h
  have rx:=z3qa hI hS hx
  have ry:=z3qa hI hS hy
  obtain⟨D,hu,hD⟩:=z7ya ht
  obtain⟨e,rfl⟩:=z6ac hD
  simp only[okp] at hok
  split at hok
  ·rename_i m b n cs ex ey
   rw[ex] at rx
   rw[ey] at ry
   simp only[Rep] at rx
   obtain⟨aa,k,c,vy,hn⟩:=z2rd ry
   refine z7qa hI hS (c:= .lit (.bool (b !=neg))) (v:= .bool (b !=neg)) (by simp[eff,ex,ey]) ?_ (z6Ma _ _)
   simp only[execOp,ho,rx,vy]
   have hgu:(eqGuard bo t x' y' (.slice none 0 0) (.slice aa k c)).run K.P w= .ok () w:=z9Na w bo t x' y' trivial
   have hq:(Op.equal t (.slice none 0 0) (.slice aa k c)).run K.P w= .ok b w:=by
    subst hn
    exact z0zb w 9999 t e aa k c hu
   rw[Sem.run_bind,z8ec w hb t x' y' hgu ⟨rfl,rfl⟩ hq]
   rfl
  ·rename_i m b n cs ex ey
   rw[ex] at rx
   rw[ey] at ry
   simp only[Rep] at ry
   obtain⟨aa,k,c,vx,hn⟩:=z2rd rx
   refine z7qa hI hS (c:= .lit (.bool (b !=neg))) (v:= .bool (b !=neg)) (by simp[eff,ex,ey]) ?_ (z6Ma _ _)
   simp only[execOp,ho,ry,vx]
   have hgu:(eqGuard bo t x' y' (.slice aa k c) (.slice none 0 0)).run K.P w= .ok () w:=z9Na w bo t x' y' trivial
   have hq:(Op.equal t (.slice aa k c) (.slice none 0 0)).run K.P w= .ok b w:=by
    rw[run_equal_slice_nil w t e aa k c hu,hn]
   rw[Sem.run_bind,z8ec w hb t x' y' hgu ⟨rfl,rfl⟩ hq]
   rfl
  ·cases hok
 ·cases h

/-! ### lengths, least and greatest -/
def z43c (K:Cx) (op:Op) (str:Bool) (x:Arg):Bool:=
 match op with
 | .call c=>(match c.callee,c.args.toList,c.argTypes.toList with
  | .builtin .len,[x'],[t]=>(if str then z1lb K.P t z4Db else z1lb K.P t z9Zc)&&z7wa K x' x
  |_,_,_=>false)
 |_=>false
theorem arr1 {α:Type} {l:Array α} {x:α} (h:l.toList=[x]):l= #[x]:=Array.ext' h
theorem z8Od {α:Type} {l:Array α} {x y:α} (h:l.toList=[x,y]):l= #[x,y]:=Array.ext' h
theorem z48c {l:Option Loc} {d:z0a} {v:Value} (h:Rep K.toCon g w l d v) (hs:z4aa d):∃a c,v= .slice a (z7e d) c:=by
 unfold z4aa at hs
 split at hs
 ·rename_i m nl n cs
  have:z9b K.toCon g.S w (.sl .plain nl n cs) v:=by
   cases m<;>simp only[Rep] at h
   ·exact h
   ·simp only[z9b] at h⊢
    rcases h with⟨b,o,cap,h1,h2,h3,h4,_⟩|h
    ·exact .inl ⟨b,o,cap,h1,h2,h3,h4,by simp⟩
    ·exact .inr h
   ·exact h.1
  simp only[z9b] at this
  rcases this with⟨bk,o,cap,rfl,_⟩|⟨q,rfl,rfl,_⟩
  ·exact⟨_,_,rfl⟩
  ·exact⟨_,_,rfl⟩
 ·simp only[Rep] at h;obtain⟨_,_,_,_,rfl,_⟩:=h;exact⟨_,_,rfl⟩
 ·simp only[Rep] at h;subst h;exact⟨_,_,rfl⟩
 ·cases hs
theorem z4cd (hI:Inv K base g w getB) (hS:z3v K g w get a) {str:Bool} {x:Arg} (h:z43c K o.op str x=true) (hok:okp K.E get getB (.len str x)):z51a K base a get getB d o (.len str x) w:=by
 unfold z43c at h
 split at h
 ·rename_i c ho
  split at h
  ·rename_i x' t hc hargs hts
   obtain⟨callee,args,ts⟩:=c
   simp only at hc hargs hts
   subst hc
   have:=arr1 hargs
   subst this
   have:=arr1 hts
   subst this
   simp only[Bool.and_eq_true] at h
   obtain⟨ht,hx⟩:=h
   have rx:=z3qa hI hS hx
   simp only[okp] at hok
   refine z7qa hI hS (c:= .lit (.int .i64 (z7e (arg K.E get x)))) (v:= .int .i64 (z7e (arg K.E get x))) (by simp[eff]) ?_ (z6Ma _ _)
   cases str with
   |true=>
    simp only[if_true] at ht hok
    obtain⟨D,hu,hD⟩:=z7ya ht
    have:=z26a hD
    subst this
    obtain⟨e0,e1⟩:=z0Ob rx hok
    have hsl:z7e (arg K.E get x)=(asS (arg K.E get x)).size:=by rw[e0];rfl
    simp[execOp,ho,resolve,invoke,builtin,Builtin.len_,e1,run_underlying hu,goInt,hsl]
   |false=>
    simp only[Bool.false_eq_true,if_false] at ht hok
    obtain⟨D,hu,hD⟩:=z7ya ht
    obtain⟨e,rfl⟩:=z6ac hD
    obtain⟨aa,c,e1⟩:=z48c rx hok
    simp[execOp,ho,resolve,invoke,builtin,Builtin.len_,e1,run_underlying hu,goInt]
  ·cases h
 ·cases h

end
end Go.Abs
end

section
namespace Go.Abs

section
variable {K : Cx} {base : z4f} {g g' : Gh} {w w' : World} {get : Nat → z0a} {getB : Nat → Option (List z0a)} {a : Act} {o : Oper} {d : Option Nat}

/-! ### conversions -/
def z8Qa (K:Cx) (op:Op) (f:TypeId→TypeId→Bool) (x:Arg):Bool:=match op with| .convert s t x'=>f s t&&z7wa K x' x|_=>false
def z03b (P:Program) (t:TypeId):Bool:=match P.underlying t with|some (.slice e)=>z1lb P e (z2Gc .u8)&&z9Oa P e 1|_=>false
def z4vd (P:Program) (k:IntKind) (s t:TypeId):Bool:=z1lb P s (fun _=>true)&&z1lb P t (z2Gc k)
def z5rd (P:Program) (s t:TypeId):Bool:=z03b P s&&z1lb P t z4Db
def z7tc (P:Program) (s t:TypeId):Bool:=z1lb P s z4Db&&z03b P t
theorem z7Pb {P:Program} {t:TypeId} (h:z03b P t=true):∃e,P.underlying t=some (.slice e)∧P.underlying e=some (.int .u8)∧z9Oa P e 1=true:=by
 unfold z03b at h
 split at h
 ·rename_i e hu
  simp only[Bool.and_eq_true] at h
  obtain⟨D,h1,h2⟩:=z7ya h.1
  have:=z1hc h2
  subst this
  exact⟨e,hu,h1,h.2⟩
 ·cases h

theorem z7Ic (hI:Inv K base g w getB) (hS:z3v K g w get a) {k:IntKind} {x:Arg} (h:z8Qa K o.op (z4vd K.P k) x=true) (hok:okp K.E get getB (.toInt k x)):z51a K base a get getB d o (.toInt k x) w:=by
 unfold z8Qa at h
 split at h
 ·rename_i s t x' ho
  simp only[Bool.and_eq_true,z4vd] at h
  obtain⟨⟨hs,ht⟩,hx⟩:=h
  obtain⟨k',e0,e1⟩:=z1kb (z3qa hI hS hx) hok
  obtain⟨D,hu,_⟩:=z7ya hs
  obtain⟨D',hu',hD⟩:=z7ya ht
  have:=z1hc hD
  subst this
  refine z7qa hI hS rfl (v:= .int k (k.wrap (asI (arg K.E get x)))) ?_ (z6Ma _ _)
  simp only[execOp,ho,e1,convert,Sem.run_bind,run_underlying hu,run_underlying hu',Result.andThen_ok,Conv.intToInt,Sem.run_pure]
 ·cases h

theorem z5Pa {P:Program} (w:World) (x:Addr):(loadCells x 0).run P w= .ok #[] w:=by simpa using run_loadCells_list (P:=P) w x [] (by simp)

theorem z0Xc {P:Program} (w:World) {s t e:TypeId} (hs:P.underlying s=some (.slice e)) (he:P.underlying e=some (.int .u8)) (ht:P.underlying t=some .string) {v:Value} {n:Nat} (ns:List Int) (hn:ns.length=n)
  (hv:(∃q:Option Addr,v= .slice q 0 0∧ns=[])∨∃bk o cap,v= .slice (some ⟨bk,o,none⟩) n cap∧w.rangeAt bk o (ns.map (Value.int .u8))):
  (convert s t v).run P w= .ok (.string (ns.foldl (fun r n=>r.push (UInt8.ofNat n.toNat)) ByteArray.empty)) w:=by
 rcases hv with⟨q,rfl,rfl⟩|⟨bk,o,cap,rfl,hr⟩
 ·cases q with
  |none=>simp[convert,run_underlying hs,run_underlying ht,run_underlying he,Conv.bytesToString]
  |some q=>
   simp only[convert,Sem.run_bind,run_underlying hs,run_underlying ht,run_underlying he,Result.andThen_ok]
   exact run_bytesToString w q 0 0 [] (z5Pa w q)
 ·have hl:(loadCells ⟨bk,o,none⟩ n).run P w= .ok (ns.map (Value.int .u8)).toArray w:=by
   have:=run_loadCells_list (P:=P) w ⟨bk,o,none⟩ (ns.map (Value.int .u8)) (fun j v hv=>by rw[Addr.add_mid];exact hr j v hv)
   rwa[List.length_map,hn] at this
  simp only[convert,Sem.run_bind,run_underlying hs,run_underlying ht,run_underlying he,Result.andThen_ok]
  exact run_bytesToString w ⟨bk,o,none⟩ n cap ns hl

theorem z44c:∀{cs:List z0a} {vs:List Value},z2b K.toCon g w cs vs→(∀c∈cs,z28 .u8 c)→vs=(cs.map asI).map (Value.int .u8)
 |[],vs,h,_=>by simp only[z2b] at h;subst h;rfl
 |c::cs,vs,h,hc=>by
  simp only[z2b] at h
  obtain⟨x,xs,rfl,h1,h2⟩:=h
  have:=hc c (by simp)
  unfold z28 at this
  split at this
  ·subst this
   simp only[Rep] at h1
   subst h1
   rw[z44c h2 (fun c hm=>hc c (by simp[hm]))]
   rfl
  ·cases this

theorem z5Ic (hI:Inv K base g w getB) (hS:z3v K g w get a) {b:Option Nat} {x:Arg} (h:z8Qa K o.op (z5rd K.P) x=true) (hok:okp K.E get getB (.toStr b x)):z51a K base a get getB d o (.toStr b x) w:=by
 unfold z8Qa at h
 split at h
 ·rename_i s t x' ho
  simp only[Bool.and_eq_true,z5rd] at h
  obtain⟨⟨hs,ht⟩,hx⟩:=h
  obtain⟨e,hu,he,_⟩:=z7Pb hs
  obtain⟨D',hu',hD⟩:=z7ya ht
  have:=z26a hD
  subst this
  obtain⟨vs,h1,h2,h3⟩:=z1Rc hI hok.1 (z3qa hI hS hx)
  have hvs:=z44c h1 hok.2
  have hlen:((z0c (bxl getB b) (arg K.E get x)).map asI).length=z7e (arg K.E get x):=by
   rw[List.length_map,h1.len,h2,Nat.mul_one]
  refine z7qa hI hS rfl (v:= .string (z9e (z0c (bxl getB b) (arg K.E get x)))) ?_ (z6Ma _ _)
  simp only[execOp,ho]
  rw[Sem.run_bind,z0Xc w hu he hu' ((z0c (bxl getB b) (arg K.E get x)).map asI) hlen (by
   rcases h3 with⟨q,k1,k2,k3⟩|⟨bk,o,cap,k1,_,k2⟩
   ·left
    refine⟨q,k1,List.eq_nil_of_length_eq_zero ?_⟩
    rw[hlen,k3]
   ·right
    exact⟨bk,o,cap,k1,by rw[←hvs];exact k2⟩)]
  rw[foldl_push_bytes]
  simp only[Result.andThen_ok,Sem.run_pure,z9e,List.map_map]
  congr 3
  show(ByteArray.mk (#[]++_))=_
  simp
 ·cases h

theorem z8je (s:ByteArray):s.data.toList.length=s.size:=by rw[Array.length_toList];rfl

theorem z44d {S:Nat→Nat} (s:ByteArray) (b n:Nat) (hS:n≤S b) (hn:s.data.toList.length=n) (hc:∀j (hj:j<s.data.size),w.cell? ⟨b,j,none⟩=some (.int .u8 (s.data[j].toNat:Int))):
  z4b K.toCon S w (z3i s.data.toList) b 0:=z4b.mk fun i c hi=>by
 simp only[z3i,List.getElem?_map] at hi
 cases hl:s.data.toList[i]? with
 |none=>simp[hl] at hi
 |some u=>
  simp only[hl,Option.map_some,Option.some.injEq] at hi
  subst hi
  obtain⟨hlt,hu⟩:=List.getElem?_eq_some_iff.1 hl
  have hlt':i<s.data.size:=by simpa using hlt
  refine⟨by omega,_,by rw[Nat.zero_add];exact hc i hlt',?_⟩
  simp only[z9b]
  rw[←hu]
  rfl

theorem z1oc (hI:Inv K base g w getB) (hS:z3v K g w get a) {x:Arg} (h:z8Qa K o.op (z7tc K.P) x=true) (hok:okp K.E get getB (.toBytes x)):z51a K base a get getB d o (.toBytes x) w:=by
 unfold z8Qa at h
 split at h
 ·rename_i s t x' ho
  simp only[Bool.and_eq_true,z7tc] at h
  obtain⟨⟨hs,ht⟩,hx⟩:=h
  obtain⟨e,hu,he,_⟩:=z7Pb ht
  obtain⟨D',hu',hD⟩:=z7ya hs
  have:=z26a hD
  subst this
  obtain⟨e0,e1⟩:=z0Ob (z3qa hI hS hx) hok
  have hrun:=run_bytes_of_string (P:=K.P) w s t e (asS (arg K.E get x)) hu' hu he
  generalize hcap:grownCap w (asS (arg K.E get x)).size 0 e=cap at hrun
  have hge:(asS (arg K.E get x)).size≤cap:=by rw[←hcap];exact grownCap_ge _ _ _ _
  generalize asS (arg K.E get x)=str at*
  have hsz:(bytesRow str cap).size=cap:=by
   have e:str.data.size=str.size:=rfl
   simp only[bytesRow,Array.size_append,Array.size_map,Array.size_replicate,e]
   omega
  have hrun':(execOp a.eval o).run K.P w= .ok (.value (.slice (some ⟨w.heap.size,0,none⟩) str.size cap)) (w.drew.alloc (.cells (bytesRow str cap) e ((bytesRow str cap).size,(bytesRow str cap).size+1))):=by
   simp only[execOp,ho,e1]
   rw[Sem.run_bind,hrun]
   rfl
  refine⟨_,_,_,hrun',.inl rfl,z2Ya g w.heap.size str.size (d.map .slot),z2fb (z8Kb hI) _ _ _,(z84a (z8Kb hI) _ _ _).slots (z6zb.slots hS),?_⟩
  ·have hcell:∀j (hj:j<str.data.size),(w.drew.alloc (.cells (bytesRow str cap) e ((bytesRow str cap).size,(bytesRow str cap).size+1))).cell? ⟨w.heap.size,j,none⟩=some (.int .u8 (str.data[j].toNat:Int)):=fun j hj=>by
    have:=World.cell?_alloc_mark w.drew (bytesRow str cap) e ((bytesRow str cap).size,(bytesRow str cap).size+1) j
    rw[show w.drew.heap.size=w.heap.size from rfl] at this
    rw[this]
    exact bytesRow_at str cap j hj
   have hp:z9b K.toCon (z2Ya g w.heap.size str.size (d.map .slot)).S (w.drew.alloc (.cells (bytesRow str cap) e ((bytesRow str cap).size,(bytesRow str cap).size+1))) (.sl .plain (some false) str.size (z3i str.data.toList)) (.slice (some ⟨w.heap.size,0,none⟩) str.size cap):=by
    simp only[z9b]
    exact .inl ⟨_,_,_,rfl,hge,z44d str _ str.size (by simp[z2Ya]) (z8je str) hcell,by simp,by simp⟩
   have hef:(eff K.E get getB (.toBytes x)).val= .sl (.own 1) (some false) str.size (z3i str.data.toList):=by simp only[eff,e0,asS]
   rw[hef]
   simp only[Rep]
   refine⟨hp,fun l hl=> .inr ⟨_,cap,rfl,hge,by rw[z3i,List.length_map,z8je,Nat.mul_one],by simp[z2Ya],by simp[z2Ya,hl],?_⟩⟩
   have:=z9Ma w.drew (bytesRow str cap) e ((bytesRow str cap).size,(bytesRow str cap).size+1) (fun i hi=>by simp;omega) 0 (cap*1) (by rw[hsz];omega)
   exact this
 ·cases h

/-! ### a slice of letters that is shared with a string's kind -/
def z7Tc (K:Cx) (op:Op) (i:Nat) (x:Arg):Bool:=match op with| .extract x' i'=>(i==i')&&z7wa K x' x|_=>false
theorem z4lc (hI:Inv K base g w getB) (hS:z3v K g w get a) {i:Nat} {x:Arg} (h:z7Tc K o.op i x=true) (hok:okp K.E get getB (.extract i x)):z51a K base a get getB d o (.extract i x) w:=by
 unfold z7Tc at h
 split at h
 ·rename_i x' i' ho
  simp only[Bool.and_eq_true,beq_iff_eq] at h
  obtain⟨rfl,hx⟩:=h
  have rx:=Rep.dem none (z3qa hI hS hx)
  simp only[okp] at hok
  split at hok
  ·rename_i vs ex
   rw[ex] at rx
   simp only[Rep] at rx
   obtain⟨ax,vx,rx⟩:=rx
   obtain⟨v,hv,hr⟩:=rx.get i (vs.getD i .undef) (by rw[List.getD,List.getElem?_eq_getElem hok];rfl)
   refine z7qa hI hS (c:=dem (vs.getD i .undef)) (v:=v) (by simp only[eff,ex]) ?_ (Rep.dem _ hr)
   have hv':ax[i]? =some v:=by rw[←Array.getElem?_toList];exact hv
   simp only[execOp,ho,vx,Instr.extract,hv',Sem.run_bind,Sem.run_pure,Result.andThen_ok]
  ·cases hok
 ·cases h

theorem z9Ac {t:TypeId} {k:Option Nat} {off:Nat} {cs:List z0a} {ax:Array Value} (hk:z8Mc K.P t k=true) (hr:z2b K.toCon g w cs ax.toList) (hoff:off+k.getD 1≤cs.length):
  ∃v,(part t ax off).run K.P w= .ok v w∧(match k with|none=>Rep K.toCon g w none (cs.getD off .undef) v|some n=>Rep K.toCon g w none (.agg ((cs.drop off).take n)) v):=by
 cases k with
 |none=>
  simp only[z8Mc,Bool.and_eq_true] at hk
  obtain⟨D,hu,hD⟩:=z7ya hk.1
  simp only[Option.getD_none] at hoff
  obtain⟨v,hv,hr⟩:=hr.get off (cs.getD off .undef) (by rw[List.getD,List.getElem?_eq_getElem (by omega)];rfl)
  have hv':ax[off]? =some v:=by rw[←Array.getElem?_toList];exact hv
  refine⟨v,?_,hr⟩
  cases D<;>simp[TypeDesc.isRow] at hD<;>simp[part,isAgg,run_underlying hu,hv']
 |some n=>
  simp only[z8Mc,Bool.and_eq_true] at hk
  obtain⟨D,hu,hD⟩:=z7ya hk.1
  simp only[Option.getD_some] at hoff
  refine⟨.agg (ax.extract off (off+n)),?_,?_⟩
  ·cases D<;>simp[TypeDesc.isRow] at hD<;>simp[part,isAgg,run_underlying hu,run_sizeOf w hk.2]
  ·simp only[Rep]
   refine⟨_,rfl,?_⟩
   rw[Array.toList_extract]
   simp only[List.extract,Nat.add_sub_cancel_left]
   exact(hr.drop off).take n

def z1tc (K:Cx) (op:Op) (k:Option Nat) (esz n:Nat) (x i:Arg):Bool:=
 match op with
 | .index t x' i'=>(match K.P.underlying t with|some (.array m e)=>(m==n)&&z9Oa K.P e esz&&z8Mc K.P e k|_=>false)&&z7wa K x' x&&z7wa K i' i
 |_=>false
theorem z6Oc (hI:Inv K base g w getB) (hS:z3v K g w get a) {k:Option Nat} {esz n:Nat} {x i:Arg} (h:z1tc K o.op k esz n x i=true) (hok:okp K.E get getB (.idxA k esz n x i)):z51a K base a get getB d o (.idxA k esz n x i) w:=by
 unfold z1tc at h
 split at h
 ·rename_i t x' i' ho
  simp only[Bool.and_eq_true] at h
  obtain⟨⟨h,hx⟩,hi⟩:=h
  split at h
  ·rename_i m e hu
   simp only[Bool.and_eq_true,beq_iff_eq] at h
   obtain⟨⟨rfl,hsz⟩,hk⟩:=h
   have rx:=z3qa hI hS hx
   simp only[okp] at hok
   obtain⟨hok,hii,h0,hlt⟩:=hok
   obtain⟨ki,_,vi⟩:=z1kb (z3qa hI hS hi) hii
   split at hok
   ·rename_i cs ex
    rw[ex] at rx
    simp only[Rep] at rx
    obtain⟨ax,vx,rx⟩:=rx
    obtain⟨v,h1,h2⟩:=z9Ac hk rx hok
    have hrun:(execOp a.eval o).run K.P w= .ok (.value v) w:=by
     simp[execOp,ho,vx,vi,Instr.index,asIntOf,run_underlying hu,h0,hlt,run_sizeOf w hsz,h1]
    cases k with
    |none=>exact z7qa hI hS (c:=dem (cs.getD ((asI (arg K.E get i)).toNat*esz) .undef)) (v:=v) (by simp only[eff,ex]) hrun (Rep.dem _ h2)
    |some n=>exact z7qa hI hS (c:= .agg ((cs.drop ((asI (arg K.E get i)).toNat*esz)).take n)) (v:=v) (by simp only[eff,ex]) hrun (z29a _ rfl h2)
   ·cases hok
  ·cases h
 ·cases h

def z7yc (K:Cx) (op:Op) (x i:Arg):Bool:=match op with| .index t x' i'=>z1lb K.P t z4Db&&z7wa K x' x&&z7wa K i' i|_=>false
theorem z6vc (hI:Inv K base g w getB) (hS:z3v K g w get a) {x i:Arg} (h:z7yc K o.op x i=true) (hok:okp K.E get getB (.idxStr x i)):z51a K base a get getB d o (.idxStr x i) w:=by
 unfold z7yc at h
 split at h
 ·rename_i t x' i' ho
  simp only[Bool.and_eq_true] at h
  obtain⟨⟨ht,hx⟩,hi⟩:=h
  obtain⟨D,hu,hD⟩:=z7ya ht
  have:=z26a hD
  subst this
  obtain⟨hs,hii,h0,hlt⟩:=hok
  obtain⟨_,vx⟩:=z0Ob (z3qa hI hS hx) hs
  obtain⟨ki,_,vi⟩:=z1kb (z3qa hI hS hi) hii
  have hn:(asI (arg K.E get i)).toNat<(asS (arg K.E get x)).size:=by omega
  refine z7qa hI hS rfl (v:= .int .u8 ((asS (arg K.E get x)).data.toList.getD (asI (arg K.E get i)).toNat 0).toNat) ?_ (z6Ma _ _)
  have hg:(asS (arg K.E get x)).data.toList.getD (asI (arg K.E get i)).toNat 0=(asS (arg K.E get x))[(asI (arg K.E get i)).toNat]:=by
   rw[List.getD,List.getElem?_eq_getElem (by simpa using hn)]
   rfl
  rw[hg]
  simp[execOp,ho,vx,vi,Instr.index,asIntOf,run_underlying hu,h0,ByteArray.getElem?_lt' _ _ hn]
 ·cases h

def z0ac (K:Cx) (op:Op) (f:Nat) (x y:List Arg):Bool:=
 match op with
 | .makeFunc (.func f') p q=>(K.nu f==f')&&argsOk p.toList x&&argsOk q.toList y
 |_=>false
where argsOk : List Operand → List Arg → Bool
 |[],[]=>true
 |x::xs,y::ys=>z7wa K x y&&argsOk xs ys
 |_,_=>false
theorem z6ab (hI:Inv K base g w getB) (hS:z3v K g w get a):∀{xs:List Operand} {ys:List Arg},z0ac.argsOk K xs ys=true→z2b K.toCon g w (ys.map fun y=>dem (arg K.E get y)) (xs.map a.eval)∧z2b K.toCon g w (ys.map (arg K.E get)) (xs.map a.eval)
 |[],[],_=>by simp[z2b]
 |[],_::_,h=>by simp[z0ac.argsOk] at h
 |_::_,[],h=>by simp[z0ac.argsOk] at h
 |x::xs,y::ys,h=>by
  simp only[z0ac.argsOk,Bool.and_eq_true] at h
  have ih:=z6ab hI hS h.2
  simp only[List.map_cons,z2b]
  exact⟨⟨_,_,rfl,Rep.dem _ (z3qa hI hS h.1),ih.1⟩,⟨_,_,rfl,z3qa hI hS h.1,ih.2⟩⟩
theorem z42c (hI:Inv K base g w getB) (hS:z3v K g w get a) {f:Nat} {x y:List Arg} (h:z0ac K o.op f x y=true):z51a K base a get getB d o (.mkfn f x y) w:=by
 unfold z0ac at h
 split at h
 ·rename_i f' p q ho
  simp only[Bool.and_eq_true,beq_iff_eq] at h
  obtain⟨⟨rfl,hx⟩,hy⟩:=h
  refine z7qa hI hS rfl (v:= .func (.func (K.nu f)) (p.map a.eval) (q.map a.eval)) ?_ ?_
  ·simp[execOp,ho,Instr.makeFunc]
  ·simp only[Rep]
   exact⟨_,_,rfl,by rw[Array.toList_map];exact(z6ab hI hS hx).1,by rw[Array.toList_map];exact(z6ab hI hS hy).1⟩
 ·cases h

/-! ### pointers -/
def z7Cd (K:Cx) (op:Op) (off:Nat) (x:Arg):Bool:=
 match op with
 | .fieldAddr t x' f=>(match K.P.underlying t with|some (.struct fs)=>(match fs[f]? with|some fd=>(fd.offset==off)&&(match K.P.info? fd.type with|some i=>i.size !=0|none=>false)|none=>false)|_=>false)&&z7wa K x' x
 |_=>false
theorem z15b (hI:Inv K base g w getB) (hS:z3v K g w get a) {off:Nat} {x:Arg} (h:z7Cd K o.op off x=true) (hok:okp K.E get getB (.fieldAddr off x)):z51a K base a get getB d o (.fieldAddr off x) w:=by
 unfold z7Cd at h
 split at h
 ·rename_i t x' f ho
  simp only[Bool.and_eq_true] at h
  obtain⟨h,hx⟩:=h
  split at h
  ·rename_i fs hu
   split at h
   ·rename_i fd hf
    simp only[Bool.and_eq_true,beq_iff_eq] at h
    obtain⟨rfl,hz⟩:=h
    split at hz
    ·rename_i i hi
     simp only[bne_iff_ne,ne_eq] at hz
     have rx:=z3qa hI hS hx
     have hrun:∀b o',a.eval x'= .pointer (some ⟨b,o',none⟩)→(execOp a.eval o).run K.P w= .ok (.value (.pointer (some ⟨b,o'+fd.offset,none⟩))) w:=fun b o' e=>by
      simp[execOp,ho,e,Instr.fieldAt,run_underlying hu,hf,Instr.sureAddr,fieldPlace,sizeOf,typeInfo,hi,hz,Addr.add_mid]
     simp only[okp] at hok
     split at hok
     ·rename_i id o' ex
      rw[ex] at rx
      simp only[Rep] at rx
      obtain⟨b,hb,vx⟩:=rx
      exact z7qa hI hS (c:= .bp id (o'+fd.offset)) (by simp only[eff,ex]) (hrun b o' vx) (by simp only[Rep];exact⟨b,hb,rfl⟩)
     ·rename_i cs ex
      rw[ex] at rx
      simp only[Rep,z9b] at rx
      obtain⟨b,o',vx,hc⟩:=rx
      exact z7qa hI hS (c:= .ep (cs.drop fd.offset)) (by simp only[eff,ex]) (hrun b o' vx) (by simp only[Rep,z9b];exact⟨b,_,rfl,hc.drop _⟩)
     ·cases hok
    ·cases hz
   ·cases h
  ·cases h
 ·cases h

def z01c (K:Cx) (op:Op) (x:Arg):Bool:=match op with| .nilCheck x'=>z7wa K x' x|_=>false
theorem z9rc (hI:Inv K base g w getB) (hS:z3v K g w get a) {x:Arg} (h:z01c K o.op x=true) (hok:okp K.E get getB (.nilchk x)):z51a K base a get getB d o (.nilchk x) w:=by
 unfold z01c at h
 split at h
 ·rename_i x' ho
  have rx:=z3qa hI hS h
  simp only[okp] at hok
  split at hok
  ·rename_i id o' ex
   rw[ex] at rx
   simp only[Rep] at rx
   obtain⟨b,hb,vx⟩:=rx
   exact z7qa hI hS (v:= .pointer (some ⟨b,o',none⟩)) (c:= .bp id o') (by simp only[eff,ex]) (by simp[execOp,ho,vx]) (by simp only[Rep];exact⟨b,hb,rfl⟩)
  ·rename_i cs ex
   rw[ex] at rx
   simp only[Rep,z9b] at rx
   obtain⟨b,o',vx,hc⟩:=rx
   exact z7qa hI hS (v:= .pointer (some ⟨b,o',none⟩)) (c:= .ep cs) (by simp only[eff,ex]) (by simp[execOp,ho,vx]) (by simp only[Rep,z9b];exact⟨b,o',rfl,hc⟩)
  ·cases hok
 ·cases h

def z6Kd (K:Cx) (op:Op) (n esz:Nat) (x i:Arg):Bool:=
 match op with
 | .indexAddr t x' i'=>(match K.P.underlying t with|some (.array m e)=>(m==n)&&z9Oa K.P e esz|_=>false)&&z7wa K x' x&&z7wa K i' i
 |_=>false
theorem z5rc (hI:Inv K base g w getB) (hS:z3v K g w get a) {n esz:Nat} {x i:Arg} (h:z6Kd K o.op n esz x i=true) (hok:okp K.E get getB (.idxArr n esz x i)):z51a K base a get getB d o (.idxArr n esz x i) w:=by
 unfold z6Kd at h
 split at h
 ·rename_i t x' i' ho
  simp only[Bool.and_eq_true] at h
  obtain⟨⟨h,hx⟩,hi⟩:=h
  split at h
  ·rename_i m e hu
   simp only[Bool.and_eq_true,beq_iff_eq] at h
   obtain⟨rfl,hsz⟩:=h
   have rx:=z3qa hI hS hx
   simp only[okp] at hok
   obtain⟨hok,hii,h0,hlt⟩:=hok
   obtain⟨ki,_,vi⟩:=z1kb (z3qa hI hS hi) hii
   have hrun:∀b o',a.eval x'= .pointer (some ⟨b,o',none⟩)→(execOp a.eval o).run K.P w= .ok (.value (.pointer (some ⟨b,o'+(asI (arg K.E get i)).toNat*esz,none⟩))) w:=fun b o' e=>by
    simp[execOp,ho,e,vi,Instr.indexAt,asIntOf,run_underlying hu,Instr.sureAddr,h0,hlt,run_sizeOf w hsz,Addr.add_mid]
   split at hok
   ·rename_i id o' ex
    rw[ex] at rx
    simp only[Rep] at rx
    obtain⟨b,hb,vx⟩:=rx
    exact z7qa hI hS (c:= .bp id (o'+(asI (arg K.E get i)).toNat*esz)) (by simp only[eff,ex]) (hrun b o' vx) (by simp only[Rep];exact⟨b,hb,rfl⟩)
   ·rename_i cs ex
    rw[ex] at rx
    simp only[Rep,z9b] at rx
    obtain⟨b,o',vx,hc⟩:=rx
    exact z7qa hI hS (c:= .ep (cs.drop ((asI (arg K.E get i)).toNat*esz))) (by simp only[eff,ex]) (hrun b o' vx) (by simp only[Rep,z9b];exact⟨b,_,rfl,hc.drop _⟩)
   ·cases hok
  ·cases h
 ·cases h

theorem z7Ub {l:Option Loc} {m:z5r} {nl:Option Bool} {n:Nat} {cs:List z0a} {v:Value} (h:Rep K.toCon g w l (.sl m nl n cs) v):z9b K.toCon g.S w (.sl .plain nl n cs) v:=by
 cases m<;>simp only[Rep] at h
 ·exact h
 ·simp only[z9b] at h⊢
  rcases h with⟨b,o,cap,h1,h2,h3,h4,_⟩|h
  ·exact .inl ⟨b,o,cap,h1,h2,h3,h4,by simp⟩
  ·exact .inr h
 ·exact h.1

def z8Id (K:Cx) (op:Op) (esz:Nat) (x i:Arg):Bool:=
 match op with
 | .indexAddr t x' i'=>(match K.P.underlying t with|some (.slice e)=>z9Oa K.P e esz|_=>false)&&z7wa K x' x&&z7wa K i' i
 |_=>false
theorem z4Ic (hI:Inv K base g w getB) (hS:z3v K g w get a) {esz:Nat} {x i:Arg} (h:z8Id K o.op esz x i=true) (hok:okp K.E get getB (.idxSl esz x i)):z51a K base a get getB d o (.idxSl esz x i) w:=by
 unfold z8Id at h
 split at h
 ·rename_i t x' i' ho
  simp only[Bool.and_eq_true] at h
  obtain⟨⟨h,hx⟩,hi⟩:=h
  split at h
  ·rename_i e hu
   have rx:=z3qa hI hS hx
   simp only[okp] at hok
   obtain⟨hok,hii,h0,hlt⟩:=hok
   obtain⟨ki,_,vi⟩:=z1kb (z3qa hI hS hi) hii
   have hrun:∀b o' n cap,(asI (arg K.E get i))<(n:Nat)→a.eval x'= .slice (some ⟨b,o',none⟩) n cap→(execOp a.eval o).run K.P w= .ok (.value (.pointer (some ⟨b,o'+(asI (arg K.E get i)).toNat*esz,none⟩))) w:=fun b o' n cap hl e=>by
    simp[execOp,ho,e,vi,Instr.indexAt,asIntOf,run_underlying hu,h0,hl,run_sizeOf w h,Addr.add_mid]
   split at hok
   ·rename_i id e' off n c ex
    rw[ex] at rx hlt
    simp only[z7e] at hlt
    simp only[Rep] at rx
    obtain⟨b,cap,o',hb,vx,_,_,ho'⟩:=rx
    have ho':o'=off:=by rcases ho' with rfl|⟨rfl,_⟩;rfl;simp at hlt;omega
    subst ho'
    exact z7qa hI hS (c:= .bp id (o'+(asI (arg K.E get i)).toNat*esz)) (by simp only[eff,ex]) (hrun b o' n cap hlt vx) (by simp only[Rep];exact⟨b,hb,rfl⟩)
   ·rename_i m nl n cs ex
    rw[ex] at rx hlt
    simp only[z7e] at hlt
    have rx:=z7Ub rx
    simp only[z9b] at rx
    rcases rx with⟨b,o',cap,vx,_,hc,_⟩|⟨q,vx,rfl,_⟩
    ·exact z7qa hI hS (c:= .ep (cs.drop ((asI (arg K.E get i)).toNat*esz))) (by simp only[eff,ex]) (hrun b o' n cap hlt vx) (by simp only[Rep,z9b];exact⟨b,_,rfl,hc.drop _⟩)
    ·simp at hlt;omega
   ·cases hok
  ·cases h
 ·cases h

def z2Ed (K:Cx) (op:Op) (n:Nat) (x:Arg):Bool:=
 match op with
 | .sliceToArrayPointer t x'=>(match K.P.underlying t with|some (.array m _)=>m==n|_=>false)&&z7wa K x' x
 |_=>false
theorem z35c (hI:Inv K base g w getB) (hS:z3v K g w get a) {n:Nat} {x:Arg} (h:z2Ed K o.op n x=true) (hok:okp K.E get getB (.s2ap n x)):z51a K base a get getB d o (.s2ap n x) w:=by
 unfold z2Ed at h
 split at h
 ·rename_i t x' ho
  simp only[Bool.and_eq_true] at h
  obtain⟨h,hx⟩:=h
  split at h
  ·rename_i m e hu
   simp only[beq_iff_eq] at h
   subst h
   have rx:=z3qa hI hS hx
   have hrun:∀p k cap,m≤k→a.eval x'= .slice p k cap→(execOp a.eval o).run K.P w= .ok (.value (.pointer p)) w:=fun p k cap hl e=>by
    simp[execOp,ho,e,Instr.arrayAt,run_underlying hu,Nat.not_lt.2 hl]
   simp only[okp] at hok
   split at hok
   ·rename_i id e' off k c ex
    rw[ex] at rx
    simp only[Rep] at rx
    obtain⟨b,cap,o',hb,vx,_,_,ho'⟩:=rx
    have ho':o'=off:=by rcases ho' with rfl|⟨rfl,_⟩;rfl;omega
    subst ho'
    exact z7qa hI hS (c:= .bp id o') (by simp only[eff,ex]) (hrun _ _ _ hok.1 vx) (by simp only[Rep];exact⟨b,hb,rfl⟩)
   ·rename_i m' nl k cs ex
    rw[ex] at rx
    have rx:=z7Ub rx
    simp only[z9b] at rx
    rcases rx with⟨b,o',cap,vx,_,hc,_⟩|⟨q,vx,rfl,_⟩
    ·exact z7qa hI hS (c:= .ep cs) (by simp only[eff,ex]) (hrun _ _ _ hok.1 vx) (by simp only[Rep,z9b];exact⟨b,_,rfl,hc⟩)
    ·omega
   ·cases hok
  ·cases h
 ·cases h

end
end Go.Abs
end

section
namespace Go.Abs

section
variable {K : Cx} {base : z4f} {g g' : Gh} {w w' : World} {get : Nat → z0a} {getB : Nat → Option (List z0a)} {a : Act} {o : Oper} {d : Option Nat}

/-! ### loads -/
theorem z2Ec (hI:Inv K base g w getB) {b:Option Nat} {n:Nat} {p:z0a} {v:Value} (hok:z1o getB b n p) (hn:0<n) (hr:Rep K.toCon g w none p v):
  ∃bk o vs,v= .pointer (some ⟨bk,o,none⟩)∧w.rangeAt bk o vs∧z2b K.toCon g w (z6d getB b p) vs∧n≤vs.length:=by
 unfold z1o at hok
 split at hok
 ·rename_i id off
  obtain⟨rfl,cs,hcs,hfit⟩:=hok
  simp only[Rep] at hr
  obtain⟨bk,hb,rfl⟩:=hr
  obtain⟨b',k1,k2,k3⟩:=hI.bxok id cs hcs
  rw[hb] at k1;cases k1
  have hbx:bxl getB (some id)=cs:=by simp[bxl,bxc,hcs]
  let f:Nat→Value:=fun i=>(w.cell? ⟨bk,i,none⟩).getD undef
  have hcell:∀i d,cs[i]? =some d→w.cell? ⟨bk,i,none⟩=some (f i)∧Rep K.toCon g w none d (f i):=fun i d hd=>by
   obtain⟨⟨x,h4,h5⟩,_⟩:=k3 i d hd
   have hf:f i=x:=by simp only[f,h4,Option.getD_some]
   rw[hf]
   exact⟨h4,z7gb h5⟩
  refine⟨bk,off,(List.range (cs.length-off)).map fun j=>f (off+j),rfl,fun j v hv=> ?_,z2b.mk (by simp[z6d,hbx]) (fun i d v hd hv=> ?_),by simp;omega⟩
  ·have hj:j<cs.length-off:=by have:=(List.getElem?_eq_some_iff.1 hv).1;simpa using this
   rw[List.getElem?_map,List.getElem?_range hj] at hv
   simp only[Option.map_some,Option.some.injEq] at hv
   subst hv
   exact(hcell (off+j) _ (List.getElem?_eq_getElem (by omega))).1
  ·simp only[z6d,hbx,List.getElem?_drop] at hd
   have hi:i<cs.length-off:=by have:=(List.getElem?_eq_some_iff.1 hd).1;omega
   rw[List.getElem?_map,List.getElem?_range hi] at hv
   simp only[Option.map_some,Option.some.injEq] at hv
   subst hv
   exact(hcell _ d hd).2
 ·rename_i cs
  obtain⟨rfl,hfit⟩:=hok
  simp only[Rep,z9b] at hr
  obtain⟨bk,o,rfl,hc⟩:=hr
  obtain⟨vs,k1,k2,_⟩:=hc.vals
  exact⟨bk,o,vs,rfl,k1,k2,by rw[←k2.len];exact hfit⟩
 ·cases hok

def z0nc (k:Option Nat) (vs:List Value):Value:=match k with|none=>vs.headD undef|some n=> .agg (vs.take n).toArray
def z23b (K:Cx) (op:Op) (k:Option Nat) (x:Arg):Bool:=match op with| .load t x'=>z8Mc K.P t k&&(match k with|some n=>n !=0|none=>true)&&z7wa K x' x|_=>false

theorem z95b {P:Program} {t:TypeId} {k:Option Nat} (hk:z8Mc P t k=true) {bk o:Nat} {vs:List Value} (hr:w.rangeAt bk o vs) (hn:k.getD 1≤vs.length):
  (Instr.loadAt t (.pointer (some ⟨bk,o,none⟩))).run P w= .ok (z0nc k vs) w:=by
 unfold z0nc
 cases k with
 |none=>
  simp only[z8Mc,Bool.and_eq_true] at hk
  obtain⟨D,hu,hD⟩:=z7ya hk.1
  cases vs with
  |nil=>simp at hn
  |cons v r=>
   have h0:=hr 0 v (by simp)
   simp only[Nat.add_zero] at h0
   cases D<;>simp[TypeDesc.isRow] at hD<;>simp[Instr.loadAt,Instr.sureAddr,loadVar,isAgg,run_underlying hu,h0]
 |some n=>
  simp only[z8Mc,Bool.and_eq_true] at hk
  obtain⟨D,hu,hD⟩:=z7ya hk.1
  simp only[Option.getD_some] at hn
  exact run_loadAt_mid w bk o t (vs.take n) D (fun j v hv=>by
   rw[List.getElem?_take] at hv
   split at hv
   ·exact hr j v hv
   ·cases hv) hu hD (by rw[List.length_take,Nat.min_eq_left hn];exact z50b hk.2)

theorem z33c (hI:Inv K base g w getB) (hS:z3v K g w get a) {k b:Option Nat} {take:Bool} {x:Arg} (h:z23b K o.op k x=true) (hok:okp K.E get getB (.load k b take x)):z51a K base a get getB d o (.load k b take x) w:=by
 unfold z23b at h
 split at h
 ·rename_i t x' ho
  simp only[Bool.and_eq_true] at h
  obtain⟨⟨hk,hn0⟩,hx⟩:=h
  have hpos:0<k.getD 1:=by
   cases k with
   |none=>simp
   |some n=>simp at hn0⊢;omega
  obtain⟨bk,off,vs,hv,hr,hrl,hn⟩:=z2Ec hI hok.1 hpos (z3qa hI hS hx)
  have hl:=z95b (P:=K.P) hk hr hn
  have hrun:(execOp a.eval o).run K.P w= .ok (.value (z0nc k vs)) w:=by
   simp only[execOp,ho,hv,Sem.run_bind,hl,Result.andThen_ok,Sem.run_pure]
  cases k with
  |some n=>
   refine z7qa hI hS (c:= .agg ((z6d getB b (arg K.E get x)).take n)) rfl hrun ?_
   simp only[Rep]
   exact⟨_,rfl,by simpa using hrl.take n⟩
  |none=>
   simp only[Option.getD_none] at hn
   cases hcs:z6d getB b (arg K.E get x) with
   |nil=>have:=hrl.len;rw[hcs] at this;simp at this;omega
   |cons c cs=>
    rw[hcs] at hrl
    simp only[z2b] at hrl
    obtain⟨v,r,rfl,h1,h2⟩:=hrl
    have plain:eff K.E get getB (.load none b take x)={val:=dem c}→z51a K base a get getB d o (.load none b take x) w:=fun e=>
     z7qa hI hS e hrun (Rep.dem _ h1)
    cases take with
    |false=>exact plain (by simp only[eff,hcs,hdA,List.headD_cons])
    |true=>
     cases b with
     |none=>exact plain (by simp only[eff,hcs,hdA,List.headD_cons])
     |some id=>
      cases hax:arg K.E get x with
      |bp id' off'=>
       have hob:id<1000000:=hok.2 rfl id rfl
       have hok:=hok.1
       simp only[hax,z1o,Option.some.injEq] at hok
       obtain⟨rfl,es,hes,hfit⟩:=hok
       have hbx:bxl getB (some id)=es:=by simp[bxl,bxc,hes]
       have hc:es[off']? =some c:=by
        have:(es.drop off')[0]? =some c:=by
         simp only[hax,z6d,hbx] at hcs
         rw[hcs];rfl
        simpa using this
       obtain⟨b',k1,k2,k3⟩:=hI.bxok id es hes
       obtain⟨⟨x0,hx0,hrep⟩,_⟩:=k3 off' c hc
       have hvx:v=x0:=by
        have e0:=hr 0 v (by simp)
        have rx:=z3qa hI hS hx
        rw[hax] at rx
        simp only[Rep] at rx
        obtain⟨b'',kb,kv⟩:=rx
        rw[k1] at kb;cases kb
        rw[hv] at kv
        simp only[Value.pointer.injEq,Option.some.injEq,Addr.mk.injEq] at kv
        obtain⟨rfl,rfl,_⟩:=kv
        simp only[Nat.add_zero,hx0,Option.some.injEq] at e0
        exact e0.symm
       subst hvx
       have hef:eff K.E get getB (.load none (some id) true x)={val:=c,bx:=[(id,some (es.set off' (dem (es.getD off' .undef))))]}:=by
        rw[hax] at hcs
        simp only[eff,hax,hcs,hdA,List.headD_cons,hbx]
        rw[List.getD,hc]
        rfl
       refine⟨_,v,w,hrun,.inl rfl,?_⟩
       rw[hef]
       cases d with
       |none=>
        refine⟨z2Va g (.cell id off') .ret,z1Eb hI hob hes off' .ret (by simp),z7ub hS id off' .ret,?_⟩
        exact z5qb (by simp) (z7gb hrep)
       |some n=>
        exact⟨z2Va g (.cell id off') (.slot n),z1Eb hI hob hes off' (.slot n) (by simp),z7ub hS id off' (.slot n),z6Fa hrep⟩
      |_=>exact plain (by simp only[eff,hax] at hcs⊢;simp only[hcs,hdA,List.headD_cons])
 ·cases h

/-! ### stores -/
def z6Ab (K:Cx) (op:Op) (k:Option Nat) (x v:Arg):Bool:=match op with| .store t x' v'=>z9Oa K.P t (k.getD 1)&&z7wa K x' x&&z7wa K v' v|_=>false

theorem z77b {k:Option Nat} {c:z0a} {v:Value} (h:Rep K.toCon g w none c v) (hk:isK k c):
  z2b K.toCon g w (z7p k c) v.cells.toList∧(∀x∈v.cells.toList,x.oneCell'=true)∧(z7p k c).length=k.getD 1∧∀x∈z7p k c,z5b x=false:=by
 cases k with
 |none=>
  simp only[isK] at hk
  have h1:=z8q h hk
  have hvc:v.cells= #[v]:=by cases v<;>simp_all [Value.cells,Value.oneCell']
  rw[hvc]
  refine⟨by simp only[z7p,z2b];exact⟨v,[],rfl,Rep.dem _ h,rfl⟩,by simpa using h1,rfl,?_⟩
  simp only[z7p,List.mem_singleton,forall_eq]
  exact z12a c
 |some n=>
  simp only[isK] at hk
  split at hk
  ·rename_i cs
   obtain⟨h1,h2,h3⟩:=hk
   obtain⟨k1,k2⟩:=z6kc h (by simpa[z4c] using h2)
   exact⟨k1,k2,h1,h3⟩
  ·cases hk

theorem z4Yb {P:Program} {t:TypeId} {n:Nat} (hk:z9Oa P t n=true) {bk o:Nat} {v:Value} (hn:v.cells.size=n) (h1:∀x∈v.cells.toList,x.oneCell'=true) (ht:w.there bk o n):
  (Instr.storeAt t (.pointer (some ⟨bk,o,none⟩)) v).run P w= .ok () (w.setCells bk o v.cells.toList):=by
 have hst:=run_storeCells_cells (P:=P) bk o v.cells.toList 0 w (fun j hj=>by simpa using(ht j (by simpa[hn] using hj)).1) (fun j hj=>by simpa using(ht j (by simpa[hn] using hj)).2) h1
 simp only[Nat.add_zero] at hst
 simp[Instr.storeAt,Instr.sureAddr,storeVar,run_sizeOf w hk,hn,hst]

theorem z6yb (hI:Inv K base g w getB) {id:Nat} {cs:List z0a} (hid:getB id=some cs) {bk:Nat} (hb:g.mu id=some bk) (o n:Nat) (h:o+n≤cs.length):w.there bk o n:=fun j hj=>by
 obtain⟨b',k1,_,k3⟩:=hI.bxok id cs hid
 rw[hb] at k1;cases k1
 obtain⟨⟨x,hx,_⟩,hf⟩:=k3 (o+j) _ (List.getElem?_eq_getElem (by omega))
 exact⟨by rw[hx];rfl,hf⟩

theorem z3ya {α:Type} {l:List α} {i:Nat} {x:α} (h:l[i]? =some x):x∈l:=by
 obtain⟨hi,rfl⟩:=List.getElem?_eq_some_iff.1 h
 exact List.getElem_mem _

theorem z61b (getB:Nat→Option (List z0a)) (id:Nat) (x:Option (List z0a)) (j:Nat):z9Qb getB [(id,x)] j=if j=id then x else getB j:=by
 simp only[z9Qb,lk]
 by_cases h:j=id
 ·simp[h]
 ·simp[h]

theorem z0Lc (hI:Inv K base g w getB) (hS:z3v K g w get a) {k:Option Nat} {b:Nat} {take:Bool} {x v:Arg} (h:z6Ab K o.op k x v=true) (hok:okp K.E get getB (.store k b take x v)):z51a K base a get getB d o (.store k b take x v) w:=by
 unfold z6Ab at h
 split at h
 ·rename_i t x' v' ho
  simp only[Bool.and_eq_true] at h
  obtain⟨⟨hk,hx⟩,hv⟩:=h
  have rx:=z3qa hI hS hx
  have rv:=z3qa hI hS hv
  simp only[okp] at hok
  obtain⟨hob,hp,hkv⟩:=hok
  split at hp
  ·rename_i id off ex
   obtain⟨rfl,cs,hcs,hfit⟩:=hp
   rw[ex] at rx
   simp only[Rep] at rx
   obtain⟨bk,hb,vx⟩:=rx
   obtain⟨c1,c2,c3,c4⟩:=z77b rv hkv
   have hsz:(a.eval v').cells.size=k.getD 1:=by rw[←Array.length_toList,←c1.len,c3]
   have hrun:(execOp a.eval o).run K.P w= .ok .skip (w.setCells bk off (a.eval v').cells.toList):=by
    simp only[execOp,ho,vx]
    rw[Sem.run_bind,z4Yb (P:=K.P) hk hsz c2 (z6yb hI hcs hb off _ hfit)]
    rfl
   have hbx:bxl getB (some id)=cs:=by simp[bxl,bxc,hcs]
   have plain:eff K.E get getB (.store k id take x v)={val:= .undef,bx:=[(id,some (splice cs off (z7p k (arg K.E get v))))]}→z51a K base a get getB d o (.store k id take x v) w:=fun e=>by
    obtain⟨bk',k1,k2,k3⟩:=z0nb hI hob hcs off (a.eval v').cells.toList (z7p k (arg K.E get v)) c1.len (by rw[c3];exact hfit) (fun i c u hc hu=>by
     obtain⟨u',hu',hr⟩:=c1.get i c hc
     rw[hu] at hu';cases hu'
     exact z29a _ (c4 c (z3ya hc)) hr)
    rw[hb] at k1;cases k1
    refine⟨_,undef,_,hrun,.inr ⟨rfl,rfl⟩,?_⟩
    rw[e]
    exact⟨g,k3,k2.slots hS,by simp[Rep]⟩
   have ep:∀(k':Option Nat) (t':Bool) (v'':Arg),(k'≠none∨t'=false∨∀n,v''≠ .s n)→eff K.E get getB (.store k' id t' x v'')={val:= .undef,bx:=[(id,some (splice cs off (z7p k' (arg K.E get v''))))]}:=fun k' t' v'' hc=>by
    cases k'<;>cases t'<;>cases v''<;>simp at hc<;>simp only[eff,ex,hbx]
   cases k with
   |some n=>exact plain (ep _ _ _ (.inl (by simp)))
   |none=>
    cases take with
    |false=>exact plain (ep _ _ _ (.inr (.inl rfl)))
    |true=>
     cases v with
     |c _=>exact plain (ep _ _ _ (.inr (.inr (by simp))))
     |g _=>exact plain (ep _ _ _ (.inr (.inr (by simp))))
     |s n=>
      have:=z02a hv
      subst this
      have hcell:z8a (get n):=hkv
      have hcs':=getB
      obtain⟨g',h1,h2,h3,h4,hSe,hmue⟩:=z5db hI hS n (some (.cell id off))
      have hone:=z8q h3 hcell
      have hvc:(a.eval (.tmp n)).cells= #[a.eval (.tmp n)]:=by
       generalize a.eval (.tmp n)=u at hone
       cases u<;>simp_all [Value.cells,Value.oneCell']
      obtain⟨bk',k1,k2,k3⟩:=z0nb h1 hob hcs off (a.eval (.tmp n)).cells.toList [get n] (by rw[hvc];rfl) (by simpa using hfit) (fun i c u hc hu=>by
       rw[hvc] at hu
       cases i with
       |zero=>simp at hc hu;subst hc hu;exact h3
       |succ i=>simp at hc)
      rw[h4 id bk hb] at k1;cases k1
      refine⟨_,undef,_,hrun,.inr ⟨rfl,rfl⟩,?_⟩
      have hef:eff K.E get getB (.store none id true x (.s n))={val:= .undef,sl:=[(n,dem (get n))],bx:=[(id,some (splice cs off [get n]))]}:=by simp only[eff,ex,hbx]
      rw[hef]
      exact⟨g',k3,k2.slots h2,by simp[Rep]⟩
  ·cases hp
 ·cases h

/-! ### new variables -/
def z4Fc (P:Program) (t:TypeId) (z:List z0a):Bool:=match P.info? t with|some i=>(match i.zero with|some v=>z72a z v.cells.toList|none=>false)|none=>false
theorem z7jc {P:Program} {t:TypeId} {z:List z0a} (h:z4Fc P t z=true):∃i v,P.info? t=some i∧i.zero=some v∧z72a z v.cells.toList=true:=by
 unfold z4Fc at h
 split at h
 ·rename_i i hi
  split at h
  ·rename_i v hv;exact⟨i,v,hi,hv,h⟩
  ·cases h
 ·cases h

theorem z5Xb {g:Gh} {w:World}:∀{ds:List z0a} {vs:List Value},z72a ds vs=true→ds.length=vs.length∧∀(i:Nat) (d:z0a),ds[i]? =some d→∀l,∃v,vs[i]? =some v∧Rep K.toCon g w l d v
 |[],vs,h=>by simp only[z72a,List.isEmpty_iff] at h;subst h;simp
 |d::ds,vs,h=>by
  simp only[z72a] at h
  split at h
  ·rename_i v vs
   simp only[Bool.and_eq_true] at h
   obtain⟨h1,h2⟩:=z5Xb (g:=g) (w:=w) h.2
   refine⟨by simp[h1],fun i d' hd l=> ?_⟩
   cases i with
   |zero=>simp at hd;subst hd;exact⟨v,by simp,z3Ab d v l h.1⟩
   |succ i=>simp at hd;obtain⟨u,hu,hr⟩:=h2 i d' hd l;exact⟨u,by simpa using hu,hr⟩
  ·cases h

def z9cc (K:Cx) (op:Op) (z:List z0a):Bool:=match op with| .alloc t=>z4Fc K.P t z|_=>false
theorem z1Jc (hI:Inv K base g w getB) (hS:z3v K g w get a) {id:Nat} {z:List z0a} (h:z9cc K o.op z=true) (hok:okp K.E get getB (.alloc id z)):z51a K base a get getB d o (.alloc id z) w:=by
 unfold z9cc at h
 split at h
 ·rename_i t ho
  obtain⟨i,v,hi,hz,hm⟩:=z7jc h
  have hb:=z13b hI id hok.1 hok.2 v.cells t z (fun i c hc=>by
   obtain⟨u,hu,hr⟩:=(z5Xb (K:=K) (g:=g) (w:=w) hm).2 i c hc (some (.cell id i))
   exact⟨u,by rw[←Array.getElem?_toList];exact hu,hr⟩)
  have hrun:(execOp a.eval o).run K.P w= .ok (.value (.pointer (some ⟨w.heap.size,0,none⟩))) (w.alloc (.cells v.cells t)):=by
   simp[execOp,ho,Instr.alloc,zeroValue,typeInfo,hi,hz,newVar,newRow]
  exact⟨_,_,_,hrun,.inl rfl,_,hb.2,hb.1.slots hS,by simp only[eff,Rep];exact⟨w.heap.size,by simp[z4gb],rfl⟩⟩
 ·cases h

def z8Vc (K:Cx) (op:Op) (k:Option Nat) (x:Arg):Bool:=match op with| .box _ x'=>z7wa K x' x|_=>false
theorem z2kd (hI:Inv K base g w getB) (hS:z3v K g w get a) {id:Nat} {k:Option Nat} {take:Bool} {x:Arg} (h:z8Vc K o.op k x=true) (hok:okp K.E get getB (.box id k take x)):z51a K base a get getB d o (.box id k take x) w:=by
 unfold z8Vc at h
 split at h
 ·rename_i t x' ho
  obtain⟨hob,hid,hk⟩:=hok
  have rv:=z3qa hI hS h
  obtain⟨c1,c2,c3,c4⟩:=z77b rv hk
  have hrun:(execOp a.eval o).run K.P w= .ok (.value (.pointer (some ⟨w.heap.size,0,none⟩))) (w.alloc (.cells (a.eval x').cells t)):=by
   simp[execOp,ho,Instr.box,newVar,newRow]
  have plain:eff K.E get getB (.box id k take x)={val:= .bp id 0,bx:=[(id,some (z7p k (arg K.E get x)))]}→z51a K base a get getB d o (.box id k take x) w:=fun e=>by
   have hb:=z13b hI id hob hid (a.eval x').cells t (z7p k (arg K.E get x)) (fun i c hc=>by
    obtain⟨u,hu,hr⟩:=c1.get i c hc
    exact⟨u,by rw[←Array.getElem?_toList];exact hu,z29a _ (c4 c (z3ya hc)) hr⟩)
   refine⟨_,_,_,hrun,.inl rfl,?_⟩
   rw[e]
   exact⟨_,hb.2,hb.1.slots hS,by simp only[Rep];exact⟨w.heap.size,by simp[z4gb],rfl⟩⟩
  cases k with
  |some n=>exact plain (by cases take<;>cases x<;>rfl)
  |none=>
   cases take with
   |false=>exact plain (by cases x<;>rfl)
   |true=>
    cases x with
    |c _=>exact plain rfl
    |g _=>exact plain rfl
    |s n=>
     have:=z02a h
     subst this
     have hcell:z8a (get n):=hk
     obtain⟨g',h1,h2,h3,_⟩:=z5db hI hS n (some (.cell id 0))
     have hone:=z8q h3 hcell
     have hvc:(a.eval (.tmp n)).cells= #[a.eval (.tmp n)]:=by
      generalize a.eval (.tmp n)=u at hone
      cases u<;>simp_all [Value.cells,Value.oneCell']
     have hb:=z13b h1 id hob hid (a.eval (.tmp n)).cells t [get n] (fun i c hc=>by
      cases i with
      |zero=>simp at hc;subst hc;exact⟨_,by rw[hvc];rfl,h3⟩
      |succ i=>simp at hc)
     refine⟨_,_,_,hrun,.inl rfl,_,hb.2,hb.1.slots h2,by simp only[eff,Rep];exact⟨w.heap.size,by simp[z4gb],rfl⟩⟩
 ·cases h

end
end Go.Abs
end

section
namespace Go.Abs

section
variable {K : Cx} {base : z4f} {g g' : Gh} {w w' : World} {get : Nat → z0a} {getB : Nat → Option (List z0a)} {a : Act} {o : Oper} {d : Option Nat}

/-! ### filling -/
theorem z3Uc (vs:List Value):∀(k:Nat) (cells:Array Value) (off:Nat),off+k+vs.length≤cells.size→
  ((vs.zipIdx k).foldl (fun cs (p:Value×Nat)=>cs.setIfInBounds (off+p.2) p.1) cells).toList=splice cells.toList (off+k) vs:=by
 induction vs with
 |nil=>
  intro k cells off h
  simp only[List.zipIdx_nil,List.foldl_nil,splice,List.append_nil,List.length_nil,Nat.add_zero,List.take_append_drop]
 |cons v vs ih=>
  intro k cells off h
  simp only[List.length_cons] at h
  simp only[List.zipIdx_cons,List.foldl_cons]
  rw[ih (k+1) _ off (by simp;omega)]
  unfold splice
  apply List.ext_getElem?
  intro i
  simp only[Array.toList_setIfInBounds,List.append_assoc,List.getElem?_append,List.length_take,List.length_set,Array.length_toList,List.getElem?_take,List.getElem?_drop,List.getElem?_set,List.length_cons]
  rw[Nat.min_eq_left (by omega),Nat.min_eq_left (by omega)]
  by_cases h1:i<off+k
  ·rw[if_pos (by omega),if_pos (by omega),if_neg (by omega),if_pos h1,if_pos h1]
  ·rw[if_neg h1]
   by_cases h2:i=off+k
   ·subst h2
    rw[if_pos (by omega),if_pos (by omega),if_pos rfl,if_pos (by omega)]
    simp
   ·rw[if_neg (by omega)]
    have e:i-(off+k)=(i-(off+(k+1)))+1:=by omega
    rw[e]
    simp only[List.getElem?_cons_succ]
    by_cases h3:i-(off+(k+1))<vs.length
    ·rw[if_pos h3,if_pos (by omega)]
    ·rw[if_neg h3,if_neg (by omega),if_neg (by omega)]
     congr 1
     omega

def z0Nb:List (Nat×Value)→List Value→List Value
 |[],z=>z
 |(off,v)::r,z=>z0Nb r (splice z off v.cells.toList)

theorem z6Mb {α:Type} {z:List α} {off:Nat} {xs:List α} (h:off+xs.length≤z.length):(splice z off xs).length=z.length:=by
 simp[splice];omega

theorem z8fc (place:Nat→Option (Nat×Nat)):∀(ps:List (Nat×Value)) (os:List Nat) (cells:Array Value),ps.length=os.length→
  (∀(i:Nat) (p:Nat×Value) (off:Nat),ps[i]? =some p→os[i]? =some off→place p.1=some (off,p.2.cells.size)∧off+p.2.cells.size≤cells.size)→
  ∃r,Instr.fill place cells ps=some r∧r.toList=z0Nb (os.zip (ps.map (·.2))) cells.toList
 |[],[],cells,_,_=>⟨cells,rfl,rfl⟩
 |[],_::_,_,h,_=>by simp at h
 |_::_,[],_,h,_=>by simp at h
 |(i,v)::ps,off::os,cells,hl,h=>by
  obtain⟨h1,h2⟩:=h 0 (i,v) off (by simp) (by simp)
  have hf:=z3Uc v.cells.toList 0 cells off (by simpa using h2)
  have hf':(v.cells.zipIdx.foldl (fun cs (p:Value×Nat)=>cs.setIfInBounds (off+p.2) p.1) cells).toList=splice cells.toList off v.cells.toList:=by
   rw[←Array.foldl_toList,Array.toList_zipIdx]
   simpa using hf
  obtain⟨r,k1,k2⟩:=z8fc place ps os (v.cells.zipIdx.foldl (fun cs (p:Value×Nat)=>cs.setIfInBounds (off+p.2) p.1) cells) (by simpa using hl) (fun j p o' hp ho=>by
   obtain⟨k1,k2⟩:=h (j+1) p o' (by simpa using hp) (by simpa using ho)
   refine⟨k1,?_⟩
   have hsz':(v.cells.zipIdx.foldl (fun cs (p:Value×Nat)=>cs.setIfInBounds (off+p.2) p.1) cells).size=cells.size:=by
    rw[←Array.length_toList,hf',z6Mb (by simpa using h2),Array.length_toList]
   rw[hsz']
   exact k2)
  refine⟨r,?_,?_⟩
  ·simp only[Instr.fill]
   simp only at h1 h2
   rw[h1]
   simp only[ne_eq,not_true_eq_false,decide_false,Bool.false_or,decide_eq_true_eq]
   rw[if_neg (by omega)]
   exact k1
  ·rw[k2,hf']
   rfl

theorem z2b.splice {ds ds':List z0a} {vs vs':List Value} (off:Nat) (h:z2b K.toCon g w ds vs) (h':z2b K.toCon g w ds' vs'):z2b K.toCon g w (Abs.splice ds off ds') (Abs.splice vs off vs'):=by
 unfold Abs.splice
 rw[←h'.len]
 exact((h.take off).append h').append (h.drop _)

def z9Qa (K:Cx) (f:Nat→Nat→Nat→Bool):List (Nat×Operand)→List (Nat×Nat×Arg)→Bool
 |[],[]=>true
 |(i,x)::ps,(off,k,y)::qs=>f i off k&&z7wa K x y&&z9Qa K f ps qs
 |_,_=>false

theorem z0Jb (hI:Inv K base g w getB) (hS:z3v K g w get a) {f:Nat→Nat→Nat→Bool}:∀{ps:List (Nat×Operand)} {qs:List (Nat×Nat×Arg)} {n:Nat} {z:List z0a} {zv:List Value},z9Qa K f ps qs=true→z1e K.E get qs n→
  z2b K.toCon g w z zv→zv.length=n→(∀x∈zv,x.oneCell'=true)→
  ps.length=qs.length∧z2b K.toCon g w (z5g K.E get qs z) (z0Nb ((qs.map (·.1)).zip (ps.map fun p=>a.eval p.2)) zv)∧(z0Nb ((qs.map (·.1)).zip (ps.map fun p=>a.eval p.2)) zv).length=n∧
  (∀x∈z0Nb ((qs.map (·.1)).zip (ps.map fun p=>a.eval p.2)) zv,x.oneCell'=true)∧
  (∀(i:Nat) p q,ps[i]? =some p→qs[i]? =some q→f p.1 q.1 q.2.1=true∧(a.eval p.2).cells.size=q.2.1∧q.1+q.2.1≤n)
 |[],[],n,z,zv,_,_,hz,hn,h1=>⟨rfl,hz,hn,h1,by simp⟩
 |[],_::_,_,_,_,h,_,_,_,_=>by simp[z9Qa] at h
 |_::_,[],_,_,_,h,_,_,_,_=>by simp[z9Qa] at h
 |(i,x)::ps,(off,k,y)::qs,n,z,zv,h,hok,hz,hn,h1=>by
  simp only[z9Qa,Bool.and_eq_true] at h
  obtain⟨⟨hf,hx⟩,hr⟩:=h
  simp only[z1e] at hok
  obtain⟨e1,e2,e3,e4⟩:=hok
  obtain⟨c1,c2⟩:=z6kc (z3qa hI hS hx) e3
  have hlen:(a.eval x).cells.toList.length=k:=by rw[←c1.len,e1]
  have ih:=z0Jb hI hS (zv:=Abs.splice zv off (a.eval x).cells.toList) hr e4 (hz.splice off c1) (by rw[z6Mb (by omega)];exact hn) (fun u hu=>by
   unfold Abs.splice at hu
   simp only[List.mem_append] at hu
   rcases hu with(hu|hu)|hu
   ·exact h1 u (List.mem_of_mem_take hu)
   ·exact c2 u hu
   ·exact h1 u (List.mem_of_mem_drop hu))
  obtain⟨i1,i2,i3,i4,i5⟩:=ih
  refine⟨by simp[i1],i2,i3,i4,fun j p q hp hq=> ?_⟩
  cases j with
  |zero=>
   simp at hp hq
   subst hp hq
   exact⟨hf,by simpa using hlen,e2⟩
  |succ j=>exact i5 j p q (by simpa using hp) (by simpa using hq)

def z5Ab (K:Cx) (op:Op) (z:List z0a) (parts:List (Nat×Nat×Arg)):Bool:=
 match op with
 | .build t ps=>z4Fc K.P t z&&z1lb K.P t (fun D=>D.isRow)&&z9Qa K (fun i off k=>match K.P.underlying t with
   |some (.struct fs)=>(match fs[i]? with|some fd=>(fd.offset==off)&&z9Oa K.P fd.type k|none=>false)&&fs.toList.all (fun fd=>(K.P.info? fd.type).isSome)
   |some (.array _ e)=>(i*k==off)&&z9Oa K.P e k
   |_=>false) ps.toList parts&&(match K.P.underlying t with|some (.struct fs)=>fs.toList.all (fun fd=>(K.P.info? fd.type).isSome)|some (.array _ e)=>(K.P.info? e).isSome|_=>false)
 |_=>false

theorem z3fc {z:List z0a} {v:Value} (h:z72a z v.cells.toList=true) (hr:∀x∈z,z8a x):z2b K.toCon g w z v.cells.toList∧∀x∈v.cells.toList,x.oneCell'=true:=by
 have h1:=z01a (K:=K.toCon) (g:=g) (w:=w) _ _ h
 refine⟨h1,fun x hx=> ?_⟩
 obtain⟨i,hi,rfl⟩:=List.mem_iff_getElem.1 hx
 have hl:=h1.len
 obtain⟨y,hy,hr'⟩:=h1.get i z[i] (List.getElem?_eq_getElem (by omega))
 rw[List.getElem?_eq_getElem hi] at hy
 cases hy
 exact z8q hr' (hr _ (List.getElem_mem _))

theorem z51b {P:Program}:∀(fs:List Field),fs.all (fun fd=>(P.info? fd.type).isSome)=true→
  ∃ps,fs.mapM (fun f=>(P.info? f.type).map fun i=>(f.offset,i.size))=some ps∧ps.length=fs.length∧∀(i:Nat) (fd:Field) (k:Nat),fs[i]? =some fd→z9Oa P fd.type k=true→ps[i]? =some (fd.offset,k)
 |[],_=>⟨[],by simp,rfl,by simp⟩
 |f::fs,h=>by
  simp only[List.all_cons,Bool.and_eq_true] at h
  obtain⟨i,hi⟩:=Option.isSome_iff_exists.1 h.1
  obtain⟨ps,h1,h2,h3⟩:=z51b fs h.2
  refine⟨(f.offset,i.size)::ps,by simp[List.mapM_cons,hi,h1],by simp[h2],fun j fd k hj hk=> ?_⟩
  cases j with
  |zero=>
   simp at hj
   subst hj
   obtain⟨i',hi',rfl⟩:=z91a hk
   rw[hi] at hi';cases hi'
   rfl
  |succ j=>simpa using h3 j fd k (by simpa using hj) hk

theorem z0jc (hI:Inv K base g w getB) (hS:z3v K g w get a) {z:List z0a} {parts:List (Nat×Nat×Arg)} (h:z5Ab K o.op z parts=true) (hz1:∀x∈z,z8a x) (hok:okp K.E get getB (.build z parts)):
  ∃(r:Array Value) (ps:List (Nat×Operand)) (zv:List Value) (f:Nat→Nat→Nat→Bool),(execOp a.eval o).run K.P w= .ok (.value (.agg r)) w∧z2b K.toCon g w (z5g K.E (fun n=>dem (get n)) parts z) r.toList∧r.toList=z0Nb ((parts.map (·.1)).zip (ps.map fun p=>a.eval p.2)) zv∧z9Qa K f ps parts=true∧zv.length=z.length:=by
 unfold z5Ab at h
 split at h
 ·rename_i t ps ho
  simp only[Bool.and_eq_true] at h
  obtain⟨⟨⟨hz,ht⟩,hps⟩,hinfo⟩:=h
  obtain⟨i,zv,hi,hzz,hm⟩:=z7jc hz
  obtain⟨c1,c2⟩:=z3fc (K:=K) (g:=g) (w:=w) hm hz1
  simp only[okp] at hok
  have hS':z3v K g w (fun n=>dem (get n)) a:=fun s=>Rep.dem _ (hS s)
  rw[c1.len] at hok
  obtain⟨p1,p2,p3,p4,p5⟩:=z0Jb hI hS' hps hok c1 rfl c2
  have hfin:∀(place:Nat→Option (Nat×Nat)),(∀(i:Nat) p q,ps.toList[i]? =some p→parts[i]? =some q→place p.1=some (q.1,q.2.1))→
    ∃r,Instr.fill place zv.cells (ps.map fun(i,x)=>(i,a.eval x)).toList=some r∧z2b K.toCon g w (z5g K.E (fun n=>dem (get n)) parts z) r.toList∧r.toList=z0Nb ((parts.map (·.1)).zip (ps.toList.map fun p=>a.eval p.2)) zv.cells.toList:=fun place hpl=>by
   have hlen:((ps.map fun(i,x)=>(i,a.eval x)).toList).length=(parts.map (·.1)).length:=by simpa using p1
   obtain⟨r,k1,k2⟩:=z8fc place (ps.map fun(i,x)=>(i,a.eval x)).toList (parts.map (·.1)) zv.cells hlen (fun j p off hp hoff=>by
    simp only[Array.toList_map,List.getElem?_map,Option.map_eq_some_iff] at hp hoff
    obtain⟨p',hp',rfl⟩:=hp
    obtain⟨q',hq',rfl⟩:=hoff
    obtain⟨e1,e2,e3⟩:=p5 j p' q' hp' hq'
    simp only
    rw[e2]
    exact⟨hpl j p' q' hp' hq',by rw[←Array.length_toList];exact e3⟩)
   refine⟨r,k1,?_⟩
   rw[k2]
   have:(ps.map fun(i,x)=>(i,a.eval x)).toList.map (·.2)=ps.toList.map fun p=>a.eval p.2:=by simp[Array.toList_map,List.map_map,Function.comp_def]
   rw[this]
   exact⟨p2,rfl⟩
  obtain⟨D,hu,hD⟩:=z7ya ht
  have done:∀r,(Instr.build t (ps.map fun(i,x)=>(i,a.eval x))).run K.P w= .ok (.agg r) w→(z2b K.toCon g w (z5g K.E (fun n=>dem (get n)) parts z) r.toList∧r.toList=z0Nb ((parts.map (·.1)).zip (ps.toList.map fun p=>a.eval p.2)) zv.cells.toList)→
    ∃(r:Array Value) (ps:List (Nat×Operand)) (zv:List Value) (f:Nat→Nat→Nat→Bool),(execOp a.eval o).run K.P w= .ok (.value (.agg r)) w∧z2b K.toCon g w (z5g K.E (fun n=>dem (get n)) parts z) r.toList∧r.toList=z0Nb ((parts.map (·.1)).zip (ps.map fun p=>a.eval p.2)) zv∧z9Qa K f ps parts=true∧zv.length=z.length:=fun r h1 h2=>by
   refine⟨r,ps.toList,zv.cells.toList,_,?_,h2.1,h2.2,hps,c1.len.symm⟩
   simp only[execOp,ho]
   rw[Sem.run_bind,h1]
   rfl
  cases D<;>simp only[TypeDesc.isRow,Bool.false_eq_true] at hD
  case struct fs=>
   simp only[hu] at hinfo p5
   obtain⟨places,m1,m2,m3⟩:=z51b (P:=K.P) fs.toList hinfo
   obtain⟨r,k1,k2⟩:=hfin (places.toArray[·]?) (fun j p q hp hq=>by
    obtain⟨e1,_,_⟩:=p5 j p q hp hq
    simp only[Bool.and_eq_true] at e1
    obtain⟨e1,_⟩:=e1
    split at e1
    ·rename_i fd hfd
     simp only[Bool.and_eq_true,beq_iff_eq] at e1
     have:=m3 p.1 fd q.2.1 (by simpa using hfd) e1.2
     simp only[List.getElem?_toArray]
     rw[this,e1.1]
    ·cases e1)
   refine done r (run_build w t _ r ?_) k2
   unfold Program.built
   simp only[hi,hu,hzz,m1]
   exact k1
  case array n e=>
   simp only[hu] at hinfo p5
   obtain⟨ie,hie⟩:=Option.isSome_iff_exists.1 hinfo
   obtain⟨r,k1,k2⟩:=hfin (fun i=>some (i*ie.size,ie.size)) (fun j p q hp hq=>by
    obtain⟨e1,_,_⟩:=p5 j p q hp hq
    simp only[Bool.and_eq_true,beq_iff_eq] at e1
    obtain⟨i',hi',hs'⟩:=z91a e1.2
    rw[hie] at hi';cases hi'
    simp only[hs',e1.1])
   refine done r (run_build w t _ r ?_) k2
   unfold Program.built
   simp only[hi,hu,hzz,hie]
   exact k1
 ·cases h

theorem z3Ic (hI:Inv K base g w getB) (hS:z3v K g w get a) {z:List z0a} {parts:List (Nat×Nat×Arg)} (h:z5Ab K o.op z parts=true) (hz1:∀x∈z,z8a x) (hok:okp K.E get getB (.build z parts)):z51a K base a get getB d o (.build z parts) w:=by
 obtain⟨r,_,_,_,h1,h2,_⟩:=z0jc hI hS h hz1 hok
 exact z7qa hI hS (c:= .agg (z5g K.E (fun n=>dem (get n)) parts z)) (v:= .agg r) rfl h1 (by simp only[Rep];exact⟨r,rfl,h2⟩)

def z90b (P:Program) (e:TypeId) (m:Nat):Option (Array Value):=
 if m=0 then some #[] else match P.info? e with|some i=>i.zero.map fun v=>(Array.range m).map (v.cells[· % v.cells.size]!)|none=>none
def z1cb (K:Cx) (op:Op) (esz n:Nat) (z:List z0a) (parts:List (Nat×Nat×Arg)):Bool:=
 match op with
 | .buildSlice t n' ps=>(n==n')&&(match K.P.underlying t with
   |some (.slice e)=>z9Oa K.P e esz&&(match z90b K.P e (n*esz) with|some zv=>z72a z zv.toList|none=>false)&&decide (n*esz≤16777216)&&z9Qa K (fun i off k=>(i*k==off)&&(k==esz)) ps.toList parts
   |_=>false)
 |_=>false

theorem z5ud (hI:Inv K base g w getB) (hS:z3v K g w get a) {x:AOp} {esz n cap:Nat} {nl:Option Bool} {cs:List z0a} {vs:List Value} {C:Array Value} {e:TypeId} (hC:∀(i:Nat) v,vs[i]? =some v→C[i]? =some v) (hCs:cap*esz≤C.size)
  (hef:eff K.E get getB x={val:= .sl (.own esz) nl n cs}) (hnl:nl≠some true) (hn:n≤cap) (hlen:cs.length=n*esz) (hr:z2b K.toCon g w cs vs) (hp:z8b cs=true)
  (hrun:(execOp a.eval o).run K.P w= .ok (.value (.slice (some ⟨w.heap.size,0,none⟩) n cap)) (w.alloc (.cells C e))):z51a K base a get getB d o x w:=by
 refine⟨_,_,_,hrun,.inl rfl,?_⟩
 rw[hef]
 refine⟨z2Ya g w.heap.size (n*esz) (d.map .slot),z2fb hI _ _ _,(z84a hI _ _ _).slots hS,?_⟩
 simp only[Rep]
 refine⟨?_,fun l hl=> .inr ⟨_,cap,rfl,hn,hlen,by simp[z2Ya],by simp[z2Ya,hl],?_⟩⟩
 ·simp only[z9b]
  refine .inl ⟨_,_,_,rfl,hn,z4b.mk fun i c hi=> ?_,hnl,by simp⟩
  have hlt:=(List.getElem?_eq_some_iff.1 hi).1
  obtain⟨v,hv,hrv⟩:=hr.get i c hi
  refine⟨by simp[z2Ya];omega,v,by rw[Nat.zero_add,World.cell?_alloc_new];exact hC i v hv,?_⟩
  exact z9b.mono (z84a hI (.cells C e) (n*esz) (d.map .slot)).keeps c v (Rep.pure c v none ((z4i cs).1 hp c (z3ya hi)) hrv)
 ·exact z9Ma w C e (0,0) (by simp) _ _ (by
   have:n*esz≤cap*esz:=Nat.mul_le_mul_right _ hn
   omega)

theorem z3nc (hI:Inv K base g w getB) (hS:z3v K g w get a) {esz n:Nat} {z:List z0a} {parts:List (Nat×Nat×Arg)} (h:z1cb K o.op esz n z parts=true) (hz1:∀x∈z,z8a x) (hok:okp K.E get getB (.buildSl esz n z parts)):z51a K base a get getB d o (.buildSl esz n z parts) w:=by
 unfold z1cb at h
 split at h
 ·rename_i t n' ps ho
  simp only[Bool.and_eq_true,beq_iff_eq] at h
  obtain⟨rfl,h⟩:=h
  split at h
  ·rename_i e hu
   simp only[Bool.and_eq_true,decide_eq_true_eq] at h
   obtain⟨⟨⟨hsz,hz⟩,hle⟩,hps⟩:=h
   split at hz
   ·rename_i zv hzv
    obtain⟨hzl,hfill,hpure⟩:=hok
    have c1:=z01a (K:=K.toCon) (g:=g) (w:=w) _ _ hz
    have c2:∀x∈zv.toList,x.oneCell'=true:=fun x hx=>by
     obtain⟨i,hi,rfl⟩:=List.mem_iff_getElem.1 hx
     have hl:=c1.len
     obtain⟨y,hy,hr'⟩:=c1.get i z[i] (List.getElem?_eq_getElem (by omega))
     rw[List.getElem?_eq_getElem hi] at hy
     cases hy
     exact z8q hr' (hz1 _ (List.getElem_mem _))
    rw[c1.len] at hfill
    obtain⟨p1,p2,p3,p4,p5⟩:=z0Jb hI hS hps hfill c1 rfl c2
    have hlen:((ps.map fun(i,x)=>(i,a.eval x)).toList).length=(parts.map (·.1)).length:=by simpa using p1
    obtain⟨r,k1,k2⟩:=z8fc (fun i=>some (i*esz,esz)) (ps.map fun(i,x)=>(i,a.eval x)).toList (parts.map (·.1)) zv hlen (fun j p off hp hoff=>by
     simp only[Array.toList_map,List.getElem?_map,Option.map_eq_some_iff] at hp hoff
     obtain⟨p',hp',rfl⟩:=hp
     obtain⟨q',hq',rfl⟩:=hoff
     obtain⟨e1,e2,e3⟩:=p5 j p' q' hp' hq'
     simp only[Bool.and_eq_true,beq_iff_eq] at e1
     simp only
     rw[e2,e1.2,←e1.1,e1.2]
     refine⟨rfl,?_⟩
     rw[←Array.length_toList]
     rw[←e1.1,e1.2] at e3
     exact e3)
    have hsnd:(ps.map fun(i,x)=>(i,a.eval x)).toList.map (·.2)=ps.toList.map fun p=>a.eval p.2:=by simp[Array.toList_map,List.map_map,Function.comp_def]
    rw[hsnd] at k2
    rw[←k2] at p2 p3
    have hnotbig:¬(2^24<n*esz):=by simp;omega
    obtain⟨ie,hie,hies⟩:=z91a hsz
    have hrun:(execOp a.eval o).run K.P w= .ok (.value (.slice (some ⟨w.heap.size,0,none⟩) n n)) (w.alloc (.cells r e)):=by
     simp only[execOp,ho,Instr.buildSlice,Sem.run_bind,run_underlying hu,Result.andThen_ok,run_sizeOf w hsz]
     rw[if_neg hnotbig]
     unfold z90b at hzv
     by_cases h0:n*esz=0
     ·rw[if_pos h0,Option.some.injEq] at hzv
      subst hzv
      rw[if_pos h0]
      simp only[pure_bind]
      rw[h0,show(Array.map (fun x=>(#[]:Array Value)[x% (#[]:Array Value).size]!) (Array.range 0))= #[] from by simp,k1]
      simp[newRow]
     ·rw[if_neg h0,hie] at hzv
      simp only[Option.map_eq_some_iff] at hzv
      obtain⟨v,hv,rfl⟩:=hzv
      rw[if_neg h0]
      simp only[Sem.run_bind,zeroValue,typeInfo,run_program,Result.andThen_ok,hie,hv,Sem.run_pure]
      rw[k1]
      simp[newRow]
    refine z5ud hI hS (C:=r) (e:=e) (vs:=r.toList) (cs:=z5g K.E get parts z) (esz:=esz) (n:=n) (cap:=n) (nl:=some false) (fun i v hv=>by rw[←Array.getElem?_toList];exact hv) ?_ rfl (by simp) (Nat.le_refl _) ?_ p2 hpure hrun
    ·rw[←Array.length_toList,p3,←c1.len,hzl];exact Nat.le_refl _
    ·rw[p2.len,p3,←c1.len,hzl]
   ·cases hz
  ·cases h
 ·cases h


theorem z0mc (hI:Inv K base g w getB) (hS:z3v K g w get a) {id esz n:Nat} {z:List z0a} {parts:List (Nat×Nat×Arg)} (h:z1cb K o.op esz n z parts=true) (hz1:∀x∈z,z8a x) (hok:okp K.E get getB (.buildBx id esz n z parts)):z51a K base a get getB d o (.buildBx id esz n z parts) w:=by
 unfold z1cb at h
 split at h
 ·rename_i t n' ps ho
  simp only[Bool.and_eq_true,beq_iff_eq] at h
  obtain⟨rfl,h⟩:=h
  split at h
  ·rename_i e hu
   simp only[Bool.and_eq_true,decide_eq_true_eq] at h
   obtain⟨⟨⟨hsz,hz⟩,hle⟩,hps⟩:=h
   split at hz
   ·rename_i zv hzv
    obtain⟨hid,hnone,hzl,hfill,p6⟩:=hok
    have c1:=z01a (K:=K.toCon) (g:=g) (w:=w) _ _ hz
    have c2:∀x∈zv.toList,x.oneCell'=true:=fun x hx=>by
     obtain⟨i,hi,rfl⟩:=List.mem_iff_getElem.1 hx
     have hl:=c1.len
     obtain⟨y,hy,hr'⟩:=c1.get i z[i] (List.getElem?_eq_getElem (by omega))
     rw[List.getElem?_eq_getElem hi] at hy
     cases hy
     exact z8q hr' (hz1 _ (List.getElem_mem _))
    rw[c1.len] at hfill
    obtain⟨p1,p2,p3,p4,p5⟩:=z0Jb hI hS hps hfill c1 rfl c2
    have hlen:((ps.map fun(i,x)=>(i,a.eval x)).toList).length=(parts.map (·.1)).length:=by simpa using p1
    obtain⟨r,k1,k2⟩:=z8fc (fun i=>some (i*esz,esz)) (ps.map fun(i,x)=>(i,a.eval x)).toList (parts.map (·.1)) zv hlen (fun j p off hp hoff=>by
     simp only[Array.toList_map,List.getElem?_map,Option.map_eq_some_iff] at hp hoff
     obtain⟨p',hp',rfl⟩:=hp
     obtain⟨q',hq',rfl⟩:=hoff
     obtain⟨e1,e2,e3⟩:=p5 j p' q' hp' hq'
     simp only[Bool.and_eq_true,beq_iff_eq] at e1
     simp only
     rw[e2,e1.2,←e1.1,e1.2]
     refine⟨rfl,?_⟩
     rw[←Array.length_toList]
     rw[←e1.1,e1.2] at e3
     exact e3)
    have hsnd:(ps.map fun(i,x)=>(i,a.eval x)).toList.map (·.2)=ps.toList.map fun p=>a.eval p.2:=by simp[Array.toList_map,List.map_map,Function.comp_def]
    rw[hsnd] at k2
    rw[←k2] at p2 p3
    have hnotbig:¬(2^24<n*esz):=by simp;omega
    obtain⟨ie,hie,hies⟩:=z91a hsz
    have hrun:(execOp a.eval o).run K.P w= .ok (.value (.slice (some ⟨w.heap.size,0,none⟩) n n)) (w.alloc (.cells r e)):=by
     simp only[execOp,ho,Instr.buildSlice,Sem.run_bind,run_underlying hu,Result.andThen_ok,run_sizeOf w hsz]
     rw[if_neg hnotbig]
     unfold z90b at hzv
     by_cases h0:n*esz=0
     ·rw[if_pos h0,Option.some.injEq] at hzv
      subst hzv
      rw[if_pos h0]
      simp only[pure_bind]
      rw[h0,show(Array.map (fun x=>(#[]:Array Value)[x% (#[]:Array Value).size]!) (Array.range 0))= #[] from by simp,k1]
      simp[newRow]
     ·rw[if_neg h0,hie] at hzv
      simp only[Option.map_eq_some_iff] at hzv
      obtain⟨v,hv,rfl⟩:=hzv
      rw[if_neg h0]
      simp only[Sem.run_bind,zeroValue,typeInfo,run_program,Result.andThen_ok,hie,hv,Sem.run_pure]
      rw[k1]
      simp[newRow]
    have hb:=z13b hI id hid hnone r e (z5g K.E get parts z) (fun i c hc=>by
     obtain⟨v,hv,hrv⟩:=p2.get i c hc
     exact⟨v,by rw[←Array.getElem?_toList];exact hv,z29a _ (p6 c (z3ya hc)) hrv⟩)
    exact⟨_,_,_,hrun,.inl rfl,_,hb.2,hb.1.slots hS,by simp only[eff,Rep];exact⟨w.heap.size,n,0,by simp[z4gb],rfl,Nat.le_refl _,Nat.le_refl _,.inl rfl,fun _=>rfl⟩⟩
   ·cases hz
  ·cases h
 ·cases h

def z4tc (K:Cx) (op:Op) (esz n:Nat) (z:List z0a):Bool:=
 match op with
 | .makeSlice t (.const (.int .i64 l)) (.const (.int .i64 c))=>decide (l=(n:Int))&&decide (c=(n:Int))&&(match K.P.underlying t with
   |some (.slice e)=>z9Oa K.P e esz&&(match z90b K.P e (n*esz) with|some zv=>z72a z zv.toList|none=>false)&&decide (n≤1000000∧0<n*esz)&&(match K.P.info? e with|some i=>decide (i.bytes*n≤1000000)|none=>false)
   |_=>false)
 |_=>false
theorem z71c (hI:Inv K base g w getB) (hS:z3v K g w get a) {id esz n:Nat} {z:List z0a} (h:z4tc K o.op esz n z=true) (hz1:∀x∈z,z8a x) (hok:okp K.E get getB (.buildBx id esz n z [])):z51a K base a get getB d o (.buildBx id esz n z []) w:=by
 unfold z4tc at h
 split at h
 ·rename_i t l c ho
  simp only[Bool.and_eq_true,decide_eq_true_eq] at h
  obtain⟨⟨rfl,rfl⟩,h⟩:=h
  split at h
  ·rename_i e hu
   simp only[Bool.and_eq_true,decide_eq_true_eq] at h
   obtain⟨⟨⟨hsz,hz⟩,hn⟩,hby⟩:=h
   split at hz
   ·rename_i zv hzv
    obtain⟨hid,hnone,hzl,hfill,p6⟩:=hok
    have c1:=z01a (K:=K.toCon) (g:=g) (w:=w) _ _ hz
    split at hby
    ·rename_i ie hie
     simp only[decide_eq_true_eq] at hby
     have hfa:z5g K.E get [] z=z:=rfl
     have hby':(ie.bytes:Int)*(n:Int)≤281474976710656:=by
      have:((ie.bytes*n:Nat):Int)=(ie.bytes:Int)*(n:Int):=by simp
      omega
     have hsize:ie.size=esz:=by
      obtain⟨i2,hi2,hs2⟩:=z91a hsz
      rw[hie] at hi2;cases hi2;exact hs2
     have hrun:(execOp a.eval o).run K.P w= .ok (.value (.slice (some ⟨w.heap.size,0,none⟩) n n)) (w.alloc (.cells zv e)):=by
      unfold z90b at hzv
      rw[if_neg (by omega),hie] at hzv
      simp only[Option.map_eq_some_iff] at hzv
      obtain⟨v,hv,rfl⟩:=hzv
      have hr:=run_make (P:=K.P) w t e ie v hu hie hv .i64 .i64 n n (by omega) (Int.le_refl _) hby' (by omega)
      simp only[Int.toNat_natCast,hsize] at hr
      simp only[execOp,ho,Act.eval]
      rw[Sem.run_bind,hr]
      rfl
     have hb:=z13b hI id hid hnone zv e (z5g K.E get [] z) (fun i c hc=>by
      rw[hfa] at hc
      obtain⟨v,hv,hrv⟩:=c1.get i c hc
      exact⟨v,by rw[←Array.getElem?_toList];exact hv,z29a _ (p6 c (by rw[hfa];exact z3ya hc)) hrv⟩)
     exact⟨_,_,_,hrun,.inl rfl,_,hb.2,hb.1.slots hS,by simp only[eff,Rep];exact⟨w.heap.size,n,0,by simp[z4gb],rfl,Nat.le_refl _,Nat.le_refl _,.inl rfl,fun _=>rfl⟩⟩
    ·cases hby
   ·cases hz
  ·cases h
 ·cases h

end
end Go.Abs
end

section
namespace Go.Abs

section
variable {K : Cx} {base : z4f} {g g' : Gh} {w w' : World} {get : Nat → z0a} {getB : Nat → Option (List z0a)} {a : Act} {o : Oper} {d : Option Nat}

theorem z9Rc {m:Nat} {x:Option Arg} {dflt:Nat} (h:z2g K.E get x m) (hd:dflt≤m):bnd K.E get x dflt≤m:=by
 cases x with
 |none=>exact hd
 |some y=>simp only[z2g] at h;simp only[bnd];omega
theorem z2nd {n:Nat} {hi mx:Option Arg} (hmh:mx.isSome=true→hi.isSome=true) (k2:z2g K.E get hi (bnd K.E get mx n)):bnd K.E get hi n≤bnd K.E get mx n:=by
 cases hi with
 |none=>cases mx with
  |none=>exact Nat.le_refl _
  |some _=>simp at hmh
 |some y=>simp only[z2g] at k2;simp only[bnd] at k2⊢;omega

/-! ### slices of arrays -/
def z75c (K:Cx) (op:Op) (n esz:Nat) (x:Arg) (lo hi mx:Option Arg):Bool:=
 match op with
 | .slice t x' lo' hi' mx'=>(match K.P.underlying t with|some (.array m e)=>(m==n)&&z9Oa K.P e esz|_=>false)&&z7wa K x' x&&z7tb K lo' lo&&z7tb K hi' hi&&z7tb K mx' mx
 |_=>false

theorem z6Jc (hI:Inv K base g w getB) (hS:z3v K g w get a) {n esz:Nat} {x:Arg} {lo hi mx:Option Arg} (h:z75c K o.op n esz x lo hi mx=true) (hok:okp K.E get getB (.slArr n esz x lo hi mx)):z51a K base a get getB d o (.slArr n esz x lo hi mx) w:=by
 unfold z75c at h
 split at h
 ·rename_i t x' lo' hi' mx' ho
  simp only[Bool.and_eq_true] at h
  obtain⟨⟨⟨⟨h,hx⟩,hlo⟩,hhi⟩,hmx⟩:=h
  split at h
  ·rename_i m e hu
   simp only[Bool.and_eq_true,beq_iff_eq] at h
   obtain⟨rfl,hsz⟩:=h
   have rx:=z3qa hI hS hx
   simp only[okp] at hok
   obtain⟨hok,hmh,k3,k2,k1,hn⟩:=hok
   have hb:=z4Ab hI hS hlo hhi hmx false m m (Nat.le_refl _) m (Nat.le_refl _) hmh k3 (by cases mx<;>exact k2) k1
   have hm:mxv K.E get mx m m=bnd K.E get mx m:=by cases mx<;>rfl
   rw[hm] at hb
   have hlh:bnd K.E get lo 0≤bnd K.E get hi m:=z9Rc k1 (Nat.zero_le _)
   have hhm:=z2nd (n:=m) hmh k2
   have hrun:∀b o',a.eval x'= .pointer (some ⟨b,o',none⟩)→(execOp a.eval o).run K.P w=
     .ok (.value (.slice (some ⟨b,if bnd K.E get mx m=bnd K.E get lo 0 then o' else o'+bnd K.E get lo 0*esz,none⟩) (bnd K.E get hi m-bnd K.E get lo 0) (bnd K.E get mx m-bnd K.E get lo 0))) w:=fun b o' e=>by
    simp only[execOp,ho,e,Instr.sliceAt,Sem.run_bind,run_underlying hu,Result.andThen_ok,Instr.sureAddr,Sem.run_pure,hb,run_sizeOf w hsz,Addr.add_mid]
    congr 3
    split<;>simp_all
   split at hok
   ·rename_i id off ex
    rw[ex] at rx
    simp only[Rep] at rx
    obtain⟨bk,hbk,vx⟩:=rx
    refine z7qa hI hS (c:= .bv id esz (off+bnd K.E get lo 0*esz) (bnd K.E get hi m-bnd K.E get lo 0) (bnd K.E get mx m-bnd K.E get lo 0)) (by simp only[eff,ex]) (hrun bk off vx) ?_
    simp only[Rep]
    refine⟨bk,_,_,hbk,rfl,by omega,Nat.le_refl _,?_,fun _=>rfl⟩
    split
    ·exact .inr ⟨by omega,by omega⟩
    ·exact .inl rfl
   ·rename_i cs ex
    rw[ex] at rx
    simp only[Rep,z9b] at rx
    obtain⟨bk,o',vx,hc⟩:=rx
    refine z7qa hI hS (c:= .sl .plain (some false) (bnd K.E get hi m-bnd K.E get lo 0) ((cs.drop (bnd K.E get lo 0*esz)).take ((bnd K.E get hi m-bnd K.E get lo 0)*esz))) (by simp only[eff,ex]) (hrun bk o' vx) ?_
    simp only[Rep,z9b]
    refine .inl ⟨bk,_,_,rfl,by omega,?_,by simp,by simp⟩
    split
    ·have:bnd K.E get hi m-bnd K.E get lo 0=0:=by omega
     rw[this]
     simp[z4b]
    ·exact(hc.drop _).take _
   ·cases hok
  ·cases h
 ·cases h

def z78b (K:Cx) (op:Op) (esz:Nat) (x:Arg) (lo hi mx:Option Arg):Bool:=
 match op with
 | .slice t x' lo' hi' mx'=>(match K.P.underlying t with|some (.slice e)=>z9Oa K.P e esz|_=>false)&&z7wa K x' x&&z7tb K lo' lo&&z7tb K hi' hi&&z7tb K mx' mx
 |_=>false

theorem z1Vc (hI:Inv K base g w getB) (hS:z3v K g w get a) {esz:Nat} {x:Arg} {lo hi mx:Option Arg} (h:z78b K o.op esz x lo hi mx=true) (hok:okp K.E get getB (.slSl esz x lo hi mx)):z51a K base a get getB d o (.slSl esz x lo hi mx) w:=by
 unfold z78b at h
 split at h
 ·rename_i t x' lo' hi' mx' ho
  simp only[Bool.and_eq_true] at h
  obtain⟨⟨⟨⟨h,hx⟩,hlo⟩,hhi⟩,hmx⟩:=h
  split at h
  ·rename_i e hu
   have rx:=z3qa hI hS hx
   simp only[okp] at hok
   obtain⟨hok,hmh,k3,k2,k1⟩:=hok
   generalize hnn:z7e (arg K.E get x)=n at*
   have hlh:bnd K.E get lo 0≤bnd K.E get hi n:=z9Rc k1 (Nat.zero_le _)
   have hhm:=z2nd (n:=n) hmh k2
   have hmn:bnd K.E get mx n≤n:=z9Rc k3 (Nat.le_refl _)
   have hrun:∀(p:Option Addr) (cap:Nat),n≤cap→a.eval x'= .slice p n cap→∃M,(execOp a.eval o).run K.P w=
     .ok (.value (.slice (if M=bnd K.E get lo 0 then p else p.map (·.add (bnd K.E get lo 0*esz))) (bnd K.E get hi n-bnd K.E get lo 0) (M-bnd K.E get lo 0))) w∧bnd K.E get hi n≤M∧M=mxv K.E get mx n cap:=fun p cap hcap ev=>by
    have hb:=z4Ab hI hS hlo hhi hmx true n cap hcap n hcap hmh k3 (by
     cases mx with
     |some _=>exact k2
     |none=>
      cases hi with
      |none=>trivial
      |some y=>
       have e:bnd K.E get none n=n:=rfl
       rw[e] at k2
       simp only[z2g,mxv] at k2⊢
       exact⟨k2.1,k2.2.1,by have:=k2.2.2;omega⟩) k1
    refine⟨_,?_,?_,rfl⟩
    ·simp only[execOp,ho,ev,Instr.sliceAt,Instr.slice,Sem.run_bind,run_underlying hu,Result.andThen_ok,hb,run_sizeOf w h,Sem.run_pure]
    ·cases mx with
     |some _=>exact hhm
     |none=>
      have:bnd K.E get none n=n:=rfl
      rw[this] at hhm
      simp only[mxv]
      omega
   split at hok
   ·rename_i id e' off k c ex
    subst hok
    rw[ex] at rx hnn
    simp only[z7e] at hnn
    subst hnn
    simp only[Rep] at rx
    obtain⟨bk,cap,o',hbk,vx,hcap,hc,ho',hxc⟩:=rx
    obtain⟨M,hr,h1,h2⟩:=hrun _ cap hcap vx
    refine z7qa hI hS (c:= .bv id e' (off+bnd K.E get lo 0*e') (bnd K.E get hi k-bnd K.E get lo 0) (mxv K.E get mx k c-bnd K.E get lo 0)) (by simp only[eff,ex];cases mx<;>rfl) hr ?_
    simp only[Rep,Option.map_some,Addr.add_mid]
    have hM:mxv K.E get mx k c≤M:=by
     rw[h2]
     cases mx with
     |none=>exact hc
     |some _=>exact Nat.le_refl _
    by_cases hML:M=bnd K.E get lo 0
    ·rw[if_pos hML]
     exact⟨bk,_,_,hbk,rfl,by omega,by omega,.inr ⟨by omega,by omega⟩,fun h=>by rw[h2,hxc h]⟩
    ·rw[if_neg hML]
     refine⟨bk,_,_,hbk,rfl,by omega,by omega,?_,fun h=>by rw[h2,hxc h]⟩
     rcases ho' with rfl|⟨hk0,hc0⟩
     ·exact .inl rfl
     ·refine .inr ⟨?_,?_⟩
      ·have:bnd K.E get hi k≤k:=Nat.le_trans hhm hmn
       omega
      ·cases mx with
       |none=>simp only[mxv];omega
       |some _=>simp only[mxv];omega
   ·rename_i m nl k cs ex
    rw[ex] at rx hnn
    simp only[z7e] at hnn
    subst hnn
    have rx:=z7Ub rx
    simp only[z9b] at rx
    rcases rx with⟨bk,o',cap,vx,hcap,hc,hnl,_⟩|⟨q,vx,hk,hcs,hnl⟩
    ·obtain⟨M,hr,h1,h2⟩:=hrun _ cap hcap vx
     refine z7qa hI hS (c:=(eff K.E get getB (.slSl esz x lo hi mx)).val) (by simp only[eff,ex]) hr ?_
     have key:∀md:z5r,(md= .clip→M=bnd K.E get hi k)→(∀z,md≠ .own z)→Rep K.toCon g w (d.map .slot) (.sl md nl (bnd K.E get hi k-bnd K.E get lo 0) ((cs.drop (bnd K.E get lo 0*esz)).take ((bnd K.E get hi k-bnd K.E get lo 0)*esz)))
       (.slice (if M=bnd K.E get lo 0 then some ⟨bk,o',none⟩ else(some (⟨bk,o',none⟩:Addr)).map (·.add (bnd K.E get lo 0*esz))) (bnd K.E get hi k-bnd K.E get lo 0) (M-bnd K.E get lo 0)):=fun md hmd hno=>by
      have hp:z9b K.toCon g.S w (.sl md nl (bnd K.E get hi k-bnd K.E get lo 0) ((cs.drop (bnd K.E get lo 0*esz)).take ((bnd K.E get hi k-bnd K.E get lo 0)*esz)))
        (.slice (if M=bnd K.E get lo 0 then some ⟨bk,o',none⟩ else(some (⟨bk,o',none⟩:Addr)).map (·.add (bnd K.E get lo 0*esz))) (bnd K.E get hi k-bnd K.E get lo 0) (M-bnd K.E get lo 0)):=by
       simp only[z9b,Option.map_some,Addr.add_mid]
       by_cases hML:M=bnd K.E get lo 0
       ·rw[if_pos hML]
        have e0:bnd K.E get hi k-bnd K.E get lo 0=0:=by omega
        rw[e0,Nat.zero_mul,List.take_zero]
        exact .inl ⟨bk,o',_,rfl,by omega,by simp[z4b],hnl,fun hm=>by have:=hmd hm;omega⟩
       ·rw[if_neg hML]
        exact .inl ⟨bk,_,_,rfl,by omega,(hc.drop _).take _,hnl,fun hm=>by have:=hmd hm;omega⟩
      cases md with
      |plain=>simpa only[Rep] using hp
      |clip=>simpa only[Rep] using hp
      |own z=>exact absurd rfl (hno z)
     simp only[eff,ex]
     cases mx with
     |none=>exact key .plain (by simp) (by simp)
     |some y=>
      simp only[mxv] at h2⊢
      split
      ·rename_i heq
       exact key .clip (fun _=>by rw[h2,heq]) (by simp)
      ·exact key .plain (by simp) (by simp)
    ·subst hk hcs
     obtain⟨M,hr,h1,h2⟩:=hrun q 0 (Nat.le_refl _) vx
     have hz:bnd K.E get hi 0=0:=by omega
     have hl0:bnd K.E get lo 0=0:=by omega
     have hM:M=0:=by rw[h2];cases mx with|none=>rfl|some _=>simp only[mxv];omega
     refine z7qa hI hS (c:=(eff K.E get getB (.slSl esz x lo hi mx)).val) (v:= .slice q 0 0) (by simp only[eff,ex]) (by rw[hr,hz,hl0,hM];simp) ?_
     simp only[eff,ex,hz,hl0,List.drop_nil,List.take_nil]
     have key:∀md:z5r,(∀z,md≠ .own z)→Rep K.toCon g w (d.map .slot) (.sl md nl (0-0) []) (.slice q 0 0):=fun md hno=>by
      cases md with
      |plain=>simp only[Rep,z9b];exact .inr ⟨q,rfl,trivial,trivial,hnl⟩
      |clip=>simp only[Rep,z9b];exact .inr ⟨q,rfl,trivial,trivial,hnl⟩
      |own z=>exact absurd rfl (hno z)
     cases mx with
     |none=>exact key .plain (by simp)
     |some y=>
      simp only[]
      split
      ·exact key .clip (by simp)
      ·exact key .plain (by simp)
   ·rename_i ex
    rw[ex] at rx hnn
    simp only[z7e] at hnn
    subst hnn
    simp only[Rep] at rx
    obtain⟨M,hr,h1,h2⟩:=hrun none 0 (Nat.le_refl _) rx
    have hz:bnd K.E get hi 0=0:=by omega
    have hl0:bnd K.E get lo 0=0:=by omega
    have hM:M=0:=by rw[h2];cases mx with|none=>rfl|some _=>simp only[mxv];omega
    exact z7qa hI hS (c:= .lit (.slice none 0 0)) (v:= .slice none 0 0) (by simp only[eff,ex]) (by rw[hr,hz,hl0,hM];simp) (z6Ma _ _)
   ·cases hok
  ·cases h
 ·cases h

def z89b (K:Cx) (op:Op) (x:Arg) (lo hi:Option Arg):Bool:=
 match op with
 | .slice t x' lo' hi' none=>z1lb K.P t z4Db&&z7wa K x' x&&z7tb K lo' lo&&z7tb K hi' hi
 |_=>false
theorem z3Kc (hI:Inv K base g w getB) (hS:z3v K g w get a) {x:Arg} {lo hi:Option Arg} (h:z89b K o.op x lo hi=true) (hok:okp K.E get getB (.slStr x lo hi)):z51a K base a get getB d o (.slStr x lo hi) w:=by
 unfold z89b at h
 split at h
 ·rename_i t x' lo' hi' ho
  simp only[Bool.and_eq_true] at h
  obtain⟨⟨⟨h,hx⟩,hlo⟩,hhi⟩:=h
  obtain⟨D,hu,hD⟩:=z7ya h
  have:=z26a hD
  subst this
  obtain⟨hs,k2,k1⟩:=hok
  obtain⟨ex,vx⟩:=z0Ob (z3qa hI hS hx) hs
  generalize asS (arg K.E get x)=s at*
  have hb:=z4Ab (mx:=none) (mx':=none) hI hS hlo hhi rfl false s.size s.size (Nat.le_refl _) s.size (Nat.le_refl _) (by simp) trivial k2 k1
  refine z7qa hI hS (c:= .lit (.string (s.extract (bnd K.E get lo 0) (bnd K.E get hi s.size)))) (v:= .string (s.extract (bnd K.E get lo 0) (bnd K.E get hi s.size))) (by simp only[eff,ex,asS]) ?_ (z6Ma _ _)
  simp only[Option.map_none] at hb
  simp only[execOp,ho,vx,Instr.sliceAt,Instr.slice,Sem.run_bind,run_underlying hu,Result.andThen_ok,Option.map_none,Option.isSome_none,Bool.false_eq_true,if_false,hb,Sem.run_pure]
 ·cases h

end
end Go.Abs
end
