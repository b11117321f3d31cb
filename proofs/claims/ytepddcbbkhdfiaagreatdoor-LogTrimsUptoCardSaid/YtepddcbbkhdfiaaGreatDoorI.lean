/- Lemmas: an abstract interpreter, and what the functions compute. -/
import Derived.Test.YtepddcbbkhdfiaaGreatDoorH
import Derived.Test.YtepddcbbkhdfiaaGreatDoorG
import Derived.Test.YtepddcbbkhdfiaaGreatDoorF
set_option linter.unusedSimpArgs false
set_option linter.unusedVariables false
set_option linter.unusedSectionVars false
section
namespace Go.Abs
structure Cmd where
 kind:Int
 key:Int
 other:Int
 type:Int
 uses:Int
 life:Int
 data:List UInt8
 list:List Int
def Cmd.ok (c:Cmd):Prop:=z2e c.kind∧z2e c.key∧z2e c.other∧z2e c.type∧z2e c.uses∧z2e c.life∧∀x∈c.list,z2e x
def z13a (c:Cmd) (nl:Option Bool):List z0a:=[i64 c.kind,i64 c.key,i64 c.other,i64 c.type,i64 c.uses,i64 c.life,st c.data,.sl .plain nl c.list.length (z6Ba c.list)]
def z4Cc (l:List z0a):Cmd:=⟨asI (nth l 0),asI (nth l 1),asI (nth l 2),asI (nth l 3),asI (nth l 4),asI (nth l 5),gS (nth l 6),gIs (gCs (nth l 7))⟩
@[simp] theorem z9fc (c:Cmd) (nl:Option Bool):z4Cc (z13a c nl)=c:=by simp[z4Cc,z13a,nth]
def z8u:Cmd:=⟨0,0,0,0,0,0,[],[]⟩

/-! ### Kinds -/
def z8J (x y:Int):Int:=IntKind.i64.wrap (BitVec.ofInt 64 x&&& ~~~BitVec.ofInt 64 y).toNat
@[simp] theorem z1w (x y:Int):z9c .andNot (i64 x) (i64 y)=i64 (z8J x y):=rfl
@[simp] theorem z7F (x y:Int):z3a .andNot (i64 x) (i64 y)=True:=by simp[z3a,i64,-z8s]
@[simp] theorem z7O (x y:Int):z3a .and (i64 x) (i64 y)=True:=by simp[z3a,i64,-z8s]
def z7Sb (n:Int):Bool:=z8J n 956==0
def six (c:Cmd):List Int:=[c.kind,c.key,c.other,c.type,c.uses,c.life]
def z3ic (c:Cmd):List UInt8:=(six c).flatMap z3r++(z2X c.data++z5y c.list)
def z0ka:Nat→List UInt8→List Int×List UInt8×Nat
 |0,b=>([],b,0)
 |n+1,b=>if(z6m b).2.2≠0 then([],b,(z6m b).2.2) else((z6m b).1::(z0ka n (b.drop (z6m b).2.1)).1,(z0ka n (b.drop (z6m b).2.1)).2)
def aft (b:List UInt8) (n e:Nat):List UInt8:=if e=0 then b.drop n else b
end Go.Abs
end

section
set_option linter.unusedVariables false
namespace Go.Abs

inductive z5Ya where
 |plain (c:z1c)
 |seq (a b:z5Ya)
 |cond (c:Arg) (a b:z5Ya)
 |block (id:Nat) (b:z5Ya)
 |loop (b:z5Ya)
 |yield (keep:List Nat) (gs:List z0h) (xs:List z6a) (d:Option Nat) (y:Nat) (as:List Arg) (zs:List z6a) (gd:Option (Nat×Bool):=none)
 |lean (s t:Nat) (keep:List Nat) (gs:List z0h) (zs:List z6a)
 deriving Inhabited

abbrev IQ:=z5c→Nat×Bool→ASt→Prop
def z3fc (f:Nat×Bool→ASt→Prop) (Q:IQ):IQ
 | .normal,p,st=>f p st
 |e,p,st=>Q e p st
def z7Zb (id:Nat) (Q:IQ):IQ
 | .exit id',p,st=>if id'=id then Q .normal p st else Q (.exit id') p st
 |e,p,st=>Q e p st

def yOk:z0a→Bool
 | .undef=>true
 | .bp _ _=>true
 |c=>z6c c
def z8Bb (cs:List z0a):List z0a:=if cs.all yOk=true then cs else cs.map fun c=>if yOk c then c else .undef
@[simp] theorem z53d {cs:List z0a} (h:cs.all yOk=true):z8Bb cs=cs:=if_pos h
theorem z0ac {cs:List z0a} {i:Nat} {d:z0a} (h:(z8Bb cs)[i]? =some d):∃c,cs[i]? =some c∧(d=c∨d= .undef):=by
 unfold z8Bb at h
 split at h
 ·exact⟨d,h,.inl rfl⟩
 ·rw[List.getElem?_map] at h
  cases hc:cs[i]? with
  |none=>rw[hc] at h;cases h
  |some c=>
   rw[hc] at h
   simp only[Option.map_some,Option.some.injEq] at h
   refine⟨c,rfl,?_⟩
   split at h
   ·exact .inl h.symm
   ·exact .inr h.symm
@[simp] theorem z0Wd (cs:List z0a):(∀x∈z8Bb cs,yOk x=true)=True:=eq_true fun x hx=>by
 unfold z8Bb at hx
 split at hx
 ·rename_i h;exact List.all_eq_true.1 h x hx
 ·obtain⟨c,_,rfl⟩:=List.mem_map.1 hx
  split
  ·assumption
  ·rfl
theorem z9be (l:List z0a):hdA (l.drop 1)=(l[1]?).getD .undef:=by
 match l with
 |[]=>rfl
 |[_]=>rfl
 |_::_::_=>rfl
def z2hc (st:ASt):ASt:={st with env:=st.env.map fun q=>(q.1,if yOk q.2 then q.2 else .undef),box:=st.box.map fun q=>(q.1,q.2.map z8Bb)}
theorem z2Dd (st:ASt):∀q∈(z2hc st).env,yOk q.2=true:=fun q hq=>by
 obtain⟨r,_,rfl⟩:=List.mem_map.1 hq
 show yOk (if yOk r.2 then r.2 else .undef)=true
 split
 ·assumption
 ·rfl
theorem z4Nc (s:Nat):∀e:List (Nat×z0a),lk (e.map fun q=>(q.1,if yOk q.2 then q.2 else .undef)) s=(lk e s).map fun d=>if yOk d then d else .undef
 |[]=>rfl
 |(k,d)::e=>by
  simp only[List.map_cons,lk]
  split
  ·rfl
  ·exact z4Nc s e
theorem z17c {K:Cx} {base:z4f} {n:Nat} {st:ASt} {a:Act} {w:World} (hR:Rel K base n st a w):Rel K base n (z2hc st) a w:=by
 obtain⟨g,hI,hS,hO,h⟩:=hR
 have hlk:∀(b:List (Nat×Option (List z0a))) (id:Nat),lk (b.map fun q=>(q.1,q.2.map z8Bb)) id=(lk b id).map fun o=>o.map z8Bb:=fun b id=>by
  induction b with
  |nil=>rfl
  |cons q b ih=>
   obtain⟨k,o⟩:=q
   simp only[List.map_cons,lk]
   split
   ·rfl
   ·exact ih
 have hB:∀id,(z2hc st).getB id=(st.getB id).map z8Bb:=fun id=>by
  show(lk (st.box.map fun q=>(q.1,q.2.map z8Bb)) id).join=((lk st.box id).join).map z8Bb
  rw[hlk]
  cases lk st.box id with
  |none=>rfl
  |some o=>rfl
 have hsome:∀id cs',(z2hc st).getB id=some cs'→∃cs,st.getB id=some cs∧cs'=z8Bb cs:=fun id cs' h=>by
  rw[hB] at h
  cases hc:st.getB id with
  |none=>rw[hc] at h;cases h
  |some cs=>rw[hc] at h;cases h;exact⟨cs,rfl,rfl⟩
 refine⟨g,{hI with bxok:=fun id cs' hc=> ?_,nobx:=fun id hn=> ?_,obok:=fun id b cs' h1 h2 hc hne=> ?_},fun s=> ?_,hO,h⟩
 ·obtain⟨cs,hcs,rfl⟩:=hsome id cs' hc
  obtain⟨b,k1,k2,k3⟩:=hI.bxok id cs hcs
  refine⟨b,k1,k2,fun i d hd=> ?_⟩
  obtain⟨c,hci,hdc⟩:=z0ac hd
  obtain⟨⟨x,hx,hr⟩,hf⟩:=k3 i c hci
  refine⟨⟨x,hx,?_⟩,hf⟩
  rcases hdc with rfl|rfl
  ·exact hr
  ·simp[Rep]
 ·rw[hB] at hn
  refine hI.nobx id ?_
  cases hc:st.getB id with
  |none=>rfl
  |some cs=>rw[hc] at hn;cases hn
 ·obtain⟨cs,hcs,rfl⟩:=hsome id cs' hc
  refine hI.obok id b cs h1 h2 hcs fun e=>hne ?_
  rw[z9be] at e⊢
  cases h9:(z8Bb cs)[1]? with
  |none=>rfl
  |some d=>
   obtain⟨c,hc1,hd⟩:=z0ac h9
   rw[hc1] at e
   rcases hd with rfl|rfl
   ·exact e
   ·rfl
 have hs:=hS s
 unfold ASt.get at hs⊢
 rw[show lk (z2hc st).env s=(lk st.env s).map fun d=>if yOk d then d else .undef from z4Nc s st.env,show(z2hc st).org=st.org from rfl]
 cases he:lk st.env s with
 |none=>rw[he] at hs;exact hs
 |some d=>
  rw[he] at hs
  simp only[Option.map_some]
  split
  ·exact hs
  ·simp[Rep]
def z2Zc (d:Option Nat) (b:Bool) (st:ASt):ASt:={st with env:=d.toList.map (fun s=>(s,bo' b))++st.env}
where bo' (b : Bool) : z0a := .lit (.bool b)

theorem z4Ac {v:z0a} {want:Bool} (h:isB v):z3G v want=(asB v==want):=by
 unfold isB at h
 split at h
 ·rfl
 ·exact h.elim
def z5Jd (d:Option Nat) (st:ASt):ASt:={st with env:=d.toList.map (fun s=>(s,z7j))++st.env}
def ifG (gd:Option (Nat×Bool)) (st:ASt) (Y N:Prop):Prop:=match gd with
 |none=>Y
 |some (s,want)=>isB (st.get s)∧(asB (st.get s)=want→Y)∧(asB (st.get s)=(!want)→N)

theorem z7ld {gd:Option (Nat×Bool)} {st:ASt} {Y N:Prop} (h:ifG gd st Y N) (hw:∀s want,gd=some (s,want)→isB (st.get s)→asB (st.get s)=want):Y:=by
 cases gd with
 |none=>exact h
 |some sw=>
  obtain⟨s,want⟩:=sw
  exact h.2.1 (hw s want rfl h.1)

def z4Tb (s:Nat) (d:z0a) (st:ASt):ASt:={st with org:=(s,d)::st.org,env:=st.env.filter fun p=>decide (p.1≠s)}
def z6jb (E:Env) (l:Nat) (el:Nat→Option (List z0a)):z5Ya→IQ→Nat×Bool→ASt→Prop
 | .plain c,Q,p,st=>awp E c (fun e st'=>Q e p st') st
 | .seq a b,Q,p,st=>z6jb E l el a (z3fc (fun p st=>z6jb E l el b Q p st) Q) p st
 | .cond c a b,Q,p,st=>isB (arg E st.get c)∧(asB (arg E st.get c)=true→z6jb E l el a Q p st)∧(asB (arg E st.get c)=false→z6jb E l el b Q p st)
 | .block id b,Q,p,st=>z6jb E l el b (z7Zb id Q) p st
 | .loop b,Q,p,st=>∃I:Nat×Bool→ASt→Prop,I p st∧∀p st,I p st→z6jb E l el b (z3fc (fun p' st'=>I p' st'∧p.2=false∧(p'=(p.1+1,false)∨p'=(p.1,true))) Q) p st
 | .yield keep gs xs d y as zs gd,Q,p,st=>
  z4t E xs st∧(∀s∈d.toList,lk st.org s=none)∧
  (let st1:=z2hc (z8I E xs st)
   ifG gd st1 (p.2=false∧el p.1=some (as.map (arg E st1.get))∧z7a (as.map (arg E st1.get))=true∧st1.get y= .lit (.func (.yield l) #[] #[])∧(∀q∈st1.box,∀cs,q.2=some cs→cs.all yOk=true∧q.1<1000000)∧
   ∀b:Bool,z4t E zs (z2Zc d b st1)∧z6S gs (z2o keep (z8I E zs (z2Zc d b st1)))∧Q .normal (if b then(p.1+1,false) else(p.1,true)) (z6q gs (z2o keep (z8I E zs (z2Zc d b st1))))) (z4t E zs (z5Jd d st1)∧z6S gs (z2o keep (z8I E zs (z5Jd d st1)))∧Q .normal p (z6q gs (z2o keep (z8I E zs (z5Jd d st1))))))
 | .lean s t keep gs zs,Q,p,st=>∃d ds,lk st.org t=some (.ep (d::ds))∧z4t E zs (z4Tb s d st)∧z6S gs (z2o keep (z8I E zs (z4Tb s d st)))∧Q .normal p (z6q gs (z2o keep (z8I E zs (z4Tb s d st))))

def z5tb (K:Cx) (n:Nat) (ops:Array Oper) (o:Oper) (d:Option Nat) (y:Nat) (as:List Arg) (gd:Option (Nat×Bool)):Bool:=
 (o.dst==d)&&d.toList.all (· <n)&&z5kb ops o.guard gd&&(match o.op with| .call c=>(match c.callee with| .value (.tmp t)=>t==y|_=>false)&&argsL K c.args.toList as|_=>false)
where argsL (K : Cx) : List Operand → List Arg → Bool
 |[],[]=>true
 |x::xs,y::ys=>z8ua K x y&&argsL K xs ys
 |_,_=>false
def z7nc (K:Cx) (n:Nat):z5Ya→Code→Bool
 | .plain c,x=>z4ya c&&z2Da c&&z5ra K n c x
 | .seq a b,x=>match x with| .seq p q=>z7nc K n a p&&z7nc K n b q|_=>false
 | .cond c a b,x=>match x with| .cond c' p q=>z8ua K c' c&&z7nc K n a p&&z7nc K n b q|_=>false
 | .block id b,x=>match x with| .block id' p=>(id==id')&&z7nc K n b p|_=>false
 | .loop b,x=>match x with| .loop p=>z7nc K n b p|_=>false
 | .yield _ gs xs d y as zs gd,x=>match x with
  | .region _ ops draw=> !draw&&(ops.size==xs.length+1+zs.length)&&z90a K n ops (ops.toList.take xs.length) xs&&
   (match ops[xs.length]? with|some o=>z5tb K n ops o d y as gd|none=>false)&&z90a K n ops (ops.toList.drop (xs.length+1)) zs&&gs.all z0h.cold
  |_=>false
 | .lean s t _ gs zs,x=>match x with
  | .region _ ops draw=> !draw&&(ops.size==zs.length+1)&&(match ops[0]? with|some o=>z8yb K n ops o ⟨some s,none,.load none none false (.s t)⟩|none=>false)&&z90a K n ops (ops.toList.drop 1) zs&&gs.all z0h.cold
  |_=>false
def z5Da:z5Ya→List (Nat×Bool)
 | .plain c=>z4a c
 | .seq a b=>z5Da a++z5Da b
 | .cond _ a b=>z5Da a++z5Da b
 | .block _ b=>z5Da b
 | .loop b=>z5Da b
 | .yield _ _ xs _ _ _ zs _=>(xs++zs).flatMap fun x=>z0A x.op
 | .lean _ _ _ _ zs=>zs.flatMap fun x=>z0A x.op

section
variable {K : Cx} {S : Nat → Nat} {w0 : World} {n : Nat} {el : Nat → Option (List z0a)} {l : Nat} {J : Nat → (Nat → Prop) → World → Prop} {Jx : (Nat → Prop) → World → Prop} {N : Nat} {O0 : Nat → Prop}

structure Zi (S:Nat→Nat) (w0:World) (base:z4f):Prop where
 own:∀b,base.W b→w0.heap.size≤b∨S b=0
 size:w0.heap.size≤base.w0.heap.size
 kp:z9d S w0 base.S base.w0
 le:∀b,base.S b≤S b
 dl:base.dl=[]
def HyI (O0:Nat→Prop) (J:Nat→(Nat→Prop)→World→Prop) (Jx:(Nat→Prop)→World→Prop) (base:z4f) (p:Nat×Bool):Prop:=
 ∃O:Nat→Prop,(∀b,base.W b→b<base.w0.heap.size→O b)∧(∀b,O0 b→O b∧b<base.w0.heap.size)∧(match p.2 with|false=>J p.1 O base.w0|true=>Jx O base.w0)
def z3lc (K:Cx) (S:Nat→Nat) (w0:World) (O0:Nat→Prop) (J:Nat→(Nat→Prop)→World→Prop) (Jx:(Nat→Prop)→World→Prop) (n:Nat) (Q:IQ):Exit→Act→World→Prop
 | .normal,a,w=>∃base p st,Zi S w0 base∧HyI O0 J Jx base p∧Rel K base n st a w∧Q .normal p st
 | .exit id,a,w=>∃base p st,Zi S w0 base∧HyI O0 J Jx base p∧Rel K base n st a w∧Q (.exit id) p st
 | .ret,a,w=>∃base p st,Zi S w0 base∧HyI O0 J Jx base p∧Rel K base n st a w∧Q .ret p st
 |_,_,_=>False

theorem z9ic {base:z4f} {g:Gh} {w:World} {a:Act} {get:Nat→z0a} {getB:Nat→Option (List z0a)} (hI:Inv K base g w getB) (hS:z2v K g w get a):∀{xs:List Operand} {ys:List Arg},z5tb.argsL K xs ys=true→z2b K.toCon g w (ys.map (arg K.E get)) (xs.map a.eval)
 |[],[],_=>by simp[z2b]
 |[],_::_,h=>by simp[z5tb.argsL] at h
 |_::_,[],h=>by simp[z5tb.argsL] at h
 |x::xs,y::ys,h=>by
  simp only[z5tb.argsL,Bool.and_eq_true] at h
  simp only[List.map_cons,z2b]
  exact⟨_,_,rfl,z3qa hI hS h.1,z9ic hI hS h.2⟩

def WO (g:Gh) (O0:Nat→Prop) (b:Nat):Prop:=Wr g b∨O0 b
theorem z6hd (hr:z3bc K S el l J Jx N O0 w0) {base:z4f} {p:Nat×Bool} {g:Gh} {w:World} {bx:Nat→Option (List z0a)} (hh:HyI O0 J Jx base p) (hI:Inv K base g w bx):(∀b,O0 b→b<w.heap.size)∧match p.2 with|false=>J p.1 (WO g O0) w|true=>Jx (WO g O0) w:=by
 obtain⟨O,hO,hO0,hj⟩:=hh
 have hf:Fr base.w0.heap.size O base.w0 w:=hI.fr.mono (Nat.le_refl _) fun k hk hw=>hO k hw hk
 have hw:∀b,WO g O0 b→(O b∨base.w0.heap.size≤b)∧b<w.heap.size:=fun b hb=>by
  rcases hb with hb|hb
  case inr=>exact⟨.inl (hO0 b hb).1,Nat.lt_of_lt_of_le (hO0 b hb).2 hI.fr.size⟩
  refine⟨?_,?_⟩
  ·rcases Nat.lt_or_ge b base.w0.heap.size with hlt|hge
   ·rcases z8sb hI hb with h1|h1
    ·omega
    ·exact .inl (hO b h1 hlt)
   ·exact .inr hge
  ·rcases hb with⟨id,hi⟩|ho
   ·exact(hI.muW id b hi).2.1
   ·cases hl:g.ow b with
    |none=>exact absurd hl ho
    |some lo=>exact(hI.owW b lo hl).2
 obtain⟨i,s⟩:=p
 cases s with
 |false=>exact⟨fun b hb=>(hw b (.inr hb)).2,hr.stab i O (WO g O0) base.w0 w hj hf hw⟩
 |true=>exact⟨fun b hb=>(hw b (.inr hb)).2,hr.stabx O (WO g O0) base.w0 w hj hf hw⟩

theorem z1Nc {K:Con} {g g':Gh} {w w':World} (hm:g'.mu=g.mu) {d:z0a} {v:Value} {l l':Option Loc} (hy:yOk d=true) (h:Rep K g w l d v):Rep K g' w' l' d v:=by
 cases d with
 |undef=>simp[Rep]
 |bp id off=>simp only[Rep,hm] at h⊢;exact h
 |lit x=>simp only[Rep] at h⊢;exact h
 |agg cs=>rw[z7ub _ _ _ hy h];exact z5Vb _ _ hy
 |tup cs=>rw[z7ub _ _ _ hy h];exact z5Vb _ _ hy
 |sl _ _ _ _=>simp[yOk,z6c] at hy
 |bv _ _ _ _ _=>simp[yOk,z6c] at hy
 |ep _=>simp[yOk,z6c] at hy
 |otup _ _ _ _ _=>simp[yOk,z6c] at hy
 |oagg _ _ _ _ _ _=>simp[yOk,z6c] at hy
 |fn _ _ _=>simp[yOk,z6c] at hy

theorem z7oc (hSx:∀b i,i<S b→∃x,w0.cell? ⟨b,i,none⟩=some x) (hg:∀m∈K.N.gs,z4b K.toCon S w0 (K.E.T m) (K.N.gnum m) 0) {base:z4f} (hz:Zi S w0 base) {st:ASt} {a:Act} {w B:World} {g:Gh}
  (hI:Inv K base g w st.getB) (hS:z2v K g w st.get a) (hO:z65 K base st a) (hd:a.defers=base.dl) (hsz:a.tmps.size=n) (he:∀q∈st.env,yOk q.2=true) (hb:∀q∈st.box,∀cs,q.2=some cs→cs.all yOk=true∧q.1<1000000)
  (hk:z9d S w0 S B) (hown:∀b,Wr g b→B.heap[b]? =w.heap[b]?) (hsize:w.heap.size≤B.heap.size) {p:Nat×Bool} (h0:∀b,O0 b→b<w.heap.size) (hj:match p.2 with|false=>J p.1 (WO g O0) B|true=>Jx (WO g O0) B)
  {d:Option Nat} {v:Bool} (hdl:∀s∈d.toList,s<n) (hdo:∀s∈d.toList,lk st.org s=none):
  ∃base',Zi S w0 base'∧HyI O0 J Jx base' p∧Rel K base' n (z2Zc d v st) (a.put d (.bool v)) B:=by
 let g':Gh:={S:=fun b=>if b<w0.heap.size then S b else 0,ow:=fun _=>none,mu:=g.mu}
 have hw:∀b,Wr g' b→Wr g b:=fun b hb=>by
  rcases hb with hb|hb
  ·exact .inl hb
  ·exact absurd rfl hb
 have hge:∀b,Wr g b→w0.heap.size≤b∨S b=0:=fun b hb=>by
  rcases z8sb hI hb with h1|h1
  ·exact .inl (Nat.le_trans hz.size h1)
  ·exact hz.own b h1
 have hB0:w0.heap.size≤B.heap.size:=Nat.le_trans hz.size (Nat.le_trans hI.fr.size hsize)
 have hkp:z9d S w0 (z4f.S ⟨B,Wr g',g'.S,[],g'.mu⟩) B:=fun b i x hi hc=>by
  have hlt:b<w0.heap.size:=World.block_lt_of_cell? w0 ⟨b,i,none⟩ hc
  refine⟨?_,(hk b i x hi hc).2⟩
  unfold z4f.S
  rw[if_pos ⟨Nat.lt_of_lt_of_le hlt hB0,fun h=>by rcases hge b (hw b h) with h9|h9<;>omega⟩]
  show i<if b<w0.heap.size then S b else 0
  rw[if_pos hlt];exact hi
 have hk':z9d S w0 g'.S B:=fun b i x hi hc=>by
  have hlt:b<w0.heap.size:=World.block_lt_of_cell? w0 ⟨b,i,none⟩ hc
  exact⟨by show i<if b<w0.heap.size then S b else 0;rw[if_pos hlt];exact hi,(hk b i x hi hc).2⟩
 have horg:z9d base.S base.w0 (z4f.S ⟨B,Wr g',g'.S,[],g'.mu⟩) B:=fun b i x hi hc=>by
  have hi':i<S b:=Nat.lt_of_lt_of_le hi (hz.le b)
  obtain⟨x',hx'⟩:=hSx b i hi'
  have h1:=(hz.kp b i x' hi' hx').2
  rw[hc] at h1
  cases h1
  exact hkp b i x hi' hx'
 refine⟨⟨B,Wr g',g'.S,[],g'.mu⟩,⟨fun b hb=>hge b (hw b hb),hB0,hkp,fun b=> ?_,rfl⟩,⟨WO g O0,fun b hb _=> .inl (hw b hb),fun b hb=>⟨.inr hb,Nat.lt_of_lt_of_le (h0 b hb) hsize⟩,hj⟩,g',⟨Fr.refl _ _ _,fun _ _ _=>rfl,hI.inj,fun id cs hc=> ?_,hI.nobx,fun id b hb=> ?_,fun b lo hb=> ?_,fun m hm=>z4b.mono hk' _ _ _ (hg m hm),z9d.refl _ _,fun id b cs ho hmu hc _=> ?_,fun _ _ _ _ h=>h⟩,fun s=> ?_,fun s d' hs=> ?_,?_,?_⟩
 ·unfold z4f.S
  split
  ·show(if b<w0.heap.size then S b else 0)≤S b
   split<;>omega
  ·omega
 ·obtain⟨b,k1,k2,k3⟩:=hI.bxok id cs hc
  have hbk:=hown b (.inl ⟨id,k1⟩)
  have hb0:=hge b (.inl ⟨id,k1⟩)
  have hbox:(id,some cs)∈st.box:=by
   have hc':(lk st.box id).join=some cs:=hc
   cases hl:lk st.box id with
   |none=>rw[hl] at hc';cases hc'
   |some o=>rw[hl] at hc';simp only[Option.join_some] at hc';rw[←hc'];exact z15a hl
  have hall:=(hb _ hbox cs rfl).1
  refine⟨b,k1,by show(if b<w0.heap.size then S b else 0)=0;rcases hb0 with h9|h9<;>split<;>omega,fun i e hi=> ?_⟩
  obtain⟨⟨x,hx,hr⟩,hfz⟩:=k3 i e hi
  refine⟨⟨x,?_,z1Nc (g:=g) (g':=g') rfl (List.all_eq_true.1 hall e (z9va hi)) hr⟩,?_⟩
  ·rw[World.cell?_of_block (w:=w) (a:=⟨b,i,none⟩) hbk];exact hx
  ·simp only[World.frozen?,hbk] at hfz⊢;exact hfz
 ·exact⟨.inr (.inl ⟨id,hb⟩),Nat.lt_of_lt_of_le (hI.muW id b hb).2.1 hsize,rfl⟩
 ·cases hb
 ·have hbox:(id,some cs)∈st.box:=by
   have hc':(lk st.box id).join=some cs:=hc
   cases hl:lk st.box id with
   |none=>rw[hl] at hc';cases hc'
   |some o=>rw[hl] at hc';simp only[Option.join_some] at hc';rw[←hc'];exact z15a hl
  have:=(hb _ hbox cs rfl).2
  simp only at this
  omega
 ·rw[z4tb (by rw[hsz];exact hdl)]
  have hget:(z2Zc d v st).get s=if d=some s then .lit (.bool v) else st.get s:=by
   show(match lk (d.toList.map (fun s=>(s,z2Zc.bo' v))++st.env) s with|some d=>d|none=>dem ((lk st.org s).getD .undef))=_
   rw[z4d]
   cases d with
   |none=>simp[lk];rfl
   |some t=>
    simp only[Option.toList_some,List.map_cons,List.map_nil,lk,Option.some.injEq]
    by_cases h:s=t
    ·simp[h,z2Zc.bo']
    ·rw[if_neg h,if_neg (fun e=>h e.symm)];simp;rfl
  rw[hget]
  by_cases h:d=some s
  ·rw[if_pos h,if_pos h];simp[Rep]
  ·rw[if_neg h,if_neg h]
   have hs:=hS s
   unfold ASt.get at hs⊢
   cases hl:lk st.env s with
   |some e=>
    rw[hl] at hs
    exact z1Nc (g:=g) (g':=g') rfl (he _ (z15a hl)) hs
   |none=>
    cases ho:lk st.org s with
    |none=>simp[Abs.dem,Rep]
    |some e=>
     refine z9b.dem (g:=g') _ (z9b.mono ?_ e _ (z9b.mono horg e _ (hO s e ho)))
     intro b i x hi hc
     refine⟨?_,hc⟩
     unfold z4f.S at hi
     split at hi
     ·exact hi
     ·omega
 ·rw[z4tb (by rw[hsz];exact hdl)]
  have hs':lk st.org s=some d':=hs
  have hne:d≠some s:=fun e=>by
   have:=hdo s (by simp[e])
   rw[hs'] at this;cases this
  rw[if_neg hne]
  exact z9b.mono horg d' _ (hO s d' hs')
 ·cases d<;>simp[Act.put,hd,hz.dl]
 ·cases d<;>simp[Act.put,hsz]

theorem z97c {E:Env} (o:z6a) (st:ASt):(z9a E o st).org=st.org:=by
 unfold z9a
 split
 ·rfl
 ·split<;>rfl
theorem z3nc {E:Env}:∀(xs:List z6a) (st:ASt),z4t E xs st→(z8I E xs st).org=st.org
 |[],st,_=>rfl
 |x::xs,st,h=>by
  show(z8I E xs (z9a E x st)).org=_
  rw[z3nc xs _ h.2,z97c]
theorem z4oc {P:Program} {o:Oper} {a:Act} {w:World} {c:Call} {t:Tmp} {l:Nat} {r:Result Next} (ho:o.op= .call c) (hc:c.callee= .value (.tmp t)) (hv:a.eval (.tmp t)= .func (.yield l) #[] #[])
  (h:(Instr.yield l (c.args.map a.eval)).run P w=r):(execOp a.eval o).run P w=r:=by
 rw[←h]
 simp only[execOp,ho,resolve,hc,hv,Deferred.ofValue,invoke]
 simp[go_sem]

theorem z2Uc {base:z4f} {ops:Array Oper} {oper:Oper} {s t:Nat} {d:z0a} {ds:List z0a} {st:ASt} {a:Act} {w:World} (hR:Rel K base n st a w) {i:Nat} (hi:ops[i]? =some oper) (hm:z8yb K n ops oper ⟨some s,none,.load none none false (.s t)⟩=true)
  (ht:lk st.org t=some (.ep (d::ds))) {Kn:Act→World→Prop} {Q:Exit→Act→World→Prop} (hn:∀a' w',Rel K base n (z4Tb s d st) a' w'→Kn a' w') {r:Option Nat} {m:Nat}:wpOpIn (WF r) m K.P ops Q i Kn a w:=by
 simp only[z8yb,Bool.and_eq_true,beq_iff_eq,List.all_eq_true,decide_eq_true_eq] at hm
 obtain⟨⟨⟨hdst,hlt⟩,hgd⟩,hch⟩:=hm
 have hR':=hR
 obtain⟨g,hI,hS,hO,hdf,hsz⟩:=hR'
 have hp:=hO t _ ht
 simp only[z9b,z4b] at hp
 obtain⟨b,o,hv,hb,⟨x,hx,hpx⟩,_⟩:=hp
 have hw:=(z7Ba hI) b o x hb hx
 have hl:z9Wb K oper.op none (.s t)=true:=hch
 have hwant:Region.wanted oper (yielded ops a.tmps)=true:=by
  unfold z5kb at hgd
  split at hgd
  ·rename_i h1 _;unfold Region.wanted;rw[h1]
  ·rename_i h1 h2;cases h2
  ·cases hgd
 unfold z9Wb at hl
 split at hl
 ·rename_i ty x' ho
  simp only[Bool.and_eq_true] at hl
  obtain⟨⟨hk,_⟩,hx'⟩:=hl
  have hrun:(execOp a.eval oper).run K.P w= .ok (.value x) w:=by
   cases x' with
   |tmp t'=>
    simp only[z8ua,beq_iff_eq] at hx'
    subst hx'
    have hev:a.eval (.tmp t')= .pointer (some ⟨b,o,none⟩):=hv
    have hr:=z1Zb (P:=K.P) (w:=w) (bk:=b) (o:=o) (vs:=[x]) hk (fun j v hj=>by
     cases j with
     |zero=>simp at hj;subst hj;exact hw.2
     |succ j=>simp at hj) (by simp)
    simp only[execOp,ho,hev,Sem.run_bind,hr,Result.andThen_ok,Sem.run_pure]
    rfl
   |_=>simp[z8ua] at hx'
  unfold wpOpIn
  simp only[hi]
  rw[if_pos hwant]
  refine z6Kc (fun c hc=>by rw[ho] at hc;cases hc) ?_
  unfold Oper.wp
  rw[hrun]
  refine hn _ _ ⟨g,hI,fun s'=> ?_,fun s' d' hs'=> ?_,?_,?_⟩
  ·rw[z4tb (by rw[hsz];intro s hs;exact hlt s (by rw[hdst] at hs;exact hs)),hdst]
   have hget:(z4Tb s d st).get s'=if some s=some s' then dem d else st.get s':=by
    have h1:lk (st.env.filter fun p=>decide (p.1≠s)) s'=if s'≠s then lk st.env s' else none:=by
     have:=z2za (fun k=>decide (k≠s)) st.env s'
     simpa using this
    show(match lk (st.env.filter fun p=>decide (p.1≠s)) s' with|some d=>d|none=>dem ((lk ((s,d)::st.org) s').getD .undef))=_
    rw[h1]
    by_cases h:s'=s
    ·subst h;simp[lk]
    ·rw[if_pos h,if_neg (fun e=>h (by cases e;rfl))]
     simp only[lk,if_neg h]
     rfl
   rw[hget]
   by_cases h:some s=some s'
   ·rw[if_pos h,if_pos h]
    exact z9b.dem _ (z9b.mono (z7Ba hI) d _ hpx)
   ·rw[if_neg h,if_neg h];exact hS s'
  ·rw[z4tb (by rw[hsz];intro s hs;exact hlt s (by rw[hdst] at hs;exact hs)),hdst]
   have hs':(if s'=s then some d else lk st.org s')=some d':=hs'
   by_cases h:s'=s
   ·rw[if_pos h] at hs';cases hs';rw[if_pos (by rw[h])];exact hpx
   ·rw[if_neg h] at hs';rw[if_neg (fun e=>h (by cases e;rfl))];exact hO s' d' hs'
  ·rw[hdst];simp[Act.put,hdf]
  ·rw[hdst];simp[Act.put,hsz]
 ·cases hl
theorem z44a {q:Nat} (hr:z3bc K S el l J Jx N O0 w0) (hSx:∀b i,i<S b→∃x,w0.cell? ⟨b,i,none⟩=some x) (hg:∀m∈K.N.gs,z4b K.toCon S w0 (K.E.T m) (K.N.gnum m) 0):
  ∀(c:z5Ya) (x:Code) (Q:IQ) (base:z4f) (p:Nat×Bool) (st:ASt) (a:Act) (w:World),z7nc K n c x=true→(∀p∈z5Da c,VB K p)→z6jb K.E l el c Q p st→Zi S w0 base→HyI O0 J Jx base p→Rel K base n st a w→x.wpIn (WF none) q K.P (z3lc K S w0 O0 J Jx n Q) a w
 | .plain c,x,Q,base,p,st,a,w,hc,hv,h,hz,hh,hR=>by
  simp only[z7nc,Bool.and_eq_true] at hc
  simp only[z6jb] at h
  refine wpIn_mono (z0Ga (Cd:=True) c x none q _ base st a w hc.2 hv hc.1.1 (.inl hc.1.2) h hR) ?_
  intro e a' w' hl
  cases e<;>simp only[z4Jb] at hl<;>simp only[z3lc]
  all_goals (obtain⟨b',⟨_,_,he⟩,st',hR',hq⟩:=hl;have he:=he trivial;subst he;exact⟨_,p,st',hz,hh,hR',hq⟩)
 | .seq u v,x,Q,base,p,st,a,w,hc,hv,h,hz,hh,hR=>by
  simp only[z7nc] at hc
  simp only[z6jb] at h
  simp only[z5Da,List.mem_append] at hv
  split at hc
  ·rename_i y z
   simp only[Bool.and_eq_true] at hc
   refine wpIn_seq (wpIn_mono (z44a hr hSx hg u y _ base p st a w hc.1 (fun f hf=>hv f (.inl hf)) h hz hh hR) ?_)
   intro e a' w' hl
   cases e<;>simp only[z3lc] at hl<;>simp only[Exit.then]
   ·obtain⟨b',p',st',hz',hh',hR',hq⟩:=hl
    exact z44a hr hSx hg v z Q b' p' st' a' w' hc.2 (fun f hf=>hv f (.inr hf)) hq hz' hh' hR'
   ·exact hl
   ·exact hl
  ·cases hc
 | .cond c u v,x,Q,base,p,st,a,w,hc,hv,h,hz,hh,hR=>by
  simp only[z7nc] at hc
  simp only[z6jb] at h
  simp only[z5Da,List.mem_append] at hv
  split at hc
  ·rename_i c' y z
   simp only[Bool.and_eq_true] at hc
   obtain⟨⟨hcc,hy⟩,hzz⟩:=hc
   obtain⟨hb,ht,hf⟩:=h
   have hR':=hR
   obtain⟨g,hI,hS,_⟩:=hR'
   obtain⟨_,hval⟩:=z3kb (z3qa hI hS hcc) hb
   refine wpIn_cond_split hval (fun e=> ?_) (fun e=> ?_)
   ·exact z44a hr hSx hg u y Q base p st a w hy (fun f hf=>hv f (.inl hf)) (ht e) hz hh hR
   ·exact z44a hr hSx hg v z Q base p st a w hzz (fun f hf=>hv f (.inr hf)) (hf e) hz hh hR
  ·cases hc
 | .block id b,x,Q,base,p,st,a,w,hc,hv,h,hz,hh,hR=>by
  simp only[z7nc] at hc
  simp only[z6jb] at h
  split at hc
  ·rename_i id' y
   simp only[Bool.and_eq_true,beq_iff_eq] at hc
   obtain⟨rfl,hp⟩:=hc
   refine wpIn_block (wpIn_mono (z44a hr hSx hg b y _ base p st a w hp hv h hz hh hR) ?_)
   intro e a' w' hl
   cases e<;>simp only[z3lc] at hl<;>simp only[Exit.inBlock]
   ·exact hl
   ·rename_i id'
    obtain⟨b',p',st',hz',hh',hR',hq⟩:=hl
    simp only[z7Zb] at hq
    split
    ·rename_i he
     rw[if_pos he] at hq
     exact⟨b',p',st',hz',hh',hR',hq⟩
    ·rename_i he
     rw[if_neg he] at hq
     exact⟨b',p',st',hz',hh',hR',hq⟩
   ·exact hl
  ·cases hc
 | .loop b,x,Q,base,p,st,a,w,hc,hv,h,hz,hh,hR=>by
  simp only[z7nc] at hc
  simp only[z6jb] at h
  split at hc
  ·rename_i y
   obtain⟨I,hI0,hround⟩:=h
   have hbd:∀(base:z4f) (p:Nat×Bool),HyI O0 J Jx base p→p.2=false→p.1≤N:=fun base p ⟨O,_,_,hj⟩ hp=>by
    rw[hp] at hj;exact hr.bound _ _ _ hj
   refine z4lb (fun k a w=>∃base p st,Zi S w0 base∧HyI O0 J Jx base p∧Rel K base n st a w∧I p st∧k=(match p.2 with|true=>0|false=>N+1-p.1)) ⟨base,p,st,hz,hh,hR,hI0,rfl⟩ fun k a w hj=> ?_
   obtain⟨base',p',st',hz',hh',hR',hI',hk⟩:=hj
   refine wpIn_mono (z44a hr hSx hg b y _ base' p' st' a w hc hv (hround p' st' hI') hz' hh' hR') ?_
   intro e a' w' hl
   cases e<;>simp only[z3lc] at hl<;>simp only[Exit.then]
   ·obtain⟨b2,p2,st2,hz2,hh2,hR2,hI2,hp,hp2⟩:=hl
    have hle:=hbd base' p' hh' hp
    rw[hp] at hk
    simp only at hk
    refine⟨match p2.2 with|true=>0|false=>N+1-p2.1,?_,b2,p2,st2,hz2,hh2,hR2,hI2,rfl⟩
    rcases hp2 with rfl|rfl
    ·simp only;omega
    ·simp only;omega
   ·exact hl
   ·exact hl
  ·cases hc
 | .yield keep gs xs d y as zs gd,x,Q,base,p,st,a,w,hc,hv,h,hz,hh,hR=>by
  simp only[z7nc] at hc
  simp only[z6jb] at h
  obtain⟨hokx,hdo,hifg⟩:=h
  have hye:=z2Dd (z8I K.E xs st)
  split at hc
  ·rename_i id ops draw
   simp only[Bool.and_eq_true,Bool.not_eq_true',beq_iff_eq] at hc
   obtain⟨⟨⟨⟨⟨hdraw,hsz⟩,hcx⟩,hco⟩,hcz⟩,hcold⟩:=hc
   subst hdraw
   have hVx:∀z∈xs,VOk K z.op:=fun z hz f hf=>hv f (by simp only[z5Da,List.mem_flatMap];exact⟨z,by simp[hz],hf⟩)
   have hVz:∀z∈zs,VOk K z.op:=fun z hz f hf=>hv f (by simp only[z5Da,List.mem_flatMap];exact⟨z,by simp[hz],hf⟩)
   refine wpIn_region ?_
   have hrange:List.range ops.size=List.range' 0 xs.length++(xs.length::(List.range' (xs.length+1) zs.length)):=by
    rw[hsz,List.range_eq_range',show xs.length+1+zs.length=xs.length+(1+zs.length) by omega,←List.range'_append_1,Nat.zero_add,Nat.add_comm 1,List.range'_succ]
   rw[hrange]
   refine z2Sb xs 0 st a w (by simpa using hcx) hVx hR hokx fun a1 w1 hR1=> ?_
   replace hR1:=z17c hR1
   rw[wpOpsIn_cons]
   split at hco
   ·rename_i o ho
    unfold wpOpIn
    simp only[ho]
    simp only[z5tb,Bool.and_eq_true,beq_iff_eq,List.all_eq_true,decide_eq_true_eq,Option.isNone_iff_eq_none] at hco
    obtain⟨⟨⟨hdst,hdl⟩,hgd⟩,hop⟩:=hco
    have hcz':z90a K n ops ((ops.toList.drop (xs.length+1)).take zs.length) zs=true:=by
     rw[List.take_of_length_le]
     ·exact hcz
     ·simp only[List.length_drop,Array.length_toList,hsz];omega
    have er:List.range' (xs.length+1) zs.length=List.range' (xs.length+1) zs.length++[]:=by simp
    by_cases hwant:Region.wanted o (yielded ops a1.tmps)=true
    case neg=>
     rw[if_neg hwant]
     refine⟨fun f _=>z36b _ f,?_⟩
     cases gd with
     |none=>
      refine absurd ?_ hwant
      unfold z5kb at hgd
      split at hgd
      ·rename_i h1 _;unfold Region.wanted;rw[h1]
      ·rename_i h1 h2;cases h2
      ·cases hgd
     |some sw=>
      obtain⟨s,want⟩:=sw
      obtain⟨hb,_,hno⟩:=hifg
      have hw:=z3rb (o:=⟨none,some (s,want),.unsup⟩) hR1 hgd rfl (.inl hb)
      rw[hw,z4Ac hb] at hwant
      have hx:∀a b:Bool,¬((a==b)=true)→a=(!b):=by decide
      have hno:=hno (hx _ _ hwant)
      obtain⟨hokz,hokg,hq⟩:=hno
      have hR1':=hR1
      obtain⟨g,hI,hS,_,_,_⟩:=hR1'
      have hput:=z2lc (e:={val:=z7j}) (v:=undef) (w':=w1) hR1 (o:=⟨d,none,.unsup⟩) hdl (fun s hs=>by rw[show(z2hc (z8I K.E xs st)).org=(z8I K.E xs st).org from rfl,z3nc xs st hokx];exact hdo s hs) (by simp) ⟨g,hI,hS,by simp[Rep,z7j]⟩
      rw[er,hdst]
      exact z2Sb zs (xs.length+1) (z5Jd d (z2hc (z8I K.E xs st))) _ w1 hcz' hVz (by simpa[z5Jd] using hput) hokz fun a' w' hR'=>⟨base,p,_,hz,hh,z5Lb gs hcold (z0La keep hR') hokg,hq⟩
    have hpos:=z7ld hifg fun s want e hb=>by
     subst e
     have hw:=z3rb (o:=⟨none,some (s,want),.unsup⟩) hR1 hgd rfl (.inl hb)
     rw[hw,z4Ac hb] at hwant
     simpa using hwant
    obtain⟨hp,hel,hmf,hly,hyb,hrest⟩:=hpos
    rw[if_pos hwant]
    split at hop
    ·rename_i c hoc
     simp only[Bool.and_eq_true] at hop
     obtain⟨hcal,hargs⟩:=hop
     split at hcal
     ·rename_i t hct
      simp only[beq_iff_eq] at hcal
      subst hcal
      obtain⟨g,hI,hS,hO,hdf,hsz1⟩:=hR1
      have hyv:a1.eval (.tmp t)= .func (.yield l) #[] #[]:=by
       have:=hS t
       rw[hly] at this
       simpa[Rep,Act.eval] using this
      have hvs:=z8jb _ _ hmf (z9ic hI hS hargs)
      have hargs':c.args.map a1.eval=(z8ja (as.map (arg K.E (z2hc (z8I K.E xs st)).get))).toArray:=by
       apply Array.toList_inj.1
       rw[Array.toList_map,hvs]
      obtain⟨h0,hnow⟩:=z6hd hr hh hI
      rw[hp] at hnow
      simp only at hnow
      obtain⟨fn,tm,asg,bdy,hyr,hround⟩:=hr.round p.1 (WO g O0) w1 _ (q-1) hnow hel
      refine⟨fun f _=>z36b _ f,?_⟩
      rw[Oper.semAt_plain (WF none) _ _ (by rw[hoc];intro c' hc';cases hc'),z4oc hoc hct hyv rfl,hargs',hyr,Oper.uponIn_round]
      refine⟨fun h=>by simp[z58b] at h,hround.mono fun e B hB=> ?_⟩
      obtain⟨k1,k2,k3,_,_,_,k4⟩:=hB
      have goOn:∀b:Bool,(match(if b then(p.1+1,false) else(p.1,true):Nat×Bool).2 with|false=>J (if b then(p.1+1,false) else(p.1,true):Nat×Bool).1 (WO g O0) B|true=>Jx (WO g O0) B)→
        wpOpsIn (WF none) q K.P ops (z3lc K S w0 O0 J Jx n Q) (List.range' (xs.length+1) zs.length) (a1.put o.dst (.bool b)) B:=fun b hj=>by
       obtain⟨base2,hz2,hh2,hR2⟩:=z7oc (p:=if b then(p.1+1,false) else(p.1,true)) hSx hg hz hI hS hO hdf hsz1 hye hyb k1 (fun b hb=>k2 b (.inl hb)) k3 h0 hj hdl (fun s hs=>by rw[show(z2hc (z8I K.E xs st)).org=(z8I K.E xs st).org from rfl,z3nc xs st hokx];exact hdo s hs) (v:=b)
       obtain⟨hokz,hokg,hq⟩:=hrest b
       rw[hdst]
       rw[er]
       exact z2Sb zs (xs.length+1) _ _ B hcz' hVz hR2 hokz fun a' w' hR'=>⟨base2,_,_,hz2,hh2,z5Lb gs hcold (z0La keep hR') hokg,hq⟩
      rcases k4 with⟨rfl,hj⟩|⟨rfl,hj⟩
      ·exact goOn true hj
      ·exact goOn false hj
     ·cases hcal
    ·cases hop
   ·cases hco
  ·cases hc
 | .lean s t keep gs zs,x,Q,base,p,st,a,w,hc,hv,h,hz,hh,hR=>by
  simp only[z7nc] at hc
  simp only[z6jb] at h
  obtain⟨d,ds,ht,hokz,hokg,hq⟩:=h
  split at hc
  ·rename_i id ops draw
   simp only[Bool.and_eq_true,Bool.not_eq_true',beq_iff_eq] at hc
   obtain⟨⟨⟨⟨hdraw,hsz⟩,hco⟩,hcz⟩,hcold⟩:=hc
   subst hdraw
   have hVz:∀z∈zs,VOk K z.op:=fun z hz f hf=>hv f (by simp only[z5Da,List.mem_flatMap];exact⟨z,hz,hf⟩)
   refine wpIn_region ?_
   have hrange:List.range ops.size=0::(List.range' 1 zs.length++[]):=by
    rw[hsz,List.range_eq_range',List.range'_succ,List.append_nil]
   rw[hrange,wpOpsIn_cons]
   split at hco
   ·rename_i o ho
    refine z2Uc hR ho hco ht fun a' w' hR'=> ?_
    have hcz':z90a K n ops ((ops.toList.drop 1).take zs.length) zs=true:=by
     rw[List.take_of_length_le]
     ·exact hcz
     ·simp only[List.length_drop,Array.length_toList,hsz];omega
    exact z2Sb zs 1 _ _ _ hcz' hVz hR' hokz fun a2 w2 hR2=>⟨base,p,_,hz,hh,z5Lb gs hcold (z0La keep hR2) hokg,hq⟩
   ·cases hco
  ·cases hc

def z0Rc (w:World) (b:Nat):Nat:=match w.heap[b]? with|some (.cells c _ _)=>c.size|_=>0
theorem z4Fc {w:World} {b i:Nat} (h:i<z0Rc w b):∃x,w.cell? ⟨b,i,none⟩=some x:=by
 unfold z0Rc at h
 unfold World.cell?
 split at h
 ·rename_i c e fr hb
  simp only[hb]
  exact⟨c[i],by simp[h]⟩
 ·omega
theorem z50c {w:World} {b i:Nat} {x:Value} (h:w.cell? ⟨b,i,none⟩=some x):i<z0Rc w b:=by
 unfold World.cell? at h
 unfold z0Rc
 cases hb:w.heap[b]? with
 |none=>simp[hb] at h
 |some q=>
  cases q with
  |cells c e fr=>
   simp[hb] at h
   exact(Array.getElem?_eq_some_iff.1 h).1
  |_=>simp[hb] at h

structure z83d where
 nx:Nat
 ny:Nat
 body:z5Ya
def lvS (lv:List Nat) (x:List z0a):List Nat:=lv.map (· +(x.length+1))
def z9Vc (l:Nat) (lv:List Nat) (x y:List z0a):ASt:=
 {org:=(z4e 0 (x++ .lit (.func (.yield l) #[] #[])::y)).filter fun p=> !(lvS lv x).contains p.1
  env:=(lvS lv x).map fun s=>(s,.bp s 0)
  box:=(lvS lv x).map fun s=>(s,some (z3s ((x++ .lit (.func (.yield l) #[] #[])::y).getD s .undef)))}
def z23d (lv:List Nat) (x:List z0a) (B:Nat→Option Nat) (s:Nat):Option Nat:=if s∈lvS lv x then B (s-(x.length+1)) else none
theorem z0Nd {K:Cx} {S:Nat→Nat} {w:World} {n l m:Nat} {lv:List Nat} {B:Nat→Option Nat} {x y:List z0a} {vx vy:List Value} (hg:∀n∈K.N.gs,z4b K.toCon S w (K.E.T n) (K.N.gnum n) 0) (hx:z5a K.toCon S w x vx) (hy:z1ma K S w lv B y vy) (hn:x.length+1+y.length≤1000000) (hm:(vx++Value.func (.yield l) #[] #[]::vy).length+m=n):
  Rel K ⟨w,fun b=>∃i,B i=some b,S,[],z23d lv x B⟩ n (z9Vc l lv x y) {tmps:=(vx++Value.func (.yield l) #[] #[]::vy).toArray++Array.replicate m undef,defers:=[]} w:=by
 have hlx:=hx.len
 have hly:=hy.len
 obtain⟨ds,hds⟩:∃ds,ds=x++z0a.lit (.func (.yield l) #[] #[])::y:=⟨_,rfl⟩
 obtain⟨vs,hvs⟩:∃vs,vs=vx++Value.func (.yield l) #[] #[]::vy:=⟨_,rfl⟩
 have hdl:ds.length=vs.length:=by rw[hds,hvs];simp[hlx,hly]
 have hmem:∀s,s∈lvS lv x↔∃i∈lv,s=i+(x.length+1):=fun s=>by simp[lvS,eq_comm]
 have key:∀s d,ds[s]? =some d→∃v,vs[s]? =some v∧if s∈lvS lv x then∃b cs,B (s-(x.length+1))=some b∧d= .ep cs∧v= .pointer (some ⟨b,0,none⟩)∧S b=0∧b<w.heap.size∧z7a cs=true∧∀(j:Nat) e,cs[j]? =some e→w.cell? ⟨b,j,none⟩=some (toV e)∧w.frozen? ⟨b,j,none⟩=false else z9b K.toCon S w d v:=fun s d hd=>by
  rw[hds] at hd
  rcases Nat.lt_trichotomy s x.length with h|h|h
  ·rw[List.getElem?_append_left h] at hd
   obtain⟨v,hv,hr⟩:=hx.get s d hd
   refine⟨v,by rw[hvs,List.getElem?_append_left (by omega)];exact hv,?_⟩
   rw[if_neg (fun hc=>by obtain⟨i,_,e⟩:=(hmem s).1 hc;omega)]
   exact hr
  ·rw[List.getElem?_append_right (by omega),show s-x.length=0 by omega] at hd
   simp only[List.getElem?_cons_zero,Option.some.injEq] at hd
   subst hd
   refine⟨.func (.yield l) #[] #[],by rw[hvs,List.getElem?_append_right (by omega),show s-vx.length=0 by omega];rfl,?_⟩
   rw[if_neg (fun hc=>by obtain⟨i,_,e⟩:=(hmem s).1 hc;omega)]
   simp[z9b]
  ·rw[List.getElem?_append_right (by omega),show s-x.length=(s-(x.length+1))+1 by omega,List.getElem?_cons_succ] at hd
   have hi:s-(x.length+1)<y.length:=(List.getElem?_eq_some_iff.1 hd).1
   have hv:vy[s-(x.length+1)]? =some (vy[s-(x.length+1)]'(by omega)):=List.getElem?_eq_getElem _
   have ha:=hy.at' _ _ _ hd hv
   refine⟨_,by rw[hvs,List.getElem?_append_right (by omega),show s-vx.length=(s-(x.length+1))+1 by omega,List.getElem?_cons_succ];exact hv,?_⟩
   have hiff:s∈lvS lv x↔s-(x.length+1)∈lv:=by
    rw[hmem]
    constructor
    ·rintro⟨i,h1,h2⟩
     rw[show s-(x.length+1)=i by omega];exact h1
    ·intro h1
     exact⟨_,h1,by omega⟩
   by_cases hs:s∈lvS lv x
   ·rw[if_pos hs];rw[if_pos (hiff.1 hs)] at ha;exact ha
   ·rw[if_neg hs];rw[if_neg (fun h=>hs (hiff.2 h))] at ha;exact ha
 have hlvd:∀s,s∈lvS lv x→∃d,ds[s]? =some d:=fun s hs=>by
  obtain⟨i,hi,e⟩:=(hmem s).1 hs
  have:=hy.lt i hi
  exact⟨_,List.getElem?_eq_getElem (by rw[hds];simp;omega)⟩
 have hget:∀s v,vs[s]? =some v→(vs.toArray++Array.replicate m undef).getD s undef=v:=fun s v hv=>by
  have hs:s<vs.length:=(List.getElem?_eq_some_iff.1 hv).1
  rw[Array.getD_eq_getD_getElem?,Array.getElem?_append_left (by simpa using hs)]
  simp[hv]
 have hBx:∀i b,B i=some b→S b=0∧b<w.heap.size:=fun i b hb=>by
  have hi:=hy.dom i b hb
  have hs:i+(x.length+1)∈lvS lv x:=(hmem _).2 ⟨i,hi,rfl⟩
  obtain⟨d,hd⟩:=hlvd _ hs
  obtain⟨v,_,h2⟩:=key _ d hd
  rw[if_pos hs,show i+(x.length+1)-(x.length+1)=i by omega] at h2
  obtain⟨b',cs,k1,_,_,k4,k5,_⟩:=h2
  rw[hb] at k1;cases k1
  exact⟨k4,k5⟩
 have hW:∀b,(∃i,B i=some b)→S b=0:=fun b ⟨i,hi⟩=>(hBx i b hi).1
 have hk:z9d S w (z4f.S ⟨w,fun b=>∃i,B i=some b,S,[],z23d lv x B⟩) w:=fun b i z hi hc=>by
  refine⟨?_,hc⟩
  have hb:b<w.heap.size:=World.block_lt_of_cell? w ⟨b,i,none⟩ hc
  unfold z4f.S
  rw[if_pos ⟨hb,fun h=>by have:=hW b h;omega⟩]
  exact hi
 have hst:z9Vc l lv x y={org:=(z4e 0 ds).filter fun p=> !(lvS lv x).contains p.1,env:=(lvS lv x).map fun s=>(s,.bp s 0),box:=(lvS lv x).map fun s=>(s,some (z3s (ds.getD s .undef)))}:=by rw[hds];rfl
 have horg:∀s,lk (z9Vc l lv x y).org s=if s∈lvS lv x then none else ds[s]? :=fun s=>by
  rw[hst]
  show lk ((z4e 0 ds).filter fun p=>(fun k=> !(lvS lv x).contains k) p.1) s=_
  rw[z2za (fun k=> !(lvS lv x).contains k),z12b]
  by_cases h:s∈lvS lv x<;>simp[h]
 have henv:∀s,lk (z9Vc l lv x y).env s=if s∈lvS lv x then some (.bp s 0) else none:=fun s=>by
  rw[hst];exact z9zb (fun s=>z0a.bp s 0) s _
 have hbox:∀s,(z9Vc l lv x y).getB s=if s∈lvS lv x then some (z3s (ds.getD s .undef)) else none:=fun s=>by
  rw[hst]
  show(lk ((lvS lv x).map fun s=>(s,some (z3s (ds.getD s .undef)))) s).join=_
  rw[z9zb fun s=>some (z3s (ds.getD s .undef))]
  split<;>rfl
 rw[←hvs]
 have live:∀s,s∈lvS lv x→∃b cs,B (s-(x.length+1))=some b∧ds.getD s .undef= .ep cs∧vs[s]? =some (.pointer (some ⟨b,0,none⟩))∧S b=0∧b<w.heap.size∧z7a cs=true∧∀(j:Nat) e,cs[j]? =some e→w.cell? ⟨b,j,none⟩=some (toV e)∧w.frozen? ⟨b,j,none⟩=false:=fun s hs=>by
  obtain⟨d,hd⟩:=hlvd s hs
  obtain⟨v,hv,h2⟩:=key s d hd
  rw[if_pos hs] at h2
  obtain⟨b,cs,k1,k2,k3,k4,k5,k6,k7⟩:=h2
  exact⟨b,cs,k1,by rw[List.getD_eq_getElem?_getD,hd,k2];rfl,by rw[hv,k3],k4,k5,k6,k7⟩
 refine⟨⟨S,fun _=>none,fun s=>if s∈lvS lv x then B (s-(x.length+1)) else none⟩,⟨Fr.refl _ _ _,fun _ _ _=>rfl,fun i j b hi hj=> ?_,fun id cs hc=> ?_,fun id hid=> ?_,fun id b hb=> ?_,fun _ _ h=>(by cases h),hg,z9d.refl _ _,fun id b cs ho hb _ _=> ?_,fun _ _ _ _ h=>h⟩,fun s=> ?_,fun s d hs=> ?_,rfl,by rw[hvs];simp only[List.size_toArray,Array.size_append,Array.size_replicate];exact hm⟩
 ·simp only at hi hj
  split at hi
  ·rename_i h1
   split at hj
   ·rename_i h2
    have:=hy.inj _ _ b hi hj
    obtain⟨i',_,e1⟩:=(hmem i).1 h1
    obtain⟨j',_,e2⟩:=(hmem j).1 h2
    omega
   ·cases hj
  ·cases hi
 ·rw[hbox] at hc
  split at hc
  ·rename_i hs
   obtain⟨b,cs',k1,k2,_,k4,_,k6,k7⟩:=live id hs
   rw[k2] at hc
   simp only[z3s,Option.some.injEq] at hc
   subst hc
   refine⟨b,by simp only[if_pos hs];exact k1,k4,fun j e he=> ?_⟩
   obtain⟨c1,c2⟩:=k7 j e he
   have hme:z6c e=true:=by
    have:∀(cs:List z0a) (j:Nat),z7a cs=true→cs[j]? =some e→z6c e=true:=fun cs=>by
     induction cs with
     |nil=>intro j _ h;simp at h
     |cons c cs ih=>
      intro j hm hd
      simp only[z7a,Bool.and_eq_true] at hm
      cases j with
      |zero=>simp at hd;subst hd;exact hm.1
      |succ j=>exact ih j hm.2 (by simpa using hd)
    exact this _ j k6 he
   exact⟨⟨_,c1,z5Vb e _ hme⟩,c2⟩
  ·cases hc
 ·rw[hbox] at hid
  split at hid
  ·cases hid
  ·rename_i hs;simp only[if_neg hs]
 ·simp only at hb
  split at hb
  ·exact⟨.inr ⟨_,hb⟩,(hBx _ b hb).2,rfl⟩
  ·cases hb
 ·simp only at hb
  split at hb
  ·rename_i hs
   obtain⟨d,hd⟩:=hlvd id hs
   have:=(List.getElem?_eq_some_iff.1 hd).1
   rw[hds] at this
   simp at this
   omega
  ·cases hb
 ·unfold ASt.get
  rw[henv,horg]
  by_cases hs:s∈lvS lv x
  ·rw[if_pos hs]
   obtain⟨b,cs,k1,_,k3,_⟩:=live s hs
   simp only[Rep,if_pos hs]
   exact⟨b,k1,hget s _ k3⟩
  ·rw[if_neg hs,if_neg hs]
   cases hd:ds[s]? with
   |none=>simp[Abs.dem,Rep]
   |some d=>
    obtain⟨v,hv,h2⟩:=key s d hd
    rw[if_neg hs] at h2
    rw[hget s v hv]
    exact z9b.dem (g:=⟨S,_,_⟩) _ h2
 ·rw[horg] at hs
  split at hs
  ·cases hs
  ·rename_i hn'
   obtain⟨v,hv,h2⟩:=key s d hs
   rw[if_neg hn'] at h2
   rw[hget s v hv]
   exact z9b.mono hk d v h2
def itQ (el:Nat→Option (List z0a)):IQ
 | .normal,p,_| .ret,p,_=>p.2=true∨el p.1=none
 |_,_,_=>False
def z5Wc (K:Cx) (F:z83d) (fn:Func):Bool:=
 !(fn.name== "runtime.NumGoroutine")&&(match fn.body with|some c=>z7nc K fn.ntmps F.body c|none=>false)&&(fn.results.size==0)&&decide (F.nx+1+F.ny≤fn.ntmps∧F.nx+1+F.ny≤1000000)

theorem z54b {f:Nat} {fn:Func} {F:z83d} {c:ItC} (hf:K.P.funcs[K.nu f]? =some fn) (hc:z5Wc K F fn=true) (hv:∀p∈z5Da F.body,VB K p)
  (h:∀x y l,c.pre x y→x.length=F.nx∧y.length=F.ny∧z6jb K.E l (c.el x y) F.body (itQ (c.el x y)) (0,false) (z9Vc l c.lv x y)):z8Ha K f c:=by
 simp only[z5Wc,Bool.and_eq_true,Bool.not_eq_true',decide_eq_true_eq,beq_iff_eq] at hc
 obtain⟨⟨⟨hname,hbody⟩,hres⟩,hsz⟩:=hc
 cases hb:fn.body with
 |none=>rw[hb] at hbody;cases hbody
 |some code=>
  rw[hb] at hbody
  simp only at hbody
  refine⟨⟨fn,hf,by rw[hb];rfl,hname⟩,fun S w x y vx vy B hg hx hy hpre l J Jx N hr=> ?_⟩
  obtain⟨hlx,hly,hw⟩:=h x y l hpre
  obtain⟨S1,hS1⟩:∃S1:Nat→Nat,S1=fun b=>min (S b) (z0Rc w b):=⟨_,rfl⟩
  have hk1:z9d S w S1 w:=fun b i v hi hcell=>⟨by rw[hS1];exact Nat.lt_min.2 ⟨hi,z50c hcell⟩,hcell⟩
  have hle:∀b,S1 b≤S b:=fun b=>by rw[hS1];exact Nat.min_le_left _ _
  have hSx:∀b i,i<S1 b→∃x,w.cell? ⟨b,i,none⟩=some x:=fun b i hi=>by
   rw[hS1] at hi
   exact z4Fc (Nat.lt_min.1 hi).2
  have hr1:z3bc K S1 (c.el x y) l J Jx N (fun b=>∃i,B i=some b) w:=by
   refine⟨hr.start,hr.bound,hr.stab,hr.stabx,fun i O A xs q hj hel=> ?_⟩
   obtain⟨fn',tm,asg,bdy,h1,h2⟩:=hr.round i O A xs q hj hel
   exact⟨fn',tm,asg,bdy,h1,h2.mono fun e B ⟨k1,k2⟩=>⟨fun b i v hi hcell=>⟨hi,(k1 b i v (Nat.lt_of_lt_of_le hi (hle b)) hcell).2⟩,k2⟩⟩
  have hg1:∀m∈K.N.gs,z4b K.toCon S1 w (K.E.T m) (K.N.gnum m) 0:=fun m hm=>z4b.mono hk1 _ _ _ (hg m hm)
  have hz0:∀i b,B i=some b→S1 b=0:=fun i b hb=>by
   have hi:=hy.dom i b hb
   have hil:=hy.lt i hi
   have:=hy.at' i y[i] (vy[i]'(by rw[←hy.len];exact hil)) (List.getElem?_eq_getElem hil) (List.getElem?_eq_getElem _)
   rw[if_pos hi] at this
   obtain⟨b',_,k1,_,_,k4,_⟩:=this
   rw[hb] at k1;cases k1
   have:=hle b
   omega
  have hy1:z1ma K S1 w c.lv B y vy:=hy.keep hk1 hz0 (Nat.le_refl _) (fun _ _ _=>rfl)
  have hx1:=z5a.mono hk1 _ _ hx
  have hlen1:=hx1.len
  have hlen2:=hy1.len
  refine callsIn_wide.1 (callsIn_of_wp_marks (F:=WF none) (n:=0) hf hb (z36b none _) ?_)
  have hR:=z0Nd (n:=fn.ntmps) (l:=l) (m:=fn.ntmps-(vx++Value.func (.yield l) #[] #[]::vy).length) hg1 hx1 hy1 (by omega) (by simp only[List.length_append,List.length_cons];omega)
  simp only[List.size_toArray]
  have hz:Zi S1 w ⟨w,fun b=>∃i,B i=some b,S1,[],z23d c.lv x B⟩:=by
   refine⟨fun b h=> .inr (by obtain⟨i,hi⟩:=h;exact hz0 i b hi),Nat.le_refl _,fun b i v hi hcell=>⟨?_,hcell⟩,fun b=> ?_,rfl⟩
   ·unfold z4f.S
    rw[if_pos ⟨World.block_lt_of_cell? w ⟨b,i,none⟩ hcell,fun h=>by obtain⟨j,hj⟩:=h;have:=hz0 j b hj;omega⟩]
    exact hi
   ·unfold z4f.S
    split
    ·exact Nat.le_refl _
    ·omega
  have hh:HyI (fun b=>∃i,B i=some b) J Jx ⟨w,fun b=>∃i,B i=some b,S1,[],z23d c.lv x B⟩ (0,false):=⟨fun b=>∃i,B i=some b,fun _ h _=>h,fun b hb=>⟨hb,by
   obtain⟨i,hi⟩:=hb
   have hm:=hy.dom i b hi
   have hil:=hy.lt i hm
   have:=hy.at' i y[i] (vy[i]'(by rw[←hy.len];exact hil)) (List.getElem?_eq_getElem hil) (List.getElem?_eq_getElem _)
   rw[if_pos hm] at this
   obtain⟨b',_,k1,_,_,_,k5,_⟩:=this
   rw[hi] at k1;cases k1
   exact k5⟩,hr.start⟩
  have hwp:=z44a (q:=0) hr1 hSx hg1 F.body code _ _ _ _ _ w hbody hv hw hz hh hR
  refine wpIn_mono hwp fun e a' w' hl=> ?_
  have fin:∀(base:z4f) (p:Nat×Bool) (st:ASt),Zi S1 w base→HyI (fun b=>∃i,B i=some b) J Jx base p→Rel K base fn.ntmps st a' w'→(p.2=true∨c.el x y p.1=none)→
    LeavesInM (WF none) 0 K.P fn a'.tmps (fun e B'=>∃v,e=Ending.returned v∧∃O,(∀b,(∃i,B i=some b)→O b)∧((∃i,c.el x y i=none∧J i O B')∨Jx O B')) a'.defers .returning w':=fun base p st hz' hh' hR' hq=>by
   obtain⟨g,hI,_,_,hd,_⟩:=hR'
   obtain⟨_,hnow⟩:=z6hd hr1 hh' hI
   rw[hd,hz'.dl]
   have hre:fn.results= #[]:=Array.eq_empty_of_size_eq_zero hres
   refine⟨.tuple #[],?_,_,rfl,WO g (fun b=>∃i,B i=some b),fun b hb=> .inr hb,?_⟩
   ·have:results fn a'.tmps=(do
     let vs←fn.results.mapM (z19a a'.tmps)
     pure (if h:vs.size=1 then vs[0] else .tuple vs)):=rfl
    rw[this,hre]
    simp[Sem.run_bind,Sem.run_pure]
   ·obtain⟨i,s⟩:=p
    cases s with
    |true=>exact .inr hnow
    |false=>exact .inl ⟨i,hq.resolve_left (by simp),hnow⟩
  cases e<;>simp only[z3lc] at hl<;>simp only[bodyPostM]
  ·obtain⟨b',p',st',hz',hh',hR',hq⟩:=hl
   exact fin b' p' st' hz' hh' hR' hq
  ·obtain⟨b',p',st',hz',hh',hR',hq⟩:=hl
   exact hq
  ·obtain⟨b',p',st',hz',hh',hR',hq⟩:=hl
   exact fin b' p' st' hz' hh' hR' hq
end
end Go.Abs
end

section
namespace Go.Abs
set_option maxRecDepth 100000
end Go.Abs
end

section
namespace Go.Abs

/-! ### strings.Builder -/
@[simp] theorem z5oa (id:Nat) (c x:z0a) (xs:List z0a):z8j 0 id c x xs={val:=i64 (z7e c)}:=rfl
@[simp] theorem z2ka (id:Nat) (c x:z0a) (xs:List z0a):z8j 1 id c x xs={val:= .tup [i64 (z7e x),.lit .nilIface],bx:=[(id,some [.undef,.sl (.own 1) none (z7e c+z7e x) (z0c [] c++xs)])]}:=rfl
@[simp] theorem z3ma (id:Nat) (c x:z0a) (xs:List z0a):z8j 2 id c x xs={val:= .tup [i64 (z7e x),.lit .nilIface],bx:=[(id,some [.undef,.sl (.own 1) none (z7e c+z7e x) (z0c [] c++xs)])]}:=rfl
@[simp] theorem z0la (id:Nat) (nl:Option Bool) (n:Nat) (l:List UInt8) (x:z0a) (xs:List z0a):z8j 3 id (.sl (.own 1) nl n (bys l)) x xs={val:=st l,bx:=[(id,some [])]}:=by
 show({val:= .lit (.string (z9e (z3i l))),bx:=_}:Eff)=_
 rw[z4j]
 rfl
theorem kT {E:Env} {c:Arg} {a b:z1c} {Q:z5c→ASt→Prop} {s:ASt} (h:arg E s.get c=bo true):awp E (.cond c a b) Q s=awp E a Q s:=by
 rw[z4h,h];simp
theorem kF {E:Env} {c:Arg} {a b:z1c} {Q:z5c→ASt→Prop} {s:ASt} (h:arg E s.get c=bo false):awp E (.cond c a b) Q s=awp E b Q s:=by
 rw[z4h,h];simp

/-! ### Iterators -/
theorem z0Dc {f:Nat×Bool→ASt→Prop} {Q:IQ} {p:Nat×Bool}:(fun e st'=>z3fc f Q e p st')=z2l (fun st'=>f p st') (fun e st'=>Q e p st'):=by
 funext e st'
 cases e<;>rfl
@[simp] theorem z40d (E:Env) (l:Nat) (el:Nat→Option (List z0a)) (c:z1c) (Q:IQ) (p:Nat×Bool) (s:ASt):z6jb E l el (.plain c) Q p s=awp E c (fun e st'=>Q e p st') s:=rfl
@[simp] theorem z72d (E:Env) (l:Nat) (el:Nat→Option (List z0a)) (c:z1c) (b:z5Ya) (Q:IQ) (p:Nat×Bool) (s:ASt):z6jb E l el (.seq (.plain c) b) Q p s=awp E c (z2l (fun st'=>z6jb E l el b Q p st') (fun e st'=>Q e p st')) s:=by
 simp only[z6jb,z0Dc]
@[simp] theorem z5Pd (E:Env) (l:Nat) (el:Nat→Option (List z0a)) (i:Nat) (b:z5Ya) (Q:IQ) (p:Nat×Bool) (s:ASt):z6jb E l el (.block i b) Q p s=z6jb E l el b (z7Zb i Q) p s:=rfl
@[simp] theorem z0hd (f:Nat×Bool→ASt→Prop) (Q:IQ) (p:Nat×Bool) (s:ASt):z3fc f Q .normal p s=f p s:=rfl
@[simp] theorem z3Fd (f:Nat×Bool→ASt→Prop) (Q:IQ) (i:Nat) (p:Nat×Bool) (s:ASt):z3fc f Q (.exit i) p s=Q (.exit i) p s:=rfl
@[simp] theorem z6dd (i:Nat) (Q:IQ) (p:Nat×Bool) (s:ASt):z7Zb i Q .normal p s=Q .normal p s:=rfl
@[simp] theorem z4Dd (i:Nat) (Q:IQ) (p:Nat×Bool) (s:ASt):z7Zb i Q (.exit i) p s=Q .normal p s:=by simp[z7Zb]
def z4Hd (E:Env) (f:ASt→Prop):List z6a→ASt→Prop
 |[],st=>f st
 |o::os,st=>okA E o st∧z4Hd E f os (z9a E o st)
attribute [simp] z4Hd
theorem z7Qc (E:Env) (f:ASt→Prop):∀(xs:List z6a) (st:ASt),z4Hd E f xs st=(z4t E xs st∧f (z8I E xs st))
 |[],st=>by simp only[z4Hd,z4t,z8I,true_and]
 |o::os,st=>by simp only[z4Hd,z4t,z8I,z7Qc E f os];exact propext and_assoc.symm
@[simp] theorem z0Sd (E:Env) (l:Nat) (el:Nat→Option (List z0a)) (keep:List Nat) (gs:List z0h) (xs:List z6a) (d:Option Nat) (y:Nat) (as:List Arg) (zs:List z6a) (Q:IQ) (p:Nat×Bool) (s:ASt):
  z6jb E l el (.yield keep gs xs d y as zs) Q p s=((∀s'∈d.toList,lk s.org s'=none)∧z4Hd E (fun st0=>p.2=false∧el p.1=some (as.map (arg E (z2hc st0).get))∧z7a (as.map (arg E (z2hc st0).get))=true∧(z2hc st0).get y= .lit (.func (.yield l) #[] #[])∧(∀q∈(z2hc st0).box,∀cs,q.2=some cs→cs.all yOk=true∧q.1<1000000)∧
   ∀b:Bool,z0R E keep gs (fun e s=>Q e (if b then(p.1+1,false) else(p.1,true)) s) zs (z2Zc d b (z2hc st0))) xs s):=by
 simp only[z7Qc,z6v,z6jb]
 apply propext
 constructor
 ·rintro⟨h1,h2,h3,h4,h5,h6,h8,h9⟩
  exact⟨h2,h1,h3,h4,h5,h6,h8,h9⟩
 ·rintro⟨h2,h1,h3,h4,h5,h6,h8,h9⟩
  exact⟨h1,h2,h3,h4,h5,h6,h8,h9⟩
@[simp] theorem z9Md (d:Nat) (b:Bool) (o e:List (Nat×z0a)) (bx:List (Nat×Option (List z0a))):z2Zc (some d) b ⟨o,e,bx⟩=⟨o,(d,bo b)::e,bx⟩:=rfl
@[simp] theorem z01d (b:Bool) (o e:List (Nat×z0a)) (bx:List (Nat×Option (List z0a))):z2Zc none b ⟨o,e,bx⟩=⟨o,e,bx⟩:=rfl
@[simp] theorem z1ae (o e:List (Nat×z0a)) (b:List (Nat×Option (List z0a))):z2hc ⟨o,e,b⟩=⟨o,e.map fun q=>(q.1,if yOk q.2 then q.2 else .undef),b.map fun q=>(q.1,q.2.map z8Bb)⟩:=rfl
@[simp] theorem yOk_ep (cs:List z0a):yOk (.ep cs)=false:=rfl
@[simp] theorem yOk_sl (m:z4r) (nl:Option Bool) (n:Nat) (cs:List z0a):yOk (.sl m nl n cs)=z6c (.sl m nl n cs):=rfl
@[simp] theorem z1Od:yOk .undef=true:=rfl
@[simp] theorem yOk_bp (i o:Nat):yOk (.bp i o)=true:=rfl
@[simp] theorem z3ce (v:Value):yOk (.lit v)=true:=rfl
@[simp] theorem yOk_st (l:List UInt8):yOk (st l)=true:=rfl
@[simp] theorem yOk_bo (b:Bool):yOk (bo b)=true:=rfl
@[simp] theorem z96d (n:Int):yOk (i64 n)=true:=rfl
@[simp] theorem z49d (cs:List z0a):yOk (.agg cs)=z7a cs:=rfl
@[simp] theorem z47d (cs:List z0a):yOk (.tup cs)=z7a cs:=rfl
@[simp] theorem z54d (E:Env) (l:Nat) (el:Nat→Option (List z0a)) (keep:List Nat) (gs:List z0h) (xs:List z6a) (d:Option Nat) (y:Nat) (as:List Arg) (zs:List z6a) (b:z5Ya) (Q:IQ) (p:Nat×Bool) (s:ASt):
  z6jb E l el (.seq (.yield keep gs xs d y as zs) b) Q p s=z6jb E l el (.yield keep gs xs d y as zs) (z3fc (fun p st=>z6jb E l el b Q p st) Q) p s:=rfl
theorem z4zc {E:Env} {l:Nat} {el:Nat→Option (List z0a)} {b:z5Ya} {Q:IQ} {p:Nat×Bool} {s:ASt} (h:∀Q',Q'=Q→z6jb E l el b Q' p s):z6jb E l el b Q p s:=h Q rfl
def inp (label:List UInt8) (parts:List (List UInt8)):List UInt8:=z2X label++parts.flatMap z2X
def drv (key label:List UInt8) (parts:List (List UInt8)):List UInt8:=mac key (inp label parts)
theorem z2J (k l:List UInt8) (p:List (List UInt8)):(drv k l p).length=32:=z4o _
attribute [simp] z2J
theorem z7tb {E:Env} {f:Nat} {t:Arg} {ks ps:List Nat} {as bd:z1c} {Q:z5c→ASt→Prop} {st:ASt} (x y:List z0a) (hx:arg E st.get t= .fn f x y) (hp:z8b (x++y)=true) (hlv:(E.I f).lv=[]) (hpre:(E.I f).pre x y) (hps:∀p∈ps,p∉ks∧lk st.org p=none) (N:Nat) (I:Nat→List (Nat×Option (List z0a))→Prop) (h0:I 0 st.box) (hb:∀i bx,I i bx→i≤N)
  (hd:∀i bx,I i bx→(E.I f).el x y i=none→Q .normal {org:=st.org,env:=z9t st ks,box:=bx})
  (hr:∀i bx xs,I i bx→(E.I f).el x y i=some xs→xs.length=ps.length∧z7a xs=true∧∀V:Nat→Value,awp E as (z2l (awp E bd (z5yc st ks V (I (i+1)) Q)) (fun _ _=>False)) (z3oa st ks ps V xs bx)):awp E (.range f t ks ps as bd) Q st:=by
 refine⟨x,y,hx,by rw[hlv,z8jc];exact hp,by rw[hlv,z7ja];exact hpre,hps,N,I,by rw[hlv,z1Y,z5pa];exact h0,hb,fun i bx h he=>by rw[hlv,z1Y,z1pb];exact hd i bx h (by rw[hlv,z7ja] at he;exact he),fun i bx xs h he=> ?_⟩
 obtain⟨h1,h2,h3⟩:=hr i bx xs h (by rw[hlv,z7ja] at he;exact he)
 refine⟨h1,h2,fun V=> ?_⟩
 have e:z5yc st ks V (I (i+1)) (fun e s=>z95 st ks [] Q e s.box)=z5yc st ks V (I (i+1)) Q:=by
  funext e s
  cases e with
  |normal=>rfl
  |exit id=>simp only[z5yc,z1pb]
  |ret=>simp only[z5yc,z1pb]
 rw[hlv,z1Y,z5Z,e]
 exact h3 V
@[simp] theorem z4wc (l:Nat) (x y:List z0a):z9Vc l [] x y=z4H [] (x++ .lit (.func (.yield l) #[] #[])::y):=by simp[z9Vc,z4H,lvS]

end Go.Abs
end

section
namespace Go.Abs

def z4Zc:Nat→List z0a→List (Nat×z0a)
 |_,[]=>[]
 |i,d::ds=>(i,dem d)::z4Zc (i+1) ds
def z3rc (c:CW) (p:Nat→Value) (ds:List z0a) (bs:Nat→List z0a):ASt:=
 {org:=c.hold.map fun j=>(j,.lit (p j)),env:=z4Zc 0 ds,box:=c.bx.map fun j=>(j,some (bs j))}
def held (st:ASt) (p:Value) (d:z0a):Prop:=∃t V id e o n c e' o' n' c',lk st.org t=some (.lit V)∧z1pd V=z1pd p∧st.get t= .bv id e o n c∧d= .bv id e' o' n' c'
def z13d (res:List z7M) (c:CW) (p:Nat→Value) (ds:List z0a) (bs:Nat→List z0a):z5c→ASt→Prop
 | .normal,st| .ret,st=>(∀r∈res,z6K st r)∧z1K st res=c.post ds bs∧(∀j∈c.hold,(lk st.org j=some (.lit (p j))∧st.get j=dem (ds.getD j .undef))∨held st (p j) (ds.getD j .undef))∧(∀j∈c.bx++c.nb,st.getB j=some (c.out ds bs j))∧
  (∀id∈z3d (c.post ds bs),id∈c.bx++c.nb)∧(∀j∈c.bx++c.nb,∀id∈z6b (c.out ds bs j),id∈c.bx++c.nb)
 |_,_=>False

section
variable {K : Cx} {base : z4f} {n : Nat} {st : ASt} {a : Act} {w : World}
theorem z1dd (d:z0a):z3d (Abs.dem d)=z3d d:=by
 cases d with
 |sl m nl n cs=>cases m<;>rfl
 |oagg=>simp only[Abs.dem,z3d,z2h,z6b,List.nil_append]
 |_=>rfl
mutual
theorem z7ed {K:Con} {g g':Gh} {w w':World}:∀(d:z0a) (v:Value) (l l':Option Loc),Rep K g w l d v→Rep K g' w' l' d v→∀id∈z3d d,g.mu id=g'.mu id
 | .bp id off,v,_,_,h,h',i,hi=>by
  simp only[z3d,List.mem_singleton] at hi
  subst hi
  simp only[Rep] at h h'
  obtain⟨b,hb,rfl⟩:=h
  obtain⟨b',hb',e⟩:=h'
  simp only[Value.pointer.injEq,Option.some.injEq,Addr.mk.injEq,and_true] at e
  rw[hb,hb',e]
 | .bv id e off n c,v,_,_,h,h',i,hi=>by
  simp only[z3d,List.mem_singleton] at hi
  subst hi
  simp only[Rep] at h h'
  obtain⟨b,cap,o,hb,rfl,_⟩:=h
  obtain⟨b',cap',o',hb',e,_⟩:=h'
  simp only[Value.slice.injEq,Option.some.injEq,Addr.mk.injEq,and_true] at e
  rw[hb,hb',e.1.1]
 | .agg cs,v,_,_,h,h',i,hi=>by
  simp only[Rep] at h h'
  obtain⟨a,rfl,h⟩:=h
  obtain⟨a',e,h'⟩:=h'
  cases e
  exact z9qb cs _ h h' i (by simpa[z3d] using hi)
 | .tup cs,v,_,_,h,h',i,hi=>by
  simp only[Rep] at h h'
  obtain⟨a,rfl,h⟩:=h
  obtain⟨a',e,h'⟩:=h'
  cases e
  exact z9qb cs _ h h' i (by simpa[z3d] using hi)
 | .fn f x y,v,_,_,h,h',i,hi=>by
  simp only[Rep] at h h'
  obtain⟨a,c,rfl,h1,h2⟩:=h
  obtain⟨a',c',e,h1',h2'⟩:=h'
  simp only[Value.func.injEq] at e
  obtain⟨_,rfl,rfl⟩:=e
  simp only[z3d,List.mem_append] at hi
  rcases hi with hi|hi
  ·exact z9qb x _ h1 h1' i hi
  ·exact z9qb y _ h2 h2' i hi
 | .undef,_,_,_,_,_,i,hi=>by simp[z3d] at hi
 | .lit _,_,_,_,_,_,i,hi=>by simp[z3d] at hi
 | .sl _ _ _ _,_,_,_,_,_,i,hi=>by simp[z3d] at hi
 | .ep _,_,_,_,_,_,i,hi=>by simp[z3d] at hi
 | .otup _ _ _ _ rest,v,_,_,h,h',i,hi=>by
  simp only[Rep] at h h'
  obtain⟨a,x,xs,rfl,h0,_,h⟩:=h
  obtain⟨a',x',xs',e,h0',_,h'⟩:=h'
  cases e
  rw[h0] at h0'
  cases h0'
  exact z9qb rest _ h h' i (by simpa[z3d] using hi)
 | .oagg pre _ _ _ _ rest,v,_,_,h,h',i,hi=>by
  simp only[Rep] at h h'
  obtain⟨a,ps,x,xs,rfl,h0,h1,_,h⟩:=h
  obtain⟨a',ps',x',xs',e,h0',h1',_,h'⟩:=h'
  cases e
  rw[h0] at h0'
  obtain⟨e1,e2⟩:=List.append_inj h0' (by rw[←h1.len,←h1'.len])
  subst e1
  cases e2
  simp only[z3d,List.mem_append] at hi
  rcases hi with hi|hi
  ·exact z9qb pre _ h1 h1' i hi
  ·exact z9qb rest _ h h' i hi
theorem z9qb {K:Con} {g g':Gh} {w w':World}:∀(ds:List z0a) (vs:List Value),z2b K g w ds vs→z2b K g' w' ds vs→∀id∈z6b ds,g.mu id=g'.mu id
 |[],_,_,_,i,hi=>by simp[z6b] at hi
 |c::cs,l,h,h',i,hi=>by
  simp only[z2b] at h h'
  obtain⟨x,xs,rfl,h1,h2⟩:=h
  obtain⟨x',xs',e,h1',h2'⟩:=h'
  cases e
  simp only[z6b,List.mem_append] at hi
  rcases hi with hi|hi
  ·exact z7ed c x none none h1 h1' i hi
  ·exact z9qb cs xs h2 h2' i hi
end
theorem z4mc:∀(ds:List z0a) (i s:Nat),lk (z4Zc i ds) s=if i≤s then(ds[s-i]?).map Abs.dem else none
 |[],i,s=>by simp[z4Zc,lk]
 |d::ds,i,s=>by
  simp only[z4Zc,lk]
  by_cases h:s=i
  ·subst h;simp
  ·rw[if_neg h,z4mc ds (i+1) s]
   by_cases hi:i≤s
   ·rw[if_pos hi,if_pos (by omega),show s-i=(s-(i+1))+1 by omega]
    simp
   ·rw[if_neg hi,if_neg (by omega)]

theorem z1Yc {g:Gh} {c:CW} {ds:List z0a} {bs:Nat→List z0a} {vs:List Value} (hI:Inv K ⟨w,Wr g,g.S,[],g.mu⟩ g w (c.ins bs)) (hA:z2b K.toCon g w ds vs) (m:Nat) (hm:vs.length+m=n):
  Rel K ⟨w,Wr g,g.S,[],g.mu⟩ n (z3rc c (fun j=>vs.getD j undef) ds bs) {tmps:=vs.toArray++Array.replicate m undef,defers:=[]} w:=by
 have hget:∀s v,vs[s]? =some v→(vs.toArray++Array.replicate m undef).getD s undef=v:=fun s v hv=>by
  have hs:s<vs.length:=(List.getElem?_eq_some_iff.1 hv).1
  rw[Array.getD_eq_getD_getElem?,Array.getElem?_append_left (by simpa using hs)]
  simp[hv]
 have hgb:(z3rc c (fun j=>vs.getD j undef) ds bs).getB=c.ins bs:=funext fun j=>by
  simp only[ASt.getB,z3rc,z9zb fun j=>some (bs j),CW.ins]
  split<;>rfl
 have horg:∀s,lk (z3rc c (fun j=>vs.getD j undef) ds bs).org s=if s∈c.hold then some (.lit (vs.getD s undef)) else none:=fun s=>
  z9zb (fun j=>z0a.lit (vs.getD j undef)) s c.hold
 have hall:∀s,(vs.toArray++Array.replicate m undef).getD s undef=vs.getD s undef:=fun s=>by
  cases hv:vs[s]? with
  |some v=>rw[hget s v hv,List.getD_eq_getElem?_getD,hv];rfl
  |none=>
   rw[List.getD_eq_getElem?_getD,hv]
   have hs:vs.length≤s:=List.getElem?_eq_none_iff.1 hv
   rw[Array.getD_eq_getD_getElem?,Array.getElem?_append_right (by simpa using hs)]
   simp only[Array.getElem?_replicate,Option.getD_none]
   split<;>rfl
 refine⟨g,by rw[hgb];exact hI,fun s=> ?_,fun s d hs=> ?_,rfl,by simp;exact hm⟩
 ·unfold ASt.get
  rw[horg]
  show Rep K.toCon g w (some (.slot s)) (match lk (z4Zc 0 ds) s with|some d=>d|none=>_) _
  rw[z4mc,if_pos (Nat.zero_le _),Nat.sub_zero]
  cases hd:ds[s]? with
  |none=>
   simp only[Option.map_none]
   by_cases hh:s∈c.hold
   ·rw[if_pos hh]
    simp only[Option.getD_some,Abs.dem,Rep]
    exact hall s
   ·rw[if_neg hh]
    simp[Abs.dem,Rep]
  |some d=>
   obtain⟨v,hv,hr⟩:=hA.get s d hd
   rw[hget s v hv]
   simp only[Option.map_some]
   exact Rep.dem _ hr
 ·rw[horg] at hs
  split at hs
  ·cases hs
   show z9b _ _ _ _ _
   rw[hall s]
   simp[z9b]
  ·cases hs

theorem z5oc {f:Nat} {fn:Func} {F:z1ka} {c:CW} (hf:K.P.funcs[K.nu f]? =some fn) (hc:z5sa K F fn=true) (hs:z2Ec K F.body)
  (h:∀ds bs p,c.pre ds bs→ds.length=F.n∧awp K.E F.body (z13d F.res c p ds bs) (z3rc c p ds bs)) (ht:z2Da F.body=true):z89a K f c:=by
 simp only[z5sa,Bool.and_eq_true,Bool.not_eq_true',decide_eq_true_eq] at hc
 obtain⟨⟨⟨hname,hbody⟩,hres⟩,hsz⟩:=hc
 cases hbd:fn.body with
 |none=>rw[hbd] at hbody;cases hbody
 |some code=>
  rw[hbd] at hbody
  simp only at hbody
  refine⟨⟨fn,hf,by rw[hbd];rfl,hname⟩,fun g0 w ds bs vs hI0 hA hcov hpre=> ?_⟩
  obtain⟨hlen,hw⟩:=h ds bs (fun j=>vs.getD j undef) hpre
  have hl2:=hA.len
  refine callsIn_wide.1 (callsIn_of_wp_marks (F:=WF none) (n:=0) hf hbd (z36b none _) ?_)
  have hR:=z1Yc (n:=fn.ntmps) hI0 hA (fn.ntmps-vs.length) (by omega)
  have hwp:=hs fn.ntmps code _ _ _ _ w hbody (.inl ht) hw hR
  simp only[List.size_toArray]
  refine wpIn_mono hwp fun e a' w' hl=> ?_
  have fin:∀st g w',Inv K ⟨w,Wr g0,g0.S,[],g0.mu⟩ g w' st.getB→z2v K g w' st.get a'→(∀j V,lk st.org j=some (.lit V)→a'.tmps.getD j undef=V)→z13d F.res c (fun j=>vs.getD j undef) ds bs .ret st→
    ∃v,(results fn a'.tmps).run K.P w'= .ok v w'∧∃v' g',Ending.returned v= .returned v'∧Inv K ⟨w,Wr g0,g0.S,[],g0.mu⟩ g' w' (c.outs ds bs)∧(∀j∈c.bx,g'.mu j=g0.mu j)∧Rep K.toCon g' w' (some .ret) (c.post ds bs) v':=fun st g w' hI hS hO hq=>by
   obtain⟨hok,hval,hbx,hout,hr1,hr2⟩:=hq
   obtain⟨xs,h1,h2,h3,_⟩:=z3Kb hI hS hres hok
   have hmap:fn.results.mapM (z19a a'.tmps)=Functor.map List.toArray (fn.results.toList.mapM (z19a a'.tmps)):=by
    exact Array.mapM_eq_mapM_toList
   have hrun:(results fn a'.tmps).run K.P w'= .ok (if h:xs.toArray.size=1 then xs.toArray[0] else .tuple xs.toArray) w':=by
    have:results fn a'.tmps=(do
     let vs←fn.results.mapM (z19a a'.tmps)
     pure (if h:vs.size=1 then vs[0] else .tuple vs)):=rfl
    rw[this,hmap]
    simp only[map_eq_pure_bind,Sem.run_bind,h1,Result.andThen_ok,Sem.run_pure]
   refine⟨_,hrun,?_⟩
   let g':Gh:={g with mu:=fun j=>if j∈c.bx++c.nb then g.mu j else none}
   have hI':Inv K ⟨w,Wr g0,g0.S,[],g0.mu⟩ g' w' (c.outs ds bs):=z7yc hI (c.bx++c.nb) hout hr2
   have hmu:∀j∈c.bx,g'.mu j=g0.mu j:=fun j hj=>by
    rcases hcov j hj with hvia|⟨i,hi,d,hd,hjd⟩
    ·obtain⟨b,k1,_⟩:=hI.bxok j _ (hout j (List.mem_append_left _ hj))
     simp only[g',if_pos (List.mem_append_left c.nb hj),k1]
     exact(hI.old j b hvia.1 hvia.2 k1).symm
    obtain⟨v0,hv0,hr0⟩:=hA.get i d hd
    have hv0':vs.getD i undef=v0:=by rw[List.getD_eq_getElem?_getD,hv0];rfl
    have hdd:ds.getD i .undef=d:=by rw[List.getD_eq_getElem?_getD,hd];rfl
    rcases hbx i hi with⟨k1,k2⟩|⟨t,V,id,e,o,n,c',e',o',n',c'',k1,kb,k2,k3⟩
    rotate_left
    ·have e1:=hO t V k1
     have e2:=hS t
     rw[k2,e1] at e2
     rw[hdd] at k3
     subst k3
     simp only[Rep] at e2 hr0
     obtain⟨b2,_,_,m2,v2,_⟩:=e2
     obtain⟨b1,_,_,m1,v1,_⟩:=hr0
     simp only[hv0',v1,v2,z1pd,Option.some.injEq] at kb
     subst kb
     simp only[z3d,List.mem_singleton] at hjd
     subst hjd
     simp only[g',if_pos (List.mem_append_left c.nb hj),m2,m1]
    have e1:a'.tmps.getD i undef=vs.getD i undef:=hO i _ k1
    have e2:=hS i
    rw[k2,e1] at e2
    rw[hv0',hdd] at e2
    have hdj:j∈z3d (Abs.dem d):=by rw[z1dd];exact hjd
    have:=z7ed (Abs.dem d) v0 _ _ e2 (Rep.dem (some (.slot i)) hr0) j hdj
    simp only[g',if_pos (List.mem_append_left c.nb hj)]
    exact this
   have cut:∀{d:z0a} {v:Value} {l:Option Loc},(∀id∈z3d d,id∈c.bx++c.nb)→Rep K.toCon g w' l d v→Rep K.toCon g' w' l d v:=fun {d v l} hd hr=>
    Rep.mono (g:=g) (g':=g') (z9d.refl g.S w') d v l l (fun id hid b hb=>by simp only[g',if_pos (hd id hid)];exact hb) (fun m hm=>⟨m,hm,fun b hb=>⟨hb,rfl,fun _ _ h=>h⟩⟩) hr
   by_cases hone:∃s,F.res=[.t s]
   ·obtain⟨s,hs⟩:=hone
    have hx:=h3 s hs
    subst hx
    rw[hs] at hval
    simp only[z1K] at hval
    refine⟨a'.tmps.getD s undef,z4Pa g' (.slot s) .ret,by simp,z4bb hI' s .ret,hmu,?_⟩
    rw[←hval] at hr1⊢
    exact z8Ca (cut hr1 (hS s))
   ·have hl3:=h2.len
    simp only[List.length_map] at hl3
    have rest:∀{d:z0a} {v:Value},Rep K.toCon g w' none d v→z5b d=false→d=c.post ds bs→Rep K.toCon g' w' (some .ret) (c.post ds bs) v:=fun {d v} hr ho he=>by
     subst he;exact z80a _ ho (cut hr1 hr)
    have hdem:∀d:z0a,z5b (dem d)=false:=z9Ua
    cases hF:F.res with
    |nil=>
     rw[hF] at h2 hval hl3
     simp only[List.map_nil,z2b] at h2
     subst h2
     refine⟨_,g',rfl,hI',hmu,?_⟩
     refine rest (d:= .tup []) ?_ rfl (by rw[←hval];rfl)
     simp[Rep,z2b]
    |cons r rs=>
     rw[hF] at h2 hval hl3 hone
     cases rs with
     |nil=>
      simp only[List.map_cons,List.map_nil,z2b] at h2
      obtain⟨x,ys,rfl,h4,rfl⟩:=h2
      refine⟨x,g',by simp,hI',hmu,?_⟩
      cases r with
      |t s=>exact absurd ⟨s,rfl⟩ hone
      |o s=>
       simp only[z1K] at hval
       exact rest h4 (hdem _) hval
      |cell s k id=>
       simp only[z1K] at hval
       refine rest h4 ?_ hval
       cases k with
       |none=>exact hdem _
       |some n=>rfl
     |cons r2 rs=>
      have h5:¬(xs.toArray.size=1):=by simp only[List.size_toArray,←hl3,List.length_cons];omega
      refine⟨.tuple xs.toArray,g',by rw[dif_neg h5],hI',hmu,?_⟩
      refine rest (d:= .tup ((r::r2::rs).map (z97 st))) ?_ rfl (by rw[←hval];cases r<;>rfl)
      simp only[Rep]
      exact⟨_,rfl,by simpa using h2⟩
  cases e<;>simp only[z2Mb] at hl<;>simp only[bodyPostM]
  ·obtain⟨b',hE,st,hR',hq⟩:=hl
   exact z9Ec hE rfl hR' fun g w' hI hS hO=>fin st g w' hI hS (fun j _ hj=>by have:=hO j _ hj;simpa[z9b] using this) hq
  ·obtain⟨b',hE,st,_,hq⟩:=hl
   exact hq
  ·obtain⟨b',hE,st,hR',hq⟩:=hl
   exact z9Ec hE rfl hR' fun g w' hI hS hO=>fin st g w' hI hS (fun j _ hj=>by have:=hO j _ hj;simpa[z9b] using this) hq

theorem z0nc {f:Nat} {fn:Func} {F:z1ka} {c:CW} (hf:K.P.funcs[K.nu f]? =some fn) (hc:z5sa K F fn=true) (hv:∀p∈z4a F.body,VB K p)
  (h:∀ds bs p,c.pre ds bs→ds.length=F.n∧awp K.E F.body (z13d F.res c p ds bs) (z3rc c p ds bs)) (hfl:z4ya F.body=true) (ht:z2Da F.body=true):z89a K f c:=z5oc hf hc (z2gb hv hfl) h ht
end
end Go.Abs
end

section
namespace Go.Abs
def z2Yb (c:z1f) (μ:List z0a→Nat) (n:Nat):z1f:=⟨fun ds=>c.pre ds∧μ ds<n,c.post⟩
def Cx.wG (K:Cx) (f:Nat) (c:z1f):Cx:={K with E:={K.E with G:=fun g=>if g=f then c else K.E.G g}}
section
variable {K : Cx}
theorem z26c {f g:Nat} {c c':z1f}:z1a (K.wG f c) g c'↔z1a K g c':=Iff.rfl
theorem z4uc {f:Nat} {c:z1f} {base:z4f} {g:Gh} {w:World} {bx:Nat→Option (List z0a)}:Inv (K.wG f c) base g w bx↔Inv K base g w bx:=
 ⟨fun h=>⟨h.fr,h.sS,h.inj,h.bxok,h.nobx,h.muW,h.owW,h.glob,h.kp,h.obok,h.old⟩,fun h=>⟨h.fr,h.sS,h.inj,h.bxok,h.nobx,h.muW,h.owW,h.glob,h.kp,h.obok,h.old⟩⟩
theorem z2Pc {f g:Nat} {c:z1f} {c':CM} (h:z7Ia K g c'):z7Ia (K.wG f c) g c':=by
 refine⟨h.1,fun g0 w ds vs hI hA hp=> ?_⟩
 refine(h.2 g0 w ds vs (z4uc.1 hI) hA hp).mono ?_
 rintro e w' ⟨v,g',h1,h2,h3,h4⟩
 exact⟨v,g',h1,z4uc.2 h2,h3,h4⟩
theorem z8Pc {f g:Nat} {c:z1f} {c':CW} (h:z89a K g c'):z89a (K.wG f c) g c':=by
 refine⟨h.1,fun g0 w ds bs vs hI hA hc hp=> ?_⟩
 refine(h.2 g0 w ds bs vs (z4uc.1 hI) hA hc hp).mono ?_
 rintro e w' ⟨v,g',h1,h2,h3,h4⟩
 exact⟨v,g',h1,z4uc.2 h2,h3,h4⟩
theorem z2Xd {f k:Nat} {c:z1f} (h:z14b K k):z14b (K.wG f c) k:=⟨h.call,h.len,h.wstr,h.write,h.str⟩
theorem z2ce {f:Nat} {c:z1f} {p:Nat×Bool} (hp:p≠(f,false)) (h:VB K p):VB (K.wG f c) p:=by
 obtain⟨g,b⟩:=p
 cases b with
 |false=>
  have hg:g≠f:=fun e=>hp (by rw[e])
  have e:(K.wG f c).E.G g=K.E.G g:=if_neg hg
  show z1a (K.wG f c) g ((K.wG f c).E.G g)
  rw[e]
  exact h
 |true=>
  revert h
  simp only[VB]
  cases Nat.ble 999999990 g with
  |true=>exact z2Xd
  |false=>
   cases Nat.ble 500000000 g with
   |true=>exact z8Pc
   |false=>exact z2Pc
theorem z4Uc {f:Nat} {c:z1f} (μ:List z0a→Nat) (hcal:z3z K.P (K.nu f)) (h:∀n,z1a K f (z2Yb c μ n)→z1a K f (z2Yb c μ (n+1))):z1a K f c:=by
 have all:∀n,z1a K f (z2Yb c μ n):=fun n=>by
  induction n with
  |zero=>exact⟨hcal,fun S w ds vs _ _ hp=>absurd hp.2 (Nat.not_lt_zero _)⟩
  |succ n ih=>exact h n ih
 exact⟨hcal,fun S w ds vs hg hr hp=>(all (μ ds+1)).2 S w ds vs hg hr ⟨hp,Nat.lt_succ_self _⟩⟩
theorem z1be {f:Nat} {F:z1ka} (hv:∀p∈z4a F.body,p≠(f,false)→VB K p) (c':z1f) (ih:z1a (K.wG f c') f c'):∀p∈z4a F.body,VB (K.wG f c') p:=fun p hp=>by
 by_cases e:p=(f,false)
 ·subst e
  have e:(K.wG f c').E.G f=c':=if_pos rfl
  show z1a (K.wG f c') f ((K.wG f c').E.G f)
  rw[e]
  exact ih
 ·exact z2ce e (hv p hp e)
theorem z7Yb {f:Nat} {fn:Func} {F:z1ka} {c:z1f} (μ:List z0a→Nat) (hf:K.P.funcs[K.nu f]? =some fn) (hc':∀c',z5sa (K.wG f c') F fn=true) (hs:∀c',z1a (K.wG f c') f c'→z2Ec (K.wG f c') F.body)
  (h:∀n ds,(z2Yb c μ (n+1)).pre ds→ds.length=F.n∧awp (K.wG f (z2Yb c μ n)).E F.body (z4xa F.res (c.post ds)) (z4H F.wr ds)):z1a K f c:=by
 have hc:=hc' c
 have hname:fn.body.isSome=true∧fn.name≠ "runtime.NumGoroutine" :=by
  simp only[z5sa,Bool.and_eq_true,Bool.not_eq_true'] at hc
  refine⟨?_,by simpa using hc.1.1.1⟩
  cases hb:fn.body with
  |none=>simp[hb] at hc
  |some _=>rfl
 refine z4Uc μ ⟨fn,hf,hname.1,?_⟩ fun n ih=> ?_
 ·have:=hc
  simp only[z5sa,Bool.and_eq_true,Bool.not_eq_true'] at this
  exact this.1.1.1
 ·exact z26c.1 (z0Gb (K:=K.wG f (z2Yb c μ n)) (f:=f) (F:=F) (c:=z2Yb c μ (n+1)) hf (hc' _) (hs _ ih) (h n))
theorem z5xb {f:Nat} {fn:Func} {F:z1ka} {c:z1f} (μ:List z0a→Nat) (hf:K.P.funcs[K.nu f]? =some fn) (hc':∀c',z5sa (K.wG f c') F fn=true) (hv:∀p∈z4a F.body,p≠(f,false)→VB K p)
  (h:∀n ds,(z2Yb c μ (n+1)).pre ds→ds.length=F.n∧awp (K.wG f (z2Yb c μ n)).E F.body (z4xa F.res (c.post ds)) (z4H F.wr ds)) (hfl:z4ya F.body=true):z1a K f c:=z7Yb μ hf hc' (fun c' ih=>z2gb (z1be hv c' ih) hfl) h


def z55b:z0a→Prop
 | .sl _ none _ _=>False
 | .sl _ (some true) n cs=>n=0∧cs=[]
 |_=>True
def z57b (b:Bool):z0a→z0a
 | .sl m none n cs=> .sl m (some b) n cs
 |d=>d
theorem z7bd {S:Nat→Nat} {w:World} {d:z0a} {v:Value} (h:z9b K.toCon S w d v):∃b,z55b (z57b b d)∧z9b K.toCon S w (z57b b d) v:=by
 cases d with
 |sl m nl n cs=>
  cases nl with
  |none=>
   simp only[z9b] at h
   rcases h with⟨b,o,cap,h1,h2,h3,h4,h5⟩|⟨q,h1,h2,h3,h4⟩
   ·exact⟨false,by simp[z57b,z55b],by simp only[z57b,z9b];exact .inl ⟨b,o,cap,h1,h2,h3,by simp,h5⟩⟩
   ·cases q with
    |none=>exact⟨true,by simp[z57b,z55b,h2,h3],by simp only[z57b,z9b];exact .inr ⟨none,h1,h2,h3,by simp⟩⟩
    |some q=>exact⟨false,by simp[z57b,z55b],by simp only[z57b,z9b];exact .inr ⟨some q,h1,h2,h3,by simp⟩⟩
  |some b=>
   cases b with
   |false=>exact⟨false,by simp[z57b,z55b],h⟩
   |true=>
    refine⟨true,?_,h⟩
    simp only[z9b] at h
    rcases h with⟨_,_,_,_,_,_,h4,_⟩|⟨_,_,h2,h3,_⟩
    ·exact absurd rfl h4
    ·exact⟨h2,h3⟩
 |_=>exact⟨true,by simp[z57b,z55b],h⟩
theorem z2dc {S:Nat→Nat} {w:World}:∀{ds:List z0a} {vs:List Value} {i:Nat} {d d':z0a},z5a K.toCon S w ds vs→ds[i]? =some d→(∀v,z9b K.toCon S w d v→vs[i]? =some v→z9b K.toCon S w d' v)→z5a K.toCon S w (ds.set i d') vs
 |[],_,_,_,_,_,h,_=>by simp at h
 |c::cs,vs,0,d,d',hr,h,hd=>by
  simp only[List.getElem?_cons_zero,Option.some.injEq] at h
  subst h
  simp only[z5a,List.set_cons_zero] at hr⊢
  obtain⟨x,xs,rfl,h1,h2⟩:=hr
  exact⟨x,xs,rfl,hd x h1 rfl,h2⟩
 |c::cs,vs,i+1,d,d',hr,h,hd=>by
  simp only[z5a,List.set_cons_succ] at hr⊢
  obtain⟨x,xs,rfl,h1,h2⟩:=hr
  exact⟨x,xs,rfl,h1,z2dc h2 (by simpa using h) (fun v hv hx=>hd v hv (by simpa using hx))⟩
theorem z2vc {S:Nat→Nat} {w:World} {d:z0a}:∀{ds:List z0a} {vs:List Value} {i:Nat},z5a K.toCon S w ds vs→ds[i]? =some d→∃v,vs[i]? =some v∧z9b K.toCon S w d v
 |[],_,_,_,h=>by simp at h
 |c::cs,vs,0,hr,h=>by
  simp only[z5a] at hr
  obtain⟨x,xs,rfl,h1,h2⟩:=hr
  simp only[List.getElem?_cons_zero,Option.some.injEq] at h
  subst h
  exact⟨x,rfl,h1⟩
 |c::cs,vs,i+1,hr,h=>by
  simp only[z5a] at hr
  obtain⟨x,xs,rfl,h1,h2⟩:=hr
  obtain⟨v,k1,k2⟩:=z2vc h2 (by simpa using h)
  exact⟨v,by simpa using k1,k2⟩
theorem z5hc {f:Nat} {c:z1f} (i:Nat) (h:z1a K f ⟨fun ds=>c.pre ds∧∀d,ds[i]? =some d→z55b d,c.post⟩) (hc:∀ds d b,c.pre ds→ds[i]? =some d→c.pre (ds.set i (z57b b d))∧c.post (ds.set i (z57b b d))=c.post ds):z1a K f c:=by
 refine⟨h.1,fun S w ds vs hg hr hp=> ?_⟩
 cases hd:ds[i]? with
 |none=>exact h.2 S w ds vs hg hr ⟨hp,fun d hd'=>by rw[hd] at hd';cases hd'⟩
 |some d=>
  obtain⟨v,hv⟩:=z2vc hr hd
  obtain⟨b,h1,h2⟩:=z7bd hv.2
  obtain⟨k1,k2⟩:=hc ds d b hp hd
  have hr':z5a K.toCon S w (ds.set i (z57b b d)) vs:=z2dc hr hd fun v' _ hv'=>by
   rw[hv.1] at hv';cases hv';exact h2
  have:=h.2 S w (ds.set i (z57b b d)) vs hg hr' ⟨k1,fun d' hd'=>by
   have hlt:=(List.getElem?_eq_some_iff.1 hd).1
   rw[List.getElem?_set_self hlt] at hd'
   cases hd'
   exact h1⟩
  simp only[k2] at this
  exact this
end
end Go.Abs
end
