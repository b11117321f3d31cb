/- Lemmas: an abstract interpreter, and what the functions compute. -/
import Derived.Test.YtepddcbbkhdfiaaGreatDoorH
import Derived.Test.YtepddcbbkhdfiaaGreatDoorG
import Derived.Test.YtepddcbbkhdfiaaGreatDoorF
set_option linter.unusedSimpArgs false
set_option linter.unusedVariables false
set_option linter.unusedSectionVars false
section
namespace Go.Abs
structure Cmd where
 kind:Int
 key:Int
 other:Int
 type:Int
 uses:Int
 life:Int
 data:List UInt8
 list:List Int
def Cmd.ok (c:Cmd):Prop:=z1n c.kind∧z1n c.key∧z1n c.other∧z1n c.type∧z1n c.uses∧z1n c.life∧∀x∈c.list,z1n x
def z0W (c:Cmd) (nl:Option Bool):List z2a:=[i64 c.kind,i64 c.key,i64 c.other,i64 c.type,i64 c.uses,i64 c.life,st c.data,.sl .plain nl c.list.length (z9p c.list)]
def z6Ub (l:List z2a):Cmd:=⟨asI (nth l 0),asI (nth l 1),asI (nth l 2),asI (nth l 3),asI (nth l 4),asI (nth l 5),gS (nth l 6),gIs (gCs (nth l 7))⟩
@[simp] theorem z5tb (c:Cmd) (nl:Option Bool):z6Ub (z0W c nl)=c:=by simp[z6Ub,z0W,nth]
def z4S:Cmd:=⟨0,0,0,0,0,0,[],[]⟩

/-! ### Kinds -/
def z9db (x y:Int):Int:=IntKind.i64.wrap (BitVec.ofInt 64 x&&& ~~~BitVec.ofInt 64 y).toNat
@[simp] theorem z0ic (x y:Int):z3B .andNot (i64 x) (i64 y)=i64 (z9db x y):=rfl
@[simp] theorem z8Kc (x y:Int):z0c .andNot (i64 x) (i64 y)=True:=by simp[z0c,i64,-z9Yb]
@[simp] theorem z0Xc (x y:Int):z0c .and (i64 x) (i64 y)=True:=by simp[z0c,i64,-z9Yb]
def z0Ya (n:Int):Bool:=z9db n 956==0
def six (c:Cmd):List Int:=[c.kind,c.key,c.other,c.type,c.uses,c.life]
def z7kb (c:Cmd):List UInt8:=(six c).flatMap z4J++(z5N c.data++z4x c.list)
def z9de:Nat→List UInt8→List Int×List UInt8×Nat
 |0,b=>([],b,0)
 |n+1,b=>if(z3Pa b).2.2≠0 then([],b,(z3Pa b).2.2) else((z3Pa b).1::(z9de n (b.drop (z3Pa b).2.1)).1,(z9de n (b.drop (z3Pa b).2.1)).2)
def aft (b:List UInt8) (n e:Nat):List UInt8:=if e=0 then b.drop n else b
end Go.Abs
end

section
set_option linter.unusedVariables false
namespace Go.Abs

inductive z0P where
 |plain (c:z3a)
 |seq (a b:z0P)
 |cond (c:Arg) (a b:z0P)
 |block (id:Nat) (b:z0P)
 |loop (b:z0P)
 |yield (keep:List Nat) (gs:List z9t) (xs:List z2b) (d:Option Nat) (y:Nat) (as:List Arg) (zs:List z2b) (gd:Option (Nat×Bool):=none)
 |lean (s t:Nat) (keep:List Nat) (gs:List z9t) (zs:List z2b)
 deriving Inhabited

abbrev IQ:=z7h→Nat×Bool→ASt→Prop
def z8sb (f:Nat×Bool→ASt→Prop) (Q:IQ):IQ
 | .normal,p,st=>f p st
 |e,p,st=>Q e p st
def z38a (id:Nat) (Q:IQ):IQ
 | .exit id',p,st=>if id'=id then Q .normal p st else Q (.exit id') p st
 |e,p,st=>Q e p st

def yOk:z2a→Bool
 | .undef=>true
 | .bp _ _=>true
 |c=>z5b c
def z5Ba (cs:List z2a):List z2a:=if cs.all yOk=true then cs else cs.map fun c=>if yOk c then c else .undef
@[simp] theorem z1Xd {cs:List z2a} (h:cs.all yOk=true):z5Ba cs=cs:=if_pos h
theorem z7jb {cs:List z2a} {i:Nat} {d:z2a} (h:(z5Ba cs)[i]? =some d):∃c,cs[i]? =some c∧(d=c∨d= .undef):=by
 unfold z5Ba at h
 split at h
 ·exact⟨d,h,.inl rfl⟩
 ·rw[List.getElem?_map] at h
  cases hc:cs[i]? with
  |none=>rw[hc] at h;cases h
  |some c=>
   rw[hc] at h
   simp only[Option.map_some,Option.some.injEq] at h
   refine⟨c,rfl,?_⟩
   split at h
   ·exact .inl h.symm
   ·exact .inr h.symm
@[simp] theorem z9Ed (cs:List z2a):(∀x∈z5Ba cs,yOk x=true)=True:=eq_true fun x hx=>by
 unfold z5Ba at hx
 split at hx
 ·rename_i h;exact List.all_eq_true.1 h x hx
 ·obtain⟨c,_,rfl⟩:=List.mem_map.1 hx
  split
  ·assumption
  ·rfl
theorem z6de (l:List z2a):hdA (l.drop 1)=(l[1]?).getD .undef:=by
 match l with
 |[]=>rfl
 |[_]=>rfl
 |_::_::_=>rfl
def z4tb (st:ASt):ASt:={st with env:=st.env.map fun q=>(q.1,if yOk q.2 then q.2 else .undef),box:=st.box.map fun q=>(q.1,q.2.map z5Ba)}
theorem z93c (st:ASt):∀q∈(z4tb st).env,yOk q.2=true:=fun q hq=>by
 obtain⟨r,_,rfl⟩:=List.mem_map.1 hq
 show yOk (if yOk r.2 then r.2 else .undef)=true
 split
 ·assumption
 ·rfl
theorem z8Zb (s:Nat):∀e:List (Nat×z2a),lk (e.map fun q=>(q.1,if yOk q.2 then q.2 else .undef)) s=(lk e s).map fun d=>if yOk d then d else .undef
 |[]=>rfl
 |(k,d)::e=>by
  simp only[List.map_cons,lk]
  split
  ·rfl
  ·exact z8Zb s e
theorem z3mc {K:Cx} {base:z3s} {n:Nat} {st:ASt} {a:Act} {w:World} (hR:Rel K base n st a w):Rel K base n (z4tb st) a w:=by
 obtain⟨g,hI,hS,hO,h⟩:=hR
 have hlk:∀(b:List (Nat×Option (List z2a))) (id:Nat),lk (b.map fun q=>(q.1,q.2.map z5Ba)) id=(lk b id).map fun o=>o.map z5Ba:=fun b id=>by
  induction b with
  |nil=>rfl
  |cons q b ih=>
   obtain⟨k,o⟩:=q
   simp only[List.map_cons,lk]
   split
   ·rfl
   ·exact ih
 have hB:∀id,(z4tb st).getB id=(st.getB id).map z5Ba:=fun id=>by
  show(lk (st.box.map fun q=>(q.1,q.2.map z5Ba)) id).join=((lk st.box id).join).map z5Ba
  rw[hlk]
  cases lk st.box id with
  |none=>rfl
  |some o=>rfl
 have hsome:∀id cs',(z4tb st).getB id=some cs'→∃cs,st.getB id=some cs∧cs'=z5Ba cs:=fun id cs' h=>by
  rw[hB] at h
  cases hc:st.getB id with
  |none=>rw[hc] at h;cases h
  |some cs=>rw[hc] at h;cases h;exact⟨cs,rfl,rfl⟩
 refine⟨g,{hI with bxok:=fun id cs' hc=> ?_,nobx:=fun id hn=> ?_,obok:=fun id b cs' h1 h2 hc hne=> ?_},fun s=> ?_,hO,h⟩
 ·obtain⟨cs,hcs,rfl⟩:=hsome id cs' hc
  obtain⟨b,k1,k2,k3⟩:=hI.bxok id cs hcs
  refine⟨b,k1,k2,fun i d hd=> ?_⟩
  obtain⟨c,hci,hdc⟩:=z7jb hd
  obtain⟨⟨x,hx,hr⟩,hf⟩:=k3 i c hci
  refine⟨⟨x,hx,?_⟩,hf⟩
  rcases hdc with rfl|rfl
  ·exact hr
  ·simp[Rep]
 ·rw[hB] at hn
  refine hI.nobx id ?_
  cases hc:st.getB id with
  |none=>rfl
  |some cs=>rw[hc] at hn;cases hn
 ·obtain⟨cs,hcs,rfl⟩:=hsome id cs' hc
  refine hI.obok id b cs h1 h2 hcs fun e=>hne ?_
  rw[z6de] at e⊢
  cases h9:(z5Ba cs)[1]? with
  |none=>rfl
  |some d=>
   obtain⟨c,hc1,hd⟩:=z7jb h9
   rw[hc1] at e
   rcases hd with rfl|rfl
   ·exact e
   ·rfl
 have hs:=hS s
 unfold ASt.get at hs⊢
 rw[show lk (z4tb st).env s=(lk st.env s).map fun d=>if yOk d then d else .undef from z8Zb s st.env,show(z4tb st).org=st.org from rfl]
 cases he:lk st.env s with
 |none=>rw[he] at hs;exact hs
 |some d=>
  rw[he] at hs
  simp only[Option.map_some]
  split
  ·exact hs
  ·simp[Rep]
def z4ic (d:Option Nat) (b:Bool) (st:ASt):ASt:={st with env:=d.toList.map (fun s=>(s,bo' b))++st.env}
where bo' (b : Bool) : z2a := .lit (.bool b)

theorem z4Mb {v:z2a} {want:Bool} (h:isB v):z6gb v want=(asB v==want):=by
 unfold isB at h
 split at h
 ·rfl
 ·exact h.elim
def z7qd (d:Option Nat) (st:ASt):ASt:={st with env:=d.toList.map (fun s=>(s,z4ia))++st.env}
def ifG (gd:Option (Nat×Bool)) (st:ASt) (Y N:Prop):Prop:=match gd with
 |none=>Y
 |some (s,want)=>isB (st.get s)∧(asB (st.get s)=want→Y)∧(asB (st.get s)=(!want)→N)

theorem z4Vc {gd:Option (Nat×Bool)} {st:ASt} {Y N:Prop} (h:ifG gd st Y N) (hw:∀s want,gd=some (s,want)→isB (st.get s)→asB (st.get s)=want):Y:=by
 cases gd with
 |none=>exact h
 |some sw=>
  obtain⟨s,want⟩:=sw
  exact h.2.1 (hw s want rfl h.1)

def z1Xa (s:Nat) (d:z2a) (st:ASt):ASt:={st with org:=(s,d)::st.org,env:=st.env.filter fun p=>decide (p.1≠s)}
def z0ga (E:Env) (l:Nat) (el:Nat→Option (List z2a)):z0P→IQ→Nat×Bool→ASt→Prop
 | .plain c,Q,p,st=>awp E c (fun e st'=>Q e p st') st
 | .seq a b,Q,p,st=>z0ga E l el a (z8sb (fun p st=>z0ga E l el b Q p st) Q) p st
 | .cond c a b,Q,p,st=>isB (arg E st.get c)∧(asB (arg E st.get c)=true→z0ga E l el a Q p st)∧(asB (arg E st.get c)=false→z0ga E l el b Q p st)
 | .block id b,Q,p,st=>z0ga E l el b (z38a id Q) p st
 | .loop b,Q,p,st=>∃I:Nat×Bool→ASt→Prop,I p st∧∀p st,I p st→z0ga E l el b (z8sb (fun p' st'=>I p' st'∧p.2=false∧(p'=(p.1+1,false)∨p'=(p.1,true))) Q) p st
 | .yield keep gs xs d y as zs gd,Q,p,st=>
  z6V E xs st∧(∀s∈d.toList,lk st.org s=none)∧
  (let st1:=z4tb (z1ga E xs st)
   ifG gd st1 (p.2=false∧el p.1=some (as.map (arg E st1.get))∧z6b (as.map (arg E st1.get))=true∧st1.get y= .lit (.func (.yield l) #[] #[])∧(∀q∈st1.box,∀cs,q.2=some cs→cs.all yOk=true∧q.1<1000000)∧
   ∀b:Bool,z6V E zs (z4ic d b st1)∧z3Wb gs (z32 keep (z1ga E zs (z4ic d b st1)))∧Q .normal (if b then(p.1+1,false) else(p.1,true)) (z9Ha gs (z32 keep (z1ga E zs (z4ic d b st1))))) (z6V E zs (z7qd d st1)∧z3Wb gs (z32 keep (z1ga E zs (z7qd d st1)))∧Q .normal p (z9Ha gs (z32 keep (z1ga E zs (z7qd d st1))))))
 | .lean s t keep gs zs,Q,p,st=>∃d ds,lk st.org t=some (.ep (d::ds))∧z6V E zs (z1Xa s d st)∧z3Wb gs (z32 keep (z1ga E zs (z1Xa s d st)))∧Q .normal p (z9Ha gs (z32 keep (z1ga E zs (z1Xa s d st))))

def z0ua (K:Cx) (n:Nat) (ops:Array Oper) (o:Oper) (d:Option Nat) (y:Nat) (as:List Arg) (gd:Option (Nat×Bool)):Bool:=
 (o.dst==d)&&d.toList.all (· <n)&&z8ha ops o.guard gd&&(match o.op with| .call c=>(match c.callee with| .value (.tmp t)=>t==y|_=>false)&&argsL K c.args.toList as|_=>false)
where argsL (K : Cx) : List Operand → List Arg → Bool
 |[],[]=>true
 |x::xs,y::ys=>z7i K x y&&argsL K xs ys
 |_,_=>false
def z5zb (K:Cx) (n:Nat):z0P→Code→Bool
 | .plain c,x=>z6m c&&z0s c&&z0e K n c x
 | .seq a b,x=>match x with| .seq p q=>z5zb K n a p&&z5zb K n b q|_=>false
 | .cond c a b,x=>match x with| .cond c' p q=>z7i K c' c&&z5zb K n a p&&z5zb K n b q|_=>false
 | .block id b,x=>match x with| .block id' p=>(id==id')&&z5zb K n b p|_=>false
 | .loop b,x=>match x with| .loop p=>z5zb K n b p|_=>false
 | .yield _ gs xs d y as zs gd,x=>match x with
  | .region _ ops draw=> !draw&&(ops.size==xs.length+1+zs.length)&&z7T K n ops (ops.toList.take xs.length) xs&&
   (match ops[xs.length]? with|some o=>z0ua K n ops o d y as gd|none=>false)&&z7T K n ops (ops.toList.drop (xs.length+1)) zs&&gs.all z9t.cold
  |_=>false
 | .lean s t _ gs zs,x=>match x with
  | .region _ ops draw=> !draw&&(ops.size==zs.length+1)&&(match ops[0]? with|some o=>z4za K n ops o ⟨some s,none,.load none none false (.s t)⟩|none=>false)&&z7T K n ops (ops.toList.drop 1) zs&&gs.all z9t.cold
  |_=>false
def z5s:z0P→List (Nat×Bool)
 | .plain c=>z7b c
 | .seq a b=>z5s a++z5s b
 | .cond _ a b=>z5s a++z5s b
 | .block _ b=>z5s b
 | .loop b=>z5s b
 | .yield _ _ xs _ _ _ zs _=>(xs++zs).flatMap fun x=>z83 x.op
 | .lean _ _ _ _ zs=>zs.flatMap fun x=>z83 x.op

section
variable {K : Cx} {S : Nat → Nat} {w0 : World} {n : Nat} {el : Nat → Option (List z2a)} {l : Nat} {J : Nat → (Nat → Prop) → World → Prop} {Jx : (Nat → Prop) → World → Prop} {N : Nat} {O0 : Nat → Prop}

structure Zi (S:Nat→Nat) (w0:World) (base:z3s):Prop where
 own:∀b,base.W b→w0.heap.size≤b∨S b=0
 size:w0.heap.size≤base.w0.heap.size
 kp:z1g S w0 base.S base.w0
 le:∀b,base.S b≤S b
 dl:base.dl=[]
def HyI (O0:Nat→Prop) (J:Nat→(Nat→Prop)→World→Prop) (Jx:(Nat→Prop)→World→Prop) (base:z3s) (p:Nat×Bool):Prop:=
 ∃O:Nat→Prop,(∀b,base.W b→b<base.w0.heap.size→O b)∧(∀b,O0 b→O b∧b<base.w0.heap.size)∧(match p.2 with|false=>J p.1 O base.w0|true=>Jx O base.w0)
def z7Bb (K:Cx) (S:Nat→Nat) (w0:World) (O0:Nat→Prop) (J:Nat→(Nat→Prop)→World→Prop) (Jx:(Nat→Prop)→World→Prop) (n:Nat) (Q:IQ):Exit→Act→World→Prop
 | .normal,a,w=>∃base p st,Zi S w0 base∧HyI O0 J Jx base p∧Rel K base n st a w∧Q .normal p st
 | .exit id,a,w=>∃base p st,Zi S w0 base∧HyI O0 J Jx base p∧Rel K base n st a w∧Q (.exit id) p st
 | .ret,a,w=>∃base p st,Zi S w0 base∧HyI O0 J Jx base p∧Rel K base n st a w∧Q .ret p st
 |_,_,_=>False

theorem z6nb {base:z3s} {g:Gh} {w:World} {a:Act} {get:Nat→z2a} {getB:Nat→Option (List z2a)} (hI:Inv K base g w getB) (hS:z3e K g w get a):∀{xs:List Operand} {ys:List Arg},z0ua.argsL K xs ys=true→z5d K.toCon g w (ys.map (arg K.E get)) (xs.map a.eval)
 |[],[],_=>by simp[z5d]
 |[],_::_,h=>by simp[z0ua.argsL] at h
 |_::_,[],h=>by simp[z0ua.argsL] at h
 |x::xs,y::ys,h=>by
  simp only[z0ua.argsL,Bool.and_eq_true] at h
  simp only[List.map_cons,z5d]
  exact⟨_,_,rfl,z9b hI hS h.1,z6nb hI hS h.2⟩

def WO (g:Gh) (O0:Nat→Prop) (b:Nat):Prop:=Wr g b∨O0 b
theorem z5Mc (hr:z7qb K S el l J Jx N O0 w0) {base:z3s} {p:Nat×Bool} {g:Gh} {w:World} {bx:Nat→Option (List z2a)} (hh:HyI O0 J Jx base p) (hI:Inv K base g w bx):(∀b,O0 b→b<w.heap.size)∧match p.2 with|false=>J p.1 (WO g O0) w|true=>Jx (WO g O0) w:=by
 obtain⟨O,hO,hO0,hj⟩:=hh
 have hf:Fr base.w0.heap.size O base.w0 w:=hI.fr.mono (Nat.le_refl _) fun k hk hw=>hO k hw hk
 have hw:∀b,WO g O0 b→(O b∨base.w0.heap.size≤b)∧b<w.heap.size:=fun b hb=>by
  rcases hb with hb|hb
  case inr=>exact⟨.inl (hO0 b hb).1,Nat.lt_of_lt_of_le (hO0 b hb).2 hI.fr.size⟩
  refine⟨?_,?_⟩
  ·rcases Nat.lt_or_ge b base.w0.heap.size with hlt|hge
   ·rcases z5pa hI hb with h1|h1
    ·omega
    ·exact .inl (hO b h1 hlt)
   ·exact .inr hge
  ·rcases hb with⟨id,hi⟩|ho
   ·exact(hI.muW id b hi).2.1
   ·cases hl:g.ow b with
    |none=>exact absurd hl ho
    |some lo=>exact(hI.owW b lo hl).2
 obtain⟨i,s⟩:=p
 cases s with
 |false=>exact⟨fun b hb=>(hw b (.inr hb)).2,hr.stab i O (WO g O0) base.w0 w hj hf hw⟩
 |true=>exact⟨fun b hb=>(hw b (.inr hb)).2,hr.stabx O (WO g O0) base.w0 w hj hf hw⟩

theorem z07b {K:Con} {g g':Gh} {w w':World} (hm:g'.mu=g.mu) {d:z2a} {v:Value} {l l':Option Loc} (hy:yOk d=true) (h:Rep K g w l d v):Rep K g' w' l' d v:=by
 cases d with
 |undef=>simp[Rep]
 |bp id off=>simp only[Rep,hm] at h⊢;exact h
 |lit x=>simp only[Rep] at h⊢;exact h
 |agg cs=>rw[z9ta _ _ _ hy h];exact z01a _ _ hy
 |tup cs=>rw[z9ta _ _ _ hy h];exact z01a _ _ hy
 |sl _ _ _ _=>simp[yOk,z5b] at hy
 |bv _ _ _ _ _=>simp[yOk,z5b] at hy
 |ep _=>simp[yOk,z5b] at hy
 |otup _ _ _ _ _=>simp[yOk,z5b] at hy
 |oagg _ _ _ _ _ _=>simp[yOk,z5b] at hy
 |fn _ _ _=>simp[yOk,z5b] at hy

theorem z9yb (hSx:∀b i,i<S b→∃x,w0.cell? ⟨b,i,none⟩=some x) (hg:∀m∈K.N.gs,z9d K.toCon S w0 (K.E.T m) (K.N.gnum m) 0) {base:z3s} (hz:Zi S w0 base) {st:ASt} {a:Act} {w B:World} {g:Gh}
  (hI:Inv K base g w st.getB) (hS:z3e K g w st.get a) (hO:z8Xb K base st a) (hd:a.defers=base.dl) (hsz:a.tmps.size=n) (he:∀q∈st.env,yOk q.2=true) (hb:∀q∈st.box,∀cs,q.2=some cs→cs.all yOk=true∧q.1<1000000)
  (hk:z1g S w0 S B) (hown:∀b,Wr g b→B.heap[b]? =w.heap[b]?) (hsize:w.heap.size≤B.heap.size) {p:Nat×Bool} (h0:∀b,O0 b→b<w.heap.size) (hj:match p.2 with|false=>J p.1 (WO g O0) B|true=>Jx (WO g O0) B)
  {d:Option Nat} {v:Bool} (hdl:∀s∈d.toList,s<n) (hdo:∀s∈d.toList,lk st.org s=none):
  ∃base',Zi S w0 base'∧HyI O0 J Jx base' p∧Rel K base' n (z4ic d v st) (a.put d (.bool v)) B:=by
 let g':Gh:={S:=fun b=>if b<w0.heap.size then S b else 0,ow:=fun _=>none,mu:=g.mu}
 have hw:∀b,Wr g' b→Wr g b:=fun b hb=>by
  rcases hb with hb|hb
  ·exact .inl hb
  ·exact absurd rfl hb
 have hge:∀b,Wr g b→w0.heap.size≤b∨S b=0:=fun b hb=>by
  rcases z5pa hI hb with h1|h1
  ·exact .inl (Nat.le_trans hz.size h1)
  ·exact hz.own b h1
 have hB0:w0.heap.size≤B.heap.size:=Nat.le_trans hz.size (Nat.le_trans hI.fr.size hsize)
 have hkp:z1g S w0 (z3s.S ⟨B,Wr g',g'.S,[],g'.mu⟩) B:=fun b i x hi hc=>by
  have hlt:b<w0.heap.size:=World.block_lt_of_cell? w0 ⟨b,i,none⟩ hc
  refine⟨?_,(hk b i x hi hc).2⟩
  unfold z3s.S
  rw[if_pos ⟨Nat.lt_of_lt_of_le hlt hB0,fun h=>by rcases hge b (hw b h) with h9|h9<;>omega⟩]
  show i<if b<w0.heap.size then S b else 0
  rw[if_pos hlt];exact hi
 have hk':z1g S w0 g'.S B:=fun b i x hi hc=>by
  have hlt:b<w0.heap.size:=World.block_lt_of_cell? w0 ⟨b,i,none⟩ hc
  exact⟨by show i<if b<w0.heap.size then S b else 0;rw[if_pos hlt];exact hi,(hk b i x hi hc).2⟩
 have horg:z1g base.S base.w0 (z3s.S ⟨B,Wr g',g'.S,[],g'.mu⟩) B:=fun b i x hi hc=>by
  have hi':i<S b:=Nat.lt_of_lt_of_le hi (hz.le b)
  obtain⟨x',hx'⟩:=hSx b i hi'
  have h1:=(hz.kp b i x' hi' hx').2
  rw[hc] at h1
  cases h1
  exact hkp b i x hi' hx'
 refine⟨⟨B,Wr g',g'.S,[],g'.mu⟩,⟨fun b hb=>hge b (hw b hb),hB0,hkp,fun b=> ?_,rfl⟩,⟨WO g O0,fun b hb _=> .inl (hw b hb),fun b hb=>⟨.inr hb,Nat.lt_of_lt_of_le (h0 b hb) hsize⟩,hj⟩,g',⟨Fr.refl _ _ _,fun _ _ _=>rfl,hI.inj,fun id cs hc=> ?_,hI.nobx,fun id b hb=> ?_,fun b lo hb=> ?_,fun m hm=>z9d.mono hk' _ _ _ (hg m hm),z1g.refl _ _,fun id b cs ho hmu hc _=> ?_,fun _ _ _ _ h=>h⟩,fun s=> ?_,fun s d' hs=> ?_,?_,?_⟩
 ·unfold z3s.S
  split
  ·show(if b<w0.heap.size then S b else 0)≤S b
   split<;>omega
  ·omega
 ·obtain⟨b,k1,k2,k3⟩:=hI.bxok id cs hc
  have hbk:=hown b (.inl ⟨id,k1⟩)
  have hb0:=hge b (.inl ⟨id,k1⟩)
  have hbox:(id,some cs)∈st.box:=by
   have hc':(lk st.box id).join=some cs:=hc
   cases hl:lk st.box id with
   |none=>rw[hl] at hc';cases hc'
   |some o=>rw[hl] at hc';simp only[Option.join_some] at hc';rw[←hc'];exact z00 hl
  have hall:=(hb _ hbox cs rfl).1
  refine⟨b,k1,by show(if b<w0.heap.size then S b else 0)=0;rcases hb0 with h9|h9<;>split<;>omega,fun i e hi=> ?_⟩
  obtain⟨⟨x,hx,hr⟩,hfz⟩:=k3 i e hi
  refine⟨⟨x,?_,z07b (g:=g) (g':=g') rfl (List.all_eq_true.1 hall e (z7j hi)) hr⟩,?_⟩
  ·rw[World.cell?_of_block (w:=w) (a:=⟨b,i,none⟩) hbk];exact hx
  ·simp only[World.frozen?,hbk] at hfz⊢;exact hfz
 ·exact⟨.inr (.inl ⟨id,hb⟩),Nat.lt_of_lt_of_le (hI.muW id b hb).2.1 hsize,rfl⟩
 ·cases hb
 ·have hbox:(id,some cs)∈st.box:=by
   have hc':(lk st.box id).join=some cs:=hc
   cases hl:lk st.box id with
   |none=>rw[hl] at hc';cases hc'
   |some o=>rw[hl] at hc';simp only[Option.join_some] at hc';rw[←hc'];exact z00 hl
  have:=(hb _ hbox cs rfl).2
  simp only at this
  omega
 ·rw[z3sa (by rw[hsz];exact hdl)]
  have hget:(z4ic d v st).get s=if d=some s then .lit (.bool v) else st.get s:=by
   show(match lk (d.toList.map (fun s=>(s,z4ic.bo' v))++st.env) s with|some d=>d|none=>dem ((lk st.org s).getD .undef))=_
   rw[z8g]
   cases d with
   |none=>simp[lk];rfl
   |some t=>
    simp only[Option.toList_some,List.map_cons,List.map_nil,lk,Option.some.injEq]
    by_cases h:s=t
    ·simp[h,z4ic.bo']
    ·rw[if_neg h,if_neg (fun e=>h e.symm)];simp;rfl
  rw[hget]
  by_cases h:d=some s
  ·rw[if_pos h,if_pos h];simp[Rep]
  ·rw[if_neg h,if_neg h]
   have hs:=hS s
   unfold ASt.get at hs⊢
   cases hl:lk st.env s with
   |some e=>
    rw[hl] at hs
    exact z07b (g:=g) (g':=g') rfl (he _ (z00 hl)) hs
   |none=>
    cases ho:lk st.org s with
    |none=>simp[Abs.dem,Rep]
    |some e=>
     refine z6c.dem (g:=g') _ (z6c.mono ?_ e _ (z6c.mono horg e _ (hO s e ho)))
     intro b i x hi hc
     refine⟨?_,hc⟩
     unfold z3s.S at hi
     split at hi
     ·exact hi
     ·omega
 ·rw[z3sa (by rw[hsz];exact hdl)]
  have hs':lk st.org s=some d':=hs
  have hne:d≠some s:=fun e=>by
   have:=hdo s (by simp[e])
   rw[hs'] at this;cases this
  rw[if_neg hne]
  exact z6c.mono horg d' _ (hO s d' hs')
 ·cases d<;>simp[Act.put,hd,hz.dl]
 ·cases d<;>simp[Act.put,hsz]

theorem z7vc {E:Env} (o:z2b) (st:ASt):(z8e E o st).org=st.org:=by
 unfold z8e
 split
 ·rfl
 ·split<;>rfl
theorem z2Cb {E:Env}:∀(xs:List z2b) (st:ASt),z6V E xs st→(z1ga E xs st).org=st.org
 |[],st,_=>rfl
 |x::xs,st,h=>by
  show(z1ga E xs (z8e E x st)).org=_
  rw[z2Cb xs _ h.2,z7vc]
theorem z7Eb {P:Program} {o:Oper} {a:Act} {w:World} {c:Call} {t:Tmp} {l:Nat} {r:Result Next} (ho:o.op= .call c) (hc:c.callee= .value (.tmp t)) (hv:a.eval (.tmp t)= .func (.yield l) #[] #[])
  (h:(Instr.yield l (c.args.map a.eval)).run P w=r):(execOp a.eval o).run P w=r:=by
 rw[←h]
 simp only[execOp,ho,resolve,hc,hv,Deferred.ofValue,invoke]
 simp[go_sem]

theorem z03b {base:z3s} {ops:Array Oper} {oper:Oper} {s t:Nat} {d:z2a} {ds:List z2a} {st:ASt} {a:Act} {w:World} (hR:Rel K base n st a w) {i:Nat} (hi:ops[i]? =some oper) (hm:z4za K n ops oper ⟨some s,none,.load none none false (.s t)⟩=true)
  (ht:lk st.org t=some (.ep (d::ds))) {Kn:Act→World→Prop} {Q:Exit→Act→World→Prop} (hn:∀a' w',Rel K base n (z1Xa s d st) a' w'→Kn a' w') {r:Option Nat} {m:Nat}:wpOpIn (WF r) m K.P ops Q i Kn a w:=by
 simp only[z4za,Bool.and_eq_true,beq_iff_eq,List.all_eq_true,decide_eq_true_eq] at hm
 obtain⟨⟨⟨hdst,hlt⟩,hgd⟩,hch⟩:=hm
 have hR':=hR
 obtain⟨g,hI,hS,hO,hdf,hsz⟩:=hR'
 have hp:=hO t _ ht
 simp only[z6c,z9d] at hp
 obtain⟨b,o,hv,hb,⟨x,hx,hpx⟩,_⟩:=hp
 have hw:=(z1q hI) b o x hb hx
 have hl:z4Ta K oper.op none (.s t)=true:=hch
 have hwant:Region.wanted oper (yielded ops a.tmps)=true:=by
  unfold z8ha at hgd
  split at hgd
  ·rename_i h1 _;unfold Region.wanted;rw[h1]
  ·rename_i h1 h2;cases h2
  ·cases hgd
 unfold z4Ta at hl
 split at hl
 ·rename_i ty x' ho
  simp only[Bool.and_eq_true] at hl
  obtain⟨⟨hk,_⟩,hx'⟩:=hl
  have hrun:(execOp a.eval oper).run K.P w= .ok (.value x) w:=by
   cases x' with
   |tmp t'=>
    simp only[z7i,beq_iff_eq] at hx'
    subst hx'
    have hev:a.eval (.tmp t')= .pointer (some ⟨b,o,none⟩):=hv
    have hr:=z08a (P:=K.P) (w:=w) (bk:=b) (o:=o) (vs:=[x]) hk (fun j v hj=>by
     cases j with
     |zero=>simp at hj;subst hj;exact hw.2
     |succ j=>simp at hj) (by simp)
    simp only[execOp,ho,hev,Sem.run_bind,hr,Result.andThen_ok,Sem.run_pure]
    rfl
   |_=>simp[z7i] at hx'
  unfold wpOpIn
  simp only[hi]
  rw[if_pos hwant]
  refine z5Xb (fun c hc=>by rw[ho] at hc;cases hc) ?_
  unfold Oper.wp
  rw[hrun]
  refine hn _ _ ⟨g,hI,fun s'=> ?_,fun s' d' hs'=> ?_,?_,?_⟩
  ·rw[z3sa (by rw[hsz];intro s hs;exact hlt s (by rw[hdst] at hs;exact hs)),hdst]
   have hget:(z1Xa s d st).get s'=if some s=some s' then dem d else st.get s':=by
    have h1:lk (st.env.filter fun p=>decide (p.1≠s)) s'=if s'≠s then lk st.env s' else none:=by
     have:=z4n (fun k=>decide (k≠s)) st.env s'
     simpa using this
    show(match lk (st.env.filter fun p=>decide (p.1≠s)) s' with|some d=>d|none=>dem ((lk ((s,d)::st.org) s').getD .undef))=_
    rw[h1]
    by_cases h:s'=s
    ·subst h;simp[lk]
    ·rw[if_pos h,if_neg (fun e=>h (by cases e;rfl))]
     simp only[lk,if_neg h]
     rfl
   rw[hget]
   by_cases h:some s=some s'
   ·rw[if_pos h,if_pos h]
    exact z6c.dem _ (z6c.mono (z1q hI) d _ hpx)
   ·rw[if_neg h,if_neg h];exact hS s'
  ·rw[z3sa (by rw[hsz];intro s hs;exact hlt s (by rw[hdst] at hs;exact hs)),hdst]
   have hs':(if s'=s then some d else lk st.org s')=some d':=hs'
   by_cases h:s'=s
   ·rw[if_pos h] at hs';cases hs';rw[if_pos (by rw[h])];exact hpx
   ·rw[if_neg h] at hs';rw[if_neg (fun e=>h (by cases e;rfl))];exact hO s' d' hs'
  ·rw[hdst];simp[Act.put,hdf]
  ·rw[hdst];simp[Act.put,hsz]
 ·cases hl
theorem z9Z {q:Nat} (hr:z7qb K S el l J Jx N O0 w0) (hSx:∀b i,i<S b→∃x,w0.cell? ⟨b,i,none⟩=some x) (hg:∀m∈K.N.gs,z9d K.toCon S w0 (K.E.T m) (K.N.gnum m) 0):
  ∀(c:z0P) (x:Code) (Q:IQ) (base:z3s) (p:Nat×Bool) (st:ASt) (a:Act) (w:World),z5zb K n c x=true→(∀p∈z5s c,VB K p)→z0ga K.E l el c Q p st→Zi S w0 base→HyI O0 J Jx base p→Rel K base n st a w→x.wpIn (WF none) q K.P (z7Bb K S w0 O0 J Jx n Q) a w
 | .plain c,x,Q,base,p,st,a,w,hc,hv,h,hz,hh,hR=>by
  simp only[z5zb,Bool.and_eq_true] at hc
  simp only[z0ga] at h
  refine wpIn_mono (z5u (Cd:=True) c x none q _ base st a w hc.2 hv hc.1.1 (.inl hc.1.2) h hR) ?_
  intro e a' w' hl
  cases e<;>simp only[z7Fa] at hl<;>simp only[z7Bb]
  all_goals (obtain⟨b',⟨_,_,he⟩,st',hR',hq⟩:=hl;have he:=he trivial;subst he;exact⟨_,p,st',hz,hh,hR',hq⟩)
 | .seq u v,x,Q,base,p,st,a,w,hc,hv,h,hz,hh,hR=>by
  simp only[z5zb] at hc
  simp only[z0ga] at h
  simp only[z5s,List.mem_append] at hv
  split at hc
  ·rename_i y z
   simp only[Bool.and_eq_true] at hc
   refine wpIn_seq (wpIn_mono (z9Z hr hSx hg u y _ base p st a w hc.1 (fun f hf=>hv f (.inl hf)) h hz hh hR) ?_)
   intro e a' w' hl
   cases e<;>simp only[z7Bb] at hl<;>simp only[Exit.then]
   ·obtain⟨b',p',st',hz',hh',hR',hq⟩:=hl
    exact z9Z hr hSx hg v z Q b' p' st' a' w' hc.2 (fun f hf=>hv f (.inr hf)) hq hz' hh' hR'
   ·exact hl
   ·exact hl
  ·cases hc
 | .cond c u v,x,Q,base,p,st,a,w,hc,hv,h,hz,hh,hR=>by
  simp only[z5zb] at hc
  simp only[z0ga] at h
  simp only[z5s,List.mem_append] at hv
  split at hc
  ·rename_i c' y z
   simp only[Bool.and_eq_true] at hc
   obtain⟨⟨hcc,hy⟩,hzz⟩:=hc
   obtain⟨hb,ht,hf⟩:=h
   have hR':=hR
   obtain⟨g,hI,hS,_⟩:=hR'
   obtain⟨_,hval⟩:=z4ga (z9b hI hS hcc) hb
   refine wpIn_cond_split hval (fun e=> ?_) (fun e=> ?_)
   ·exact z9Z hr hSx hg u y Q base p st a w hy (fun f hf=>hv f (.inl hf)) (ht e) hz hh hR
   ·exact z9Z hr hSx hg v z Q base p st a w hzz (fun f hf=>hv f (.inr hf)) (hf e) hz hh hR
  ·cases hc
 | .block id b,x,Q,base,p,st,a,w,hc,hv,h,hz,hh,hR=>by
  simp only[z5zb] at hc
  simp only[z0ga] at h
  split at hc
  ·rename_i id' y
   simp only[Bool.and_eq_true,beq_iff_eq] at hc
   obtain⟨rfl,hp⟩:=hc
   refine wpIn_block (wpIn_mono (z9Z hr hSx hg b y _ base p st a w hp hv h hz hh hR) ?_)
   intro e a' w' hl
   cases e<;>simp only[z7Bb] at hl<;>simp only[Exit.inBlock]
   ·exact hl
   ·rename_i id'
    obtain⟨b',p',st',hz',hh',hR',hq⟩:=hl
    simp only[z38a] at hq
    split
    ·rename_i he
     rw[if_pos he] at hq
     exact⟨b',p',st',hz',hh',hR',hq⟩
    ·rename_i he
     rw[if_neg he] at hq
     exact⟨b',p',st',hz',hh',hR',hq⟩
   ·exact hl
  ·cases hc
 | .loop b,x,Q,base,p,st,a,w,hc,hv,h,hz,hh,hR=>by
  simp only[z5zb] at hc
  simp only[z0ga] at h
  split at hc
  ·rename_i y
   obtain⟨I,hI0,hround⟩:=h
   have hbd:∀(base:z3s) (p:Nat×Bool),HyI O0 J Jx base p→p.2=false→p.1≤N:=fun base p ⟨O,_,_,hj⟩ hp=>by
    rw[hp] at hj;exact hr.bound _ _ _ hj
   refine z2ia (fun k a w=>∃base p st,Zi S w0 base∧HyI O0 J Jx base p∧Rel K base n st a w∧I p st∧k=(match p.2 with|true=>0|false=>N+1-p.1)) ⟨base,p,st,hz,hh,hR,hI0,rfl⟩ fun k a w hj=> ?_
   obtain⟨base',p',st',hz',hh',hR',hI',hk⟩:=hj
   refine wpIn_mono (z9Z hr hSx hg b y _ base' p' st' a w hc hv (hround p' st' hI') hz' hh' hR') ?_
   intro e a' w' hl
   cases e<;>simp only[z7Bb] at hl<;>simp only[Exit.then]
   ·obtain⟨b2,p2,st2,hz2,hh2,hR2,hI2,hp,hp2⟩:=hl
    have hle:=hbd base' p' hh' hp
    rw[hp] at hk
    simp only at hk
    refine⟨match p2.2 with|true=>0|false=>N+1-p2.1,?_,b2,p2,st2,hz2,hh2,hR2,hI2,rfl⟩
    rcases hp2 with rfl|rfl
    ·simp only;omega
    ·simp only;omega
   ·exact hl
   ·exact hl
  ·cases hc
 | .yield keep gs xs d y as zs gd,x,Q,base,p,st,a,w,hc,hv,h,hz,hh,hR=>by
  simp only[z5zb] at hc
  simp only[z0ga] at h
  obtain⟨hokx,hdo,hifg⟩:=h
  have hye:=z93c (z1ga K.E xs st)
  split at hc
  ·rename_i id ops draw
   simp only[Bool.and_eq_true,Bool.not_eq_true',beq_iff_eq] at hc
   obtain⟨⟨⟨⟨⟨hdraw,hsz⟩,hcx⟩,hco⟩,hcz⟩,hcold⟩:=hc
   subst hdraw
   have hVx:∀z∈xs,VOk K z.op:=fun z hz f hf=>hv f (by simp only[z5s,List.mem_flatMap];exact⟨z,by simp[hz],hf⟩)
   have hVz:∀z∈zs,VOk K z.op:=fun z hz f hf=>hv f (by simp only[z5s,List.mem_flatMap];exact⟨z,by simp[hz],hf⟩)
   refine wpIn_region ?_
   have hrange:List.range ops.size=List.range' 0 xs.length++(xs.length::(List.range' (xs.length+1) zs.length)):=by
    rw[hsz,List.range_eq_range',show xs.length+1+zs.length=xs.length+(1+zs.length) by omega,←List.range'_append_1,Nat.zero_add,Nat.add_comm 1,List.range'_succ]
   rw[hrange]
   refine z2Ta xs 0 st a w (by simpa using hcx) hVx hR hokx fun a1 w1 hR1=> ?_
   replace hR1:=z3mc hR1
   rw[wpOpsIn_cons]
   split at hco
   ·rename_i o ho
    unfold wpOpIn
    simp only[ho]
    simp only[z0ua,Bool.and_eq_true,beq_iff_eq,List.all_eq_true,decide_eq_true_eq,Option.isNone_iff_eq_none] at hco
    obtain⟨⟨⟨hdst,hdl⟩,hgd⟩,hop⟩:=hco
    have hcz':z7T K n ops ((ops.toList.drop (xs.length+1)).take zs.length) zs=true:=by
     rw[List.take_of_length_le]
     ·exact hcz
     ·simp only[List.length_drop,Array.length_toList,hsz];omega
    have er:List.range' (xs.length+1) zs.length=List.range' (xs.length+1) zs.length++[]:=by simp
    by_cases hwant:Region.wanted o (yielded ops a1.tmps)=true
    case neg=>
     rw[if_neg hwant]
     refine⟨fun f _=>z3eb _ f,?_⟩
     cases gd with
     |none=>
      refine absurd ?_ hwant
      unfold z8ha at hgd
      split at hgd
      ·rename_i h1 _;unfold Region.wanted;rw[h1]
      ·rename_i h1 h2;cases h2
      ·cases hgd
     |some sw=>
      obtain⟨s,want⟩:=sw
      obtain⟨hb,_,hno⟩:=hifg
      have hw:=z4pa (o:=⟨none,some (s,want),.unsup⟩) hR1 hgd rfl (.inl hb)
      rw[hw,z4Mb hb] at hwant
      have hx:∀a b:Bool,¬((a==b)=true)→a=(!b):=by decide
      have hno:=hno (hx _ _ hwant)
      obtain⟨hokz,hokg,hq⟩:=hno
      have hR1':=hR1
      obtain⟨g,hI,hS,_,_,_⟩:=hR1'
      have hput:=z0yb (e:={val:=z4ia}) (v:=undef) (w':=w1) hR1 (o:=⟨d,none,.unsup⟩) hdl (fun s hs=>by rw[show(z4tb (z1ga K.E xs st)).org=(z1ga K.E xs st).org from rfl,z2Cb xs st hokx];exact hdo s hs) (by simp) ⟨g,hI,hS,by simp[Rep,z4ia]⟩
      rw[er,hdst]
      exact z2Ta zs (xs.length+1) (z7qd d (z4tb (z1ga K.E xs st))) _ w1 hcz' hVz (by simpa[z7qd] using hput) hokz fun a' w' hR'=>⟨base,p,_,hz,hh,z8Na gs hcold (z1B keep hR') hokg,hq⟩
    have hpos:=z4Vc hifg fun s want e hb=>by
     subst e
     have hw:=z4pa (o:=⟨none,some (s,want),.unsup⟩) hR1 hgd rfl (.inl hb)
     rw[hw,z4Mb hb] at hwant
     simpa using hwant
    obtain⟨hp,hel,hmf,hly,hyb,hrest⟩:=hpos
    rw[if_pos hwant]
    split at hop
    ·rename_i c hoc
     simp only[Bool.and_eq_true] at hop
     obtain⟨hcal,hargs⟩:=hop
     split at hcal
     ·rename_i t hct
      simp only[beq_iff_eq] at hcal
      subst hcal
      obtain⟨g,hI,hS,hO,hdf,hsz1⟩:=hR1
      have hyv:a1.eval (.tmp t)= .func (.yield l) #[] #[]:=by
       have:=hS t
       rw[hly] at this
       simpa[Rep,Act.eval] using this
      have hvs:=z6ga _ _ hmf (z6nb hI hS hargs)
      have hargs':c.args.map a1.eval=(z2Qa (as.map (arg K.E (z4tb (z1ga K.E xs st)).get))).toArray:=by
       apply Array.toList_inj.1
       rw[Array.toList_map,hvs]
      obtain⟨h0,hnow⟩:=z5Mc hr hh hI
      rw[hp] at hnow
      simp only at hnow
      obtain⟨fn,tm,asg,bdy,hyr,hround⟩:=hr.round p.1 (WO g O0) w1 _ (q-1) hnow hel
      refine⟨fun f _=>z3eb _ f,?_⟩
      rw[Oper.semAt_plain (WF none) _ _ (by rw[hoc];intro c' hc';cases hc'),z7Eb hoc hct hyv rfl,hargs',hyr,Oper.uponIn_round]
      refine⟨fun h=>by simp[z5bb] at h,hround.mono fun e B hB=> ?_⟩
      obtain⟨k1,k2,k3,_,_,_,k4⟩:=hB
      have goOn:∀b:Bool,(match(if b then(p.1+1,false) else(p.1,true):Nat×Bool).2 with|false=>J (if b then(p.1+1,false) else(p.1,true):Nat×Bool).1 (WO g O0) B|true=>Jx (WO g O0) B)→
        wpOpsIn (WF none) q K.P ops (z7Bb K S w0 O0 J Jx n Q) (List.range' (xs.length+1) zs.length) (a1.put o.dst (.bool b)) B:=fun b hj=>by
       obtain⟨base2,hz2,hh2,hR2⟩:=z9yb (p:=if b then(p.1+1,false) else(p.1,true)) hSx hg hz hI hS hO hdf hsz1 hye hyb k1 (fun b hb=>k2 b (.inl hb)) k3 h0 hj hdl (fun s hs=>by rw[show(z4tb (z1ga K.E xs st)).org=(z1ga K.E xs st).org from rfl,z2Cb xs st hokx];exact hdo s hs) (v:=b)
       obtain⟨hokz,hokg,hq⟩:=hrest b
       rw[hdst]
       rw[er]
       exact z2Ta zs (xs.length+1) _ _ B hcz' hVz hR2 hokz fun a' w' hR'=>⟨base2,_,_,hz2,hh2,z8Na gs hcold (z1B keep hR') hokg,hq⟩
      rcases k4 with⟨rfl,hj⟩|⟨rfl,hj⟩
      ·exact goOn true hj
      ·exact goOn false hj
     ·cases hcal
    ·cases hop
   ·cases hco
  ·cases hc
 | .lean s t keep gs zs,x,Q,base,p,st,a,w,hc,hv,h,hz,hh,hR=>by
  simp only[z5zb] at hc
  simp only[z0ga] at h
  obtain⟨d,ds,ht,hokz,hokg,hq⟩:=h
  split at hc
  ·rename_i id ops draw
   simp only[Bool.and_eq_true,Bool.not_eq_true',beq_iff_eq] at hc
   obtain⟨⟨⟨⟨hdraw,hsz⟩,hco⟩,hcz⟩,hcold⟩:=hc
   subst hdraw
   have hVz:∀z∈zs,VOk K z.op:=fun z hz f hf=>hv f (by simp only[z5s,List.mem_flatMap];exact⟨z,hz,hf⟩)
   refine wpIn_region ?_
   have hrange:List.range ops.size=0::(List.range' 1 zs.length++[]):=by
    rw[hsz,List.range_eq_range',List.range'_succ,List.append_nil]
   rw[hrange,wpOpsIn_cons]
   split at hco
   ·rename_i o ho
    refine z03b hR ho hco ht fun a' w' hR'=> ?_
    have hcz':z7T K n ops ((ops.toList.drop 1).take zs.length) zs=true:=by
     rw[List.take_of_length_le]
     ·exact hcz
     ·simp only[List.length_drop,Array.length_toList,hsz];omega
    exact z2Ta zs 1 _ _ _ hcz' hVz hR' hokz fun a2 w2 hR2=>⟨base,p,_,hz,hh,z8Na gs hcold (z1B keep hR2) hokg,hq⟩
   ·cases hco
  ·cases hc

def z2dc (w:World) (b:Nat):Nat:=match w.heap[b]? with|some (.cells c _ _)=>c.size|_=>0
theorem z8Sb {w:World} {b i:Nat} (h:i<z2dc w b):∃x,w.cell? ⟨b,i,none⟩=some x:=by
 unfold z2dc at h
 unfold World.cell?
 split at h
 ·rename_i c e fr hb
  simp only[hb]
  exact⟨c[i],by simp[h]⟩
 ·omega
theorem z8vc {w:World} {b i:Nat} {x:Value} (h:w.cell? ⟨b,i,none⟩=some x):i<z2dc w b:=by
 unfold World.cell? at h
 unfold z2dc
 cases hb:w.heap[b]? with
 |none=>simp[hb] at h
 |some q=>
  cases q with
  |cells c e fr=>
   simp[hb] at h
   exact(Array.getElem?_eq_some_iff.1 h).1
  |_=>simp[hb] at h

structure z30d where
 nx:Nat
 ny:Nat
 body:z0P
def lvS (lv:List Nat) (x:List z2a):List Nat:=lv.map (· +(x.length+1))
def z57b (l:Nat) (lv:List Nat) (x y:List z2a):ASt:=
 {org:=(z9u 0 (x++ .lit (.func (.yield l) #[] #[])::y)).filter fun p=> !(lvS lv x).contains p.1
  env:=(lvS lv x).map fun s=>(s,.bp s 0)
  box:=(lvS lv x).map fun s=>(s,some (z4L ((x++ .lit (.func (.yield l) #[] #[])::y).getD s .undef)))}
def z71d (lv:List Nat) (x:List z2a) (B:Nat→Option Nat) (s:Nat):Option Nat:=if s∈lvS lv x then B (s-(x.length+1)) else none
theorem z9pd {K:Cx} {S:Nat→Nat} {w:World} {n l m:Nat} {lv:List Nat} {B:Nat→Option Nat} {x y:List z2a} {vx vy:List Value} (hg:∀n∈K.N.gs,z9d K.toCon S w (K.E.T n) (K.N.gnum n) 0) (hx:z8c K.toCon S w x vx) (hy:z4Lc K S w lv B y vy) (hn:x.length+1+y.length≤1000000) (hm:(vx++Value.func (.yield l) #[] #[]::vy).length+m=n):
  Rel K ⟨w,fun b=>∃i,B i=some b,S,[],z71d lv x B⟩ n (z57b l lv x y) {tmps:=(vx++Value.func (.yield l) #[] #[]::vy).toArray++Array.replicate m undef,defers:=[]} w:=by
 have hlx:=hx.len
 have hly:=hy.len
 obtain⟨ds,hds⟩:∃ds,ds=x++z2a.lit (.func (.yield l) #[] #[])::y:=⟨_,rfl⟩
 obtain⟨vs,hvs⟩:∃vs,vs=vx++Value.func (.yield l) #[] #[]::vy:=⟨_,rfl⟩
 have hdl:ds.length=vs.length:=by rw[hds,hvs];simp[hlx,hly]
 have hmem:∀s,s∈lvS lv x↔∃i∈lv,s=i+(x.length+1):=fun s=>by simp[lvS,eq_comm]
 have key:∀s d,ds[s]? =some d→∃v,vs[s]? =some v∧if s∈lvS lv x then∃b cs,B (s-(x.length+1))=some b∧d= .ep cs∧v= .pointer (some ⟨b,0,none⟩)∧S b=0∧b<w.heap.size∧z6b cs=true∧∀(j:Nat) e,cs[j]? =some e→w.cell? ⟨b,j,none⟩=some (toV e)∧w.frozen? ⟨b,j,none⟩=false else z6c K.toCon S w d v:=fun s d hd=>by
  rw[hds] at hd
  rcases Nat.lt_trichotomy s x.length with h|h|h
  ·rw[List.getElem?_append_left h] at hd
   obtain⟨v,hv,hr⟩:=hx.get s d hd
   refine⟨v,by rw[hvs,List.getElem?_append_left (by omega)];exact hv,?_⟩
   rw[if_neg (fun hc=>by obtain⟨i,_,e⟩:=(hmem s).1 hc;omega)]
   exact hr
  ·rw[List.getElem?_append_right (by omega),show s-x.length=0 by omega] at hd
   simp only[List.getElem?_cons_zero,Option.some.injEq] at hd
   subst hd
   refine⟨.func (.yield l) #[] #[],by rw[hvs,List.getElem?_append_right (by omega),show s-vx.length=0 by omega];rfl,?_⟩
   rw[if_neg (fun hc=>by obtain⟨i,_,e⟩:=(hmem s).1 hc;omega)]
   simp[z6c]
  ·rw[List.getElem?_append_right (by omega),show s-x.length=(s-(x.length+1))+1 by omega,List.getElem?_cons_succ] at hd
   have hi:s-(x.length+1)<y.length:=(List.getElem?_eq_some_iff.1 hd).1
   have hv:vy[s-(x.length+1)]? =some (vy[s-(x.length+1)]'(by omega)):=List.getElem?_eq_getElem _
   have ha:=hy.at' _ _ _ hd hv
   refine⟨_,by rw[hvs,List.getElem?_append_right (by omega),show s-vx.length=(s-(x.length+1))+1 by omega,List.getElem?_cons_succ];exact hv,?_⟩
   have hiff:s∈lvS lv x↔s-(x.length+1)∈lv:=by
    rw[hmem]
    constructor
    ·rintro⟨i,h1,h2⟩
     rw[show s-(x.length+1)=i by omega];exact h1
    ·intro h1
     exact⟨_,h1,by omega⟩
   by_cases hs:s∈lvS lv x
   ·rw[if_pos hs];rw[if_pos (hiff.1 hs)] at ha;exact ha
   ·rw[if_neg hs];rw[if_neg (fun h=>hs (hiff.2 h))] at ha;exact ha
 have hlvd:∀s,s∈lvS lv x→∃d,ds[s]? =some d:=fun s hs=>by
  obtain⟨i,hi,e⟩:=(hmem s).1 hs
  have:=hy.lt i hi
  exact⟨_,List.getElem?_eq_getElem (by rw[hds];simp;omega)⟩
 have hget:∀s v,vs[s]? =some v→(vs.toArray++Array.replicate m undef).getD s undef=v:=fun s v hv=>by
  have hs:s<vs.length:=(List.getElem?_eq_some_iff.1 hv).1
  rw[Array.getD_eq_getD_getElem?,Array.getElem?_append_left (by simpa using hs)]
  simp[hv]
 have hBx:∀i b,B i=some b→S b=0∧b<w.heap.size:=fun i b hb=>by
  have hi:=hy.dom i b hb
  have hs:i+(x.length+1)∈lvS lv x:=(hmem _).2 ⟨i,hi,rfl⟩
  obtain⟨d,hd⟩:=hlvd _ hs
  obtain⟨v,_,h2⟩:=key _ d hd
  rw[if_pos hs,show i+(x.length+1)-(x.length+1)=i by omega] at h2
  obtain⟨b',cs,k1,_,_,k4,k5,_⟩:=h2
  rw[hb] at k1;cases k1
  exact⟨k4,k5⟩
 have hW:∀b,(∃i,B i=some b)→S b=0:=fun b ⟨i,hi⟩=>(hBx i b hi).1
 have hk:z1g S w (z3s.S ⟨w,fun b=>∃i,B i=some b,S,[],z71d lv x B⟩) w:=fun b i z hi hc=>by
  refine⟨?_,hc⟩
  have hb:b<w.heap.size:=World.block_lt_of_cell? w ⟨b,i,none⟩ hc
  unfold z3s.S
  rw[if_pos ⟨hb,fun h=>by have:=hW b h;omega⟩]
  exact hi
 have hst:z57b l lv x y={org:=(z9u 0 ds).filter fun p=> !(lvS lv x).contains p.1,env:=(lvS lv x).map fun s=>(s,.bp s 0),box:=(lvS lv x).map fun s=>(s,some (z4L (ds.getD s .undef)))}:=by rw[hds];rfl
 have horg:∀s,lk (z57b l lv x y).org s=if s∈lvS lv x then none else ds[s]? :=fun s=>by
  rw[hst]
  show lk ((z9u 0 ds).filter fun p=>(fun k=> !(lvS lv x).contains k) p.1) s=_
  rw[z4n (fun k=> !(lvS lv x).contains k),z4cb]
  by_cases h:s∈lvS lv x<;>simp[h]
 have henv:∀s,lk (z57b l lv x y).env s=if s∈lvS lv x then some (.bp s 0) else none:=fun s=>by
  rw[hst];exact z7xa (fun s=>z2a.bp s 0) s _
 have hbox:∀s,(z57b l lv x y).getB s=if s∈lvS lv x then some (z4L (ds.getD s .undef)) else none:=fun s=>by
  rw[hst]
  show(lk ((lvS lv x).map fun s=>(s,some (z4L (ds.getD s .undef)))) s).join=_
  rw[z7xa fun s=>some (z4L (ds.getD s .undef))]
  split<;>rfl
 rw[←hvs]
 have live:∀s,s∈lvS lv x→∃b cs,B (s-(x.length+1))=some b∧ds.getD s .undef= .ep cs∧vs[s]? =some (.pointer (some ⟨b,0,none⟩))∧S b=0∧b<w.heap.size∧z6b cs=true∧∀(j:Nat) e,cs[j]? =some e→w.cell? ⟨b,j,none⟩=some (toV e)∧w.frozen? ⟨b,j,none⟩=false:=fun s hs=>by
  obtain⟨d,hd⟩:=hlvd s hs
  obtain⟨v,hv,h2⟩:=key s d hd
  rw[if_pos hs] at h2
  obtain⟨b,cs,k1,k2,k3,k4,k5,k6,k7⟩:=h2
  exact⟨b,cs,k1,by rw[List.getD_eq_getElem?_getD,hd,k2];rfl,by rw[hv,k3],k4,k5,k6,k7⟩
 refine⟨⟨S,fun _=>none,fun s=>if s∈lvS lv x then B (s-(x.length+1)) else none⟩,⟨Fr.refl _ _ _,fun _ _ _=>rfl,fun i j b hi hj=> ?_,fun id cs hc=> ?_,fun id hid=> ?_,fun id b hb=> ?_,fun _ _ h=>(by cases h),hg,z1g.refl _ _,fun id b cs ho hb _ _=> ?_,fun _ _ _ _ h=>h⟩,fun s=> ?_,fun s d hs=> ?_,rfl,by rw[hvs];simp only[List.size_toArray,Array.size_append,Array.size_replicate];exact hm⟩
 ·simp only at hi hj
  split at hi
  ·rename_i h1
   split at hj
   ·rename_i h2
    have:=hy.inj _ _ b hi hj
    obtain⟨i',_,e1⟩:=(hmem i).1 h1
    obtain⟨j',_,e2⟩:=(hmem j).1 h2
    omega
   ·cases hj
  ·cases hi
 ·rw[hbox] at hc
  split at hc
  ·rename_i hs
   obtain⟨b,cs',k1,k2,_,k4,_,k6,k7⟩:=live id hs
   rw[k2] at hc
   simp only[z4L,Option.some.injEq] at hc
   subst hc
   refine⟨b,by simp only[if_pos hs];exact k1,k4,fun j e he=> ?_⟩
   obtain⟨c1,c2⟩:=k7 j e he
   have hme:z5b e=true:=by
    have:∀(cs:List z2a) (j:Nat),z6b cs=true→cs[j]? =some e→z5b e=true:=fun cs=>by
     induction cs with
     |nil=>intro j _ h;simp at h
     |cons c cs ih=>
      intro j hm hd
      simp only[z6b,Bool.and_eq_true] at hm
      cases j with
      |zero=>simp at hd;subst hd;exact hm.1
      |succ j=>exact ih j hm.2 (by simpa using hd)
    exact this _ j k6 he
   exact⟨⟨_,c1,z01a e _ hme⟩,c2⟩
  ·cases hc
 ·rw[hbox] at hid
  split at hid
  ·cases hid
  ·rename_i hs;simp only[if_neg hs]
 ·simp only at hb
  split at hb
  ·exact⟨.inr ⟨_,hb⟩,(hBx _ b hb).2,rfl⟩
  ·cases hb
 ·simp only at hb
  split at hb
  ·rename_i hs
   obtain⟨d,hd⟩:=hlvd id hs
   have:=(List.getElem?_eq_some_iff.1 hd).1
   rw[hds] at this
   simp at this
   omega
  ·cases hb
 ·unfold ASt.get
  rw[henv,horg]
  by_cases hs:s∈lvS lv x
  ·rw[if_pos hs]
   obtain⟨b,cs,k1,_,k3,_⟩:=live s hs
   simp only[Rep,if_pos hs]
   exact⟨b,k1,hget s _ k3⟩
  ·rw[if_neg hs,if_neg hs]
   cases hd:ds[s]? with
   |none=>simp[Abs.dem,Rep]
   |some d=>
    obtain⟨v,hv,h2⟩:=key s d hd
    rw[if_neg hs] at h2
    rw[hget s v hv]
    exact z6c.dem (g:=⟨S,_,_⟩) _ h2
 ·rw[horg] at hs
  split at hs
  ·cases hs
  ·rename_i hn'
   obtain⟨v,hv,h2⟩:=key s d hs
   rw[if_neg hn'] at h2
   rw[hget s v hv]
   exact z6c.mono hk d v h2
def itQ (el:Nat→Option (List z2a)):IQ
 | .normal,p,_| .ret,p,_=>p.2=true∨el p.1=none
 |_,_,_=>False
def z38b (K:Cx) (F:z30d) (fn:Func):Bool:=
 !(fn.name== "runtime.NumGoroutine")&&(match fn.body with|some c=>z5zb K fn.ntmps F.body c|none=>false)&&(fn.results.size==0)&&decide (F.nx+1+F.ny≤fn.ntmps∧F.nx+1+F.ny≤1000000)

theorem z79a {f:Nat} {fn:Func} {F:z30d} {c:ItC} (hf:K.P.funcs[K.nu f]? =some fn) (hc:z38b K F fn=true) (hv:∀p∈z5s F.body,VB K p)
  (h:∀x y l,c.pre x y→x.length=F.nx∧y.length=F.ny∧z0ga K.E l (c.el x y) F.body (itQ (c.el x y)) (0,false) (z57b l c.lv x y)):z0x K f c:=by
 simp only[z38b,Bool.and_eq_true,Bool.not_eq_true',decide_eq_true_eq,beq_iff_eq] at hc
 obtain⟨⟨⟨hname,hbody⟩,hres⟩,hsz⟩:=hc
 cases hb:fn.body with
 |none=>rw[hb] at hbody;cases hbody
 |some code=>
  rw[hb] at hbody
  simp only at hbody
  refine⟨⟨fn,hf,by rw[hb];rfl,hname⟩,fun S w x y vx vy B hg hx hy hpre l J Jx N hr=> ?_⟩
  obtain⟨hlx,hly,hw⟩:=h x y l hpre
  obtain⟨S1,hS1⟩:∃S1:Nat→Nat,S1=fun b=>min (S b) (z2dc w b):=⟨_,rfl⟩
  have hk1:z1g S w S1 w:=fun b i v hi hcell=>⟨by rw[hS1];exact Nat.lt_min.2 ⟨hi,z8vc hcell⟩,hcell⟩
  have hle:∀b,S1 b≤S b:=fun b=>by rw[hS1];exact Nat.min_le_left _ _
  have hSx:∀b i,i<S1 b→∃x,w.cell? ⟨b,i,none⟩=some x:=fun b i hi=>by
   rw[hS1] at hi
   exact z8Sb (Nat.lt_min.1 hi).2
  have hr1:z7qb K S1 (c.el x y) l J Jx N (fun b=>∃i,B i=some b) w:=by
   refine⟨hr.start,hr.bound,hr.stab,hr.stabx,fun i O A xs q hj hel=> ?_⟩
   obtain⟨fn',tm,asg,bdy,h1,h2⟩:=hr.round i O A xs q hj hel
   exact⟨fn',tm,asg,bdy,h1,h2.mono fun e B ⟨k1,k2⟩=>⟨fun b i v hi hcell=>⟨hi,(k1 b i v (Nat.lt_of_lt_of_le hi (hle b)) hcell).2⟩,k2⟩⟩
  have hg1:∀m∈K.N.gs,z9d K.toCon S1 w (K.E.T m) (K.N.gnum m) 0:=fun m hm=>z9d.mono hk1 _ _ _ (hg m hm)
  have hz0:∀i b,B i=some b→S1 b=0:=fun i b hb=>by
   have hi:=hy.dom i b hb
   have hil:=hy.lt i hi
   have:=hy.at' i y[i] (vy[i]'(by rw[←hy.len];exact hil)) (List.getElem?_eq_getElem hil) (List.getElem?_eq_getElem _)
   rw[if_pos hi] at this
   obtain⟨b',_,k1,_,_,k4,_⟩:=this
   rw[hb] at k1;cases k1
   have:=hle b
   omega
  have hy1:z4Lc K S1 w c.lv B y vy:=hy.keep hk1 hz0 (Nat.le_refl _) (fun _ _ _=>rfl)
  have hx1:=z8c.mono hk1 _ _ hx
  have hlen1:=hx1.len
  have hlen2:=hy1.len
  refine callsIn_wide.1 (callsIn_of_wp_marks (F:=WF none) (n:=0) hf hb (z3eb none _) ?_)
  have hR:=z9pd (n:=fn.ntmps) (l:=l) (m:=fn.ntmps-(vx++Value.func (.yield l) #[] #[]::vy).length) hg1 hx1 hy1 (by omega) (by simp only[List.length_append,List.length_cons];omega)
  simp only[List.size_toArray]
  have hz:Zi S1 w ⟨w,fun b=>∃i,B i=some b,S1,[],z71d c.lv x B⟩:=by
   refine⟨fun b h=> .inr (by obtain⟨i,hi⟩:=h;exact hz0 i b hi),Nat.le_refl _,fun b i v hi hcell=>⟨?_,hcell⟩,fun b=> ?_,rfl⟩
   ·unfold z3s.S
    rw[if_pos ⟨World.block_lt_of_cell? w ⟨b,i,none⟩ hcell,fun h=>by obtain⟨j,hj⟩:=h;have:=hz0 j b hj;omega⟩]
    exact hi
   ·unfold z3s.S
    split
    ·exact Nat.le_refl _
    ·omega
  have hh:HyI (fun b=>∃i,B i=some b) J Jx ⟨w,fun b=>∃i,B i=some b,S1,[],z71d c.lv x B⟩ (0,false):=⟨fun b=>∃i,B i=some b,fun _ h _=>h,fun b hb=>⟨hb,by
   obtain⟨i,hi⟩:=hb
   have hm:=hy.dom i b hi
   have hil:=hy.lt i hm
   have:=hy.at' i y[i] (vy[i]'(by rw[←hy.len];exact hil)) (List.getElem?_eq_getElem hil) (List.getElem?_eq_getElem _)
   rw[if_pos hm] at this
   obtain⟨b',_,k1,_,_,_,k5,_⟩:=this
   rw[hi] at k1;cases k1
   exact k5⟩,hr.start⟩
  have hwp:=z9Z (q:=0) hr1 hSx hg1 F.body code _ _ _ _ _ w hbody hv hw hz hh hR
  refine wpIn_mono hwp fun e a' w' hl=> ?_
  have fin:∀(base:z3s) (p:Nat×Bool) (st:ASt),Zi S1 w base→HyI (fun b=>∃i,B i=some b) J Jx base p→Rel K base fn.ntmps st a' w'→(p.2=true∨c.el x y p.1=none)→
    LeavesInM (WF none) 0 K.P fn a'.tmps (fun e B'=>∃v,e=Ending.returned v∧∃O,(∀b,(∃i,B i=some b)→O b)∧((∃i,c.el x y i=none∧J i O B')∨Jx O B')) a'.defers .returning w':=fun base p st hz' hh' hR' hq=>by
   obtain⟨g,hI,_,_,hd,_⟩:=hR'
   obtain⟨_,hnow⟩:=z5Mc hr1 hh' hI
   rw[hd,hz'.dl]
   have hre:fn.results= #[]:=Array.eq_empty_of_size_eq_zero hres
   refine⟨.tuple #[],?_,_,rfl,WO g (fun b=>∃i,B i=some b),fun b hb=> .inr hb,?_⟩
   ·have:results fn a'.tmps=(do
     let vs←fn.results.mapM (z14 a'.tmps)
     pure (if h:vs.size=1 then vs[0] else .tuple vs)):=rfl
    rw[this,hre]
    simp[Sem.run_bind,Sem.run_pure]
   ·obtain⟨i,s⟩:=p
    cases s with
    |true=>exact .inr hnow
    |false=>exact .inl ⟨i,hq.resolve_left (by simp),hnow⟩
  cases e<;>simp only[z7Bb] at hl<;>simp only[bodyPostM]
  ·obtain⟨b',p',st',hz',hh',hR',hq⟩:=hl
   exact fin b' p' st' hz' hh' hR' hq
  ·obtain⟨b',p',st',hz',hh',hR',hq⟩:=hl
   exact hq
  ·obtain⟨b',p',st',hz',hh',hR',hq⟩:=hl
   exact fin b' p' st' hz' hh' hR' hq
end
end Go.Abs
end

section
namespace Go.Abs
set_option maxRecDepth 100000
end Go.Abs
end

section
namespace Go.Abs

/-! ### strings.Builder -/
@[simp] theorem z48d (id:Nat) (c x:z2a) (xs:List z2a):z26a 0 id c x xs={val:=i64 (z9r c)}:=rfl
@[simp] theorem z53d (id:Nat) (c x:z2a) (xs:List z2a):z26a 1 id c x xs={val:= .tup [i64 (z9r x),.lit .nilIface],bx:=[(id,some [.undef,.sl (.own 1) none (z9r c+z9r x) (z8f [] c++xs)])]}:=rfl
@[simp] theorem z4ge (id:Nat) (c x:z2a) (xs:List z2a):z26a 2 id c x xs={val:= .tup [i64 (z9r x),.lit .nilIface],bx:=[(id,some [.undef,.sl (.own 1) none (z9r c+z9r x) (z8f [] c++xs)])]}:=rfl
@[simp] theorem z65d (id:Nat) (nl:Option Bool) (n:Nat) (l:List UInt8) (x:z2a) (xs:List z2a):z26a 3 id (.sl (.own 1) nl n (bys l)) x xs={val:=st l,bx:=[(id,some [])]}:=by
 show({val:= .lit (.string (z30 (z3ba l))),bx:=_}:Eff)=_
 rw[z54a]
 rfl
theorem kT {E:Env} {c:Arg} {a b:z3a} {Q:z7h→ASt→Prop} {s:ASt} (h:arg E s.get c=bo true):awp E (.cond c a b) Q s=awp E a Q s:=by
 rw[z6d,h];simp
theorem kF {E:Env} {c:Arg} {a b:z3a} {Q:z7h→ASt→Prop} {s:ASt} (h:arg E s.get c=bo false):awp E (.cond c a b) Q s=awp E b Q s:=by
 rw[z6d,h];simp

/-! ### Iterators -/
theorem z5Ub {f:Nat×Bool→ASt→Prop} {Q:IQ} {p:Nat×Bool}:(fun e st'=>z8sb f Q e p st')=z4va (fun st'=>f p st') (fun e st'=>Q e p st'):=by
 funext e st'
 cases e<;>rfl
@[simp] theorem z2Cd (E:Env) (l:Nat) (el:Nat→Option (List z2a)) (c:z3a) (Q:IQ) (p:Nat×Bool) (s:ASt):z0ga E l el (.plain c) Q p s=awp E c (fun e st'=>Q e p st') s:=rfl
@[simp] theorem z6Vd (E:Env) (l:Nat) (el:Nat→Option (List z2a)) (c:z3a) (b:z0P) (Q:IQ) (p:Nat×Bool) (s:ASt):z0ga E l el (.seq (.plain c) b) Q p s=awp E c (z4va (fun st'=>z0ga E l el b Q p st') (fun e st'=>Q e p st')) s:=by
 simp only[z0ga,z5Ub]
@[simp] theorem z7Md (E:Env) (l:Nat) (el:Nat→Option (List z2a)) (i:Nat) (b:z0P) (Q:IQ) (p:Nat×Bool) (s:ASt):z0ga E l el (.block i b) Q p s=z0ga E l el b (z38a i Q) p s:=rfl
@[simp] theorem z1Lc (f:Nat×Bool→ASt→Prop) (Q:IQ) (p:Nat×Bool) (s:ASt):z8sb f Q .normal p s=f p s:=rfl
@[simp] theorem z0fd (f:Nat×Bool→ASt→Prop) (Q:IQ) (i:Nat) (p:Nat×Bool) (s:ASt):z8sb f Q (.exit i) p s=Q (.exit i) p s:=rfl
@[simp] theorem z4rc (i:Nat) (Q:IQ) (p:Nat×Bool) (s:ASt):z38a i Q .normal p s=Q .normal p s:=rfl
@[simp] theorem z03c (i:Nat) (Q:IQ) (p:Nat×Bool) (s:ASt):z38a i Q (.exit i) p s=Q .normal p s:=by simp[z38a]
def z0id (E:Env) (f:ASt→Prop):List z2b→ASt→Prop
 |[],st=>f st
 |o::os,st=>okA E o st∧z0id E f os (z8e E o st)
attribute [simp] z0id
theorem z83b (E:Env) (f:ASt→Prop):∀(xs:List z2b) (st:ASt),z0id E f xs st=(z6V E xs st∧f (z1ga E xs st))
 |[],st=>by simp only[z0id,z6V,z1ga,true_and]
 |o::os,st=>by simp only[z0id,z6V,z1ga,z83b E f os];exact propext and_assoc.symm
@[simp] theorem z5Hd (E:Env) (l:Nat) (el:Nat→Option (List z2a)) (keep:List Nat) (gs:List z9t) (xs:List z2b) (d:Option Nat) (y:Nat) (as:List Arg) (zs:List z2b) (Q:IQ) (p:Nat×Bool) (s:ASt):
  z0ga E l el (.yield keep gs xs d y as zs) Q p s=((∀s'∈d.toList,lk s.org s'=none)∧z0id E (fun st0=>p.2=false∧el p.1=some (as.map (arg E (z4tb st0).get))∧z6b (as.map (arg E (z4tb st0).get))=true∧(z4tb st0).get y= .lit (.func (.yield l) #[] #[])∧(∀q∈(z4tb st0).box,∀cs,q.2=some cs→cs.all yOk=true∧q.1<1000000)∧
   ∀b:Bool,z6xb E keep gs (fun e s=>Q e (if b then(p.1+1,false) else(p.1,true)) s) zs (z4ic d b (z4tb st0))) xs s):=by
 simp only[z83b,z39a,z0ga]
 apply propext
 constructor
 ·rintro⟨h1,h2,h3,h4,h5,h6,h8,h9⟩
  exact⟨h2,h1,h3,h4,h5,h6,h8,h9⟩
 ·rintro⟨h2,h1,h3,h4,h5,h6,h8,h9⟩
  exact⟨h1,h2,h3,h4,h5,h6,h8,h9⟩
@[simp] theorem z3Ed (d:Nat) (b:Bool) (o e:List (Nat×z2a)) (bx:List (Nat×Option (List z2a))):z4ic (some d) b ⟨o,e,bx⟩=⟨o,(d,bo b)::e,bx⟩:=rfl
@[simp] theorem z7Jd (b:Bool) (o e:List (Nat×z2a)) (bx:List (Nat×Option (List z2a))):z4ic none b ⟨o,e,bx⟩=⟨o,e,bx⟩:=rfl
@[simp] theorem z4ae (o e:List (Nat×z2a)) (b:List (Nat×Option (List z2a))):z4tb ⟨o,e,b⟩=⟨o,e.map fun q=>(q.1,if yOk q.2 then q.2 else .undef),b.map fun q=>(q.1,q.2.map z5Ba)⟩:=rfl
@[simp] theorem yOk_ep (cs:List z2a):yOk (.ep cs)=false:=rfl
@[simp] theorem yOk_sl (m:z0ka) (nl:Option Bool) (n:Nat) (cs:List z2a):yOk (.sl m nl n cs)=z5b (.sl m nl n cs):=rfl
@[simp] theorem z0ud:yOk .undef=true:=rfl
@[simp] theorem yOk_bp (i o:Nat):yOk (.bp i o)=true:=rfl
@[simp] theorem z35d (v:Value):yOk (.lit v)=true:=rfl
@[simp] theorem yOk_st (l:List UInt8):yOk (st l)=true:=rfl
@[simp] theorem yOk_bo (b:Bool):yOk (bo b)=true:=rfl
@[simp] theorem z88d (n:Int):yOk (i64 n)=true:=rfl
@[simp] theorem z3ee (cs:List z2a):yOk (.agg cs)=z6b cs:=rfl
@[simp] theorem z0de (cs:List z2a):yOk (.tup cs)=z6b cs:=rfl
@[simp] theorem z7Qd (E:Env) (l:Nat) (el:Nat→Option (List z2a)) (keep:List Nat) (gs:List z9t) (xs:List z2b) (d:Option Nat) (y:Nat) (as:List Arg) (zs:List z2b) (b:z0P) (Q:IQ) (p:Nat×Bool) (s:ASt):
  z0ga E l el (.seq (.yield keep gs xs d y as zs) b) Q p s=z0ga E l el (.yield keep gs xs d y as zs) (z8sb (fun p st=>z0ga E l el b Q p st) Q) p s:=rfl
theorem z1Pb {E:Env} {l:Nat} {el:Nat→Option (List z2a)} {b:z0P} {Q:IQ} {p:Nat×Bool} {s:ASt} (h:∀Q',Q'=Q→z0ga E l el b Q' p s):z0ga E l el b Q p s:=h Q rfl
def inp (label:List UInt8) (parts:List (List UInt8)):List UInt8:=z5N label++parts.flatMap z5N
def drv (key label:List UInt8) (parts:List (List UInt8)):List UInt8:=mac key (inp label parts)
theorem z31c (k l:List UInt8) (p:List (List UInt8)):(drv k l p).length=32:=z5Ta _
attribute [simp] z31c
theorem z6sa {E:Env} {f:Nat} {t:Arg} {ks ps:List Nat} {as bd:z3a} {Q:z7h→ASt→Prop} {st:ASt} (x y:List z2a) (hx:arg E st.get t= .fn f x y) (hp:z3f (x++y)=true) (hlv:(E.I f).lv=[]) (hpre:(E.I f).pre x y) (hps:∀p∈ps,p∉ks∧lk st.org p=none) (N:Nat) (I:Nat→List (Nat×Option (List z2a))→Prop) (h0:I 0 st.box) (hb:∀i bx,I i bx→i≤N)
  (hd:∀i bx,I i bx→(E.I f).el x y i=none→Q .normal {org:=st.org,env:=z8r st ks,box:=bx})
  (hr:∀i bx xs,I i bx→(E.I f).el x y i=some xs→xs.length=ps.length∧z6b xs=true∧∀V:Nat→Value,awp E as (z4va (awp E bd (z9Eb st ks V (I (i+1)) Q)) (fun _ _=>False)) (z0ya st ks ps V xs bx)):awp E (.range f t ks ps as bd) Q st:=by
 refine⟨x,y,hx,by rw[hlv,z9tb];exact hp,by rw[hlv,z12a];exact hpre,hps,N,I,by rw[hlv,z5Aa,z4gc];exact h0,hb,fun i bx h he=>by rw[hlv,z5Aa,z9pa];exact hd i bx h (by rw[hlv,z12a] at he;exact he),fun i bx xs h he=> ?_⟩
 obtain⟨h1,h2,h3⟩:=hr i bx xs h (by rw[hlv,z12a] at he;exact he)
 refine⟨h1,h2,fun V=> ?_⟩
 have e:z9Eb st ks V (I (i+1)) (fun e s=>z4pb st ks [] Q e s.box)=z9Eb st ks V (I (i+1)) Q:=by
  funext e s
  cases e with
  |normal=>rfl
  |exit id=>simp only[z9Eb,z9pa]
  |ret=>simp only[z9Eb,z9pa]
 rw[hlv,z5Aa,z9sb,e]
 exact h3 V
@[simp] theorem z6Fb (l:Nat) (x y:List z2a):z57b l [] x y=z3b [] (x++ .lit (.func (.yield l) #[] #[])::y):=by simp[z57b,z3b,lvS]

end Go.Abs
end

section
namespace Go.Abs

def z2ic:Nat→List z2a→List (Nat×z2a)
 |_,[]=>[]
 |i,d::ds=>(i,dem d)::z2ic (i+1) ds
def z6vb (c:CW) (p:Nat→Value) (ds:List z2a) (bs:Nat→List z2a):ASt:=
 {org:=c.hold.map fun j=>(j,.lit (p j)),env:=z2ic 0 ds,box:=c.bx.map fun j=>(j,some (bs j))}
def held (st:ASt) (p:Value) (d:z2a):Prop:=∃t V id e o n c e' o' n' c',lk st.org t=some (.lit V)∧z2Qc V=z2Qc p∧st.get t= .bv id e o n c∧d= .bv id e' o' n' c'
def z2Sd (res:List z4Fa) (c:CW) (p:Nat→Value) (ds:List z2a) (bs:Nat→List z2a):z7h→ASt→Prop
 | .normal,st| .ret,st=>(∀r∈res,z3Fa st r)∧z7U st res=c.post ds bs∧(∀j∈c.hold,(lk st.org j=some (.lit (p j))∧st.get j=dem (ds.getD j .undef))∨held st (p j) (ds.getD j .undef))∧(∀j∈c.bx++c.nb,st.getB j=some (c.out ds bs j))∧
  (∀id∈z5m (c.post ds bs),id∈c.bx++c.nb)∧(∀j∈c.bx++c.nb,∀id∈z9f (c.out ds bs j),id∈c.bx++c.nb)
 |_,_=>False

section
variable {K : Cx} {base : z3s} {n : Nat} {st : ASt} {a : Act} {w : World}
theorem z3pc (d:z2a):z5m (Abs.dem d)=z5m d:=by
 cases d with
 |sl m nl n cs=>cases m<;>rfl
 |oagg=>simp only[Abs.dem,z5m,z1O,z9f,List.nil_append]
 |_=>rfl
mutual
theorem z1Gc {K:Con} {g g':Gh} {w w':World}:∀(d:z2a) (v:Value) (l l':Option Loc),Rep K g w l d v→Rep K g' w' l' d v→∀id∈z5m d,g.mu id=g'.mu id
 | .bp id off,v,_,_,h,h',i,hi=>by
  simp only[z5m,List.mem_singleton] at hi
  subst hi
  simp only[Rep] at h h'
  obtain⟨b,hb,rfl⟩:=h
  obtain⟨b',hb',e⟩:=h'
  simp only[Value.pointer.injEq,Option.some.injEq,Addr.mk.injEq,and_true] at e
  rw[hb,hb',e]
 | .bv id e off n c,v,_,_,h,h',i,hi=>by
  simp only[z5m,List.mem_singleton] at hi
  subst hi
  simp only[Rep] at h h'
  obtain⟨b,cap,o,hb,rfl,_⟩:=h
  obtain⟨b',cap',o',hb',e,_⟩:=h'
  simp only[Value.slice.injEq,Option.some.injEq,Addr.mk.injEq,and_true] at e
  rw[hb,hb',e.1.1]
 | .agg cs,v,_,_,h,h',i,hi=>by
  simp only[Rep] at h h'
  obtain⟨a,rfl,h⟩:=h
  obtain⟨a',e,h'⟩:=h'
  cases e
  exact z6oa cs _ h h' i (by simpa[z5m] using hi)
 | .tup cs,v,_,_,h,h',i,hi=>by
  simp only[Rep] at h h'
  obtain⟨a,rfl,h⟩:=h
  obtain⟨a',e,h'⟩:=h'
  cases e
  exact z6oa cs _ h h' i (by simpa[z5m] using hi)
 | .fn f x y,v,_,_,h,h',i,hi=>by
  simp only[Rep] at h h'
  obtain⟨a,c,rfl,h1,h2⟩:=h
  obtain⟨a',c',e,h1',h2'⟩:=h'
  simp only[Value.func.injEq] at e
  obtain⟨_,rfl,rfl⟩:=e
  simp only[z5m,List.mem_append] at hi
  rcases hi with hi|hi
  ·exact z6oa x _ h1 h1' i hi
  ·exact z6oa y _ h2 h2' i hi
 | .undef,_,_,_,_,_,i,hi=>by simp[z5m] at hi
 | .lit _,_,_,_,_,_,i,hi=>by simp[z5m] at hi
 | .sl _ _ _ _,_,_,_,_,_,i,hi=>by simp[z5m] at hi
 | .ep _,_,_,_,_,_,i,hi=>by simp[z5m] at hi
 | .otup _ _ _ _ rest,v,_,_,h,h',i,hi=>by
  simp only[Rep] at h h'
  obtain⟨a,x,xs,rfl,h0,_,h⟩:=h
  obtain⟨a',x',xs',e,h0',_,h'⟩:=h'
  cases e
  rw[h0] at h0'
  cases h0'
  exact z6oa rest _ h h' i (by simpa[z5m] using hi)
 | .oagg pre _ _ _ _ rest,v,_,_,h,h',i,hi=>by
  simp only[Rep] at h h'
  obtain⟨a,ps,x,xs,rfl,h0,h1,_,h⟩:=h
  obtain⟨a',ps',x',xs',e,h0',h1',_,h'⟩:=h'
  cases e
  rw[h0] at h0'
  obtain⟨e1,e2⟩:=List.append_inj h0' (by rw[←h1.len,←h1'.len])
  subst e1
  cases e2
  simp only[z5m,List.mem_append] at hi
  rcases hi with hi|hi
  ·exact z6oa pre _ h1 h1' i hi
  ·exact z6oa rest _ h h' i hi
theorem z6oa {K:Con} {g g':Gh} {w w':World}:∀(ds:List z2a) (vs:List Value),z5d K g w ds vs→z5d K g' w' ds vs→∀id∈z9f ds,g.mu id=g'.mu id
 |[],_,_,_,i,hi=>by simp[z9f] at hi
 |c::cs,l,h,h',i,hi=>by
  simp only[z5d] at h h'
  obtain⟨x,xs,rfl,h1,h2⟩:=h
  obtain⟨x',xs',e,h1',h2'⟩:=h'
  cases e
  simp only[z9f,List.mem_append] at hi
  rcases hi with hi|hi
  ·exact z1Gc c x none none h1 h1' i hi
  ·exact z6oa cs xs h2 h2' i hi
end
theorem z7zb:∀(ds:List z2a) (i s:Nat),lk (z2ic i ds) s=if i≤s then(ds[s-i]?).map Abs.dem else none
 |[],i,s=>by simp[z2ic,lk]
 |d::ds,i,s=>by
  simp only[z2ic,lk]
  by_cases h:s=i
  ·subst h;simp
  ·rw[if_neg h,z7zb ds (i+1) s]
   by_cases hi:i≤s
   ·rw[if_pos hi,if_pos (by omega),show s-i=(s-(i+1))+1 by omega]
    simp
   ·rw[if_neg hi,if_neg (by omega)]

theorem z70b {g:Gh} {c:CW} {ds:List z2a} {bs:Nat→List z2a} {vs:List Value} (hI:Inv K ⟨w,Wr g,g.S,[],g.mu⟩ g w (c.ins bs)) (hA:z5d K.toCon g w ds vs) (m:Nat) (hm:vs.length+m=n):
  Rel K ⟨w,Wr g,g.S,[],g.mu⟩ n (z6vb c (fun j=>vs.getD j undef) ds bs) {tmps:=vs.toArray++Array.replicate m undef,defers:=[]} w:=by
 have hget:∀s v,vs[s]? =some v→(vs.toArray++Array.replicate m undef).getD s undef=v:=fun s v hv=>by
  have hs:s<vs.length:=(List.getElem?_eq_some_iff.1 hv).1
  rw[Array.getD_eq_getD_getElem?,Array.getElem?_append_left (by simpa using hs)]
  simp[hv]
 have hgb:(z6vb c (fun j=>vs.getD j undef) ds bs).getB=c.ins bs:=funext fun j=>by
  simp only[ASt.getB,z6vb,z7xa fun j=>some (bs j),CW.ins]
  split<;>rfl
 have horg:∀s,lk (z6vb c (fun j=>vs.getD j undef) ds bs).org s=if s∈c.hold then some (.lit (vs.getD s undef)) else none:=fun s=>
  z7xa (fun j=>z2a.lit (vs.getD j undef)) s c.hold
 have hall:∀s,(vs.toArray++Array.replicate m undef).getD s undef=vs.getD s undef:=fun s=>by
  cases hv:vs[s]? with
  |some v=>rw[hget s v hv,List.getD_eq_getElem?_getD,hv];rfl
  |none=>
   rw[List.getD_eq_getElem?_getD,hv]
   have hs:vs.length≤s:=List.getElem?_eq_none_iff.1 hv
   rw[Array.getD_eq_getD_getElem?,Array.getElem?_append_right (by simpa using hs)]
   simp only[Array.getElem?_replicate,Option.getD_none]
   split<;>rfl
 refine⟨g,by rw[hgb];exact hI,fun s=> ?_,fun s d hs=> ?_,rfl,by simp;exact hm⟩
 ·unfold ASt.get
  rw[horg]
  show Rep K.toCon g w (some (.slot s)) (match lk (z2ic 0 ds) s with|some d=>d|none=>_) _
  rw[z7zb,if_pos (Nat.zero_le _),Nat.sub_zero]
  cases hd:ds[s]? with
  |none=>
   simp only[Option.map_none]
   by_cases hh:s∈c.hold
   ·rw[if_pos hh]
    simp only[Option.getD_some,Abs.dem,Rep]
    exact hall s
   ·rw[if_neg hh]
    simp[Abs.dem,Rep]
  |some d=>
   obtain⟨v,hv,hr⟩:=hA.get s d hd
   rw[hget s v hv]
   simp only[Option.map_some]
   exact Rep.dem _ hr
 ·rw[horg] at hs
  split at hs
  ·cases hs
   show z6c _ _ _ _ _
   rw[hall s]
   simp[z6c]
  ·cases hs

theorem z9Bb {f:Nat} {fn:Func} {F:z6e} {c:CW} (hf:K.P.funcs[K.nu f]? =some fn) (hc:z2f K F fn=true) (hs:z5Vb K F.body)
  (h:∀ds bs p,c.pre ds bs→ds.length=F.n∧awp K.E F.body (z2Sd F.res c p ds bs) (z6vb c p ds bs)) (ht:z0s F.body=true):z73 K f c:=by
 simp only[z2f,Bool.and_eq_true,Bool.not_eq_true',decide_eq_true_eq] at hc
 obtain⟨⟨⟨hname,hbody⟩,hres⟩,hsz⟩:=hc
 cases hbd:fn.body with
 |none=>rw[hbd] at hbody;cases hbody
 |some code=>
  rw[hbd] at hbody
  simp only at hbody
  refine⟨⟨fn,hf,by rw[hbd];rfl,hname⟩,fun g0 w ds bs vs hI0 hA hcov hpre=> ?_⟩
  obtain⟨hlen,hw⟩:=h ds bs (fun j=>vs.getD j undef) hpre
  have hl2:=hA.len
  refine callsIn_wide.1 (callsIn_of_wp_marks (F:=WF none) (n:=0) hf hbd (z3eb none _) ?_)
  have hR:=z70b (n:=fn.ntmps) hI0 hA (fn.ntmps-vs.length) (by omega)
  have hwp:=hs fn.ntmps code _ _ _ _ w hbody (.inl ht) hw hR
  simp only[List.size_toArray]
  refine wpIn_mono hwp fun e a' w' hl=> ?_
  have fin:∀st g w',Inv K ⟨w,Wr g0,g0.S,[],g0.mu⟩ g w' st.getB→z3e K g w' st.get a'→(∀j V,lk st.org j=some (.lit V)→a'.tmps.getD j undef=V)→z2Sd F.res c (fun j=>vs.getD j undef) ds bs .ret st→
    ∃v,(results fn a'.tmps).run K.P w'= .ok v w'∧∃v' g',Ending.returned v= .returned v'∧Inv K ⟨w,Wr g0,g0.S,[],g0.mu⟩ g' w' (c.outs ds bs)∧(∀j∈c.bx,g'.mu j=g0.mu j)∧Rep K.toCon g' w' (some .ret) (c.post ds bs) v':=fun st g w' hI hS hO hq=>by
   obtain⟨hok,hval,hbx,hout,hr1,hr2⟩:=hq
   obtain⟨xs,h1,h2,h3,_⟩:=z5Ma hI hS hres hok
   have hmap:fn.results.mapM (z14 a'.tmps)=Functor.map List.toArray (fn.results.toList.mapM (z14 a'.tmps)):=by
    exact Array.mapM_eq_mapM_toList
   have hrun:(results fn a'.tmps).run K.P w'= .ok (if h:xs.toArray.size=1 then xs.toArray[0] else .tuple xs.toArray) w':=by
    have:results fn a'.tmps=(do
     let vs←fn.results.mapM (z14 a'.tmps)
     pure (if h:vs.size=1 then vs[0] else .tuple vs)):=rfl
    rw[this,hmap]
    simp only[map_eq_pure_bind,Sem.run_bind,h1,Result.andThen_ok,Sem.run_pure]
   refine⟨_,hrun,?_⟩
   let g':Gh:={g with mu:=fun j=>if j∈c.bx++c.nb then g.mu j else none}
   have hI':Inv K ⟨w,Wr g0,g0.S,[],g0.mu⟩ g' w' (c.outs ds bs):=z2Hb hI (c.bx++c.nb) hout hr2
   have hmu:∀j∈c.bx,g'.mu j=g0.mu j:=fun j hj=>by
    rcases hcov j hj with hvia|⟨i,hi,d,hd,hjd⟩
    ·obtain⟨b,k1,_⟩:=hI.bxok j _ (hout j (List.mem_append_left _ hj))
     simp only[g',if_pos (List.mem_append_left c.nb hj),k1]
     exact(hI.old j b hvia.1 hvia.2 k1).symm
    obtain⟨v0,hv0,hr0⟩:=hA.get i d hd
    have hv0':vs.getD i undef=v0:=by rw[List.getD_eq_getElem?_getD,hv0];rfl
    have hdd:ds.getD i .undef=d:=by rw[List.getD_eq_getElem?_getD,hd];rfl
    rcases hbx i hi with⟨k1,k2⟩|⟨t,V,id,e,o,n,c',e',o',n',c'',k1,kb,k2,k3⟩
    rotate_left
    ·have e1:=hO t V k1
     have e2:=hS t
     rw[k2,e1] at e2
     rw[hdd] at k3
     subst k3
     simp only[Rep] at e2 hr0
     obtain⟨b2,_,_,m2,v2,_⟩:=e2
     obtain⟨b1,_,_,m1,v1,_⟩:=hr0
     simp only[hv0',v1,v2,z2Qc,Option.some.injEq] at kb
     subst kb
     simp only[z5m,List.mem_singleton] at hjd
     subst hjd
     simp only[g',if_pos (List.mem_append_left c.nb hj),m2,m1]
    have e1:a'.tmps.getD i undef=vs.getD i undef:=hO i _ k1
    have e2:=hS i
    rw[k2,e1] at e2
    rw[hv0',hdd] at e2
    have hdj:j∈z5m (Abs.dem d):=by rw[z3pc];exact hjd
    have:=z1Gc (Abs.dem d) v0 _ _ e2 (Rep.dem (some (.slot i)) hr0) j hdj
    simp only[g',if_pos (List.mem_append_left c.nb hj)]
    exact this
   have cut:∀{d:z2a} {v:Value} {l:Option Loc},(∀id∈z5m d,id∈c.bx++c.nb)→Rep K.toCon g w' l d v→Rep K.toCon g' w' l d v:=fun {d v l} hd hr=>
    Rep.mono (g:=g) (g':=g') (z1g.refl g.S w') d v l l (fun id hid b hb=>by simp only[g',if_pos (hd id hid)];exact hb) (fun m hm=>⟨m,hm,fun b hb=>⟨hb,rfl,fun _ _ h=>h⟩⟩) hr
   by_cases hone:∃s,F.res=[.t s]
   ·obtain⟨s,hs⟩:=hone
    have hx:=h3 s hs
    subst hx
    rw[hs] at hval
    simp only[z7U] at hval
    refine⟨a'.tmps.getD s undef,z4H g' (.slot s) .ret,by simp,z17 hI' s .ret,hmu,?_⟩
    rw[←hval] at hr1⊢
    exact z1r (cut hr1 (hS s))
   ·have hl3:=h2.len
    simp only[List.length_map] at hl3
    have rest:∀{d:z2a} {v:Value},Rep K.toCon g w' none d v→z5e d=false→d=c.post ds bs→Rep K.toCon g' w' (some .ret) (c.post ds bs) v:=fun {d v} hr ho he=>by
     subst he;exact z8T _ ho (cut hr1 hr)
    have hdem:∀d:z2a,z5e (dem d)=false:=z4M
    cases hF:F.res with
    |nil=>
     rw[hF] at h2 hval hl3
     simp only[List.map_nil,z5d] at h2
     subst h2
     refine⟨_,g',rfl,hI',hmu,?_⟩
     refine rest (d:= .tup []) ?_ rfl (by rw[←hval];rfl)
     simp[Rep,z5d]
    |cons r rs=>
     rw[hF] at h2 hval hl3 hone
     cases rs with
     |nil=>
      simp only[List.map_cons,List.map_nil,z5d] at h2
      obtain⟨x,ys,rfl,h4,rfl⟩:=h2
      refine⟨x,g',by simp,hI',hmu,?_⟩
      cases r with
      |t s=>exact absurd ⟨s,rfl⟩ hone
      |o s=>
       simp only[z7U] at hval
       exact rest h4 (hdem _) hval
      |cell s k id=>
       simp only[z7U] at hval
       refine rest h4 ?_ hval
       cases k with
       |none=>exact hdem _
       |some n=>rfl
     |cons r2 rs=>
      have h5:¬(xs.toArray.size=1):=by simp only[List.size_toArray,←hl3,List.length_cons];omega
      refine⟨.tuple xs.toArray,g',by rw[dif_neg h5],hI',hmu,?_⟩
      refine rest (d:= .tup ((r::r2::rs).map (z24a st))) ?_ rfl (by rw[←hval];cases r<;>rfl)
      simp only[Rep]
      exact⟨_,rfl,by simpa using h2⟩
  cases e<;>simp only[z2Pa] at hl<;>simp only[bodyPostM]
  ·obtain⟨b',hE,st,hR',hq⟩:=hl
   exact z6Qb hE rfl hR' fun g w' hI hS hO=>fin st g w' hI hS (fun j _ hj=>by have:=hO j _ hj;simpa[z6c] using this) hq
  ·obtain⟨b',hE,st,_,hq⟩:=hl
   exact hq
  ·obtain⟨b',hE,st,hR',hq⟩:=hl
   exact z6Qb hE rfl hR' fun g w' hI hS hO=>fin st g w' hI hS (fun j _ hj=>by have:=hO j _ hj;simpa[z6c] using this) hq

theorem z5vb {f:Nat} {fn:Func} {F:z6e} {c:CW} (hf:K.P.funcs[K.nu f]? =some fn) (hc:z2f K F fn=true) (hv:∀p∈z7b F.body,VB K p)
  (h:∀ds bs p,c.pre ds bs→ds.length=F.n∧awp K.E F.body (z2Sd F.res c p ds bs) (z6vb c p ds bs)) (hfl:z6m F.body=true) (ht:z0s F.body=true):z73 K f c:=z9Bb hf hc (z0ca hv hfl) h ht
end
end Go.Abs
end

section
namespace Go.Abs
def z9La (c:z5a) (μ:List z2a→Nat) (n:Nat):z5a:=⟨fun ds=>c.pre ds∧μ ds<n,c.post⟩
def Cx.wG (K:Cx) (f:Nat) (c:z5a):Cx:={K with E:={K.E with G:=fun g=>if g=f then c else K.E.G g}}
section
variable {K : Cx}
theorem z9yc {f g:Nat} {c c':z5a}:z6a (K.wG f c) g c'↔z6a K g c':=Iff.rfl
theorem z2Ob {f:Nat} {c:z5a} {base:z3s} {g:Gh} {w:World} {bx:Nat→Option (List z2a)}:Inv (K.wG f c) base g w bx↔Inv K base g w bx:=
 ⟨fun h=>⟨h.fr,h.sS,h.inj,h.bxok,h.nobx,h.muW,h.owW,h.glob,h.kp,h.obok,h.old⟩,fun h=>⟨h.fr,h.sS,h.inj,h.bxok,h.nobx,h.muW,h.owW,h.glob,h.kp,h.obok,h.old⟩⟩
theorem z8cc {f g:Nat} {c:z5a} {c':CM} (h:z5y K g c'):z5y (K.wG f c) g c':=by
 refine⟨h.1,fun g0 w ds vs hI hA hp=> ?_⟩
 refine(h.2 g0 w ds vs (z2Ob.1 hI) hA hp).mono ?_
 rintro e w' ⟨v,g',h1,h2,h3,h4⟩
 exact⟨v,g',h1,z2Ob.2 h2,h3,h4⟩
theorem z3dc {f g:Nat} {c:z5a} {c':CW} (h:z73 K g c'):z73 (K.wG f c) g c':=by
 refine⟨h.1,fun g0 w ds bs vs hI hA hc hp=> ?_⟩
 refine(h.2 g0 w ds bs vs (z2Ob.1 hI) hA hc hp).mono ?_
 rintro e w' ⟨v,g',h1,h2,h3,h4⟩
 exact⟨v,g',h1,z2Ob.2 h2,h3,h4⟩
theorem z7Ed {f k:Nat} {c:z5a} (h:z8db K k):z8db (K.wG f c) k:=⟨h.call,h.len,h.wstr,h.write,h.str⟩
theorem z92d {f:Nat} {c:z5a} {p:Nat×Bool} (hp:p≠(f,false)) (h:VB K p):VB (K.wG f c) p:=by
 obtain⟨g,b⟩:=p
 cases b with
 |false=>
  have hg:g≠f:=fun e=>hp (by rw[e])
  have e:(K.wG f c).E.G g=K.E.G g:=if_neg hg
  show z6a (K.wG f c) g ((K.wG f c).E.G g)
  rw[e]
  exact h
 |true=>
  revert h
  simp only[VB]
  cases Nat.ble 999999990 g with
  |true=>exact z7Ed
  |false=>
   cases Nat.ble 500000000 g with
   |true=>exact z3dc
   |false=>exact z8cc
theorem z6Yb {f:Nat} {c:z5a} (μ:List z2a→Nat) (hcal:z0U K.P (K.nu f)) (h:∀n,z6a K f (z9La c μ n)→z6a K f (z9La c μ (n+1))):z6a K f c:=by
 have all:∀n,z6a K f (z9La c μ n):=fun n=>by
  induction n with
  |zero=>exact⟨hcal,fun S w ds vs _ _ hp=>absurd hp.2 (Nat.not_lt_zero _)⟩
  |succ n ih=>exact h n ih
 exact⟨hcal,fun S w ds vs hg hr hp=>(all (μ ds+1)).2 S w ds vs hg hr ⟨hp,Nat.lt_succ_self _⟩⟩
theorem z03d {f:Nat} {F:z6e} (hv:∀p∈z7b F.body,p≠(f,false)→VB K p) (c':z5a) (ih:z6a (K.wG f c') f c'):∀p∈z7b F.body,VB (K.wG f c') p:=fun p hp=>by
 by_cases e:p=(f,false)
 ·subst e
  have e:(K.wG f c').E.G f=c':=if_pos rfl
  show z6a (K.wG f c') f ((K.wG f c').E.G f)
  rw[e]
  exact ih
 ·exact z92d e (hv p hp e)
theorem z04a {f:Nat} {fn:Func} {F:z6e} {c:z5a} (μ:List z2a→Nat) (hf:K.P.funcs[K.nu f]? =some fn) (hc':∀c',z2f (K.wG f c') F fn=true) (hs:∀c',z6a (K.wG f c') f c'→z5Vb (K.wG f c') F.body)
  (h:∀n ds,(z9La c μ (n+1)).pre ds→ds.length=F.n∧awp (K.wG f (z9La c μ n)).E F.body (z0m F.res (c.post ds)) (z3b F.wr ds)):z6a K f c:=by
 have hc:=hc' c
 have hname:fn.body.isSome=true∧fn.name≠ "runtime.NumGoroutine" :=by
  simp only[z2f,Bool.and_eq_true,Bool.not_eq_true'] at hc
  refine⟨?_,by simpa using hc.1.1.1⟩
  cases hb:fn.body with
  |none=>simp[hb] at hc
  |some _=>rfl
 refine z6Yb μ ⟨fn,hf,hname.1,?_⟩ fun n ih=> ?_
 ·have:=hc
  simp only[z2f,Bool.and_eq_true,Bool.not_eq_true'] at this
  exact this.1.1.1
 ·exact z9yc.1 (z2Ka (K:=K.wG f (z9La c μ n)) (f:=f) (F:=F) (c:=z9La c μ (n+1)) hf (hc' _) (hs _ ih) (h n))
theorem z97 {f:Nat} {fn:Func} {F:z6e} {c:z5a} (μ:List z2a→Nat) (hf:K.P.funcs[K.nu f]? =some fn) (hc':∀c',z2f (K.wG f c') F fn=true) (hv:∀p∈z7b F.body,p≠(f,false)→VB K p)
  (h:∀n ds,(z9La c μ (n+1)).pre ds→ds.length=F.n∧awp (K.wG f (z9La c μ n)).E F.body (z0m F.res (c.post ds)) (z3b F.wr ds)) (hfl:z6m F.body=true):z6a K f c:=z04a μ hf hc' (fun c' ih=>z0ca (z03d hv c' ih) hfl) h


def z3db:z2a→Prop
 | .sl _ none _ _=>False
 | .sl _ (some true) n cs=>n=0∧cs=[]
 |_=>True
def z3ab (b:Bool):z2a→z2a
 | .sl m none n cs=> .sl m (some b) n cs
 |d=>d
theorem z7zc {S:Nat→Nat} {w:World} {d:z2a} {v:Value} (h:z6c K.toCon S w d v):∃b,z3db (z3ab b d)∧z6c K.toCon S w (z3ab b d) v:=by
 cases d with
 |sl m nl n cs=>
  cases nl with
  |none=>
   simp only[z6c] at h
   rcases h with⟨b,o,cap,h1,h2,h3,h4,h5⟩|⟨q,h1,h2,h3,h4⟩
   ·exact⟨false,by simp[z3ab,z3db],by simp only[z3ab,z6c];exact .inl ⟨b,o,cap,h1,h2,h3,by simp,h5⟩⟩
   ·cases q with
    |none=>exact⟨true,by simp[z3ab,z3db,h2,h3],by simp only[z3ab,z6c];exact .inr ⟨none,h1,h2,h3,by simp⟩⟩
    |some q=>exact⟨false,by simp[z3ab,z3db],by simp only[z3ab,z6c];exact .inr ⟨some q,h1,h2,h3,by simp⟩⟩
  |some b=>
   cases b with
   |false=>exact⟨false,by simp[z3ab,z3db],h⟩
   |true=>
    refine⟨true,?_,h⟩
    simp only[z6c] at h
    rcases h with⟨_,_,_,_,_,_,h4,_⟩|⟨_,_,h2,h3,_⟩
    ·exact absurd rfl h4
    ·exact⟨h2,h3⟩
 |_=>exact⟨true,by simp[z3ab,z3db],h⟩
theorem z9lb {S:Nat→Nat} {w:World}:∀{ds:List z2a} {vs:List Value} {i:Nat} {d d':z2a},z8c K.toCon S w ds vs→ds[i]? =some d→(∀v,z6c K.toCon S w d v→vs[i]? =some v→z6c K.toCon S w d' v)→z8c K.toCon S w (ds.set i d') vs
 |[],_,_,_,_,_,h,_=>by simp at h
 |c::cs,vs,0,d,d',hr,h,hd=>by
  simp only[List.getElem?_cons_zero,Option.some.injEq] at h
  subst h
  simp only[z8c,List.set_cons_zero] at hr⊢
  obtain⟨x,xs,rfl,h1,h2⟩:=hr
  exact⟨x,xs,rfl,hd x h1 rfl,h2⟩
 |c::cs,vs,i+1,d,d',hr,h,hd=>by
  simp only[z8c,List.set_cons_succ] at hr⊢
  obtain⟨x,xs,rfl,h1,h2⟩:=hr
  exact⟨x,xs,rfl,h1,z9lb h2 (by simpa using h) (fun v hv hx=>hd v hv (by simpa using hx))⟩
theorem z0Ob {S:Nat→Nat} {w:World} {d:z2a}:∀{ds:List z2a} {vs:List Value} {i:Nat},z8c K.toCon S w ds vs→ds[i]? =some d→∃v,vs[i]? =some v∧z6c K.toCon S w d v
 |[],_,_,_,h=>by simp at h
 |c::cs,vs,0,hr,h=>by
  simp only[z8c] at hr
  obtain⟨x,xs,rfl,h1,h2⟩:=hr
  simp only[List.getElem?_cons_zero,Option.some.injEq] at h
  subst h
  exact⟨x,rfl,h1⟩
 |c::cs,vs,i+1,hr,h=>by
  simp only[z8c] at hr
  obtain⟨x,xs,rfl,h1,h2⟩:=hr
  obtain⟨v,k1,k2⟩:=z0Ob h2 (by simpa using h)
  exact⟨v,by simpa using k1,k2⟩
theorem z1kb {f:Nat} {c:z5a} (i:Nat) (h:z6a K f ⟨fun ds=>c.pre ds∧∀d,ds[i]? =some d→z3db d,c.post⟩) (hc:∀ds d b,c.pre ds→ds[i]? =some d→c.pre (ds.set i (z3ab b d))∧c.post (ds.set i (z3ab b d))=c.post ds):z6a K f c:=by
 refine⟨h.1,fun S w ds vs hg hr hp=> ?_⟩
 cases hd:ds[i]? with
 |none=>exact h.2 S w ds vs hg hr ⟨hp,fun d hd'=>by rw[hd] at hd';cases hd'⟩
 |some d=>
  obtain⟨v,hv⟩:=z0Ob hr hd
  obtain⟨b,h1,h2⟩:=z7zc hv.2
  obtain⟨k1,k2⟩:=hc ds d b hp hd
  have hr':z8c K.toCon S w (ds.set i (z3ab b d)) vs:=z9lb hr hd fun v' _ hv'=>by
   rw[hv.1] at hv';cases hv';exact h2
  have:=h.2 S w (ds.set i (z3ab b d)) vs hg hr' ⟨k1,fun d' hd'=>by
   have hlt:=(List.getElem?_eq_some_iff.1 hd).1
   rw[List.getElem?_set_self hlt] at hd'
   cases hd'
   exact h1⟩
  simp only[k2] at this
  exact this
end
end Go.Abs
end
