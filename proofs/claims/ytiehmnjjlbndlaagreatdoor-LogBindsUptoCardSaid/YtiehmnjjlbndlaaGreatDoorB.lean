/- Lemmas. -/
import Derived.Test.YtiehmnjjlbndlaaGreatDoorA
import Derived.Laws.StructEq
import Derived.ChangeKeysEq
import Derived.WalkSpells
import Derived.Laws.Cover3
import Derived.Laws.MakeOwn
set_option linter.all false
namespace Go.Abs
inductive LV where
 |i (n:Int)
 |b (x:Bool)
 |s (l:List UInt8)
 |no
 deriving DecidableEq
def Bm:Value->LV
 | .int _ n=> .i n
 | .bool x=> .b x
 | .string t=> .s t.data.toList
 |_=> .no
def z6S:LK->Value->Bool
 | .int k,.int k' _=>decide (k=k')
 | .bool,.bool _=>true
 | .str,.string _=>true
 |_,_=>false
def uf:List LK->List Value->Bool
 |[],[]=>true
 |k::ks,v::vs=>z6S k v&&uf ks vs
 |_,_=>false
theorem Az:∀{ks:List LK} {vs:List Value},uf ks vs=true->ks.length=vs.length
 |[],[],_=>rfl
 |[],_::_,h=>by simp[uf] at h
 |_::_,[],h=>by simp[uf] at h
 |k::ks,v::vs,h=>by simp only[uf,Bool.and_eq_true] at h;simp[Az h.2]
theorem xB:∀{ks ks':List LK} {vs:List Value},uf (ks++ks') vs=true->uf ks (vs.take ks.length)=true∧uf ks' (vs.drop ks.length)=true
 |[],ks',vs,h=>by simpa[uf] using h
 |k::ks,ks',[],h=>by simp[uf] at h
 |k::ks,ks',v::vs,h=>by simp only[List.cons_append,uf,Bool.and_eq_true] at h;obtain⟨h1,h2⟩:=xB h.2;simp[uf,h.1,h1,h2]
theorem I3{k:IntKind}{xs:List Value}(h:uf [.int k] xs=true):∃p,xs=[.int k p]:=by
 cases xs with
 |nil=>simp[uf] at h
 |cons v vs=>
  cases vs with
  |cons _ _=>simp[uf] at h
  |nil=>cases v<;>simp[uf,z6S] at h;subst h;exact⟨_,rfl⟩
def C1(f:TypeId->Option (List LK))(P:Program):Nat->List Field->Option (List LK)
 |_,[]=>some []
 |off,x::xs=>
  if x.name != "_" &&x.offset==off then
   match f x.type,C1 f P (off+P.cellsOf x.type) xs with
   |some ks,some r=>if ks.length==P.cellsOf x.type then some (ks++r) else none
   |_,_=>none
  else none
def Iw(P:Program):Nat->TypeId->Option (List LK)
 |0,_=>none
 |d+1,t=>
  if(P.info? t).isSome then
   match P.underlying t with
   |some .bool=>some [.bool]
   |some (.int k)=>some [.int k]
   |some .string=>some [.str]
   |some (.array n e)=>
    (match Iw P d e with
     |some ks=>if ks.length==P.cellsOf e&&(P.info? e).isSome then some (List.replicate n ks).flatten else none
     |none=>none)
   |some (.struct fs)=>if P.stoodInHeld t then none else C1 (Iw P d) P 0 fs.toList
   |_=>none
  else none
def mkv(P:Program)(t:TypeId)(xs:List Value):Value:=
 match P.underlying t with
 |some (.array _ _)|some (.struct _)=> .agg xs.toArray
 |_=>xs.headD undef
def EqF(P:Program)(dd:Nat)(t:TypeId)(ks:List LK):Prop:=
 ∀(w:World) (xs ys:List Value),uf ks xs=true->uf ks ys=true->(Op.equalIn dd t (mkv P t xs) (mkv P t ys)).run P w= .ok (decide (xs.map Bm=ys.map Bm)) w
theorem Ar{P:Program}(w:World){d:Nat}{e:TypeId}{ks:List LK}(hf:Iw P d e=some ks)(hl:ks.length=P.cellsOf e){xs:Array Value}{off:Nat}
  (hm:uf ks ((xs.toList.drop off).take ks.length)=true):(part e xs off).run P w= .ok (mkv P e ((xs.toList.drop off).take ks.length)) w:=by
 cases d with
 |zero=>simp[Iw] at hf
 |succ d=>
  unfold Iw at hf;split at hf
  ·rename_i hi;obtain⟨i,hi⟩:=Option.isSome_iff_exists.1 hi;have hex:(xs.extract off (off+P.cellsOf e))=((xs.toList.drop off).take ks.length).toArray:=by
    apply Array.ext';rw[Array.toList_extract];simp[List.extract,hl]
   have single:ks.length=1->∃v,xs[off]? =some v∧(xs.toList.drop off).take ks.length=[v]:=λh1=>by
    have:=Az hm;rw[h1] at this⊢;cases hd:xs.toList.drop off with
    |nil=>rw[hd] at this;simp at this
    |cons v r=>
     refine⟨v,?_,by simp⟩;have:(xs.toList.drop off)[0]? =some v:=by rw[hd];rfl
     rw[List.getElem?_drop] at this;simpa using this
   cases hu:P.underlying e with
   |none=>simp[hu] at hf
   |some D=>
    cases D<;>simp only[hu,Option.some.injEq,reduceCtorEq] at hf
    case bool=>obtain⟨v,h1,h2⟩:=single (by simp[<-hf]);simp[part,isAgg,run_underlying hu,h1,mkv,hu,h2]
    case int=>obtain⟨v,h1,h2⟩:=single (by simp[<-hf]);simp[part,isAgg,run_underlying hu,h1,mkv,hu,h2]
    case string=>obtain⟨v,h1,h2⟩:=single (by simp[<-hf]);simp[part,isAgg,run_underlying hu,h1,mkv,hu,h2]
    case array n e'=>simp[part,isAgg,run_underlying hu,Go.run_sizeOf w hi,mkv,hu,hex]
    case struct fs=>simp[part,isAgg,run_underlying hu,Go.run_sizeOf w hi,mkv,hu,hex]
  cases hf
theorem Fy{xs ys:List Value}(k:Nat):(xs.map Bm=ys.map Bm)↔((xs.take k).map Bm=(ys.take k).map Bm∧(xs.drop k).map Bm=(ys.drop k).map Bm):=by
 constructor
 ·intro h;rw[List.map_take,List.map_take,List.map_drop,List.map_drop,h];exact⟨rfl,rfl⟩
 intro⟨h1,h2⟩;rw[<-List.take_append_drop k xs,<-List.take_append_drop k ys,List.map_append,List.map_append,h1,h2]
theorem FA{P:Program}{dd d:Nat}{e:TypeId}{ks:List LK}(hf:Iw P d e=some ks)(hl:ks.length=P.cellsOf e)(IH:EqF P dd e ks)(xs ys:Array Value)(w:World):
  ∀(n s:Nat),uf (List.replicate n ks).flatten ((xs.toList.drop (s*ks.length)))=true->uf (List.replicate n ks).flatten ((ys.toList.drop (s*ks.length)))=true->
   (Op.eqItems dd e (P.cellsOf e) xs ys (List.range' s n)).run P w= .ok (decide ((xs.toList.drop (s*ks.length)).map Bm=(ys.toList.drop (s*ks.length)).map Bm)) w
 |0,s,hx,hy=>by have h1:=Az hx;have h2:=Az hy;simp only[List.replicate_zero,List.flatten_nil,List.length_nil] at h1 h2;have e1:=List.eq_nil_of_length_eq_zero h1.symm;have e2:=List.eq_nil_of_length_eq_zero h2.symm;rw[e1,e2];simp[Op.eqItems]
 |n+1,s,hx,hy=>by
  simp only[List.replicate_succ,List.flatten_cons] at hx hy;obtain⟨x1,x2⟩:=xB hx;obtain⟨y1,y2⟩:=xB hy;have p1:=Ar w hf hl x1;have p2:=Ar w hf hl y1;have p3:=IH w _ _ x1 y1;rw[List.drop_drop,show s*ks.length+ks.length=(s+1)*ks.length by rw[Nat.add_mul,Nat.one_mul]] at x2 y2;have ih:=FA hf hl IH xs ys w n (s+1) x2 y2;rw[List.range'_succ];rw[<-hl] at ih⊢;simp only[Op.eqItems,Sem.run_bind,p1,p2,p3,Result.andThen_ok];have hsp:=Fy (xs:=xs.toList.drop (s*ks.length)) (ys:=ys.toList.drop (s*ks.length)) ks.length;rw[List.drop_drop,List.drop_drop,show s*ks.length+ks.length=(s+1)*ks.length by rw[Nat.add_mul,Nat.one_mul]] at hsp;by_cases hh:(List.map Bm (List.take ks.length (List.drop (s*ks.length) xs.toList))=List.map Bm (List.take ks.length (List.drop (s*ks.length) ys.toList)))
  ·simp only[hh,decide_true,Bool.not_true,Bool.false_eq_true,if_false,Sem.run_ite,ih];congr 1;rw[decide_eq_decide,hsp];exact⟨λh=>⟨hh,h⟩,λh=>h.2⟩
  simp only[hh,decide_false,Bool.not_false,if_true,Sem.run_ite,Sem.run_pure];congr 1;symm;rw[decide_eq_false_iff_not,hsp];exact λh=>hh h.1
theorem Ex{P:Program}{dd d:Nat}(IH:∀t ks,Iw P d t=some ks->EqF P dd t ks)(xs ys:Array Value)(w:World):
  ∀(fs:List Field) (off:Nat) (ks:List LK),C1 (Iw P d) P off fs=some ks->uf ks (xs.toList.drop off)=true->uf ks (ys.toList.drop off)=true->
   (Op.eqFields dd xs ys fs).run P w= .ok (decide ((xs.toList.drop off).map Bm=(ys.toList.drop off).map Bm)) w
 |[],off,ks,hf,hx,hy=>by simp only[C1,Option.some.injEq] at hf;subst hf;have h1:=Az hx;have h2:=Az hy;simp only[List.length_nil] at h1 h2;have e1:=List.eq_nil_of_length_eq_zero h1.symm;have e2:=List.eq_nil_of_length_eq_zero h2.symm;rw[e1,e2];simp[Op.eqFields]
 |f::fs,off,ks,hf,hx,hy=>by
  unfold C1 at hf;split at hf
  ·rename_i hn;simp only[Bool.and_eq_true,bne_iff_ne,ne_eq,beq_iff_eq] at hn;obtain⟨hn,ho⟩:=hn;split at hf
   ·rename_i k1 k2 h1 h2;split at hf
    ·rename_i hl;simp only[beq_iff_eq] at hl;simp only[Option.some.injEq] at hf;subst hf;obtain⟨x1,x2⟩:=xB hx;obtain⟨y1,y2⟩:=xB hy;have p1:=Ar w h1 hl x1;have p2:=Ar w h1 hl y1;have p3:=IH _ _ h1 w _ _ x1 y1;rw[List.drop_drop,hl] at x2 y2;have ih:=Ex IH xs ys w fs _ _ h2 x2 y2;simp only[Op.eqFields,hn,ne_eq,not_false_eq_true,if_true,Sem.run_bind,ho,p1,p2,p3,Result.andThen_ok];have hsp:=Fy (xs:=xs.toList.drop off) (ys:=ys.toList.drop off) k1.length;rw[List.drop_drop,List.drop_drop] at hsp;by_cases hh:(List.map Bm (List.take k1.length (List.drop off xs.toList))=List.map Bm (List.take k1.length (List.drop off ys.toList)))
     ·simp only[hh,decide_true,Bool.not_true,Bool.false_eq_true,if_false,Sem.run_ite,ih];congr 1;rw[decide_eq_decide,hsp,hl];exact⟨λh=>⟨by rw[<-hl];exact hh,h⟩,λh=>h.2⟩
     simp only[hh,decide_false,Bool.not_false,if_true,Sem.run_ite,Sem.run_pure];congr 1;symm;rw[decide_eq_false_iff_not,hsp];exact λh=>hh h.1
    cases hf
   cases hf
  cases hf
theorem Cf{P:Program}(dd:Nat):∀(d:Nat) (t:TypeId) (ks:List LK),Iw P d t=some ks->EqF P (dd+d) t ks
 |0,_,_,h=>by simp[Iw] at h
 |d+1,t,ks,hf=>by
  intro w xs ys hx hy;unfold Iw at hf;split at hf
  ·rename_i hi;obtain⟨i,hi⟩:=Option.isSome_iff_exists.1 hi;cases hu:P.underlying t with
   |none=>simp[hu] at hf
   |some D=>
    cases D<;>simp only[hu,Option.some.injEq,reduceCtorEq] at hf
    case bool=>
     subst hf
     match xs,ys,hx,hy with
     |[.bool p],[.bool q],_,_=>rw[show dd+(d+1)=(dd+d)+1 from rfl];simp only[mkv,hu,List.headD_cons];rw[run_equalIn_bool w (dd+d) t p q hu];simp[Bm];exact Bool.eq_iff_iff.2 (by simp)
    case int k=>subst hf;obtain⟨p,rfl⟩:=I3 hx;obtain⟨q,rfl⟩:=I3 hy;rw[show dd+(d+1)=(dd+d)+1 from rfl];simp only[mkv,hu,List.headD_cons];rw[run_equalIn_int w (dd+d) t k k p q hu];simp[Bm];exact Bool.eq_iff_iff.2 (by simp)
    case string=>
     subst hf
     match xs,ys,hx,hy with
     |[.string p],[.string q],_,_=>rw[show dd+(d+1)=(dd+d)+1 from rfl];simp only[mkv,hu,List.headD_cons];rw[run_equalIn_string w (dd+d) t p q hu];simp only[ByteArray.toList_eq,Bm,List.map_cons,List.map_nil];congr 1;exact Bool.eq_iff_iff.2 (by simp)
    case array n e=>
     split at hf
     ·rename_i k1 h1;split at hf
      ·rename_i hl;simp only[Bool.and_eq_true,beq_iff_eq] at hl;obtain⟨hl,hie⟩:=hl;obtain⟨ie,hie⟩:=Option.isSome_iff_exists.1 hie;simp only[Option.some.injEq] at hf;subst hf;have IH:=Cf dd d e k1 h1;rw[show dd+(d+1)=(dd+d)+1 from rfl];simp only[mkv,hu];rw[run_equalIn_array w (dd+d) _ _ hu hie,List.range_eq_range'];have:=FA h1 hl IH xs.toArray ys.toArray w n 0 (by simpa using hx) (by simpa using hy);simpa using this
      cases hf
     cases hf
    case struct fs=>
     split at hf
     ·cases hf
     rename_i hst;have hfs:P.fieldsOf t=fs:=by simp[Program.fieldsOf,hu]
     rw[show dd+(d+1)=(dd+d)+1 from rfl];simp only[mkv,hu];rw[run_equalIn_struct w (dd+d) t _ _ (by rw[hfs];exact hu) (by simpa using hst),hfs];have:=Ex (Cf dd d) xs.toArray ys.toArray w fs.toList 0 ks hf (by simpa using hx) (by simpa using hy);simpa using this
  cases hf
def zL(K:Cx)(base:aZ)(a:Act)(get:Nat->oH)(getB:Nat->Option (List oH))(d:Option Nat)(o:Oper)(x:AOp)(w:World):Prop:=
 ∃r v w',(execOp a.eval o).run K.P w= .ok r w'∧(r= .value v∨(r= .skip∧v=undef))∧Pg K base a get getB d (eff K.E get getB x) v w'
section
variable {K : Cx} {base : aZ} {g g' : Gh} {w w' : World} {get : Nat -> oH} {getB : Nat -> Option (List oH)} {a : Act} {o : Oper} {d : Option Nat}
theorem o7{x:AOp}{c:oH}{v:Value}(hI:Inv K base g w getB)(hS:dI K g w get a)(he:eff K.E get getB x={val:=c})(hr:(execOp a.eval o).run K.P w= .ok (.value v) w)(hc:Rep K.toCon g w (d.map .slot) c v):
  zL K base a get getB d o x w:=⟨_,v,w,hr,.inl rfl,by rw[he];exact VP hI hS hc⟩
def z2v(K:Cx)(op:Op)(y:Arg):Bool:=match op with| .move x=>rk K x y| .assign x=>rk K x y|_=>false
theorem yt{x:Operand}{n:Nat}(h:rk K x (.s n)=true):x= .tmp n:=by
 unfold rk at h;split at h
 ·rename_i h1;cases h1;simp only[beq_iff_eq] at h;rw[h]
 ·rename_i h1;cases h1
 ·rename_i h1;cases h1
 ·rename_i h1;cases h1
 cases h
theorem yX(hI:Inv K base g w getB)(hS:dI K g w get a)(n:Nat)(l:Option Loc):
  ∃g',Inv K base g' w getB∧dI K g' w (upd get [(n,dem (get n))]) a∧Rep K.toCon g' w l (get n) (a.eval (.tmp n))∧(∀id b,g.mu id=some b->g'.mu id=some b)∧g'.S=g.S∧g'.mu=g.mu:=by
 cases l with
 |none=>
  refine⟨g,hI,λs=> ?_,EJ (Bp hS n),λ_ _ h=>h,rfl,rfl⟩;simp only[upd,lk];by_cases hs:s=n
  ·subst hs;simp only[if_true,Option.getD_some];exact Rep.dem _ (hS s)
  simp only[if_neg hs,Option.getD_none];exact hS s
 |some l1=>exact⟨wT g (.slot n) l1,B1 hI n l1,Qn hS n l1,ta (Bp hS n),λ_ _ h=>h,rfl,rfl⟩
theorem z7N(hI:Inv K base g w getB)(hS:dI K g w get a){y:Arg}(take:Bool)(h:z2v K o.op y=true):zL K base a get getB d o (.mv take y) w:=by
 have hrun:∃x,rk K x y=true∧(execOp a.eval o).run K.P w= .ok (.value (a.eval x)) w:=by
  unfold z2v at h;split at h
  ·rename_i x ho;exact⟨x,h,by simp[execOp,ho]⟩
  ·rename_i x ho;exact⟨x,h,by simp[execOp,ho]⟩
  cases h
 obtain⟨x,hx,hrun⟩:=hrun;have plain:zL K base a get getB d o (.mv false y) w:=o7 hI hS (c:=dem (arg K.E get y)) (by cases y<;>rfl) hrun (Rep.dem _ (o6 hI hS hx));cases take with
 |false=>exact plain
 |true=>
  cases y with
  |c e=>
   refine o7 hI hS (c:=e) rfl hrun ?_;unfold rk at hx;split at hx
   ·rename_i h1;cases h1
   ·rename_i v e' h1;cases h1;exact EV _ _ _ hx
   ·rename_i h1;cases h1
   ·rename_i f n h1;cases h1;exact Bv _ rfl (o6 (x:= .func f) (y:= .c (.fn n [] [])) hI hS (by simpa[rk] using hx))
   cases hx
  |g _=>exact plain
  |s n=>have:=yt hx;subst this;obtain⟨g',h1,h2,h3,_⟩:=yX hI hS n (d.map .slot);exact⟨_,_,w,hrun,.inl rfl,g',h1,h2,h3⟩
def Qu(K:Cx)(op:Op)(c x y:Arg):Bool:=match op with| .pick c' x' y'=>rk K c' c&&rk K x' x&&rk K y' y|_=>false
theorem TO(hI:Inv K base g w getB)(hS:dI K g w get a){c x y:Arg}(h:Qu K o.op c x y=true)(hok:okp K.E get getB (.pick c x y)):zL K base a get getB d o (.pick c x y) w:=by
 unfold Qu at h;split at h
 ·rename_i c' x' y' ho;simp only[Bool.and_eq_true] at h;obtain⟨⟨hc,hx⟩,hy⟩:=h;obtain⟨_,hcv⟩:=GA (o6 hI hS hc) hok;refine o7 (v:=if asB (arg K.E get c) then a.eval x' else a.eval y') hI hS rfl ?_ ?_
  ·simp only[execOp,ho,hcv,asBool];rfl
  split
  ·exact Rep.dem _ (o6 hI hS hx)
  exact Rep.dem _ (o6 hI hS hy)
 cases h
def Xe(K:Cx)(op:Op)(bo:BinOp)(x y:Arg):Bool:=match op with| .binOp bo' _ x' y' _=>decide (bo=bo')&&rk K x' x&&rk K y' y|_=>false
theorem Zv(hI:Inv K base g w getB)(hS:dI K g w get a){bo:BinOp}{x y:Arg}(h:Xe K o.op bo x y=true)(hok:okp K.E get getB (.bin bo x y)):zL K base a get getB d o (.bin bo x y) w:=by
 unfold Xe at h;split at h
 ·rename_i bo' t x' y' _ ho;simp only[Bool.and_eq_true,decide_eq_true_eq] at h;obtain⟨⟨rfl,hx⟩,hy⟩:=h;obtain⟨⟨u,hu⟩,⟨v,hv⟩⟩:=Va hok;have e1:=Mx (o6 hI hS hx) hu;have e2:=Mx (o6 hI hS hy) hv;obtain⟨h1,h2⟩:=z5K (P:=K.P) w bo t x' y' hu hv hok;refine o7 hI hS (c:=aE bo (arg K.E get x) (arg K.E get y)) (v:=asV (aE bo (arg K.E get x) (arg K.E get y))) rfl ?_ (by rw[h2];exact vL _ _);simp only[execOp,ho,e1,e2];rw[Sem.run_bind,h1];rfl
 cases h
def z7t(K:Cx)(op:Op)(uo:UnOp)(x:Arg):Bool:=match op with| .unOp uo' _ x'=>decide (uo=uo')&&rk K x' x|_=>false
theorem z2y(hI:Inv K base g w getB)(hS:dI K g w get a){uo:UnOp}{x:Arg}(h:z7t K o.op uo x=true)(hok:okp K.E get getB (.un uo x)):zL K base a get getB d o (.un uo x) w:=by
 unfold z7t at h;split at h
 ·rename_i uo' t x' ho;simp only[Bool.and_eq_true,decide_eq_true_eq] at h;obtain⟨rfl,hx⟩:=h;obtain⟨u,hu⟩:=Z1 hok;have e1:=Mx (o6 hI hS hx) hu;obtain⟨h1,h2⟩:=z83 (P:=K.P) w uo hu hok;refine o7 hI hS (c:=unV uo (arg K.E get x)) (v:=asV (unV uo (arg K.E get x))) rfl ?_ (by rw[h2];exact vL _ _);simp only[execOp,ho,e1,Sem.run_bind,h1,Result.andThen_ok,Sem.run_pure]
 cases h
def z9ha(neg:Bool)(bo:BinOp):Bool:=match bo with| .eql=> !neg| .neq=>neg|_=>false
theorem Ql{P:Program}(w:World){neg:Bool}{bo:BinOp}(hb:z9ha neg bo=true)(t:TypeId)(x y:Operand){u v:Value}{r:Bool}(hg:(eqGuard bo t x y u v).run P w= .ok () w)
  (hq:(binOp .eql t u v)=(do pure (.bool (<-Op.equal t u v)))∧(binOp .neq t u v)=(do pure (.bool (!(<-Op.equal t u v))))) (hr:(Op.equal t u v).run P w= .ok r w):
  ((do eqGuard bo t x y u v;binOp bo t u v):Sem Value).run P w= .ok (.bool (r !=neg)) w:=by
 rw[Sem.run_bind,hg];cases bo<;>simp only[z9ha,Bool.false_eq_true] at hb
 ·simp only[Bool.not_eq_true'] at hb;subst hb;simp only[Result.andThen_ok,hq.1,Sem.run_bind,hr,Sem.run_pure];cases r<;>rfl
 subst hb;simp only[Result.andThen_ok,hq.2,Sem.run_bind,hr,Sem.run_pure];cases r<;>rfl
theorem FE:∀{ks:List LK} {cs:List oH} {vs:List Value},an K.toCon g w cs vs->cu ks cs->uf ks vs=true∧∀{cs':List oH} {vs':List Value},an K.toCon g w cs' vs'->cu ks cs'->decide (vs.map Bm=vs'.map Bm)=dk ks cs cs'
 |[],[],vs,h,_=>by
  simp only[an] at h;subst h;refine⟨rfl,λ{cs' vs'} h' hk=> ?_⟩;cases cs' with
  |nil=>simp only[an] at h';subst h';simp[dk]
  |cons _ _=>simp[cu] at hk
 |[],_::_,_,_,h=>by simp[cu] at h
 |_::_,[],_,_,h=>by simp[cu] at h
 |k::ks,c::cs,vs,h,hk=>by
  simp only[an] at h;obtain⟨x,xs,rfl,h1,h2⟩:=h;simp only[cu] at hk;obtain⟨hm,hrest⟩:=FE h2 hk.2;have one:∀{c:oH} {x:Value},Rep K.toCon g w none c x->z8la k c->z6S k x=true∧(c= .lit x):=λ{c x} hr ho=>by cases k<;>(unfold z8la at ho;split at ho<;>simp_all)<;>(simp only[Rep] at hr;subst hr;simp_all [z6S])
  obtain⟨o1,e1⟩:=one h1 hk.1;refine⟨by simp[uf,o1,hm],λ{cs' vs'} h' hk'=> ?_⟩;cases cs' with
  |nil=>simp[cu] at hk'
  |cons c' cs'=>simp only[an] at h';obtain⟨x',xs',rfl,h1',h2'⟩:=h';simp only[cu] at hk';obtain⟨o1',e1'⟩:=one h1' hk'.1;have:=hrest h2' hk'.2;simp only[List.map_cons,List.cons.injEq,Bool.decide_and,dk,this];congr 1;rw[e1,e1'];cases k<;>cases x<;>simp[z6S] at o1<;>cases x'<;>simp[z6S] at o1'<;>simp[Bm,z0qa,asI,asB,asS]<;>exact Bool.eq_iff_iff.2 (by simp)
def Vf(K:Cx)(op:Op)(ks:List LK)(neg:Bool)(x y:Arg):Bool:=
 match op with
 | .binOp bo t x' y' _=>z9ha neg bo&&DO K.P t (λD=>D.isRow)&&decide (Iw K.P 9 t=some ks)&& !(K.P.eqGuardType K.P.depth t)&&rk K x' x&&rk K y' y
 |_=>false
theorem z2f(hI:Inv K base g w getB)(hS:dI K g w get a){ks:List LK}{neg:Bool}{x y:Arg}(h:Vf K o.op ks neg x y=true)(hok:okp K.E get getB (.eqF ks neg x y)):zL K base a get getB d o (.eqF ks neg x y) w:=by
 unfold Vf at h;split at h
 ·rename_i bo t x' y' _ ho;simp only[Bool.and_eq_true,decide_eq_true_eq,Bool.not_eq_true'] at h;obtain⟨⟨⟨⟨⟨hb,ht⟩,hf⟩,hgd⟩,hx⟩,hy⟩:=h;have rx:=o6 hI hS hx;have ry:=o6 hI hS hy;simp only[okp] at hok;split at hok
  ·rename_i xs ys ex ey;rw[ex] at rx;rw[ey] at ry;simp only[Rep] at rx ry;obtain⟨ax,vx,rx⟩:=rx;obtain⟨ay,vy,ry⟩:=ry;obtain⟨m1,hd⟩:=FE rx hok.1;obtain⟨m2,_⟩:=FE ry hok.2;obtain⟨D,hu,hD⟩:=rT ht;have hmk:∀l:Array Value,mkv K.P t l.toList= .agg l:=λl=>by
    unfold mkv;rw[hu];cases D<;>simp[TypeDesc.isRow] at hD<;>simp
   have hq:=Cf (P:=K.P) 9991 9 t ks hf w ax.toList ay.toList m1 m2;rw[hmk,hmk,hd ry hok.2] at hq;refine o7 hI hS (c:= .lit (.bool (dk ks xs ys !=neg))) (v:= .bool (dk ks xs ys !=neg)) (by simp[eff,ex,ey,aA]) ?_ (vL _ _);simp only[execOp,ho,vx,vy];have hgu:(eqGuard bo t x' y' (.agg ax) (.agg ay)).run K.P w= .ok () w:=by cases bo<;>simp[z9ha] at hb<;>simp[eqGuard,hgd]
   rw[Sem.run_bind,Ql w hb t x' y' hgu ⟨rfl,rfl⟩ (show(Op.equal t (.agg ax) (.agg ay)).run K.P w=_ from hq)];rfl
  cases hok
 cases h
def Mr(K:Cx)(op:Op)(neg:Bool)(x y:Arg):Bool:=match op with| .binOp bo t x' y' _=>z9ha neg bo&&DO K.P t VT&&rk K x' x&&rk K y' y|_=>false
theorem z4q{l:Option Loc}{m:cH}{b:Bool}{n:Nat}{cs:List oH}{v:Value}(h:Rep K.toCon g w l (.sl m (some b) n cs) v):∃a k c,v= .slice a k c∧a.isNone=b:=by
 have:ap K.toCon g.S w (.sl .plain (some b) n cs) v:=by
  cases m<;>simp only[Rep] at h
  ·exact h
  ·simp only[ap] at h⊢;rcases h with⟨b,o,cap,h1,h2,h3,h4,_⟩|h
   ·exact .inl ⟨b,o,cap,h1,h2,h3,h4,by simp⟩
   exact .inr h
  exact h.1
 simp only[ap] at this;rcases this with⟨bk,o,cap,rfl,_,_,h4,_⟩|⟨q,rfl,_,_,h4⟩
 ·exact⟨_,_,_,rfl,by cases b<;>simp_all⟩
 exact⟨_,_,_,rfl,by cases b<;>cases q<;>simp_all⟩
theorem ED{P:Program}(w:World)(d:Nat)(t e:TypeId)(a:Option Addr)(l c:Nat)(h:P.underlying t=some (.slice e)):(Op.equalIn (d+1) t (.slice none 0 0) (.slice a l c)).run P w= .ok a.isNone w:=by simp[Op.equalIn,run_underlying h]
theorem S3(hI:Inv K base g w getB)(hS:dI K g w get a){neg:Bool}{x y:Arg}(h:Mr K o.op neg x y=true)(hok:okp K.E get getB (.eqnil neg x y)):zL K base a get getB d o (.eqnil neg x y) w:=by
 unfold Mr at h;split at h
 ·rename_i bo t x' y' _ ho;simp only[Bool.and_eq_true] at h;obtain⟨⟨⟨hb,ht⟩,hx⟩,hy⟩:=h;have rx:=o6 hI hS hx;have ry:=o6 hI hS hy;obtain⟨D,hu,hD⟩:=rT ht;obtain⟨e,rfl⟩:=LS hD;simp only[okp] at hok;split at hok
  ·rename_i m b n cs ex ey;rw[ex] at rx;rw[ey] at ry;simp only[Rep] at rx;obtain⟨aa,k,c,vy,hn⟩:=z4q ry;refine o7 hI hS (c:= .lit (.bool (b !=neg))) (v:= .bool (b !=neg)) (by simp[eff,ex,ey]) ?_ (vL _ _);simp only[execOp,ho,rx,vy];have hgu:(eqGuard bo t x' y' (.slice none 0 0) (.slice aa k c)).run K.P w= .ok () w:=xA w bo t x' y' trivial;have hq:(Op.equal t (.slice none 0 0) (.slice aa k c)).run K.P w= .ok b w:=by
    subst hn;exact ED w 9999 t e aa k c hu
   rw[Sem.run_bind,Ql w hb t x' y' hgu ⟨rfl,rfl⟩ hq];rfl
  ·rename_i m b n cs ex ey;rw[ex] at rx;rw[ey] at ry;simp only[Rep] at ry;obtain⟨aa,k,c,vx,hn⟩:=z4q rx;refine o7 hI hS (c:= .lit (.bool (b !=neg))) (v:= .bool (b !=neg)) (by simp[eff,ex,ey]) ?_ (vL _ _);simp only[execOp,ho,ry,vx];have hgu:(eqGuard bo t x' y' (.slice aa k c) (.slice none 0 0)).run K.P w= .ok () w:=xA w bo t x' y' trivial;have hq:(Op.equal t (.slice aa k c) (.slice none 0 0)).run K.P w= .ok b w:=by
    rw[run_equal_slice_nil w t e aa k c hu,hn]
   rw[Sem.run_bind,Ql w hb t x' y' hgu ⟨rfl,rfl⟩ hq];rfl
  cases hok
 cases h
def WE(K:Cx)(op:Op)(str:Bool)(x:Arg):Bool:=
 match op with
 | .call c=>(match c.callee,c.args.toList,c.argTypes.toList with
  | .builtin .len,[x'],[t]=>(if str then DO K.P t Id else DO K.P t VT)&&rk K x' x
  |_,_,_=>false)
 |_=>false
theorem arr1{α:Type}{l:Array α}{x:α}(h:l.toList=[x]):l= #[x]:=Array.ext' h
theorem z0oa{α:Type}{l:Array α}{x y:α}(h:l.toList=[x,y]):l= #[x,y]:=Array.ext' h
theorem XJ{l:Option Loc}{d:oH}{v:Value}(h:Rep K.toCon g w l d v)(hs:z1m d):∃a c,v= .slice a (bc d) c:=by
 unfold z1m at hs;split at hs
 ·rename_i m nl n cs;have:ap K.toCon g.S w (.sl .plain nl n cs) v:=by
   cases m<;>simp only[Rep] at h
   ·exact h
   ·simp only[ap] at h⊢;rcases h with⟨b,o,cap,h1,h2,h3,h4,_⟩|h
    ·exact .inl ⟨b,o,cap,h1,h2,h3,h4,by simp⟩
    exact .inr h
   exact h.1
  simp only[ap] at this;rcases this with⟨bk,o,cap,rfl,_⟩|⟨q,rfl,rfl,_⟩
  ·exact⟨_,_,rfl⟩
  exact⟨_,_,rfl⟩
 ·simp only[Rep] at h;obtain⟨_,_,_,_,rfl,_⟩:=h;exact⟨_,_,rfl⟩
 ·simp only[Rep] at h;subst h;exact⟨_,_,rfl⟩
 cases hs
theorem Zz(hI:Inv K base g w getB)(hS:dI K g w get a){str:Bool}{x:Arg}(h:WE K o.op str x=true)(hok:okp K.E get getB (.len str x)):zL K base a get getB d o (.len str x) w:=by
 unfold WE at h;split at h
 ·rename_i c ho;split at h
  ·rename_i x' t hc hargs hts;obtain⟨callee,args,ts⟩:=c;simp only at hc hargs hts;subst hc;have:=arr1 hargs;subst this;have:=arr1 hts;subst this;simp only[Bool.and_eq_true] at h;obtain⟨ht,hx⟩:=h;have rx:=o6 hI hS hx;simp only[okp] at hok;refine o7 hI hS (c:= .lit (.int .i64 (bc (arg K.E get x)))) (v:= .int .i64 (bc (arg K.E get x))) (by simp[eff]) ?_ (vL _ _);cases str with
   |true=>
    simp only[if_true] at ht hok;obtain⟨D,hu,hD⟩:=rT ht;have:=CR hD;subst this;obtain⟨e0,e1⟩:=Jn rx hok;have hsl:bc (arg K.E get x)=(asS (arg K.E get x)).size:=by rw[e0];rfl
    simp[execOp,ho,resolve,invoke,builtin,Builtin.len_,e1,run_underlying hu,goInt,hsl]
   |false=>simp only[Bool.false_eq_true,if_false] at ht hok;obtain⟨D,hu,hD⟩:=rT ht;obtain⟨e,rfl⟩:=LS hD;obtain⟨aa,c,e1⟩:=XJ rx hok;simp[execOp,ho,resolve,invoke,builtin,Builtin.len_,e1,run_underlying hu,goInt]
  cases h
 cases h
end
section
variable {K : Cx} {base : aZ} {g g' : Gh} {w w' : World} {get : Nat -> oH} {getB : Nat -> Option (List oH)} {a : Act} {o : Oper} {d : Option Nat}
def Di(K:Cx)(op:Op)(f:TypeId->TypeId->Bool)(x:Arg):Bool:=match op with| .convert s t x'=>f s t&&rk K x' x|_=>false
def MW(P:Program)(t:TypeId):Bool:=match P.underlying t with|some (.slice e)=>DO P e (Sm .u8)&&u6 P e 1|_=>false
def z7u(P:Program)(k:IntKind)(s t:TypeId):Bool:=DO P s (λ_=>true)&&DO P t (Sm k)
def z6q(P:Program)(s t:TypeId):Bool:=MW P s&&DO P t Id
def PJ(P:Program)(s t:TypeId):Bool:=DO P s Id&&MW P t
theorem Lj{P:Program}{t:TypeId}(h:MW P t=true):∃e,P.underlying t=some (.slice e)∧P.underlying e=some (.int .u8)∧u6 P e 1=true:=by
 unfold MW at h;split at h
 ·rename_i e hu;simp only[Bool.and_eq_true] at h;obtain⟨D,h1,h2⟩:=rT h.1;have:=Nk h2;subst this;exact⟨e,hu,h1,h.2⟩
 cases h
theorem SM(hI:Inv K base g w getB)(hS:dI K g w get a){k:IntKind}{x:Arg}(h:Di K o.op (z7u K.P k) x=true)(hok:okp K.E get getB (.toInt k x)):zL K base a get getB d o (.toInt k x) w:=by
 unfold Di at h;split at h
 ·rename_i s t x' ho;simp only[Bool.and_eq_true,z7u] at h;obtain⟨⟨hs,ht⟩,hx⟩:=h;obtain⟨k',e0,e1⟩:=Hb (o6 hI hS hx) hok;obtain⟨D,hu,_⟩:=rT hs;obtain⟨D',hu',hD⟩:=rT ht;have:=Nk hD;subst this;refine o7 hI hS rfl (v:= .int k (k.wrap (asI (arg K.E get x)))) ?_ (vL _ _);simp only[execOp,ho,e1,convert,Sem.run_bind,run_underlying hu,run_underlying hu',Result.andThen_ok,Conv.intToInt,Sem.run_pure]
 cases h
theorem uj{P:Program}(w:World)(x:Addr):(loadCells x 0).run P w= .ok #[] w:=by simpa using run_loadCells_list (P:=P) w x [] (by simp)
theorem Od{P:Program}(w:World){s t e:TypeId}(hs:P.underlying s=some (.slice e))(he:P.underlying e=some (.int .u8))(ht:P.underlying t=some .string){v:Value}{n:Nat}(ns:List Int)(hn:ns.length=n)
  (hv:(∃q:Option Addr,v= .slice q 0 0∧ns=[])∨∃bk o cap,v= .slice (some ⟨bk,o,none⟩) n cap∧w.rangeAt bk o (ns.map (Value.int .u8))):
  (convert s t v).run P w= .ok (.string (ns.foldl (λr n=>r.push (UInt8.ofNat n.toNat)) ByteArray.empty)) w:=by
 rcases hv with⟨q,rfl,rfl⟩|⟨bk,o,cap,rfl,hr⟩
 ·cases q with
  |none=>simp[convert,run_underlying hs,run_underlying ht,run_underlying he,Conv.bytesToString]
  |some q=>simp only[convert,Sem.run_bind,run_underlying hs,run_underlying ht,run_underlying he,Result.andThen_ok];exact run_bytesToString w q 0 0 [] (uj w q)
 have hl:(loadCells ⟨bk,o,none⟩ n).run P w= .ok (ns.map (Value.int .u8)).toArray w:=by have:=run_loadCells_list (P:=P) w ⟨bk,o,none⟩ (ns.map (Value.int .u8)) (λj v hv=>by rw[Addr.add_mid];exact hr j v hv);rwa[List.length_map,hn] at this
 simp only[convert,Sem.run_bind,run_underlying hs,run_underlying ht,run_underlying he,Result.andThen_ok];exact run_bytesToString w ⟨bk,o,none⟩ n cap ns hl
theorem QB:∀{cs:List oH} {vs:List Value},an K.toCon g w cs vs->(∀c∈cs,z5E .u8 c)->vs=(cs.map asI).map (Value.int .u8)
 |[],vs,h,_=>by simp only[an] at h;subst h;rfl
 |c::cs,vs,h,hc=>by
  simp only[an] at h;obtain⟨x,xs,rfl,h1,h2⟩:=h;have:=hc c (by simp);unfold z5E at this;split at this
  ·subst this;simp only[Rep] at h1;subst h1;rw[QB h2 (λc hm=>hc c (by simp[hm]))];rfl
  cases this
theorem SJ(hI:Inv K base g w getB)(hS:dI K g w get a){b:Option Nat}{x:Arg}(h:Di K o.op (z6q K.P) x=true)(hok:okp K.E get getB (.toStr b x)):zL K base a get getB d o (.toStr b x) w:=by
 unfold Di at h;split at h
 ·rename_i s t x' ho;simp only[Bool.and_eq_true,z6q] at h;obtain⟨⟨hs,ht⟩,hx⟩:=h;obtain⟨e,hu,he,_⟩:=Lj hs;obtain⟨D',hu',hD⟩:=rT ht;have:=CR hD;subst this;obtain⟨vs,h1,h2,h3⟩:=Uj hI hok.1 (o6 hI hS hx);have hvs:=QB h1 hok.2;have hlen:((az (bxl getB b) (arg K.E get x)).map asI).length=bc (arg K.E get x):=by
   rw[List.length_map,h1.len,h2,Nat.mul_one]
  refine o7 hI hS rfl (v:= .string (FN (az (bxl getB b) (arg K.E get x)))) ?_ (vL _ _);simp only[execOp,ho];rw[Sem.run_bind,Od w hu he hu' ((az (bxl getB b) (arg K.E get x)).map asI) hlen (by
   rcases h3 with⟨q,k1,k2,k3⟩|⟨bk,o,cap,k1,_,k2⟩
   ·left;refine⟨q,k1,List.eq_nil_of_length_eq_zero ?_⟩;rw[hlen,k3]
   right;exact⟨bk,o,cap,k1,by rw[<-hvs];exact k2⟩)]
  rw[foldl_push_bytes];simp only[Result.andThen_ok,Sem.run_pure,FN,List.map_map];congr 3;show(ByteArray.mk (#[]++_))=_;simp
 cases h
theorem z2xa(s:ByteArray):s.data.toList.length=s.size:=by rw[Array.length_toList];rfl
theorem z0da{S:Nat->Nat}(s:ByteArray)(b n:Nat)(hS:n<=S b)(hn:s.data.toList.length=n)(hc:∀j (hj:j<s.data.size),w.cell? ⟨b,j,none⟩=some (.int .u8 (s.data[j].toNat:Int))):
  am K.toCon S w (Ia s.data.toList) b 0:=am.mk λi c hi=>by
 simp only[Ia,List.getElem?_map] at hi;cases hl:s.data.toList[i]? with
 |none=>simp[hl] at hi
 |some u=>
  simp only[hl,Option.map_some,Option.some.injEq] at hi;subst hi;obtain⟨hlt,hu⟩:=List.getElem?_eq_some_iff.1 hl;have hlt':i<s.data.size:=by simpa using hlt
  refine⟨by omega,_,by rw[Nat.zero_add];exact hc i hlt',?_⟩;simp only[ap];rw[<-hu];rfl
theorem OF(hI:Inv K base g w getB)(hS:dI K g w get a){x:Arg}(h:Di K o.op (PJ K.P) x=true)(hok:okp K.E get getB (.toBytes x)):zL K base a get getB d o (.toBytes x) w:=by
 unfold Di at h;split at h
 ·rename_i s t x' ho;simp only[Bool.and_eq_true,PJ] at h;obtain⟨⟨hs,ht⟩,hx⟩:=h;obtain⟨e,hu,he,_⟩:=Lj ht;obtain⟨D',hu',hD⟩:=rT hs;have:=CR hD;subst this;obtain⟨e0,e1⟩:=Jn (o6 hI hS hx) hok;have hrun:=run_bytes_of_string (P:=K.P) w s t e (asS (arg K.E get x)) hu' hu he;generalize hcap:grownCap w (asS (arg K.E get x)).size 0 e=cap at hrun;have hge:(asS (arg K.E get x)).size<=cap:=by rw[<-hcap];exact grownCap_ge _ _ _ _
  generalize asS (arg K.E get x)=str at*
  have hsz:(bytesRow str cap).size=cap:=by have e:str.data.size=str.size:=rfl;simp only[bytesRow,Array.size_append,Array.size_map,Array.size_replicate,e];omega
  have hrun':(execOp a.eval o).run K.P w= .ok (.value (.slice (some ⟨w.heap.size,0,none⟩) str.size cap)) (w.drew.alloc (.cells (bytesRow str cap) e ((bytesRow str cap).size,(bytesRow str cap).size+1))):=by simp only[execOp,ho,e1];rw[Sem.run_bind,hrun];rfl
  refine⟨_,_,_,hrun',.inl rfl,uW g w.heap.size str.size (d.map .slot),xk (E6 hI) _ _ _,(vm (E6 hI) _ _ _).slots (EM.slots hS),?_⟩;have hcell:∀j (hj:j<str.data.size),(w.drew.alloc (.cells (bytesRow str cap) e ((bytesRow str cap).size,(bytesRow str cap).size+1))).cell? ⟨w.heap.size,j,none⟩=some (.int .u8 (str.data[j].toNat:Int)):=λj hj=>by have:=World.cell?_alloc_mark w.drew (bytesRow str cap) e ((bytesRow str cap).size,(bytesRow str cap).size+1) j;rw[show w.drew.heap.size=w.heap.size from rfl] at this;rw[this];exact bytesRow_at str cap j hj
  have hp:ap K.toCon (uW g w.heap.size str.size (d.map .slot)).S (w.drew.alloc (.cells (bytesRow str cap) e ((bytesRow str cap).size,(bytesRow str cap).size+1))) (.sl .plain (some false) str.size (Ia str.data.toList)) (.slice (some ⟨w.heap.size,0,none⟩) str.size cap):=by simp only[ap];exact .inl ⟨_,_,_,rfl,hge,z0da str _ str.size (by simp[uW]) (z2xa str) hcell,by simp,by simp⟩
  have hef:(eff K.E get getB (.toBytes x)).val= .sl (.own 1) (some false) str.size (Ia str.data.toList):=by simp only[eff,e0,asS]
  rw[hef];simp only[Rep];refine⟨hp,λl hl=> .inr ⟨_,cap,rfl,hge,by rw[Ia,List.length_map,z2xa,Nat.mul_one],by simp[uW],by simp[uW,hl],?_⟩⟩;have:=uM w.drew (bytesRow str cap) e ((bytesRow str cap).size,(bytesRow str cap).size+1) (λi hi=>by simp;omega) 0 (cap*1) (by rw[hsz];omega);exact this
 cases h
def UO(K:Cx)(op:Op)(i:Nat)(x:Arg):Bool:=match op with| .extract x' i'=>(i==i')&&rk K x' x|_=>false
theorem N9(hI:Inv K base g w getB)(hS:dI K g w get a){i:Nat}{x:Arg}(h:UO K o.op i x=true)(hok:okp K.E get getB (.extract i x)):zL K base a get getB d o (.extract i x) w:=by
 unfold UO at h;split at h
 ·rename_i x' i' ho;simp only[Bool.and_eq_true,beq_iff_eq] at h;obtain⟨rfl,hx⟩:=h;have rx:=Rep.dem none (o6 hI hS hx);simp only[okp] at hok;split at hok
  ·rename_i vs ex;rw[ex] at rx;simp only[Rep] at rx;obtain⟨ax,vx,rx⟩:=rx;obtain⟨v,hv,hr⟩:=rx.get i (vs.getD i .undef) (by rw[List.getD,List.getElem?_eq_getElem hok];rfl);refine o7 hI hS (c:=dem (vs.getD i .undef)) (v:=v) (by simp only[eff,ex]) ?_ (Rep.dem _ hr);have hv':ax[i]? =some v:=by rw[<-Array.getElem?_toList];exact hv
   simp only[execOp,ho,vx,Instr.extract,hv',Sem.run_bind,Sem.run_pure,Result.andThen_ok]
  cases hok
 cases h
def Pt(op:Op)(n:Nat):Bool:=match op with| .extract (.tmp t) i=>(i==0)&&(t==n)|_=>false
theorem LJ(hI:Inv K base g w getB)(hS:dI K g w get a){n:Nat}(h:Pt o.op n=true)(hok:okp K.E get getB (.extractO n)):zL K base a get getB d o (.extractO n) w:=by
 unfold Pt at h;split at h
 ·rename_i t i ho;simp only[Bool.and_eq_true,beq_iff_eq] at h;obtain⟨rfl,rfl⟩:=h;simp only[okp] at hok;split at hok
  ·rename_i e nl n cs rest ex;obtain⟨g',hI',hS',hv,hm,hs,hmu⟩:=yX hI hS t (d.map .slot);rw[ex] at hv;simp only[Rep] at hv;obtain⟨ax,x,xs,vx,h0,h1,_⟩:=hv;have hv':ax[0]? =some x:=by rw[<-Array.getElem?_toList,h0];rfl
   refine⟨_,x,w,?_,.inl rfl,?_⟩
   ·simp only[execOp,ho,vx,Instr.extract,hv',Sem.run_bind,Sem.run_pure,Result.andThen_ok]
   exact⟨g',hI',hS',by simp only[eff,ex,Rep];exact h1⟩
  cases hok
 cases h
theorem X4{t:TypeId}{k:Option Nat}{off:Nat}{cs:List oH}{ax:Array Value}(hk:TH K.P t k=true)(hr:an K.toCon g w cs ax.toList)(hoff:off+k.getD 1<=cs.length):
  ∃v,(part t ax off).run K.P w= .ok v w∧(match k with|none=>Rep K.toCon g w none (cs.getD off .undef) v|some n=>Rep K.toCon g w none (.agg ((cs.drop off).take n)) v):=by
 cases k with
 |none=>
  simp only[TH,Bool.and_eq_true] at hk;obtain⟨D,hu,hD⟩:=rT hk.1;simp only[Option.getD_none] at hoff;obtain⟨v,hv,hr⟩:=hr.get off (cs.getD off .undef) (by rw[List.getD,List.getElem?_eq_getElem (by omega)];rfl);have hv':ax[off]? =some v:=by rw[<-Array.getElem?_toList];exact hv
  refine⟨v,?_,hr⟩;cases D<;>simp[TypeDesc.isRow] at hD<;>simp[part,isAgg,run_underlying hu,hv']
 |some n=>
  simp only[TH,Bool.and_eq_true] at hk;obtain⟨D,hu,hD⟩:=rT hk.1;simp only[Option.getD_some] at hoff;refine⟨.agg (ax.extract off (off+n)),?_,?_⟩
  ·cases D<;>simp[TypeDesc.isRow] at hD<;>simp[part,isAgg,run_underlying hu,run_sizeOf w hk.2]
  simp only[Rep];refine⟨_,rfl,?_⟩;rw[Array.toList_extract];simp only[List.extract,Nat.add_sub_cancel_left];exact(hr.drop off).take n
def PD(K:Cx)(op:Op)(k:Option Nat)(esz n:Nat)(x i:Arg):Bool:=
 match op with
 | .index t x' i'=>(match K.P.underlying t with|some (.array m e)=>(m==n)&&u6 K.P e esz&&TH K.P e k|_=>false)&&rk K x' x&&rk K i' i
 |_=>false
theorem TV(hI:Inv K base g w getB)(hS:dI K g w get a){k:Option Nat}{esz n:Nat}{x i:Arg}(h:PD K o.op k esz n x i=true)(hok:okp K.E get getB (.idxA k esz n x i)):zL K base a get getB d o (.idxA k esz n x i) w:=by
 unfold PD at h;split at h
 ·rename_i t x' i' ho;simp only[Bool.and_eq_true] at h;obtain⟨⟨h,hx⟩,hi⟩:=h;split at h
  ·rename_i m e hu;simp only[Bool.and_eq_true,beq_iff_eq] at h;obtain⟨⟨rfl,hsz⟩,hk⟩:=h;have rx:=o6 hI hS hx;simp only[okp] at hok;obtain⟨hok,hii,h0,hlt⟩:=hok;obtain⟨ki,_,vi⟩:=Hb (o6 hI hS hi) hii;split at hok
   ·rename_i cs ex;rw[ex] at rx;simp only[Rep] at rx;obtain⟨ax,vx,rx⟩:=rx;obtain⟨v,h1,h2⟩:=X4 hk rx hok;have hrun:(execOp a.eval o).run K.P w= .ok (.value v) w:=by
     simp[execOp,ho,vx,vi,Instr.index,asIntOf,run_underlying hu,h0,hlt,run_sizeOf w hsz,h1]
    cases k with
    |none=>exact o7 hI hS (c:=dem (cs.getD ((asI (arg K.E get i)).toNat*esz) .undef)) (v:=v) (by simp only[eff,ex]) hrun (Rep.dem _ h2)
    |some n=>exact o7 hI hS (c:= .agg ((cs.drop ((asI (arg K.E get i)).toNat*esz)).take n)) (v:=v) (by simp only[eff,ex]) hrun (Bv _ rfl h2)
   cases hok
  cases h
 cases h
def QH(K:Cx)(op:Op)(x i:Arg):Bool:=match op with| .index t x' i'=>DO K.P t Id&&rk K x' x&&rk K i' i|_=>false
theorem P8(hI:Inv K base g w getB)(hS:dI K g w get a){x i:Arg}(h:QH K o.op x i=true)(hok:okp K.E get getB (.idxStr x i)):zL K base a get getB d o (.idxStr x i) w:=by
 unfold QH at h;split at h
 ·rename_i t x' i' ho;simp only[Bool.and_eq_true] at h;obtain⟨⟨ht,hx⟩,hi⟩:=h;obtain⟨D,hu,hD⟩:=rT ht;have:=CR hD;subst this;obtain⟨hs,hii,h0,hlt⟩:=hok;obtain⟨_,vx⟩:=Jn (o6 hI hS hx) hs;obtain⟨ki,_,vi⟩:=Hb (o6 hI hS hi) hii;have hn:(asI (arg K.E get i)).toNat<(asS (arg K.E get x)).size:=by omega
  refine o7 hI hS rfl (v:= .int .u8 ((asS (arg K.E get x)).data.toList.getD (asI (arg K.E get i)).toNat 0).toNat) ?_ (vL _ _);have hg:(asS (arg K.E get x)).data.toList.getD (asI (arg K.E get i)).toNat 0=(asS (arg K.E get x))[(asI (arg K.E get i)).toNat]:=by rw[List.getD,List.getElem?_eq_getElem (by simpa using hn)];rfl
  rw[hg];simp[execOp,ho,vx,vi,Instr.index,asIntOf,run_underlying hu,h0,ByteArray.getElem?_lt' _ _ hn]
 cases h
def LL(K:Cx)(op:Op)(f:Nat)(x y:List Arg):Bool:=
 match op with
 | .makeFunc (.func f') p q=>(K.nu f==f')&&argsOk p.toList x&&argsOk q.toList y
 |_=>false
where argsOk : List Operand -> List Arg -> Bool
 |[],[]=>true
 |x::xs,y::ys=>rk K x y&&argsOk xs ys
 |_,_=>false
theorem Am(hI:Inv K base g w getB)(hS:dI K g w get a):∀{xs:List Operand} {ys:List Arg},LL.argsOk K xs ys=true->an K.toCon g w (ys.map λy=>dem (arg K.E get y)) (xs.map a.eval)∧an K.toCon g w (ys.map (arg K.E get)) (xs.map a.eval)
 |[],[],_=>by simp[an]
 |[],_::_,h=>by simp[LL.argsOk] at h
 |_::_,[],h=>by simp[LL.argsOk] at h
 |x::xs,y::ys,h=>by simp only[LL.argsOk,Bool.and_eq_true] at h;have ih:=Am hI hS h.2;simp only[List.map_cons,an];exact⟨⟨_,_,rfl,Rep.dem _ (o6 hI hS h.1),ih.1⟩,⟨_,_,rfl,o6 hI hS h.1,ih.2⟩⟩
theorem Wq(hI:Inv K base g w getB)(hS:dI K g w get a){f:Nat}{x y:List Arg}(h:LL K o.op f x y=true):zL K base a get getB d o (.mkfn f x y) w:=by
 unfold LL at h;split at h
 ·rename_i f' p q ho;simp only[Bool.and_eq_true,beq_iff_eq] at h;obtain⟨⟨rfl,hx⟩,hy⟩:=h;refine o7 hI hS rfl (v:= .func (.func (K.nu f)) (p.map a.eval) (q.map a.eval)) ?_ ?_
  ·simp[execOp,ho,Instr.makeFunc]
  simp only[Rep];exact⟨_,_,rfl,by rw[Array.toList_map];exact(Am hI hS hx).1,by rw[Array.toList_map];exact(Am hI hS hy).1⟩
 cases h
def z5D(K:Cx)(op:Op)(off:Nat)(x:Arg):Bool:=
 match op with
 | .fieldAddr t x' f=>(match K.P.underlying t with|some (.struct fs)=>(match fs[f]? with|some fd=>(fd.offset==off)&&(match K.P.info? fd.type with|some i=>i.size !=0|none=>false)|none=>false)|_=>false)&&rk K x' x
 |_=>false
theorem KH(hI:Inv K base g w getB)(hS:dI K g w get a){off:Nat}{x:Arg}(h:z5D K o.op off x=true)(hok:okp K.E get getB (.fieldAddr off x)):zL K base a get getB d o (.fieldAddr off x) w:=by
 unfold z5D at h;split at h
 ·rename_i t x' f ho;simp only[Bool.and_eq_true] at h;obtain⟨h,hx⟩:=h;split at h
  ·rename_i fs hu;split at h
   ·rename_i fd hf;simp only[Bool.and_eq_true,beq_iff_eq] at h;obtain⟨rfl,hz⟩:=h;split at hz
    ·rename_i i hi;simp only[bne_iff_ne,ne_eq] at hz;have rx:=o6 hI hS hx;have hrun:∀b o',a.eval x'= .pointer (some ⟨b,o',none⟩)->(execOp a.eval o).run K.P w= .ok (.value (.pointer (some ⟨b,o'+fd.offset,none⟩))) w:=λb o' e=>by
      simp[execOp,ho,e,Instr.fieldAt,run_underlying hu,hf,Instr.sureAddr,fieldPlace,sizeOf,typeInfo,hi,hz,Addr.add_mid]
     simp only[okp] at hok;split at hok
     ·rename_i id o' ex;rw[ex] at rx;simp only[Rep] at rx;obtain⟨b,hb,vx⟩:=rx;exact o7 hI hS (c:= .bp id (o'+fd.offset)) (by simp only[eff,ex]) (hrun b o' vx) (by simp only[Rep];exact⟨b,hb,rfl⟩)
     ·rename_i cs ex;rw[ex] at rx;simp only[Rep,ap] at rx;obtain⟨b,o',vx,hc⟩:=rx;exact o7 hI hS (c:= .ep (cs.drop fd.offset)) (by simp only[eff,ex]) (hrun b o' vx) (by simp only[Rep,ap];exact⟨b,_,rfl,hc.drop _⟩)
     cases hok
    cases hz
   cases h
  cases h
 cases h
def V7(K:Cx)(op:Op)(x:Arg):Bool:=match op with| .nilCheck x'=>rk K x' x|_=>false
theorem Pq(hI:Inv K base g w getB)(hS:dI K g w get a){x:Arg}(h:V7 K o.op x=true)(hok:okp K.E get getB (.nilchk x)):zL K base a get getB d o (.nilchk x) w:=by
 unfold V7 at h;split at h
 ·rename_i x' ho;have rx:=o6 hI hS h;simp only[okp] at hok;split at hok
  ·rename_i id o' ex;rw[ex] at rx;simp only[Rep] at rx;obtain⟨b,hb,vx⟩:=rx;exact o7 hI hS (v:= .pointer (some ⟨b,o',none⟩)) (c:= .bp id o') (by simp only[eff,ex]) (by simp[execOp,ho,vx]) (by simp only[Rep];exact⟨b,hb,rfl⟩)
  ·rename_i cs ex;rw[ex] at rx;simp only[Rep,ap] at rx;obtain⟨b,o',vx,hc⟩:=rx;exact o7 hI hS (v:= .pointer (some ⟨b,o',none⟩)) (c:= .ep cs) (by simp only[eff,ex]) (by simp[execOp,ho,vx]) (by simp only[Rep,ap];exact⟨b,o',rfl,hc⟩)
  cases hok
 cases h
def z4N(K:Cx)(op:Op)(n esz:Nat)(x i:Arg):Bool:=
 match op with
 | .indexAddr t x' i'=>(match K.P.underlying t with|some (.array m e)=>(m==n)&&u6 K.P e esz|_=>false)&&rk K x' x&&rk K i' i
 |_=>false
theorem Pl(hI:Inv K base g w getB)(hS:dI K g w get a){n esz:Nat}{x i:Arg}(h:z4N K o.op n esz x i=true)(hok:okp K.E get getB (.idxArr n esz x i)):zL K base a get getB d o (.idxArr n esz x i) w:=by
 unfold z4N at h;split at h
 ·rename_i t x' i' ho;simp only[Bool.and_eq_true] at h;obtain⟨⟨h,hx⟩,hi⟩:=h;split at h
  ·rename_i m e hu;simp only[Bool.and_eq_true,beq_iff_eq] at h;obtain⟨rfl,hsz⟩:=h;have rx:=o6 hI hS hx;simp only[okp] at hok;obtain⟨hok,hii,h0,hlt⟩:=hok;obtain⟨ki,_,vi⟩:=Hb (o6 hI hS hi) hii;have hrun:∀b o',a.eval x'= .pointer (some ⟨b,o',none⟩)->(execOp a.eval o).run K.P w= .ok (.value (.pointer (some ⟨b,o'+(asI (arg K.E get i)).toNat*esz,none⟩))) w:=λb o' e=>by
    simp[execOp,ho,e,vi,Instr.indexAt,asIntOf,run_underlying hu,Instr.sureAddr,h0,hlt,run_sizeOf w hsz,Addr.add_mid]
   split at hok
   ·rename_i id o' ex;rw[ex] at rx;simp only[Rep] at rx;obtain⟨b,hb,vx⟩:=rx;exact o7 hI hS (c:= .bp id (o'+(asI (arg K.E get i)).toNat*esz)) (by simp only[eff,ex]) (hrun b o' vx) (by simp only[Rep];exact⟨b,hb,rfl⟩)
   ·rename_i cs ex;rw[ex] at rx;simp only[Rep,ap] at rx;obtain⟨b,o',vx,hc⟩:=rx;exact o7 hI hS (c:= .ep (cs.drop ((asI (arg K.E get i)).toNat*esz))) (by simp only[eff,ex]) (hrun b o' vx) (by simp only[Rep,ap];exact⟨b,_,rfl,hc.drop _⟩)
   cases hok
  cases h
 cases h
theorem IE{l:Option Loc}{m:cH}{nl:Option Bool}{n:Nat}{cs:List oH}{v:Value}(h:Rep K.toCon g w l (.sl m nl n cs) v):ap K.toCon g.S w (.sl .plain nl n cs) v:=by
 cases m<;>simp only[Rep] at h
 ·exact h
 ·simp only[ap] at h⊢;rcases h with⟨b,o,cap,h1,h2,h3,h4,_⟩|h
  ·exact .inl ⟨b,o,cap,h1,h2,h3,h4,by simp⟩
  exact .inr h
 exact h.1
def z3L(K:Cx)(op:Op)(esz:Nat)(x i:Arg):Bool:=
 match op with
 | .indexAddr t x' i'=>(match K.P.underlying t with|some (.slice e)=>u6 K.P e esz|_=>false)&&rk K x' x&&rk K i' i
 |_=>false
theorem SI(hI:Inv K base g w getB)(hS:dI K g w get a){esz:Nat}{x i:Arg}(h:z3L K o.op esz x i=true)(hok:okp K.E get getB (.idxSl esz x i)):zL K base a get getB d o (.idxSl esz x i) w:=by
 unfold z3L at h;split at h
 ·rename_i t x' i' ho;simp only[Bool.and_eq_true] at h;obtain⟨⟨h,hx⟩,hi⟩:=h;split at h
  ·rename_i e hu;have rx:=o6 hI hS hx;simp only[okp] at hok;obtain⟨hok,hii,h0,hlt⟩:=hok;obtain⟨ki,_,vi⟩:=Hb (o6 hI hS hi) hii;have hrun:∀b o' n cap,(asI (arg K.E get i))<(n:Nat)->a.eval x'= .slice (some ⟨b,o',none⟩) n cap->(execOp a.eval o).run K.P w= .ok (.value (.pointer (some ⟨b,o'+(asI (arg K.E get i)).toNat*esz,none⟩))) w:=λb o' n cap hl e=>by
    simp[execOp,ho,e,vi,Instr.indexAt,asIntOf,run_underlying hu,h0,hl,run_sizeOf w h,Addr.add_mid]
   split at hok
   ·rename_i id e' off n c ex;rw[ex] at rx hlt;simp only[bc] at hlt;simp only[Rep] at rx;obtain⟨b,cap,o',hb,vx,_,_,ho'⟩:=rx;have ho':o'=off:=by rcases ho' with rfl|⟨rfl,_⟩;rfl;simp at hlt;omega
    subst ho';exact o7 hI hS (c:= .bp id (o'+(asI (arg K.E get i)).toNat*esz)) (by simp only[eff,ex]) (hrun b o' n cap hlt vx) (by simp only[Rep];exact⟨b,hb,rfl⟩)
   ·rename_i m nl n cs ex;rw[ex] at rx hlt;simp only[bc] at hlt;have rx:=IE rx;simp only[ap] at rx;rcases rx with⟨b,o',cap,vx,_,hc,_⟩|⟨q,vx,rfl,_⟩
    ·exact o7 hI hS (c:= .ep (cs.drop ((asI (arg K.E get i)).toNat*esz))) (by simp only[eff,ex]) (hrun b o' n cap hlt vx) (by simp only[Rep,ap];exact⟨b,_,rfl,hc.drop _⟩)
    simp at hlt;omega
   ·rename_i b o' n cap ex;rw[ex] at rx hlt;simp only[bc] at hlt;simp only[Rep] at rx;exact o7 hI hS (c:= .lit (.pointer (some ⟨b,o'+(asI (arg K.E get i)).toNat*esz,none⟩))) (by simp only[eff,ex]) (hrun b o' n cap hlt rx) (vL _ _)
   cases hok
  cases h
 cases h
def z7F(K:Cx)(op:Op)(n:Nat)(x:Arg):Bool:=
 match op with
 | .sliceToArrayPointer t x'=>(match K.P.underlying t with|some (.array m _)=>m==n|_=>false)&&rk K x' x
 |_=>false
theorem W8(hI:Inv K base g w getB)(hS:dI K g w get a){n:Nat}{x:Arg}(h:z7F K o.op n x=true)(hok:okp K.E get getB (.s2ap n x)):zL K base a get getB d o (.s2ap n x) w:=by
 unfold z7F at h;split at h
 ·rename_i t x' ho;simp only[Bool.and_eq_true] at h;obtain⟨h,hx⟩:=h;split at h
  ·rename_i m e hu;simp only[beq_iff_eq] at h;subst h;have rx:=o6 hI hS hx;have hrun:∀p k cap,m<=k->a.eval x'= .slice p k cap->(execOp a.eval o).run K.P w= .ok (.value (.pointer p)) w:=λp k cap hl e=>by
    simp[execOp,ho,e,Instr.arrayAt,run_underlying hu,Nat.not_lt.2 hl]
   simp only[okp] at hok;split at hok
   ·rename_i id e' off k c ex;rw[ex] at rx;simp only[Rep] at rx;obtain⟨b,cap,o',hb,vx,_,_,ho'⟩:=rx;have ho':o'=off:=by rcases ho' with rfl|⟨rfl,_⟩;rfl;omega
    subst ho';exact o7 hI hS (c:= .bp id o') (by simp only[eff,ex]) (hrun _ _ _ hok.1 vx) (by simp only[Rep];exact⟨b,hb,rfl⟩)
   ·rename_i m' nl k cs ex;rw[ex] at rx;have rx:=IE rx;simp only[ap] at rx;rcases rx with⟨b,o',cap,vx,_,hc,_⟩|⟨q,vx,rfl,_⟩
    ·exact o7 hI hS (c:= .ep cs) (by simp only[eff,ex]) (hrun _ _ _ hok.1 vx) (by simp only[Rep,ap];exact⟨b,_,rfl,hc⟩)
    omega
   cases hok
  cases h
 cases h
end
section
variable {K : Cx} {base : aZ} {g g' : Gh} {w w' : World} {get : Nat -> oH} {getB : Nat -> Option (List oH)} {a : Act} {o : Oper} {d : Option Nat}
theorem RS(hI:Inv K base g w getB){b:Option Nat}{n:Nat}{p:oH}{v:Value}(hok:cA getB b n p)(hn:0<n)(hr:Rep K.toCon g w none p v):
  ∃bk o vs,v= .pointer (some ⟨bk,o,none⟩)∧w.rangeAt bk o vs∧an K.toCon g w (aL getB b p) vs∧n<=vs.length:=by
 unfold cA at hok;split at hok
 ·rename_i id off;obtain⟨rfl,cs,hcs,hfit⟩:=hok;simp only[Rep] at hr;obtain⟨bk,hb,rfl⟩:=hr;obtain⟨b',k1,k2,k3⟩:=hI.bxok id cs hcs;rw[hb] at k1;cases k1;have hbx:bxl getB (some id)=cs:=by simp[bxl,bxc,hcs]
  let f:Nat->Value:=λi=>(w.cell? ⟨bk,i,none⟩).getD undef
  have hcell:∀i d,cs[i]? =some d->w.cell? ⟨bk,i,none⟩=some (f i)∧Rep K.toCon g w none d (f i):=λi d hd=>by
   obtain⟨⟨x,h4,h5⟩,_⟩:=k3 i d hd;have hf:f i=x:=by simp only[f,h4,Option.getD_some]
   rw[hf];exact⟨h4,EJ h5⟩
  refine⟨bk,off,(List.range (cs.length-off)).map λj=>f (off+j),rfl,λj v hv=> ?_,an.mk (by simp[aL,hbx]) (λi d v hd hv=> ?_),by simp;omega⟩
  ·have hj:j<cs.length-off:=by have:=(List.getElem?_eq_some_iff.1 hv).1;simpa using this
   rw[List.getElem?_map,List.getElem?_range hj] at hv;simp only[Option.map_some,Option.some.injEq] at hv;subst hv;exact(hcell (off+j) _ (List.getElem?_eq_getElem (by omega))).1
  simp only[aL,hbx,List.getElem?_drop] at hd;have hi:i<cs.length-off:=by have:=(List.getElem?_eq_some_iff.1 hd).1;omega
  rw[List.getElem?_map,List.getElem?_range hi] at hv;simp only[Option.map_some,Option.some.injEq] at hv;subst hv;exact(hcell _ d hd).2
 ·rename_i cs;obtain⟨rfl,hfit⟩:=hok;simp only[Rep,ap] at hr;obtain⟨bk,o,rfl,hc⟩:=hr;obtain⟨vs,k1,k2,_⟩:=hc.vals;exact⟨bk,o,vs,rfl,k1,k2,by rw[<-k2.len];exact hfit⟩
 cases hok
def MA(k:Option Nat)(vs:List Value):Value:=match k with|none=>vs.headD undef|some n=> .agg (vs.take n).toArray
def EF(K:Cx)(op:Op)(k:Option Nat)(x:Arg):Bool:=match op with| .load t x'=>TH K.P t k&&(match k with|some n=>n !=0|none=>true)&&rk K x' x|_=>false
theorem Hf{P:Program}{t:TypeId}{k:Option Nat}(hk:TH P t k=true){bk o:Nat}{vs:List Value}(hr:w.rangeAt bk o vs)(hn:k.getD 1<=vs.length):
  (Instr.loadAt t (.pointer (some ⟨bk,o,none⟩))).run P w= .ok (MA k vs) w:=by
 unfold MA;cases k with
 |none=>
  simp only[TH,Bool.and_eq_true] at hk;obtain⟨D,hu,hD⟩:=rT hk.1;cases vs with
  |nil=>simp at hn
  |cons v r=>have h0:=hr 0 v (by simp);simp only[Nat.add_zero] at h0;cases D<;>simp[TypeDesc.isRow] at hD<;>simp[Instr.loadAt,Instr.sureAddr,loadVar,isAgg,run_underlying hu,h0]
 |some n=>
  simp only[TH,Bool.and_eq_true] at hk;obtain⟨D,hu,hD⟩:=rT hk.1;simp only[Option.getD_some] at hn;exact run_loadAt_mid w bk o t (vs.take n) D (λj v hv=>by
   rw[List.getElem?_take] at hv;split at hv
   ·exact hr j v hv
   cases hv) hu hD (by rw[List.length_take,Nat.min_eq_left hn];exact JL hk.2)
theorem WD(hI:Inv K base g w getB)(hS:dI K g w get a){k b:Option Nat}{take:Bool}{x:Arg}(h:EF K o.op k x=true)(hok:okp K.E get getB (.load k b take x)):zL K base a get getB d o (.load k b take x) w:=by
 unfold EF at h;split at h
 ·rename_i t x' ho;simp only[Bool.and_eq_true] at h;obtain⟨⟨hk,hn0⟩,hx⟩:=h;have hpos:0<k.getD 1:=by
   cases k with
   |none=>simp
   |some n=>simp at hn0⊢;omega
  obtain⟨bk,off,vs,hv,hr,hrl,hn⟩:=RS hI hok.1 hpos (o6 hI hS hx);have hl:=Hf (P:=K.P) hk hr hn;have hrun:(execOp a.eval o).run K.P w= .ok (.value (MA k vs)) w:=by simp only[execOp,ho,hv,Sem.run_bind,hl,Result.andThen_ok,Sem.run_pure]
  cases k with
  |some n=>refine o7 hI hS (c:= .agg ((aL getB b (arg K.E get x)).take n)) rfl hrun ?_;simp only[Rep];exact⟨_,rfl,by simpa using hrl.take n⟩
  |none=>
   simp only[Option.getD_none] at hn;cases hcs:aL getB b (arg K.E get x) with
   |nil=>have:=hrl.len;rw[hcs] at this;simp at this;omega
   |cons c cs=>
    rw[hcs] at hrl;simp only[an] at hrl;obtain⟨v,r,rfl,h1,h2⟩:=hrl;have plain:eff K.E get getB (.load none b take x)={val:=dem c}->zL K base a get getB d o (.load none b take x) w:=λe=>o7 hI hS e hrun (Rep.dem _ h1);cases take with
    |false=>exact plain (by simp only[eff,hcs,hdA,List.headD_cons])
    |true=>
     cases b with
     |none=>exact plain (by simp only[eff,hcs,hdA,List.headD_cons])
     |some id=>
      cases hax:arg K.E get x with
      |bp id' off'=>
       have hob:id<1000000:=hok.2 rfl id rfl;have hok:=hok.1;simp only[hax,cA,Option.some.injEq] at hok;obtain⟨rfl,es,hes,hfit⟩:=hok;have hbx:bxl getB (some id)=es:=by simp[bxl,bxc,hes]
       have hc:es[off']? =some c:=by
        have:(es.drop off')[0]? =some c:=by simp only[hax,aL,hbx] at hcs;rw[hcs];rfl
        simpa using this
       obtain⟨b',k1,k2,k3⟩:=hI.bxok id es hes;obtain⟨⟨x0,hx0,hrep⟩,_⟩:=k3 off' c hc;have hvx:v=x0:=by have e0:=hr 0 v (by simp);have rx:=o6 hI hS hx;rw[hax] at rx;simp only[Rep] at rx;obtain⟨b'',kb,kv⟩:=rx;rw[k1] at kb;cases kb;rw[hv] at kv;simp only[Value.pointer.injEq,Option.some.injEq,Addr.mk.injEq] at kv;obtain⟨rfl,rfl,_⟩:=kv;simp only[Nat.add_zero,hx0,Option.some.injEq] at e0;exact e0.symm
       subst hvx;have hef:eff K.E get getB (.load none (some id) true x)={val:=c,bx:=[(id,some (es.set off' (dem (es.getD off' .undef))))]}:=by rw[hax] at hcs;simp only[eff,hax,hcs,hdA,List.headD_cons,hbx];rw[List.getD,hc];rfl
       refine⟨_,v,w,hrun,.inl rfl,?_⟩;rw[hef];cases d with
       |none=>refine⟨wT g (.cell id off') .ret,Fz hI hob hes off' .ret (by simp),DK hS id off' .ret,?_⟩;exact CS (by simp) (EJ hrep)
       |some n=>exact⟨wT g (.cell id off') (.slot n),Fz hI hob hes off' (.slot n) (by simp),DK hS id off' (.slot n),ta hrep⟩
      |_=>exact plain (by simp only[eff,hax] at hcs⊢;simp only[hcs,hdA,List.headD_cons])
 cases h
def MB(K:Cx)(op:Op)(k:Option Nat)(x v:Arg):Bool:=match op with| .store t x' v'=>u6 K.P t (k.getD 1)&&rk K x' x&&rk K v' v|_=>false
theorem Ln{k:Option Nat}{c:oH}{v:Value}(h:Rep K.toCon g w none c v)(hk:isK k c):
  an K.toCon g w (cN k c) v.cells.toList∧(∀x∈v.cells.toList,x.oneCell'=true)∧(cN k c).length=k.getD 1∧∀x∈cN k c,ao x=false:=by
 cases k with
 |none=>
  simp only[isK] at hk;have h1:=uX h hk;have hvc:v.cells= #[v]:=by cases v<;>simp_all [Value.cells,Value.oneCell']
  rw[hvc];refine⟨by simp only[cN,an];exact⟨v,[],rfl,Rep.dem _ h,rfl⟩,by simpa using h1,rfl,?_⟩;simp only[cN,List.mem_singleton,forall_eq];exact AF c
 |some n=>
  simp only[isK] at hk;split at hk
  ·rename_i cs;obtain⟨h1,h2,h3⟩:=hk;obtain⟨k1,k2⟩:=N0 h (by simpa[aA] using h2);exact⟨k1,k2,h1,h3⟩
  cases hk
theorem PC{P:Program}{t:TypeId}{n:Nat}(hk:u6 P t n=true){bk o:Nat}{v:Value}(hn:v.cells.size=n)(h1:∀x∈v.cells.toList,x.oneCell'=true)(ht:w.there bk o n):
  (Instr.storeAt t (.pointer (some ⟨bk,o,none⟩)) v).run P w= .ok () (w.setCells bk o v.cells.toList):=by
 have hst:=run_storeCells_cells (P:=P) bk o v.cells.toList 0 w (λj hj=>by simpa using(ht j (by simpa[hn] using hj)).1) (λj hj=>by simpa using(ht j (by simpa[hn] using hj)).2) h1;simp only[Nat.add_zero] at hst;simp[Instr.storeAt,Instr.sureAddr,storeVar,run_sizeOf w hk,hn,hst]
theorem J6(hI:Inv K base g w getB){id:Nat}{cs:List oH}(hid:getB id=some cs){bk:Nat}(hb:g.mu id=some bk)(o n:Nat)(h:o+n<=cs.length):w.there bk o n:=λj hj=>by obtain⟨b',k1,_,k3⟩:=hI.bxok id cs hid;rw[hb] at k1;cases k1;obtain⟨⟨x,hx,_⟩,hf⟩:=k3 (o+j) _ (List.getElem?_eq_getElem (by omega));exact⟨by rw[hx];rfl,hf⟩
theorem sj{α:Type}{l:List α}{i:Nat}{x:α}(h:l[i]? =some x):x∈l:=by obtain⟨hi,rfl⟩:=List.getElem?_eq_some_iff.1 h;exact List.getElem_mem _
theorem Qj(getB:Nat->Option (List oH))(id:Nat)(x:Option (List oH))(j:Nat):Kt getB [(id,x)] j=if j=id then x else getB j:=by
 simp only[Kt,lk];by_cases h:j=id
 ·simp[h]
 simp[h]
theorem Tg(hI:Inv K base g w getB)(hS:dI K g w get a){k:Option Nat}{b:Nat}{take:Bool}{x v:Arg}(h:MB K o.op k x v=true)(hok:okp K.E get getB (.store k b take x v)):zL K base a get getB d o (.store k b take x v) w:=by
 unfold MB at h;split at h
 ·rename_i t x' v' ho;simp only[Bool.and_eq_true] at h;obtain⟨⟨hk,hx⟩,hv⟩:=h;have rx:=o6 hI hS hx;have rv:=o6 hI hS hv;simp only[okp] at hok;obtain⟨hob,hp,hkv⟩:=hok;split at hp
  ·rename_i id off ex;obtain⟨rfl,cs,hcs,hfit⟩:=hp;rw[ex] at rx;simp only[Rep] at rx;obtain⟨bk,hb,vx⟩:=rx;obtain⟨c1,c2,c3,c4⟩:=Ln rv hkv;have hsz:(a.eval v').cells.size=k.getD 1:=by rw[<-Array.length_toList,<-c1.len,c3]
   have hrun:(execOp a.eval o).run K.P w= .ok .skip (w.setCells bk off (a.eval v').cells.toList):=by simp only[execOp,ho,vx];rw[Sem.run_bind,PC (P:=K.P) hk hsz c2 (J6 hI hcs hb off _ hfit)];rfl
   have hbx:bxl getB (some id)=cs:=by simp[bxl,bxc,hcs]
   have plain:eff K.E get getB (.store k id take x v)={val:= .undef,bx:=[(id,some (splice cs off (cN k (arg K.E get v))))]}->zL K base a get getB d o (.store k id take x v) w:=λe=>by
    obtain⟨bk',k1,k2,k3⟩:=F0 hI hob hcs off (a.eval v').cells.toList (cN k (arg K.E get v)) c1.len (by rw[c3];exact hfit) (λi c u hc hu=>by
     obtain⟨u',hu',hr⟩:=c1.get i c hc;rw[hu] at hu';cases hu';exact Bv _ (c4 c (sj hc)) hr)
    rw[hb] at k1;cases k1;refine⟨_,undef,_,hrun,.inr ⟨rfl,rfl⟩,?_⟩;rw[e];exact⟨g,k3,k2.slots hS,by simp[Rep]⟩
   have ep:∀(k':Option Nat) (t':Bool) (v'':Arg),(k'≠none∨t'=false∨∀n,v''≠ .s n)->eff K.E get getB (.store k' id t' x v'')={val:= .undef,bx:=[(id,some (splice cs off (cN k' (arg K.E get v''))))]}:=λk' t' v'' hc=>by cases k'<;>cases t'<;>cases v''<;>simp at hc<;>simp only[eff,ex,hbx]
   cases k with
   |some n=>exact plain (ep _ _ _ (.inl (by simp)))
   |none=>
    cases take with
    |false=>exact plain (ep _ _ _ (.inr (.inl rfl)))
    |true=>
     cases v with
     |c _=>exact plain (ep _ _ _ (.inr (.inr (by simp))))
     |g _=>exact plain (ep _ _ _ (.inr (.inr (by simp))))
     |s n=>
      have:=yt hv;subst this;have hcell:ah (get n):=hkv;have hcs':=getB;obtain⟨g',h1,h2,h3,h4,hSe,hmue⟩:=yX hI hS n (some (.cell id off));have hone:=uX h3 hcell;have hvc:(a.eval (.tmp n)).cells= #[a.eval (.tmp n)]:=by generalize a.eval (.tmp n)=u at hone;cases u<;>simp_all [Value.cells,Value.oneCell']
      obtain⟨bk',k1,k2,k3⟩:=F0 h1 hob hcs off (a.eval (.tmp n)).cells.toList [get n] (by rw[hvc];rfl) (by simpa using hfit) (λi c u hc hu=>by
       rw[hvc] at hu;cases i with
       |zero=>simp at hc hu;subst hc hu;exact h3
       |succ i=>simp at hc)
      rw[h4 id bk hb] at k1;cases k1;refine⟨_,undef,_,hrun,.inr ⟨rfl,rfl⟩,?_⟩;have hef:eff K.E get getB (.store none id true x (.s n))={val:= .undef,sl:=[(n,dem (get n))],bx:=[(id,some (splice cs off [get n]))]}:=by simp only[eff,ex,hbx]
      rw[hef];exact⟨g',k3,k2.slots h2,by simp[Rep]⟩
  cases hp
 cases h
def Sc(P:Program)(t:TypeId)(z:List oH):Bool:=match P.info? t with|some i=>(match i.zero with|some v=>yA z v.cells.toList|none=>false)|none=>false
theorem NO{P:Program}{t:TypeId}{z:List oH}(h:Sc P t z=true):∃i v,P.info? t=some i∧i.zero=some v∧yA z v.cells.toList=true:=by
 unfold Sc at h;split at h
 ·rename_i i hi;split at h
  ·rename_i v hv;exact⟨i,v,hi,hv,h⟩
  cases h
 cases h
theorem I5{g:Gh}{w:World}:∀{ds:List oH} {vs:List Value},yA ds vs=true->ds.length=vs.length∧∀(i:Nat) (d:oH),ds[i]? =some d->∀l,∃v,vs[i]? =some v∧Rep K.toCon g w l d v
 |[],vs,h=>by simp only[yA,List.isEmpty_iff] at h;subst h;simp
 |d::ds,vs,h=>by
  simp only[yA] at h;split at h
  ·rename_i v vs;simp only[Bool.and_eq_true] at h;obtain⟨h1,h2⟩:=I5 (g:=g) (w:=w) h.2;refine⟨by simp[h1],λi d' hd l=> ?_⟩;cases i with
   |zero=>simp at hd;subst hd;exact⟨v,by simp,EV d v l h.1⟩
   |succ i=>simp at hd;obtain⟨u,hu,hr⟩:=h2 i d' hd l;exact⟨u,by simpa using hu,hr⟩
  cases h
def Mk(K:Cx)(op:Op)(z:List oH):Bool:=match op with| .alloc t=>Sc K.P t z|_=>false
theorem SR(hI:Inv K base g w getB)(hS:dI K g w get a){id:Nat}{z:List oH}(h:Mk K o.op z=true)(hok:okp K.E get getB (.alloc id z)):zL K base a get getB d o (.alloc id z) w:=by
 unfold Mk at h;split at h
 ·rename_i t ho;obtain⟨i,v,hi,hz,hm⟩:=NO h;have hb:=H7 hI id hok.1 hok.2 v.cells t z (λi c hc=>by
   obtain⟨u,hu,hr⟩:=(I5 (K:=K) (g:=g) (w:=w) hm).2 i c hc (some (.cell id i));exact⟨u,by rw[<-Array.getElem?_toList];exact hu,hr⟩)
  have hrun:(execOp a.eval o).run K.P w= .ok (.value (.pointer (some ⟨w.heap.size,0,none⟩))) (w.alloc (.cells v.cells t)):=by simp[execOp,ho,Instr.alloc,zeroValue,typeInfo,hi,hz,newVar,newRow]
  exact⟨_,_,_,hrun,.inl rfl,_,hb.2,hb.1.slots hS,by simp only[eff,Rep];exact⟨w.heap.size,by simp[Bk],rfl⟩⟩
 cases h
def Le(K:Cx)(op:Op)(k:Option Nat)(x:Arg):Bool:=match op with| .box _ x'=>rk K x' x|_=>false
theorem z4g(hI:Inv K base g w getB)(hS:dI K g w get a){id:Nat}{k:Option Nat}{take:Bool}{x:Arg}(h:Le K o.op k x=true)(hok:okp K.E get getB (.box id k take x)):zL K base a get getB d o (.box id k take x) w:=by
 unfold Le at h;split at h
 ·rename_i t x' ho;obtain⟨hob,hid,hk⟩:=hok;have rv:=o6 hI hS h;obtain⟨c1,c2,c3,c4⟩:=Ln rv hk;have hrun:(execOp a.eval o).run K.P w= .ok (.value (.pointer (some ⟨w.heap.size,0,none⟩))) (w.alloc (.cells (a.eval x').cells t)):=by
   simp[execOp,ho,Instr.box,newVar,newRow]
  have plain:eff K.E get getB (.box id k take x)={val:= .bp id 0,bx:=[(id,some (cN k (arg K.E get x)))]}->zL K base a get getB d o (.box id k take x) w:=λe=>by
   have hb:=H7 hI id hob hid (a.eval x').cells t (cN k (arg K.E get x)) (λi c hc=>by
    obtain⟨u,hu,hr⟩:=c1.get i c hc;exact⟨u,by rw[<-Array.getElem?_toList];exact hu,Bv _ (c4 c (sj hc)) hr⟩)
   refine⟨_,_,_,hrun,.inl rfl,?_⟩;rw[e];exact⟨_,hb.2,hb.1.slots hS,by simp only[Rep];exact⟨w.heap.size,by simp[Bk],rfl⟩⟩
  cases k with
  |some n=>exact plain (by cases take<;>cases x<;>rfl)
  |none=>
   cases take with
   |false=>exact plain (by cases x<;>rfl)
   |true=>
    cases x with
    |c _=>exact plain rfl
    |g _=>exact plain rfl
    |s n=>
     have:=yt h;subst this;have hcell:ah (get n):=hk;obtain⟨g',h1,h2,h3,_⟩:=yX hI hS n (some (.cell id 0));have hone:=uX h3 hcell;have hvc:(a.eval (.tmp n)).cells= #[a.eval (.tmp n)]:=by generalize a.eval (.tmp n)=u at hone;cases u<;>simp_all [Value.cells,Value.oneCell']
     have hb:=H7 h1 id hob hid (a.eval (.tmp n)).cells t [get n] (λi c hc=>by
      cases i with
      |zero=>simp at hc;subst hc;exact⟨_,by rw[hvc];rfl,h3⟩
      |succ i=>simp at hc)
     refine⟨_,_,_,hrun,.inl rfl,_,hb.2,hb.1.slots h2,by simp only[eff,Rep];exact⟨w.heap.size,by simp[Bk],rfl⟩⟩
 cases h
end
section
variable {K : Cx} {base : aZ} {g g' : Gh} {w w' : World} {get : Nat -> oH} {getB : Nat -> Option (List oH)} {a : Act} {o : Oper} {d : Option Nat}
theorem UZ(vs:List Value):∀(k:Nat) (cells:Array Value) (off:Nat),off+k+vs.length<=cells.size->
  ((vs.zipIdx k).foldl (λcs (p:Value×Nat)=>cs.setIfInBounds (off+p.2) p.1) cells).toList=splice cells.toList (off+k) vs:=by
 induction vs with
 |nil=>intro k cells off h;simp only[List.zipIdx_nil,List.foldl_nil,splice,List.append_nil,List.length_nil,Nat.add_zero,List.take_append_drop]
 |cons v vs ih=>
  intro k cells off h;simp only[List.length_cons] at h;simp only[List.zipIdx_cons,List.foldl_cons];rw[ih (k+1) _ off (by simp;omega)];unfold splice;apply List.ext_getElem?;intro i;simp only[Array.toList_setIfInBounds,List.append_assoc,List.getElem?_append,List.length_take,List.length_set,Array.length_toList,List.getElem?_take,List.getElem?_drop,List.getElem?_set,List.length_cons];rw[Nat.min_eq_left (by omega),Nat.min_eq_left (by omega)];by_cases h1:i<off+k
  ·rw[if_pos (by omega),if_pos (by omega),if_neg (by omega),if_pos h1,if_pos h1]
  rw[if_neg h1];by_cases h2:i=off+k
  ·subst h2;rw[if_pos (by omega),if_pos (by omega),if_pos rfl,if_pos (by omega)];simp
  rw[if_neg (by omega)];have e:i-(off+k)=(i-(off+(k+1)))+1:=by omega
  rw[e];simp only[List.getElem?_cons_succ];by_cases h3:i-(off+(k+1))<vs.length
  ·rw[if_pos h3,if_pos (by omega)]
  rw[if_neg h3,if_neg (by omega),if_neg (by omega)];congr 1;omega
def LR:List (Nat×Value)->List Value->List Value
 |[],z=>z
 |(off,v)::r,z=>LR r (splice z off v.cells.toList)
theorem KV{α:Type}{z:List α}{off:Nat}{xs:List α}(h:off+xs.length<=z.length):(splice z off xs).length=z.length:=by simp[splice];omega
theorem M2(place:Nat->Option (Nat×Nat)):∀(ps:List (Nat×Value)) (os:List Nat) (cells:Array Value),ps.length=os.length->
  (∀(i:Nat) (p:Nat×Value) (off:Nat),ps[i]? =some p->os[i]? =some off->place p.1=some (off,p.2.cells.size)∧off+p.2.cells.size<=cells.size)->
  ∃r,Instr.fill place cells ps=some r∧r.toList=LR (os.zip (ps.map (·.2))) cells.toList
 |[],[],cells,_,_=>⟨cells,rfl,rfl⟩
 |[],_::_,_,h,_=>by simp at h
 |_::_,[],_,h,_=>by simp at h
 |(i,v)::ps,off::os,cells,hl,h=>by
  obtain⟨h1,h2⟩:=h 0 (i,v) off (by simp) (by simp);have hf:=UZ v.cells.toList 0 cells off (by simpa using h2);have hf':(v.cells.zipIdx.foldl (λcs (p:Value×Nat)=>cs.setIfInBounds (off+p.2) p.1) cells).toList=splice cells.toList off v.cells.toList:=by rw[<-Array.foldl_toList,Array.toList_zipIdx];simpa using hf
  obtain⟨r,k1,k2⟩:=M2 place ps os (v.cells.zipIdx.foldl (λcs (p:Value×Nat)=>cs.setIfInBounds (off+p.2) p.1) cells) (by simpa using hl) (λj p o' hp ho=>by
   obtain⟨k1,k2⟩:=h (j+1) p o' (by simpa using hp) (by simpa using ho);refine⟨k1,?_⟩;have hsz':(v.cells.zipIdx.foldl (λcs (p:Value×Nat)=>cs.setIfInBounds (off+p.2) p.1) cells).size=cells.size:=by rw[<-Array.length_toList,hf',KV (by simpa using h2),Array.length_toList]
   rw[hsz'];exact k2)
  refine⟨r,?_,?_⟩
  ·simp only[Instr.fill];simp only at h1 h2;rw[h1];simp only[ne_eq,not_true_eq_false,decide_false,Bool.false_or,decide_eq_true_eq];rw[if_neg (by omega)];exact k1
  rw[k2,hf'];rfl
theorem an.splice{ds ds':List oH}{vs vs':List Value}(off:Nat)(h:an K.toCon g w ds vs)(h':an K.toCon g w ds' vs'):an K.toCon g w (Abs.splice ds off ds') (Abs.splice vs off vs'):=by unfold Abs.splice;rw[<-h'.len];exact((h.take off).append h').append (h.drop _)
def Dq(K:Cx)(f:Nat->Nat->Nat->Bool):List (Nat×Operand)->List (Nat×Nat×Arg)->Bool
 |[],[]=>true
 |(i,x)::ps,(off,k,y)::qs=>f i off k&&rk K x y&&Dq K f ps qs
 |_,_=>false
theorem GD(hI:Inv K base g w getB)(hS:dI K g w get a){f:Nat->Nat->Nat->Bool}:∀{ps:List (Nat×Operand)} {qs:List (Nat×Nat×Arg)} {n:Nat} {z:List oH} {zv:List Value},Dq K f ps qs=true->BP K.E get qs n->
  an K.toCon g w z zv->zv.length=n->(∀x∈zv,x.oneCell'=true)->
  ps.length=qs.length∧an K.toCon g w (bO K.E get qs z) (LR ((qs.map (·.1)).zip (ps.map λp=>a.eval p.2)) zv)∧(LR ((qs.map (·.1)).zip (ps.map λp=>a.eval p.2)) zv).length=n∧
  (∀x∈LR ((qs.map (·.1)).zip (ps.map λp=>a.eval p.2)) zv,x.oneCell'=true)∧
  (∀(i:Nat) p q,ps[i]? =some p->qs[i]? =some q->f p.1 q.1 q.2.1=true∧(a.eval p.2).cells.size=q.2.1∧q.1+q.2.1<=n)
 |[],[],n,z,zv,_,_,hz,hn,h1=>⟨rfl,hz,hn,h1,by simp⟩
 |[],_::_,_,_,_,h,_,_,_,_=>by simp[Dq] at h
 |_::_,[],_,_,_,h,_,_,_,_=>by simp[Dq] at h
 |(i,x)::ps,(off,k,y)::qs,n,z,zv,h,hok,hz,hn,h1=>by
  simp only[Dq,Bool.and_eq_true] at h;obtain⟨⟨hf,hx⟩,hr⟩:=h;simp only[BP] at hok;obtain⟨e1,e2,e3,e4⟩:=hok;obtain⟨c1,c2⟩:=N0 (o6 hI hS hx) e3;have hlen:(a.eval x).cells.toList.length=k:=by rw[<-c1.len,e1]
  have ih:=GD hI hS (zv:=Abs.splice zv off (a.eval x).cells.toList) hr e4 (hz.splice off c1) (by rw[KV (by omega)];exact hn) (λu hu=>by
   unfold Abs.splice at hu;simp only[List.mem_append] at hu;rcases hu with(hu|hu)|hu
   ·exact h1 u (List.mem_of_mem_take hu)
   ·exact c2 u hu
   exact h1 u (List.mem_of_mem_drop hu))
  obtain⟨i1,i2,i3,i4,i5⟩:=ih;refine⟨by simp[i1],i2,i3,i4,λj p q hp hq=> ?_⟩;cases j with
  |zero=>simp at hp hq;subst hp hq;exact⟨hf,by simpa using hlen,e2⟩
  |succ j=>exact i5 j p q (by simpa using hp) (by simpa using hq)
def EZ(K:Cx)(op:Op)(z:List oH)(parts:List (Nat×Nat×Arg)):Bool:=
 match op with
 | .build t ps=>Sc K.P t z&&DO K.P t (λD=>D.isRow)&&Dq K (λi off k=>match K.P.underlying t with
   |some (.struct fs)=>(match fs[i]? with|some fd=>(fd.offset==off)&&u6 K.P fd.type k|none=>false)&&fs.toList.all (λfd=>(K.P.info? fd.type).isSome)
   |some (.array _ e)=>(i*k==off)&&u6 K.P e k
   |_=>false) ps.toList parts&&(match K.P.underlying t with|some (.struct fs)=>fs.toList.all (λfd=>(K.P.info? fd.type).isSome)|some (.array _ e)=>(K.P.info? e).isSome|_=>false)
 |_=>false
theorem MU{z:List oH}{v:Value}(h:yA z v.cells.toList=true)(hr:∀x∈z,ah x):an K.toCon g w z v.cells.toList∧∀x∈v.cells.toList,x.oneCell'=true:=by have h1:=ye (K:=K.toCon) (g:=g) (w:=w) _ _ h;refine⟨h1,λx hx=> ?_⟩;obtain⟨i,hi,rfl⟩:=List.mem_iff_getElem.1 hx;have hl:=h1.len;obtain⟨y,hy,hr'⟩:=h1.get i z[i] (List.getElem?_eq_getElem (by omega));rw[List.getElem?_eq_getElem hi] at hy;cases hy;exact uX hr' (hr _ (List.getElem_mem _))
theorem JZ{P:Program}:∀(fs:List Field),fs.all (λfd=>(P.info? fd.type).isSome)=true->
  ∃ps,fs.mapM (λf=>(P.info? f.type).map λi=>(f.offset,i.size))=some ps∧ps.length=fs.length∧∀(i:Nat) (fd:Field) (k:Nat),fs[i]? =some fd->u6 P fd.type k=true->ps[i]? =some (fd.offset,k)
 |[],_=>⟨[],by simp,rfl,by simp⟩
 |f::fs,h=>by
  simp only[List.all_cons,Bool.and_eq_true] at h;obtain⟨i,hi⟩:=Option.isSome_iff_exists.1 h.1;obtain⟨ps,h1,h2,h3⟩:=JZ fs h.2;refine⟨(f.offset,i.size)::ps,by simp[List.mapM_cons,hi,h1],by simp[h2],λj fd k hj hk=> ?_⟩;cases j with
  |zero=>simp at hj;subst hj;obtain⟨i',hi',rfl⟩:=yq hk;rw[hi] at hi';cases hi';rfl
  |succ j=>simpa using h3 j fd k (by simpa using hj) hk
theorem ND(hI:Inv K base g w getB)(hS:dI K g w get a){z:List oH}{parts:List (Nat×Nat×Arg)}(h:EZ K o.op z parts=true)(hz1:∀x∈z,ah x)(hok:okp K.E get getB (.build z parts)):
  ∃(r:Array Value) (ps:List (Nat×Operand)) (zv:List Value) (f:Nat->Nat->Nat->Bool),(execOp a.eval o).run K.P w= .ok (.value (.agg r)) w∧an K.toCon g w (bO K.E (λn=>dem (get n)) parts z) r.toList∧r.toList=LR ((parts.map (·.1)).zip (ps.map λp=>a.eval p.2)) zv∧Dq K f ps parts=true∧zv.length=z.length:=by
 unfold EZ at h;split at h
 ·rename_i t ps ho;simp only[Bool.and_eq_true] at h;obtain⟨⟨⟨hz,ht⟩,hps⟩,hinfo⟩:=h;obtain⟨i,zv,hi,hzz,hm⟩:=NO hz;obtain⟨c1,c2⟩:=MU (K:=K) (g:=g) (w:=w) hm hz1;simp only[okp] at hok;have hS':dI K g w (λn=>dem (get n)) a:=λs=>Rep.dem _ (hS s);rw[c1.len] at hok;obtain⟨p1,p2,p3,p4,p5⟩:=GD hI hS' hps hok c1 rfl c2;have hfin:∀(place:Nat->Option (Nat×Nat)),(∀(i:Nat) p q,ps.toList[i]? =some p->parts[i]? =some q->place p.1=some (q.1,q.2.1))->
    ∃r,Instr.fill place zv.cells (ps.map λ(i,x)=>(i,a.eval x)).toList=some r∧an K.toCon g w (bO K.E (λn=>dem (get n)) parts z) r.toList∧r.toList=LR ((parts.map (·.1)).zip (ps.toList.map λp=>a.eval p.2)) zv.cells.toList:=λplace hpl=>by
   have hlen:((ps.map λ(i,x)=>(i,a.eval x)).toList).length=(parts.map (·.1)).length:=by simpa using p1
   obtain⟨r,k1,k2⟩:=M2 place (ps.map λ(i,x)=>(i,a.eval x)).toList (parts.map (·.1)) zv.cells hlen (λj p off hp hoff=>by
    simp only[Array.toList_map,List.getElem?_map,Option.map_eq_some_iff] at hp hoff;obtain⟨p',hp',rfl⟩:=hp;obtain⟨q',hq',rfl⟩:=hoff;obtain⟨e1,e2,e3⟩:=p5 j p' q' hp' hq';simp only;rw[e2];exact⟨hpl j p' q' hp' hq',by rw[<-Array.length_toList];exact e3⟩)
   refine⟨r,k1,?_⟩;rw[k2];have:(ps.map λ(i,x)=>(i,a.eval x)).toList.map (·.2)=ps.toList.map λp=>a.eval p.2:=by simp[Array.toList_map,List.map_map,Function.comp_def]
   rw[this];exact⟨p2,rfl⟩
  obtain⟨D,hu,hD⟩:=rT ht;have done:∀r,(Instr.build t (ps.map λ(i,x)=>(i,a.eval x))).run K.P w= .ok (.agg r) w->(an K.toCon g w (bO K.E (λn=>dem (get n)) parts z) r.toList∧r.toList=LR ((parts.map (·.1)).zip (ps.toList.map λp=>a.eval p.2)) zv.cells.toList)->
    ∃(r:Array Value) (ps:List (Nat×Operand)) (zv:List Value) (f:Nat->Nat->Nat->Bool),(execOp a.eval o).run K.P w= .ok (.value (.agg r)) w∧an K.toCon g w (bO K.E (λn=>dem (get n)) parts z) r.toList∧r.toList=LR ((parts.map (·.1)).zip (ps.map λp=>a.eval p.2)) zv∧Dq K f ps parts=true∧zv.length=z.length:=λr h1 h2=>by
   refine⟨r,ps.toList,zv.cells.toList,_,?_,h2.1,h2.2,hps,c1.len.symm⟩;simp only[execOp,ho];rw[Sem.run_bind,h1];rfl
  cases D<;>simp only[TypeDesc.isRow,Bool.false_eq_true] at hD
  case struct fs=>
   simp only[hu] at hinfo p5;obtain⟨places,m1,m2,m3⟩:=JZ (P:=K.P) fs.toList hinfo;obtain⟨r,k1,k2⟩:=hfin (places.toArray[·]?) (λj p q hp hq=>by
    obtain⟨e1,_,_⟩:=p5 j p q hp hq;simp only[Bool.and_eq_true] at e1;obtain⟨e1,_⟩:=e1;split at e1
    ·rename_i fd hfd;simp only[Bool.and_eq_true,beq_iff_eq] at e1;have:=m3 p.1 fd q.2.1 (by simpa using hfd) e1.2;simp only[List.getElem?_toArray];rw[this,e1.1]
    cases e1)
   refine done r (run_build w t _ r ?_) k2;unfold Program.built;simp only[hi,hu,hzz,m1];exact k1
  case array n e=>
   simp only[hu] at hinfo p5;obtain⟨ie,hie⟩:=Option.isSome_iff_exists.1 hinfo;obtain⟨r,k1,k2⟩:=hfin (λi=>some (i*ie.size,ie.size)) (λj p q hp hq=>by
    obtain⟨e1,_,_⟩:=p5 j p q hp hq;simp only[Bool.and_eq_true,beq_iff_eq] at e1;obtain⟨i',hi',hs'⟩:=yq e1.2;rw[hie] at hi';cases hi';simp only[hs',e1.1])
   refine done r (run_build w t _ r ?_) k2;unfold Program.built;simp only[hi,hu,hzz,hie];exact k1
 cases h
theorem SH(hI:Inv K base g w getB)(hS:dI K g w get a){z:List oH}{parts:List (Nat×Nat×Arg)}(h:EZ K o.op z parts=true)(hz1:∀x∈z,ah x)(hok:okp K.E get getB (.build z parts)):zL K base a get getB d o (.build z parts) w:=by obtain⟨r,_,_,_,h1,h2,_⟩:=ND hI hS h hz1 hok;exact o7 hI hS (c:= .agg (bO K.E (λn=>dem (get n)) parts z)) (v:= .agg r) rfl h1 (by simp only[Rep];exact⟨r,rfl,h2⟩)
theorem Qb(hI:Inv K base g w getB)(hS:dI K g w get a){z:List oH}{s:Nat}(h:EZ K o.op z [(0,1,.s s)]=true)(hz1:∀x∈z,ah x)(hok:okp K.E get getB (.buildO z s)):zL K base a get getB d o (.buildO z s) w:=by
 obtain⟨hz0,hm⟩:=hok;split at hm
 ·rename_i m em;have hrs:=Bp hS s;rw[em] at hrs;simp only[Rep] at hrs;obtain⟨⟨b,vb⟩,_⟩:=hrs;have hS2:dI K g w (upd get [(s,.lit (.map (some b)))]) a:=λt=>by
   simp only[upd,lk];by_cases ht:t=s
   ·subst ht;simp only[if_true,Option.getD_some,Rep];simpa[Act.eval] using vb
   simp only[if_neg ht,Option.getD_none];exact hS t
  have hl:1<=z.length:=List.length_pos_iff.2 hz0;obtain⟨r,_,_,_,h1,h2,_⟩:=ND hI hS2 h hz1 (by simp[okp,BP,arg,upd,lk,aA,ah,Abs.dem];omega);simp only[bO,arg,upd,lk,if_true,Option.getD_some,Abs.dem,aA,splice,List.take_zero,List.nil_append,List.length_cons,List.length_nil,List.singleton_append,an,Rep] at h2;obtain⟨x,xs,hx,rfl,h2⟩:=h2;obtain⟨g',k1,k2,k3,k4,k5,k6⟩:=yX hI hS s (d.map .slot);rw[em,vb] at k3;simp only[Rep] at k3;refine⟨_,.agg r,w,h1,.inl rfl,?_⟩;simp only[eff,em];refine⟨g',k1,by rw[em] at k2;exact k2,?_⟩;simp only[Rep];exact⟨r,_,xs,rfl,hx,k3,an.mono (g:=g) (g':=g') (by rw[k5];exact aP.refl _ _) _ _ (λid _ b hb=>k4 id b hb) (by simpa using h2)⟩
 cases hm
theorem WT(hI:Inv K base g w getB)(hS:dI K g w get a){id s:Nat}(h:Le K o.op none (.s s)=true)(hok:okp K.E get getB (.boxO id s)):zL K base a get getB d o (.boxO id s) w:=by
 unfold Le at h;split at h
 ·rename_i t x' ho;obtain⟨hob,hid,hk⟩:=hok;have:=yt h;subst this;split at hk
  ·rename_i m rest es;obtain⟨g',h1,h2,h3,_⟩:=yX hI hS s (some (.cell id 0));rw[es] at h3;simp only[Rep] at h3;obtain⟨ar,x,xs,vv,hl,hx,hr⟩:=h3;have hcl:(a.eval (.tmp s)).cells=ar:=by rw[vv];rfl
   have hrun:(execOp a.eval o).run K.P w= .ok (.value (.pointer (some ⟨w.heap.size,0,none⟩))) (w.alloc (.cells (a.eval (.tmp s)).cells t)):=by simp[execOp,ho,Instr.box,newVar,newRow]
   have hb:=H7 h1 id hob hid (a.eval (.tmp s)).cells t (.mp m::rest) (λi c hc=>by
    rw[hcl];cases i with
    |zero=>simp at hc;subst hc;exact⟨x,by rw[<-Array.getElem?_toList,hl];rfl,by simp only[Rep];exact hx⟩
    |succ i=>
     simp at hc;obtain⟨u,hu,hru⟩:=hr.get i c hc;exact⟨u,by rw[<-Array.getElem?_toList,hl];simpa using hu,Bv _ (hk c (sj hc)) hru⟩)
   refine⟨_,_,_,hrun,.inl rfl,?_⟩;simp only[eff,es];rw[es] at h2;exact⟨_,hb.2,hb.1.slots h2,by simp only[Rep];exact⟨w.heap.size,by simp[Bk],rfl⟩⟩
  cases hk
 cases h
def JR(P:Program)(e:TypeId)(m:Nat):Option (Array Value):=
 if m=0 then some #[] else match P.info? e with|some i=>i.zero.map λv=>(Array.range m).map (v.cells[· % v.cells.size]!)|none=>none
def AE(K:Cx)(op:Op)(esz n:Nat)(z:List oH)(parts:List (Nat×Nat×Arg)):Bool:=
 match op with
 | .buildSlice t n' ps=>(n==n')&&(match K.P.underlying t with
   |some (.slice e)=>u6 K.P e esz&&(match JR K.P e (n*esz) with|some zv=>yA z zv.toList|none=>false)&&decide (n*esz<=16777216)&&Dq K (λi off k=>(i*k==off)&&(k==esz)) ps.toList parts
   |_=>false)
 |_=>false
theorem z9t(hI:Inv K base g w getB)(hS:dI K g w get a){x:AOp}{esz n cap:Nat}{nl:Option Bool}{cs:List oH}{vs:List Value}{C:Array Value}{e:TypeId}(hC:∀(i:Nat) v,vs[i]? =some v->C[i]? =some v)(hCs:cap*esz<=C.size)
  (hef:eff K.E get getB x={val:= .sl (.own esz) nl n cs}) (hnl:nl≠some true) (hn:n<=cap) (hlen:cs.length=n*esz) (hr:an K.toCon g w cs vs) (hp:au cs=true)
  (hrun:(execOp a.eval o).run K.P w= .ok (.value (.slice (some ⟨w.heap.size,0,none⟩) n cap)) (w.alloc (.cells C e))):zL K base a get getB d o x w:=by
 refine⟨_,_,_,hrun,.inl rfl,?_⟩;rw[hef];refine⟨uW g w.heap.size (n*esz) (d.map .slot),xk hI _ _ _,(vm hI _ _ _).slots hS,?_⟩;simp only[Rep];refine⟨?_,λl hl=> .inr ⟨_,cap,rfl,hn,hlen,by simp[uW],by simp[uW,hl],?_⟩⟩
 ·simp only[ap];refine .inl ⟨_,_,_,rfl,hn,am.mk λi c hi=> ?_,hnl,by simp⟩;have hlt:=(List.getElem?_eq_some_iff.1 hi).1;obtain⟨v,hv,hrv⟩:=hr.get i c hi;refine⟨by simp[uW];omega,v,by rw[Nat.zero_add,World.cell?_alloc_new];exact hC i v hv,?_⟩;exact ap.mono (vm hI (.cells C e) (n*esz) (d.map .slot)).keeps c v (Rep.pure c v none ((bE cs).1 hp c (sj hi)) hrv)
 exact uM w C e (0,0) (by simp) _ _ (by
  have:n*esz<=cap*esz:=Nat.mul_le_mul_right _ hn;omega)
theorem Ov(hI:Inv K base g w getB)(hS:dI K g w get a){esz n:Nat}{z:List oH}{parts:List (Nat×Nat×Arg)}(h:AE K o.op esz n z parts=true)(hz1:∀x∈z,ah x)(hok:okp K.E get getB (.buildSl esz n z parts)):zL K base a get getB d o (.buildSl esz n z parts) w:=by
 unfold AE at h;split at h
 ·rename_i t n' ps ho;simp only[Bool.and_eq_true,beq_iff_eq] at h;obtain⟨rfl,h⟩:=h;split at h
  ·rename_i e hu;simp only[Bool.and_eq_true,decide_eq_true_eq] at h;obtain⟨⟨⟨hsz,hz⟩,hle⟩,hps⟩:=h;split at hz
   ·rename_i zv hzv;obtain⟨hzl,hfill,hpure⟩:=hok;have c1:=ye (K:=K.toCon) (g:=g) (w:=w) _ _ hz;have c2:∀x∈zv.toList,x.oneCell'=true:=λx hx=>by
     obtain⟨i,hi,rfl⟩:=List.mem_iff_getElem.1 hx;have hl:=c1.len;obtain⟨y,hy,hr'⟩:=c1.get i z[i] (List.getElem?_eq_getElem (by omega));rw[List.getElem?_eq_getElem hi] at hy;cases hy;exact uX hr' (hz1 _ (List.getElem_mem _))
    rw[c1.len] at hfill;obtain⟨p1,p2,p3,p4,p5⟩:=GD hI hS hps hfill c1 rfl c2;have hlen:((ps.map λ(i,x)=>(i,a.eval x)).toList).length=(parts.map (·.1)).length:=by simpa using p1
    obtain⟨r,k1,k2⟩:=M2 (λi=>some (i*esz,esz)) (ps.map λ(i,x)=>(i,a.eval x)).toList (parts.map (·.1)) zv hlen (λj p off hp hoff=>by
     simp only[Array.toList_map,List.getElem?_map,Option.map_eq_some_iff] at hp hoff;obtain⟨p',hp',rfl⟩:=hp;obtain⟨q',hq',rfl⟩:=hoff;obtain⟨e1,e2,e3⟩:=p5 j p' q' hp' hq';simp only[Bool.and_eq_true,beq_iff_eq] at e1;simp only;rw[e2,e1.2,<-e1.1,e1.2];refine⟨rfl,?_⟩;rw[<-Array.length_toList];rw[<-e1.1,e1.2] at e3;exact e3)
    have hsnd:(ps.map λ(i,x)=>(i,a.eval x)).toList.map (·.2)=ps.toList.map λp=>a.eval p.2:=by simp[Array.toList_map,List.map_map,Function.comp_def]
    rw[hsnd] at k2;rw[<-k2] at p2 p3;have hnotbig:¬(2^24<n*esz):=by simp;omega
    obtain⟨ie,hie,hies⟩:=yq hsz;have hrun:(execOp a.eval o).run K.P w= .ok (.value (.slice (some ⟨w.heap.size,0,none⟩) n n)) (w.alloc (.cells r e)):=by
     simp only[execOp,ho,Instr.buildSlice,Sem.run_bind,run_underlying hu,Result.andThen_ok,run_sizeOf w hsz];rw[if_neg hnotbig];unfold JR at hzv;by_cases h0:n*esz=0
     ·rw[if_pos h0,Option.some.injEq] at hzv;subst hzv;rw[if_pos h0];simp only[pure_bind];rw[h0,show(Array.map (λx=>(#[]:Array Value)[x% (#[]:Array Value).size]!) (Array.range 0))= #[] from by simp,k1];simp[newRow]
     rw[if_neg h0,hie] at hzv;simp only[Option.map_eq_some_iff] at hzv;obtain⟨v,hv,rfl⟩:=hzv;rw[if_neg h0];simp only[Sem.run_bind,zeroValue,typeInfo,run_program,Result.andThen_ok,hie,hv,Sem.run_pure];rw[k1];simp[newRow]
    refine z9t hI hS (C:=r) (e:=e) (vs:=r.toList) (cs:=bO K.E get parts z) (esz:=esz) (n:=n) (cap:=n) (nl:=some false) (λi v hv=>by rw[<-Array.getElem?_toList];exact hv) ?_ rfl (by simp) (Nat.le_refl _) ?_ p2 hpure hrun
    ·rw[<-Array.length_toList,p3,<-c1.len,hzl];exact Nat.le_refl _
    rw[p2.len,p3,<-c1.len,hzl]
   cases hz
  cases h
 cases h
theorem Og(hI:Inv K base g w getB)(hS:dI K g w get a){id esz n:Nat}{z:List oH}{parts:List (Nat×Nat×Arg)}(h:AE K o.op esz n z parts=true)(hz1:∀x∈z,ah x)(hok:okp K.E get getB (.buildBx id esz n z parts)):zL K base a get getB d o (.buildBx id esz n z parts) w:=by
 unfold AE at h;split at h
 ·rename_i t n' ps ho;simp only[Bool.and_eq_true,beq_iff_eq] at h;obtain⟨rfl,h⟩:=h;split at h
  ·rename_i e hu;simp only[Bool.and_eq_true,decide_eq_true_eq] at h;obtain⟨⟨⟨hsz,hz⟩,hle⟩,hps⟩:=h;split at hz
   ·rename_i zv hzv;obtain⟨hid,hnone,hzl,hfill,p6⟩:=hok;have c1:=ye (K:=K.toCon) (g:=g) (w:=w) _ _ hz;have c2:∀x∈zv.toList,x.oneCell'=true:=λx hx=>by
     obtain⟨i,hi,rfl⟩:=List.mem_iff_getElem.1 hx;have hl:=c1.len;obtain⟨y,hy,hr'⟩:=c1.get i z[i] (List.getElem?_eq_getElem (by omega));rw[List.getElem?_eq_getElem hi] at hy;cases hy;exact uX hr' (hz1 _ (List.getElem_mem _))
    rw[c1.len] at hfill;obtain⟨p1,p2,p3,p4,p5⟩:=GD hI hS hps hfill c1 rfl c2;have hlen:((ps.map λ(i,x)=>(i,a.eval x)).toList).length=(parts.map (·.1)).length:=by simpa using p1
    obtain⟨r,k1,k2⟩:=M2 (λi=>some (i*esz,esz)) (ps.map λ(i,x)=>(i,a.eval x)).toList (parts.map (·.1)) zv hlen (λj p off hp hoff=>by
     simp only[Array.toList_map,List.getElem?_map,Option.map_eq_some_iff] at hp hoff;obtain⟨p',hp',rfl⟩:=hp;obtain⟨q',hq',rfl⟩:=hoff;obtain⟨e1,e2,e3⟩:=p5 j p' q' hp' hq';simp only[Bool.and_eq_true,beq_iff_eq] at e1;simp only;rw[e2,e1.2,<-e1.1,e1.2];refine⟨rfl,?_⟩;rw[<-Array.length_toList];rw[<-e1.1,e1.2] at e3;exact e3)
    have hsnd:(ps.map λ(i,x)=>(i,a.eval x)).toList.map (·.2)=ps.toList.map λp=>a.eval p.2:=by simp[Array.toList_map,List.map_map,Function.comp_def]
    rw[hsnd] at k2;rw[<-k2] at p2 p3;have hnotbig:¬(2^24<n*esz):=by simp;omega
    obtain⟨ie,hie,hies⟩:=yq hsz;have hrun:(execOp a.eval o).run K.P w= .ok (.value (.slice (some ⟨w.heap.size,0,none⟩) n n)) (w.alloc (.cells r e)):=by
     simp only[execOp,ho,Instr.buildSlice,Sem.run_bind,run_underlying hu,Result.andThen_ok,run_sizeOf w hsz];rw[if_neg hnotbig];unfold JR at hzv;by_cases h0:n*esz=0
     ·rw[if_pos h0,Option.some.injEq] at hzv;subst hzv;rw[if_pos h0];simp only[pure_bind];rw[h0,show(Array.map (λx=>(#[]:Array Value)[x% (#[]:Array Value).size]!) (Array.range 0))= #[] from by simp,k1];simp[newRow]
     rw[if_neg h0,hie] at hzv;simp only[Option.map_eq_some_iff] at hzv;obtain⟨v,hv,rfl⟩:=hzv;rw[if_neg h0];simp only[Sem.run_bind,zeroValue,typeInfo,run_program,Result.andThen_ok,hie,hv,Sem.run_pure];rw[k1];simp[newRow]
    have hb:=H7 hI id hid hnone r e (bO K.E get parts z) (λi c hc=>by
     obtain⟨v,hv,hrv⟩:=p2.get i c hc;exact⟨v,by rw[<-Array.getElem?_toList];exact hv,Bv _ (p6 c (sj hc)) hrv⟩)
    exact⟨_,_,_,hrun,.inl rfl,_,hb.2,hb.1.slots hS,by simp only[eff,Rep];exact⟨w.heap.size,n,0,by simp[Bk],rfl,Nat.le_refl _,Nat.le_refl _,.inl rfl,λ_=>rfl⟩⟩
   cases hz
  cases h
 cases h
def PH(K:Cx)(op:Op)(esz n:Nat)(z:List oH):Bool:=
 match op with
 | .makeSlice t (.const (.int .i64 l)) (.const (.int .i64 c))=>decide (l=(n:Int))&&decide (c=(n:Int))&&(match K.P.underlying t with
   |some (.slice e)=>u6 K.P e esz&&(match JR K.P e (n*esz) with|some zv=>yA z zv.toList|none=>false)&&decide (n<=1000000∧0<n*esz)&&(match K.P.info? e with|some i=>decide (i.bytes*n<=1000000)|none=>false)
   |_=>false)
 |_=>false
theorem Wg(hI:Inv K base g w getB)(hS:dI K g w get a){id esz n:Nat}{z:List oH}(h:PH K o.op esz n z=true)(hz1:∀x∈z,ah x)(hok:okp K.E get getB (.buildBx id esz n z [])):zL K base a get getB d o (.buildBx id esz n z []) w:=by
 unfold PH at h;split at h
 ·rename_i t l c ho;simp only[Bool.and_eq_true,decide_eq_true_eq] at h;obtain⟨⟨rfl,rfl⟩,h⟩:=h;split at h
  ·rename_i e hu;simp only[Bool.and_eq_true,decide_eq_true_eq] at h;obtain⟨⟨⟨hsz,hz⟩,hn⟩,hby⟩:=h;split at hz
   ·rename_i zv hzv;obtain⟨hid,hnone,hzl,hfill,p6⟩:=hok;have c1:=ye (K:=K.toCon) (g:=g) (w:=w) _ _ hz;split at hby
    ·rename_i ie hie;simp only[decide_eq_true_eq] at hby;have hfa:bO K.E get [] z=z:=rfl;have hby':(ie.bytes:Int)*(n:Int)<=281474976710656:=by
      have:((ie.bytes*n:Nat):Int)=(ie.bytes:Int)*(n:Int):=by simp
      omega
     have hsize:ie.size=esz:=by obtain⟨i2,hi2,hs2⟩:=yq hsz;rw[hie] at hi2;cases hi2;exact hs2
     have hrun:(execOp a.eval o).run K.P w= .ok (.value (.slice (some ⟨w.heap.size,0,none⟩) n n)) (w.alloc (.cells zv e)):=by unfold JR at hzv;rw[if_neg (by omega),hie] at hzv;simp only[Option.map_eq_some_iff] at hzv;obtain⟨v,hv,rfl⟩:=hzv;have hr:=run_make (P:=K.P) w t e ie v hu hie hv .i64 .i64 n n (by omega) (Int.le_refl _) hby' (by omega);simp only[Int.toNat_natCast,hsize] at hr;simp only[execOp,ho,Act.eval];rw[Sem.run_bind,hr];rfl
     have hb:=H7 hI id hid hnone zv e (bO K.E get [] z) (λi c hc=>by
      rw[hfa] at hc;obtain⟨v,hv,hrv⟩:=c1.get i c hc;exact⟨v,by rw[<-Array.getElem?_toList];exact hv,Bv _ (p6 c (by rw[hfa];exact sj hc)) hrv⟩)
     exact⟨_,_,_,hrun,.inl rfl,_,hb.2,hb.1.slots hS,by simp only[eff,Rep];exact⟨w.heap.size,n,0,by simp[Bk],rfl,Nat.le_refl _,Nat.le_refl _,.inl rfl,λ_=>rfl⟩⟩
    cases hby
   cases hz
  cases h
 cases h
end
end Go.Abs