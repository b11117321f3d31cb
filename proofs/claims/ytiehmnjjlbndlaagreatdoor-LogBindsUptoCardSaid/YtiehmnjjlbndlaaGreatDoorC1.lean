/- Lemmas. -/
import Derived.Test.YtiehmnjjlbndlaaGreatDoorX
noncomputable section
set_option linter.all false
namespace Go.Abs
structure XM where
 bx:List Nat
 nb:List Nat
 run:List oH->Option (oH×(Nat->List oH))
structure XW where
 hold:List Nat
 bx:List Nat
 run:List oH->(Nat->List oH)->Option (oH×(Nat->List oH))
structure XE where
 G:Nat->List oH->Option oH
 T:Nat->List oH
 M:Nat->XM:=λ_=>⟨[],[],λ_=>none⟩
 I:Nat->List oH->List oH->Option (List (List oH)):=λ_ _ _=>none
 C:Nat->XW:=λ_=>⟨[],[],λ_ _=>none⟩
def XE.env(X:XE):Env:=
 {G:=λf=>⟨λds=>(X.G f ds).isSome=true,λds=>(X.G f ds).getD .undef⟩
  T:=X.T
  M:=λf=>⟨(X.M f).bx,(X.M f).nb,λds=>((X.M f).run ds).isSome=true,λds=>(((X.M f).run ds).getD (.undef,λ_=>[])).1,λds=>(((X.M f).run ds).getD (.undef,λ_=>[])).2⟩
  I:=λf=>⟨λx y=>(X.I f x y).isSome=true,λx y i=>((X.I f x y).getD [])[i]?,[]⟩
  C:=λf=>⟨(X.C f).hold,(X.C f).bx,[],λds bs=>((X.C f).run ds bs).isSome=true,λds bs=>(((X.C f).run ds bs).getD (.undef,λ_=>[])).1,λds bs=>(((X.C f).run ds bs).getD (.undef,λ_=>[])).2⟩}
def lkX{α:Type}(s:Nat)(l:List (Nat×α)):Option α:=List.rec none (λp _ ih=>bif Nat.beq s p.1 then some p.2 else ih) l
theorem fz{α:Type}(s:Nat):∀l:List (Nat×α),lkX s l=lk l s
 |[]=>rfl
 |(k,x)::l=>by
  have h:lkX s ((k,x)::l)=bif Nat.beq s k then some x else lkX s l:=rfl;rw[h,fz s l,lk];by_cases e:s=k
  ·subst e;rw[if_pos rfl,Nat.beq_refl];rfl
  rw[if_neg e];cases hb:Nat.beq s k with
  |true=>exact absurd (Nat.eq_of_beq_eq_true hb) e
  |false=>rfl
def uF{α:Type}(p:α->Bool)(l:List α):Bool:=List.rec true (λa _ ih=>bif p a then ih else false) l
theorem pd{α:Type}{p:α->Bool}:∀{l:List α},uF p l=true->∀a∈l,p a=true
 |[],_,_,h=>by cases h
 |b::l,h,a,ha=>by
  have e:uF p (b::l)=bif p b then uF p l else false:=rfl;rw[e] at h;cases hb:p b with
  |false=>rw[hb] at h;cases h
  |true=>
   rw[hb] at h;rcases List.mem_cons.1 ha with rfl|h'
   ·exact hb
   exact pd h a h'
def z7ta:oH->Bool| .lit (.bool _)=>true|_=>false
theorem z5F{v:oH}(h:z7ta v=true):isB v:=by unfold z7ta at h;split at h;exact trivial;cases h
def z85:oH->Bool| .lit (.int _ _)=>true|_=>false
theorem QJ{v:oH}(h:z85 v=true):isI v:=by unfold z85 at h;split at h;exact trivial;cases h
def z3s(k:IntKind):oH->Bool| .lit (.int k' _)=>decide (k=k')|_=>false
theorem z4c{k:IntKind}{v:oH}(h:z3s k v=true):z5E k v:=by
 unfold z3s at h;split at h
 ·exact show k=_ from of_decide_eq_true h
 cases h
def Ww:oH->Bool| .lit (.string _)=>true|_=>false
theorem JE{v:oH}(h:Ww v=true):isS v:=by unfold Ww at h;split at h;exact trivial;cases h
def z5r:oH->Bool| .sl _ _ _ _=>true| .bv _ _ _ _ _=>true| .lit (.slice none 0 0)=>true|_=>false
theorem z2d{v:oH}(h:z5r v=true):z1m v:=by unfold z5r at h;split at h<;>first|exact trivial|cases h
def AN:oH->Bool| .agg _=>false| .tup _=>false| .otup _ _ _ _ _=>false| .oagg _ _=>false| .undef=>false| .lit (.agg _)=>false| .lit (.tuple _)=>false|_=>true
theorem yw{v:oH}(h:AN v=true):ah v:=by unfold AN at h;unfold ah;split<;>simp_all
def z2ma(k:Option Nat)(v:oH):Bool:=
 match k with
 |none=>AN v
 |some n=>match v with| .agg cs=>cs.length==n&&cs.all (λc=>AN c&& !ao c)|_=>false
theorem TJ{k:Option Nat}{v:oH}(h:z2ma k v=true):isK k v:=by
 unfold z2ma at h;unfold isK;split at h
 ·exact yw h
 split at h
 ·simp only[Bool.and_eq_true,beq_iff_eq,List.all_eq_true,Bool.not_eq_true'] at h;exact⟨h.1,λc hc=>yw (h.2 c hc).1,λc hc=>(h.2 c hc).2⟩
 cases h
def z37(esz:Nat)(b:Option Nat)(bx:Option (List oH)):oH->Bool
 | .sl _ _ n cs=>cs.length==n*esz
 | .bv id e off n _=>b==some id&&e==esz&&(match bx with|some cs=>decide (off+n*e<=cs.length)|none=>false)
 | .lit (.slice none 0 0)=>true
 |_=>false
theorem QA{esz:Nat}{b:Option Nat}{bx:Option (List oH)}{v:oH}(h:z37 esz b bx v=true):okS esz b bx v:=by
 unfold z37 at h;split at h
 ·simpa[okS] using h
 ·simp only[Bool.and_eq_true,beq_iff_eq] at h;obtain⟨⟨h1,h2⟩,h3⟩:=h;split at h3
  ·exact⟨h1,h2,_,rfl,of_decide_eq_true h3⟩
  cases h3
 ·trivial
 cases h
def z2Aa(op:BinOp)(x y:oH):Bool:=
 match x,y with
 | .lit (.int k _),.lit (.int k' b)=>
  (match op with
   | .shl| .shr=>decide (0<=b)
   | .quo| .rem=>decide (k=k')&&b !=0
   |_=>decide (k=k'))
 | .lit (.string a),.lit (.string b)=>
  (match op with
   | .add=>decide (((a.size+b.size:Nat):Int)<=9223372036854775807)
   | .eql| .neq| .lss| .leq| .gtr| .geq=>true
   |_=>false)
 |_,_=>false
theorem z8w{op:BinOp}{x y:oH}(h:z2Aa op x y=true):oV op x y:=by
 unfold z2Aa at h;split at h
 ·split at h<;>simp_all [oV]
 ·split at h<;>simp_all [oV]
 cases h
def unX(op:UnOp)(x:oH):Bool:=
 match op,x with
 | .neg,.lit (.int _ _)=>true
 | .xor,.lit (.int _ _)=>true
 | .not,.lit (.bool _)=>true
 |_,_=>false
theorem z7ha{op:UnOp}{x:oH}(h:unX op x=true):iF op x:=by unfold unX at h;split at h<;>first|trivial|cases h
def z7V:LK->oH->Bool
 | .int k,.lit (.int k' _)=>decide (k=k')
 | .bool,.lit (.bool _)=>true
 | .str,.lit (.string _)=>true
 |_,_=>false
def GN:List LK->List oH->Bool
 |[],[]=>true
 |k::ks,c::cs=>z7V k c&&GN ks cs
 |_,_=>false
theorem FR:∀{ks:List LK} {cs:List oH},GN ks cs=true->cu ks cs
 |[],[],_=>trivial
 |[],_::_,h=>by cases h
 |_::_,[],h=>by cases h
 |k::ks,c::cs,h=>by
  simp only[GN,Bool.and_eq_true] at h;refine⟨?_,FR h.2⟩;have h1:=h.1;unfold z7V at h1;split at h1
  ·exact show _=_ from of_decide_eq_true h1
  ·trivial
  ·trivial
  cases h1
def Jo(bs:List Nat)(bx:Nat->Option (List oH)):oH->Bool
 | .bp id off=>bs.contains id&&(match bx id with|some cs=>decide (off<=cs.length)|none=>false)
 | .bv id e off n _=>bs.contains id&&(match bx id with|some cs=>decide (off+n*e<=cs.length)|none=>false)
 |v=>ak v
theorem Hu{bs:List Nat}{bx:Nat->Option (List oH)}{v:oH}(h:Jo bs bx v=true):aU bs bx v:=by
 unfold Jo at h;split at h
 ·simp only[Bool.and_eq_true,List.contains_eq_mem,decide_eq_true_eq] at h;obtain⟨h1,h2⟩:=h;split at h2
  ·rename_i cs e;exact⟨h1,cs,e,of_decide_eq_true h2⟩
  cases h2
 ·simp only[Bool.and_eq_true,List.contains_eq_mem,decide_eq_true_eq] at h;obtain⟨h1,h2⟩:=h;split at h2
  ·rename_i cs e;exact⟨h1,cs,e,of_decide_eq_true h2⟩
  cases h2
 rename_i h1 h2;cases v with
 |bp=>exact(h1 _ _ rfl).elim
 |bv=>exact(h2 _ _ _ _ _ rfl).elim
 |_=>exact h
def NC(bs:List Nat)(bx:Nat->Option (List oH)):oH->Bool
 | .fn _ x y=>x.all (Jo bs bx)&&y.all (Jo bs bx)
 |v=>Jo bs bx v
theorem Kj{bs:List Nat}{bx:Nat->Option (List oH)}{v:oH}(h:NC bs bx v=true):aG bs bx v:=by
 cases v<;>simp only[NC,aG] at h⊢
 case fn f x y=>simp only[Bool.and_eq_true,List.all_eq_true] at h;exact⟨λv hv=>Hu (h.1 v hv),λv hv=>Hu (h.2 v hv)⟩
 all_goals exact Hu h
theorem C5{α:Type}{c:Bool}{a e:α}(h:(bif c then some a else none)=some e):c=true∧a=e:=by
 cases c with
 |false=>cases h
 |true=>cases h;exact⟨rfl,rfl⟩
theorem Rg(a b:ByteArray)(h:a.data.toList=b.data.toList):a=b:=by cases a with|mk a=>cases b with|mk b=>cases a with|mk a=>cases b with|mk b=>exact congrArg (λl=>ByteArray.mk (Array.mk l)) h
def strF(op:BinOp)(a b:ByteArray):Value:=match op with| .add=> .string ⟨⟨a.data.toList++b.data.toList⟩⟩|op=>z5ja op a b
theorem z1y(op:BinOp)(a b:ByteArray):strF op a b=z5ja op a b:=by
 cases op with
 |add=>exact congrArg Value.string (Rg _ _ (by simp[ByteArray.data_append]))
 |_=>rfl
def z1wa(op:BinOp)(x y:oH):oH:=
 match x,y with
 | .lit (.int k a),.lit (.int _ b)=> .lit (z1F op k a b)
 | .lit (.string a),.lit (.string b)=> .lit (strF op a b)
 |_,_=> .undef
theorem z6y(op:BinOp)(x y:oH):z1wa op x y=aE op x y:=by
 unfold z1wa aE;split
 ·rfl
 ·rw[z1y]
 rename_i h1 h2;split
 ·exact(h1 _ _ _ _ rfl rfl).elim
 ·exact(h2 _ _ rfl rfl).elim
 rfl
def SL(id:Nat):Bool:=Nat.blt id 400000||(Nat.ble 500000 id&&Nat.blt id 1000000)
theorem Iy{id:Nat}(h:SL id=true):cx id:=by simp only[SL,Bool.or_eq_true,Bool.and_eq_true] at h;exact h.imp (λh=>Nat.le_of_ble_eq_true h) λh=>⟨Nat.le_of_ble_eq_true h.1,Nat.le_of_ble_eq_true h.2⟩
section
variable (X : XE) (g : Nat -> oH) (gb : Nat -> Option (List oH))
def Ic(o:Option Arg)(m:Nat):Bool:=match o with|none=>true|some a=>z85 (arg X.env g a)&&decide (0<=asI (arg X.env g a))&&decide (asI (arg X.env g a)<=m)
def HL(g:Nat->oH):List (Nat×Nat×Arg)->Nat->Bool
 |[],_=>true
 |(off,k,a)::r,n=>(aA (arg X.env g a)).length==k&&Nat.ble (off+k) n&&uF AN (aA (arg X.env g a))&&HL g r n
def Rr(b:Option Nat)(n:Nat):oH->Bool
 | .bp id off=>(match b with|some i=>Nat.beq i id|none=>false)&&(match gb id with|some cs=>Nat.ble (off+n) cs.length|none=>false)
 | .ep cs=>b.isNone&&Nat.ble n cs.length
 |_=>false
def ZP(ws:List (Nat×Nat)):Nat->List oH->Bool
 |_,[]=>true
 |j,a::as=>(match fnd ws j with|some id=>(match a with| .bp i 0=>i==id|_=>false)&&(match gb id with|some cs=>au cs|none=>false)|none=>NC [] (λ_=>none) a)&&ZP ws (j+1) as
def QR(esz:Nat)(bytes:Nat)(str:Bool)(nlr:Option Bool)(b:Option Nat)(x y:oH):Bool:=
  (if str then Ww y&&esz==1 else z37 esz b (bxc gb b) y)&&
  Nat.ble ((bc x+bc y)*bytes) 1099511627776&&Nat.ble (bc x+bc y) 1099511627776&&
  (match nlr with
   |none=>true
   |some false=>(match x with| .sl _ (some false) _ _=>true|_=>Nat.ble 1 (bc y))
   |some true=>(match x with| .sl _ (some true) _ _=>bc y==0|_=>false))&&
  uF (λc=>ak c&&AN c) (az (bxl gb b) y)
def ZC(f:Nat)(as:List oH)(bs:List Nat):Option Eff:=
 bif uF (NC bs (λid=>if id∈bs then gb id else none)) as&&uF (λid=>match gb id with|some cs=>au cs|none=>false) bs then
  match X.G f (as.map (aS (λid=>if id∈bs then(gb id).getD [] else []))) with
  |some v=>bif ak v&&(bs.isEmpty||aC v) then some {val:=v} else none
  |none=>none
 else none
def Sg(f:Nat)(as:List oH)(ws ns:List (Nat×Nat)):Option Eff:=
 bif ZP gb ws 0 as&&(ws.map (·.1)==(X.M f).bx)&&decide ((ws.map (·.2)).Nodup)&&(uF (λj=>decide (j<as.length)) (X.M f).bx)&&(ns.map (·.1)==(X.M f).nb)&&decide ((ns.map (·.2)).Nodup)&&uF (λp:Nat×Nat=>(gb p.2).isNone&&SL p.2) ns&&decide (((X.M f).bx++(X.M f).nb).Nodup)&&uF (λp:Nat×Nat=>decide (p.1<500000)&&decide (p.2<500000)) (ws++ns) then
  match(X.M f).run (cv gb ws 0 as) with
  |some (v,out)=>bif uF (λid=>((X.M f).bx++(X.M f).nb).contains id) (aF v)&&uF (λj=>uF (λid=>((X.M f).bx++(X.M f).nb).contains id) (pT (out j))) ((X.M f).bx++(X.M f).nb) then
    some {val:=Abs.ren (ws++ns) v,bx:=(ws++ns).map λp:Nat×Nat=>(p.2,some (Abs.renL (ws++ns) (out p.1)))} else none
  |none=>none
 else none
def z5u(ws:List (Nat×Nat))(a:oH):Bool:=match aF a with|[]=>NC [] (λ_=>none) a|i::l=>uF (λid=>(ws.map (·.2)).contains id) (i::l)
def z0ga(ws:List (Nat×Nat))(cs:List oH):Bool:=bif bU ws then uF (λid=>(ws.map (·.2)).contains id) (pT cs) else au cs
def R2(f:Nat)(as:List oH)(ws:List (Nat×Nat)):Option Eff:=
 bif uF (z5u ws) as&&uF (λp:Nat×Nat=>match gb p.2 with|some cs=>z0ga ws cs|none=>false) ws&&(ws.map (·.1)==(X.C f).bx)&&decide ((ws.map (·.2)).Nodup)&&decide ((X.C f).bx.Nodup)&&uF (λp:Nat×Nat=>decide (p.1<500000)&&decide (p.2<500000)) ws&&uF (λj=>(Nat.ble 400000 j&&Nat.blt j 500000)||(X.C f).hold.any λi=>match(as.map (Wk ws))[i]? with|some d=>(aF d).contains j|none=>false) (X.C f).bx then
  match(X.C f).run (as.map (Wk ws)) (Ky gb ws) with
  |some (v,out)=>bif uF (λid=>(X.C f).bx.contains id) (aF v)&&uF (λj=>uF (λid=>(X.C f).bx.contains id) (pT (out j))) (X.C f).bx then
    some {val:=Abs.ren (ws++[]) v,bx:=(ws++[]).map λp:Nat×Nat=>(p.2,some (Abs.renL (ws++[]) (out p.1)))} else none
  |none=>none
 else none
def x_mv(t:Bool)(x:Arg):Eff:=match t,x with
 |true,.s n=>{val:=g n,sl:=[(n,dem (g n))]}
 |true,.c d=>{val:=d}
 |_,x=>{val:=dem (arg X.env g x)}
def z1o(c a b:Arg):Option Eff:=match arg X.env g c with| .lit (.bool true)=>some {val:=dem (arg X.env g a)}| .lit (.bool false)=>some {val:=dem (arg X.env g b)}|_=>none
def z32(op:BinOp)(x y:Arg):Option Eff:=bif z2Aa op (arg X.env g x) (arg X.env g y) then some {val:=z1wa op (arg X.env g x) (arg X.env g y)} else none
def z1ha(ks:List LK)(neg:Bool)(x y:Arg):Option Eff:=match arg X.env g x,arg X.env g y with
 | .agg xs,.agg ys=>bif GN ks xs&&GN ks ys then some {val:= .lit (.bool (dk ks xs ys !=neg))} else none
 |_,_=>none
def x_un(op:UnOp)(x:Arg):Option Eff:=bif unX op (arg X.env g x) then some {val:=unV op (arg X.env g x)} else none
def Un(k:IntKind)(x:Arg):Option Eff:=bif z85 (arg X.env g x) then some {val:=cvV k (arg X.env g x)} else none
def Uh(b:Option Nat)(x:Arg):Option Eff:=bif z37 1 b (bxc gb b) (arg X.env g x)&&uF (z3s .u8) (az (bxl gb b) (arg X.env g x)) then some {val:= .lit (.string (FN (az (bxl gb b) (arg X.env g x))))} else none
def OH(x:Arg):Option Eff:=bif Ww (arg X.env g x) then some {val:= .sl (.own 1) (some false) (asS (arg X.env g x)).size (Ia (asS (arg X.env g x)).data.toList)} else none
def WV(z:List oH)(ps:List (Nat×Nat×Arg)):Option Eff:=bif HL X (λn=>dem (g n)) ps z.length then some {val:= .agg (bO X.env (λn=>dem (g n)) ps z)} else none
def On(esz n:Nat)(z:List oH)(ps:List (Nat×Nat×Arg)):Option Eff:=bif z.length==n*esz&&HL X g ps z.length&&au (bO X.env g ps z) then some {val:= .sl (.own esz) (some false) n (bO X.env g ps z)} else none
def z9j(k b:Option Nat)(take:Bool)(x:Arg):Option Eff:=bif Rr gb b (k.getD 1) (arg X.env g x)&&(!take||(match b with|some id=>decide (id<1000000)|none=>true)) then some (eff X.env g gb (.load k b take x)) else none
def UR(k:Option Nat)(b:Nat)(take:Bool)(a v:Arg):Option Eff:=bif decide (b<1000000)&&(match arg X.env g a with| .bp id off=>id==b&&(match gb id with|some cs=>Nat.ble (off+k.getD 1) cs.length|none=>false)|_=>false)&&z2ma k (arg X.env g v) then some (eff X.env g gb (.store k b take a v)) else none
def Sy(x:Arg):Option Eff:=match arg X.env g x with| .bp i o=>some {val:= .bp i o}| .ep cs=>some {val:= .ep cs}|_=>none
def I2(o:Nat)(x:Arg):Option Eff:=match arg X.env g x with| .bp id off=>some {val:= .bp id (off+o)}| .ep cs=>bif Nat.ble o cs.length then some {val:= .ep (cs.drop o)} else none|_=>none
def okI(n:Nat)(i:oH):Bool:=z85 i&&decide (0<=asI i)&&decide (asI i<n)
def Ss(n esz:Nat)(x i:Arg):Option Eff:=bif okI n (arg X.env g i) then(match arg X.env g x with| .bp id off=>some {val:= .bp id (off+(asI (arg X.env g i)).toNat*esz)}| .ep cs=>some {val:= .ep (cs.drop ((asI (arg X.env g i)).toNat*esz))}|_=>none) else none
def Xd(esz:Nat)(x i:Arg):Option Eff:=bif okI (bc (arg X.env g x)) (arg X.env g i) then(match arg X.env g x with| .bv id e off _ _=>bif e==esz then some {val:= .bp id (off+(asI (arg X.env g i)).toNat*esz)} else none| .sl _ _ _ cs=>some {val:= .ep (cs.drop ((asI (arg X.env g i)).toNat*esz))}|_=>none) else none
def T5(n esz:Nat)(x:Arg)(lo hi mx:Option Arg):Option Eff:=bif (match arg X.env g x with| .bp _ _=>true| .ep _=>true|_=>false)&&(!mx.isSome||hi.isSome)&&Ic X g mx n&&Ic X g hi (bnd X.env g mx n)&&Ic X g lo (bnd X.env g hi n)&&Nat.ble (bnd X.env g hi n) n then some (eff X.env g gb (.slArr n esz x lo hi mx)) else none
def z7p(esz:Nat)(x:Arg)(lo hi mx:Option Arg):Option Eff:=bif (match arg X.env g x with| .bv _ e _ _ _=>e==esz| .sl _ _ _ _=>true| .lit (.slice none 0 0)=>true|_=>false)&&(!mx.isSome||hi.isSome)&&Ic X g mx (bc (arg X.env g x))&&Ic X g hi (bnd X.env g mx (bc (arg X.env g x)))&&Ic X g lo (bnd X.env g hi (bc (arg X.env g x))) then some (eff X.env g gb (.slSl esz x lo hi mx)) else none
def z5l(n:Nat)(x:Arg):Option Eff:=match arg X.env g x with| .bv id _ off k _=>bif Nat.ble n k&&Nat.ble 1 n then some {val:= .bp id off} else none| .sl _ _ k cs=>bif Nat.ble n k&&Nat.ble 1 n then some {val:= .ep cs} else none|_=>none
def T6(id:Nat)(z:List oH):Option Eff:=bif SL id&&(gb id).isNone then some {val:= .bp id 0,bx:=[(id,some z)]} else none
def z9Y(id:Nat)(k:Option Nat)(take:Bool)(x:Arg):Option Eff:=bif SL id&&(gb id).isNone&&z2ma k (arg X.env g x) then some (eff X.env g gb (.box id k take x)) else none
def N2(i:Nat)(x:Arg):Option Eff:=match dem (arg X.env g x) with| .tup vs=>bif decide (i<vs.length) then some {val:=dem (vs.getD i .undef)} else none|_=>none
def z0k(k:Option Nat)(esz n:Nat)(x i:Arg):Option Eff:=bif okI n (arg X.env g i) then(match arg X.env g x with| .agg cs=>bif Nat.ble ((asI (arg X.env g i)).toNat*esz+k.getD 1) cs.length then some (eff X.env g gb (.idxA k esz n x i)) else none|_=>none) else none
def QQ(x i:Arg):Option Eff:=bif Ww (arg X.env g x)&&okI (asS (arg X.env g x)).size (arg X.env g i) then some {val:= .lit (.int .u8 ((asS (arg X.env g x)).data.toList.getD (asI (arg X.env g i)).toNat 0).toNat)} else none
def z8ca(str:Bool)(x:Arg):Option Eff:=bif (bif str then Ww (arg X.env g x) else z5r (arg X.env g x)) then some {val:= .lit (.int .i64 (bc (arg X.env g x)))} else none
def Sd(esz bytes:Nat)(str:Bool)(nlr:Option Bool)(b:Option Nat)(x:Nat)(y:Arg):Option Eff:=bif (match g x with| .sl (.own e) _ _ _=>e==esz|_=>false)&&QR gb esz bytes str nlr b (g x) (arg X.env g y) then some {val:= .sl (.own esz) nlr (bc (g x)+bc (arg X.env g y)) (az [] (g x)++az (bxl gb b) (arg X.env g y)),sl:=[(x,dem (g x))]} else none
def OC(esz bytes:Nat)(str:Bool)(nlr:Option Bool)(b:Option Nat)(x y:Arg):Option Eff:=bif (match arg X.env g x with| .sl .clip _ n cs=>cs.length==n*esz|_=>false)&&QR gb esz bytes str nlr b (arg X.env g x) (arg X.env g y) then some (eff X.env g gb (.appendC esz bytes str nlr b x y)) else none
def OM(esz bytes:Nat)(str:Bool)(id:Nat)(b:Option Nat)(x y:Arg):Option Eff:=bif decide (id<1000000)&&(match arg X.env g x with| .bv i e off n c=>i==id&&e==esz&&(match gb id with|some cs=>Nat.ble (off+(n+bc (arg X.env g y))*e) cs.length|none=>false)&&Nat.ble (n+bc (arg X.env g y)) c&&Nat.ble 1 c|_=>false)&&
  (if str then Ww (arg X.env g y)&&esz==1 else z37 esz b (bxc gb b) (arg X.env g y))&&uF (λc=>AN c&& !ao c) (az (bxl gb b) (arg X.env g y)) then some (eff X.env g gb (.appendB esz bytes str id b x y)) else none
def UU(f:Nat)(t:Arg)(args:List Arg)(bs:List Nat):Option Eff:=match arg X.env g t with| .fn f' x y=>bif f'==f then ZC X gb f (x++args.map (arg X.env g)++y) bs else none|_=>none
def TR(f:Nat)(t:Option Arg)(args:List Arg)(ws ns:List (Nat×Nat)):Option Eff:=match t with|none=>Sg X gb f (args.map (arg X.env g)) ws ns|some t=>(match arg X.env g t with| .fn f' x y=>bif f'==f then Sg X gb f (x++args.map (arg X.env g)++y) ws ns else none|_=>none)
def Wy(f:Nat)(t:Option Arg)(args:List Arg)(ws ns:List (Nat×Nat)):Option Eff:=match ns,t with|[],none=>R2 X gb f (args.map (arg X.env g)) ws|[],some t=>(match arg X.env g t with| .fn f' x y=>bif f'==f then R2 X gb f (x++args.map (arg X.env g)++y) ws else none|_=>none)|_,_=>none
def Np(id esz n:Nat)(z:List oH)(ps:List (Nat×Nat×Arg)):Option Eff:=bif SL id&&(gb id).isNone&&z.length==n*esz&&HL X g ps z.length&&uF (λc=> !ao c) (bO X.env g ps z) then some {val:= .bv id esz 0 n n,bx:=[(id,some (bO X.env g ps z))]} else none
def vj:AOp->Option Eff
 | .buildBx i e n z ps=>Np X g gb i e n z ps
 | .mv t x=>some (x_mv X g t x)
 | .pick c a b=>z1o X g c a b
 | .bin op x y=>z32 X g op x y
 | .eqF ks n x y=>z1ha X g ks n x y
 | .un op x=>x_un X g op x
 | .toInt k x=>Un X g k x
 | .toStr b x=>Uh X g gb b x
 | .toBytes x=>OH X g x
 | .build z ps=>WV X g z ps
 | .buildSl e n z ps=>On X g e n z ps
 | .load k b t x=>z9j X g gb k b t x
 | .store k b t a v=>UR X g gb k b t a v
 | .nilchk x=>Sy X g x
 | .fieldAddr o x=>I2 X g o x
 | .idxArr n e x i=>Ss X g n e x i
 | .idxSl e x i=>Xd X g e x i
 | .slArr n e x l h m=>T5 X g gb n e x l h m
 | .slSl e x l h m=>z7p X g gb e x l h m
 | .s2ap n x=>z5l X g n x
 | .alloc id z=>T6 gb id z
 | .box id k t x=>z9Y X g gb id k t x
 | .extract i x=>N2 X g i x
 | .idxA k e n x i=>z0k X g gb k e n x i
 | .idxStr x i=>QQ X g x i
 | .call f as bs=>ZC X gb f (as.map (arg X.env g)) bs
 | .callv f t as bs=>UU X g gb f t as bs
 | .callm f t as ws ns=>TR X g gb f t as ws ns
 | .callw f t as ws ns=>Wy X g gb f t as ws ns
 | .len s x=>z8ca X g s x
 | .append e y s l b x z=>Sd X g gb e y s l b x z
 | .appendC e y s l b x z=>OC X g gb e y s l b x z
 | .appendB e y s i b x z=>OM X g gb e y s i b x z
 | .mkfn f x y=>some {val:= .fn f (x.map λa=>dem (arg X.env g a)) (y.map λa=>dem (arg X.env g a))}
 |_=>none
end
section
variable {X : XE} {g : Nat -> oH} {gb : Nat -> Option (List oH)}
theorem O7{α:Type}{c:Bool}{x:Option α}{e:α}(h:(bif c then x else none)=some e):c=true∧x=some e:=by
 cases c with
 |false=>cases h
 |true=>exact⟨rfl,h⟩
theorem CC{o:Option Arg}{m:Nat}(h:Ic X g o m=true):bn X.env g o m:=by
 unfold Ic at h;split at h
 ·trivial
 simp only[Bool.and_eq_true,decide_eq_true_eq] at h;exact⟨QJ h.1.1,h.1.2,h.2⟩
theorem E7{g:Nat->oH}:∀{ps:List (Nat×Nat×Arg)} {n:Nat},HL X g ps n=true->BP X.env g ps n
 |[],_,_=>trivial
 |(off,k,a)::r,n,h=>by simp only[HL,Bool.and_eq_true,beq_iff_eq] at h;exact⟨h.1.1.1,Nat.le_of_ble_eq_true h.1.1.2,λc hc=>yw (pd h.1.2 c hc),E7 h.2⟩
theorem NK{b:Option Nat}{n:Nat}{v:oH}(h:Rr gb b n v=true):cA gb b n v:=by
 unfold Rr at h;split at h
 ·simp only[Bool.and_eq_true] at h;obtain⟨h1,h2⟩:=h;split at h1
  ·split at h2
   ·rename_i cs e;exact⟨by rw[Nat.eq_of_beq_eq_true h1],cs,e,Nat.le_of_ble_eq_true h2⟩
   cases h2
  cases h1
 ·simp only[Bool.and_eq_true,Option.isNone_iff_eq_none] at h;exact⟨h.1,Nat.le_of_ble_eq_true h.2⟩
 cases h
theorem Ra{ws:List (Nat×Nat)}:∀{as:List oH} {j:Nat},ZP gb ws j as=true->iJ gb ws j as
 |[],_,_=>trivial
 |a::as,j,h=>by
  simp only[ZP,Bool.and_eq_true] at h;refine⟨?_,Ra h.2⟩;have h1:=h.1;split at h1
  ·rename_i id e;rw[e];simp only[Bool.and_eq_true] at h1;obtain⟨h2,h3⟩:=h1;split at h2
   ·simp only[beq_iff_eq] at h2;subst h2;split at h3
    ·rename_i cs e;exact⟨rfl,cs,e,h3⟩
    cases h3
   cases h2
  rename_i e;rw[e];exact Kj h1
theorem z7ga{bs:List Nat}(h:(uF (λid=>match gb id with|some cs=>au cs|none=>false) bs)=true):∀id∈bs,∃cs,gb id=some cs∧au cs=true:=λid hi=>by
 have:=pd h id hi;split at this
 ·rename_i cs e;exact⟨cs,e,this⟩
 cases this
theorem Rp{f:Nat}{as:List oH}{bs:List Nat}{e:Eff}(h:ZC X gb f as bs=some e):bX X.env gb f as bs∧{val:=cY X.env gb f as bs}=e:=by
 unfold ZC at h;obtain⟨h0,h⟩:=O7 h;simp only[Bool.and_eq_true] at h0;split at h
 ·rename_i v hv;obtain⟨h1,h⟩:=C5 h;simp only[Bool.and_eq_true,Bool.or_eq_true,List.isEmpty_iff] at h1;have hp:(X.env.G f).post (as.map (aS (λid=>if id∈bs then(gb id).getD [] else [])))=v:=by show(X.G f _).getD .undef=v;rw[hv];rfl
  refine⟨⟨λa ha=>Kj (pd h0.1 a ha),λid hi=> ?_,?_⟩,by rw[cY,hp];exact h⟩
  ·obtain⟨cs,h2,h3⟩:=z7ga h0.2 id hi;exact⟨cs,h2,(bE cs).1 h3⟩
  refine⟨?_,by rw[hp];exact h1.1,by rw[hp];exact h1.2⟩;show(X.G f _).isSome=true;rw[hv];rfl
 cases h
theorem OD{f:Nat}{as:List oH}{ws ns:List (Nat×Nat)}{e:Eff}(h:Sg X gb f as ws ns=some e):okM X.env gb f as ws ns∧fR X.env gb f as ws ns=e:=by
 unfold Sg at h;obtain⟨h0,h⟩:=O7 h;simp only[Bool.and_eq_true,beq_iff_eq,decide_eq_true_eq] at h0;obtain⟨⟨⟨⟨⟨⟨⟨⟨a1,a2⟩,a3⟩,a4⟩,b1⟩,b2⟩,b3⟩,a5⟩,a6⟩:=h0;split at h
 ·rename_i v out hv;obtain⟨h1,h⟩:=C5 h;simp only[Bool.and_eq_true] at h1;have hp:(X.env.M f).post (cv gb ws 0 as)=v:=by show(((X.M f).run _).getD _).1=v;rw[hv];rfl
  have ho:(X.env.M f).out (cv gb ws 0 as)=out:=by show(((X.M f).run _).getD _).2=out;rw[hv];rfl
  refine⟨⟨Ra a1,a2,a3,λj hj=>of_decide_eq_true (pd a4 j hj),b1,b2,λp hp=> ?_,a5,λp hp=> ?_,?_,?_,?_⟩,by rw[fR];simp only[hp,ho];exact h⟩
  ·have:=pd b3 p hp;simp only[Bool.and_eq_true,Option.isNone_iff_eq_none] at this;exact⟨this.1,Iy this.2⟩
  ·have:=pd a6 p hp;simp only[Bool.and_eq_true,decide_eq_true_eq] at this;omega
  ·show((X.M f).run _).isSome=true;rw[hv];rfl
  ·rw[hp];exact λid hi=>List.contains_iff_mem.1 (pd h1.1 id hi)
  rw[ho];exact λj hj id hi=>List.contains_iff_mem.1 (pd (pd h1.2 j hj) id hi)
 cases h
theorem Zf{ws:List (Nat×Nat)}{a:oH}(h:z5u ws a=true):z3T ws a:=by
 unfold z5u at h;unfold z3T;split at h
 ·rename_i e;rw[e];exact Kj h
 rename_i i l e;rw[e];exact λid hi=>by simpa using pd h id hi
theorem OG{f:Nat}{as:List oH}{ws:List (Nat×Nat)}{e:Eff}(h:R2 X gb f as ws=some e):okW X.env gb f as ws []∧gk X.env gb f as ws []=e:=by
 unfold R2 at h;obtain⟨h0,h⟩:=O7 h;simp only[Bool.and_eq_true,beq_iff_eq,decide_eq_true_eq] at h0;obtain⟨⟨⟨⟨⟨⟨a1,a2⟩,a3⟩,a4⟩,a5⟩,a6⟩,a7⟩:=h0;split at h
 ·rename_i v out hv;obtain⟨h1,h⟩:=C5 h;simp only[Bool.and_eq_true] at h1;have hp:(X.env.C f).post (as.map (Wk ws)) (Ky gb ws)=v:=by show(((X.C f).run _ _).getD _).1=v;rw[hv];rfl
  have ho:(X.env.C f).out (as.map (Wk ws)) (Ky gb ws)=out:=by show(((X.C f).run _ _).getD _).2=out;rw[hv];rfl
  have hb:(X.env.C f).bx++(X.env.C f).nb=(X.C f).bx:=List.append_nil _;refine⟨⟨λa ha=>Zf (pd a1 a ha),λp hp=> ?_,a3,a4,rfl,List.nodup_nil,λ_ h=>(by cases h),(by rw[hb];exact a5),λp hp=> ?_,λj hj=> ?_,?_,?_,?_⟩,by rw[gk];simp only[hp,ho];exact h⟩
  ·have:=pd a2 p hp;split at this
   ·rename_i cs e;refine⟨cs,e,?_⟩;unfold z0ga at this;unfold gv;cases hv:bU ws with
    |true=>rw[hv] at this;rw[if_pos rfl];exact λid hid=>by simpa using pd this id hid
    |false=>rw[hv] at this;rw[if_neg (by simp)];exact this
   cases this
  ·rw[List.append_nil] at hp;have:=pd a6 p hp;simp only[Bool.and_eq_true,decide_eq_true_eq] at this;omega
  ·have:=pd a7 j hj;simp only[Bool.or_eq_true,Bool.and_eq_true,List.any_eq_true] at this;rcases this with h2|⟨i,hi,h2⟩
   ·exact .inl ⟨Nat.le_of_ble_eq_true h2.1,Nat.le_of_ble_eq_true h2.2⟩
   split at h2
   ·rename_i d hd;exact .inr ⟨i,hi,d,hd,by simpa using h2⟩
   cases h2
  ·show((X.C f).run _ _).isSome=true;rw[hv];rfl
  ·rw[hp,hb];exact λid hi=>by simpa using pd h1.1 id hi
  rw[ho,hb];exact λj hj id hi=>by simpa using pd (pd h1.2 j hj) id hi
 cases h
theorem ON{esz bytes:Nat}{str:Bool}{nlr:Option Bool}{b:Option Nat}{x y:oH}(h:QR gb esz bytes str nlr b x y=true):okp.okApp gb esz bytes str nlr b x y:=by
 simp only[QR,Bool.and_eq_true] at h;obtain⟨⟨⟨⟨h1,h2⟩,h3⟩,h4⟩,h5⟩:=h;refine⟨?_,Nat.le_of_ble_eq_true h2,Nat.le_of_ble_eq_true h3,?_,λc hc=> ?_⟩
 ·split at h1
  ·rename_i hs;rw[if_pos hs];simp only[Bool.and_eq_true,beq_iff_eq] at h1;exact⟨JE h1.1,h1.2⟩
  rename_i hs;rw[if_neg hs];exact QA h1
 ·split at h4
  ·trivial
  ·split at h4
   ·trivial
   simp only;exact Nat.le_of_ble_eq_true h4
  split at h4<;>simp_all
 have:=pd h5 c hc;simp only[Bool.and_eq_true] at this;exact⟨this.1,yw this.2⟩
theorem RQ{n:Nat}{i:oH}(h:okI n i=true):isI i∧0<=asI i∧asI i<n:=by simp only[okI,Bool.and_eq_true,decide_eq_true_eq] at h;exact⟨QJ h.1.1,h.1.2,h.2⟩
theorem Zh{op:AOp}{e:Eff}(h:vj X g gb op=some e):okp X.env g gb op∧eff X.env g gb op=e:=by
 cases op with
 |mv t x=>cases h;refine⟨trivial,?_⟩;cases t<;>cases x<;>rfl
 |pick c a b=>
  simp only[vj,z1o] at h;split at h
  ·rename_i hc;cases h;exact⟨by simp only[okp];rw[hc];trivial,by simp only[eff];rw[hc];rfl⟩
  ·rename_i hc;cases h;exact⟨by simp only[okp];rw[hc];trivial,by simp only[eff];rw[hc];rfl⟩
  cases h
 |bin op x y=>simp only[vj,z32] at h;obtain⟨h1,h2⟩:=C5 h;exact⟨z8w h1,by rw[<-h2,z6y];rfl⟩
 |eqF ks n x y=>
  simp only[vj,z1ha] at h;split at h
  ·rename_i xs ys hx hy;obtain⟨h1,h2⟩:=C5 h;simp only[Bool.and_eq_true] at h1;exact⟨by simp only[okp];rw[hx,hy];exact⟨FR h1.1,FR h1.2⟩,by simp only[eff];rw[hx,hy];exact h2⟩
  cases h
 |un op x=>simp only[vj,x_un] at h;obtain⟨h1,h2⟩:=C5 h;exact⟨z7ha h1,h2⟩
 |toInt k x=>simp only[vj,Un] at h;obtain⟨h1,h2⟩:=C5 h;exact⟨QJ h1,h2⟩
 |toStr b x=>simp only[vj,Uh] at h;obtain⟨h1,h2⟩:=C5 h;simp only[Bool.and_eq_true] at h1;exact⟨⟨QA h1.1,λc hc=>z4c (pd h1.2 c hc)⟩,h2⟩
 |toBytes x=>simp only[vj,OH] at h;obtain⟨h1,h2⟩:=C5 h;exact⟨JE h1,h2⟩
 |build z ps=>simp only[vj,WV] at h;obtain⟨h1,h2⟩:=C5 h;exact⟨E7 h1,h2⟩
 |buildSl e n z ps=>simp only[vj,On] at h;obtain⟨h1,h2⟩:=C5 h;simp only[Bool.and_eq_true,beq_iff_eq] at h1;exact⟨⟨h1.1.1,E7 h1.1.2,h1.2⟩,h2⟩
 |load k b take x=>
  simp only[vj,z9j] at h;obtain⟨h1,h2⟩:=C5 h;simp only[Bool.and_eq_true,Bool.or_eq_true,Bool.not_eq_true'] at h1;refine⟨⟨NK h1.1,λht id hb=> ?_⟩,h2⟩;rcases h1.2 with h3|h3
  ·rw[ht] at h3;cases h3
  rw[hb] at h3;exact of_decide_eq_true h3
 |store k b t a v=>
  simp only[vj,UR] at h;obtain⟨h1,h2⟩:=C5 h;simp only[Bool.and_eq_true,decide_eq_true_eq] at h1;obtain⟨⟨h1,h4⟩,h3⟩:=h1;refine⟨⟨h1,?_,TJ h3⟩,h2⟩;split at h4
  ·rename_i e;rw[e];simp only[Bool.and_eq_true,beq_iff_eq] at h4;refine⟨h4.1,?_⟩;have h5:=h4.2;split at h5
   ·rename_i cs e';exact⟨cs,e',Nat.le_of_ble_eq_true h5⟩
   cases h5
  cases h4
 |nilchk x=>
  simp only[vj,Sy] at h;split at h
  ·rename_i hx;cases h;exact⟨by simp only[okp];rw[hx];trivial,by simp only[eff];rw[hx]⟩
  ·rename_i hx;cases h;exact⟨by simp only[okp];rw[hx];trivial,by simp only[eff];rw[hx]⟩
  cases h
 |fieldAddr o x=>
  simp only[vj,I2] at h;split at h
  ·rename_i hx;cases h;exact⟨by simp only[okp];rw[hx];trivial,by simp only[eff];rw[hx]⟩
  ·rename_i hx;obtain⟨h1,h2⟩:=C5 h;exact⟨by simp only[okp];rw[hx];exact Nat.le_of_ble_eq_true h1,by simp only[eff];rw[hx];exact h2⟩
  cases h
 |idxArr n e x i=>
  simp only[vj,Ss] at h;obtain⟨h1,h⟩:=O7 h;have h1:=RQ h1;split at h
  ·rename_i hx;cases h;exact⟨by simp only[okp];rw[hx];exact⟨trivial,h1⟩,by simp only[eff];rw[hx]⟩
  ·rename_i hx;cases h;exact⟨by simp only[okp];rw[hx];exact⟨trivial,h1⟩,by simp only[eff];rw[hx]⟩
  cases h
 |idxSl e x i=>
  simp only[vj,Xd] at h;obtain⟨h1,h⟩:=O7 h;have h1:=RQ h1;split at h
  ·rename_i hx;obtain⟨h3,h2⟩:=C5 h;simp only[beq_iff_eq] at h3;rw[hx] at h1;exact⟨by simp only[okp];rw[hx];exact⟨h3,h1⟩,by simp only[eff];rw[hx];exact h2⟩
  ·rename_i hx;cases h;rw[hx] at h1;exact⟨by simp only[okp];rw[hx];exact⟨trivial,h1⟩,by simp only[eff];rw[hx]⟩
  cases h
 |slArr n e x lo hi mx=>simp only[vj,T5] at h;obtain⟨h1,h2⟩:=C5 h;simp only[Bool.and_eq_true,Bool.or_eq_true,Bool.not_eq_true'] at h1;obtain⟨⟨⟨⟨⟨h1,h6⟩,h3⟩,h4⟩,h5⟩,h7⟩:=h1;exact⟨⟨by split at h1<;>simp_all,λhm=>h6.resolve_left (by rw[hm];simp),CC h3,CC h4,CC h5,Nat.le_of_ble_eq_true h7⟩,h2⟩
 |slSl e x lo hi mx=>simp only[vj,z7p] at h;obtain⟨h1,h2⟩:=C5 h;simp only[Bool.and_eq_true,Bool.or_eq_true,Bool.not_eq_true'] at h1;obtain⟨⟨⟨⟨h1,h6⟩,h3⟩,h4⟩,h5⟩:=h1;exact⟨⟨by split at h1<;>simp_all,λhm=>h6.resolve_left (by rw[hm];simp),CC h3,CC h4,CC h5⟩,h2⟩
 |s2ap n x=>
  simp only[vj,z5l] at h;split at h
  ·rename_i hx;obtain⟨h1,h2⟩:=C5 h;simp only[Bool.and_eq_true] at h1;exact⟨by simp only[okp];rw[hx];exact⟨Nat.le_of_ble_eq_true h1.1,Nat.le_of_ble_eq_true h1.2⟩,by simp only[eff];rw[hx];exact h2⟩
  ·rename_i hx;obtain⟨h1,h2⟩:=C5 h;simp only[Bool.and_eq_true] at h1;exact⟨by simp only[okp];rw[hx];exact⟨Nat.le_of_ble_eq_true h1.1,Nat.le_of_ble_eq_true h1.2⟩,by simp only[eff];rw[hx];exact h2⟩
  cases h
 |alloc id z=>simp only[vj,T6] at h;obtain⟨h1,h2⟩:=C5 h;simp only[Bool.and_eq_true,Option.isNone_iff_eq_none] at h1;exact⟨⟨Iy h1.1,h1.2⟩,h2⟩
 |box id k t x=>simp only[vj,z9Y] at h;obtain⟨h1,h2⟩:=C5 h;simp only[Bool.and_eq_true,Option.isNone_iff_eq_none] at h1;exact⟨⟨Iy h1.1.1,h1.1.2,TJ h1.2⟩,h2⟩
 |extract i x=>
  simp only[vj,N2] at h;split at h
  ·rename_i hx;obtain⟨h1,h2⟩:=C5 h;exact⟨by simp only[okp];rw[hx];exact of_decide_eq_true h1,by simp only[eff];rw[hx];exact h2⟩
  cases h
 |idxA k e n x i=>
  simp only[vj,z0k] at h;obtain⟨h1,h⟩:=O7 h;have h1:=RQ h1;split at h
  ·rename_i hx;obtain⟨h3,h2⟩:=C5 h;exact⟨by simp only[okp];rw[hx];exact⟨Nat.le_of_ble_eq_true h3,h1⟩,h2⟩
  cases h
 |idxStr x i=>simp only[vj,QQ] at h;obtain⟨h1,h2⟩:=C5 h;simp only[Bool.and_eq_true] at h1;exact⟨⟨JE h1.1,RQ h1.2⟩,h2⟩
 |call f as bs=>exact Rp h
 |callv f t as bs=>
  simp only[vj,UU] at h;split at h
  ·rename_i f' x y ht;obtain⟨hf,h⟩:=O7 h;simp only[beq_iff_eq] at hf;have:=Rp h;refine⟨⟨by rw[ht];exact hf,?_⟩,?_⟩
   ·rw[ht];exact this.1
   simp only[eff];rw[ht];exact this.2
  cases h
 |callm f t as ws ns=>
  simp only[vj,TR] at h;split at h
  ·have:=OD h;exact⟨⟨trivial,this.1⟩,this.2⟩
  split at h
  ·rename_i t f' x y ht;obtain⟨hf,h⟩:=O7 h;simp only[beq_iff_eq] at hf;have:=OD h;refine⟨⟨by simp only;rw[ht];exact hf,?_⟩,?_⟩
   ·simp only;rw[ht];exact this.1
   simp only[eff];rw[ht];exact this.2
  cases h
 |callw f t as ws ns=>
  simp only[vj,Wy] at h;split at h
  ·have:=OG h;exact⟨⟨trivial,this.1⟩,this.2⟩
  ·split at h
   ·rename_i t f' x y ht;obtain⟨hf,h⟩:=O7 h;simp only[beq_iff_eq] at hf;have:=OG h;refine⟨⟨by simp only;rw[ht];exact hf,?_⟩,?_⟩
    ·simp only;rw[ht];exact this.1
    simp only[eff];rw[ht];exact this.2
   cases h
  cases h
 |len s x=>
  simp only[vj,z8ca] at h;obtain⟨h1,h2⟩:=C5 h;refine⟨?_,h2⟩;cases s
  ·exact z2d h1
  exact JE h1
 |append e y s l b x z=>simp only[vj,Sd] at h;obtain⟨h1,h2⟩:=C5 h;simp only[Bool.and_eq_true] at h1;exact⟨⟨by have:=h1.1;split at this<;>simp_all,ON h1.2⟩,h2⟩
 |appendC e y s l b x z=>simp only[vj,OC] at h;obtain⟨h1,h2⟩:=C5 h;simp only[Bool.and_eq_true] at h1;exact⟨⟨by have:=h1.1;split at this<;>simp_all,ON h1.2⟩,h2⟩
 |appendB e y s i b x z=>
  simp only[vj,OM] at h;obtain⟨h1,h2⟩:=C5 h;simp only[Bool.and_eq_true,decide_eq_true_eq] at h1;obtain⟨⟨⟨a1,a2⟩,a3⟩,a4⟩:=h1;refine⟨⟨a1,?_,?_,λc hc=> ?_⟩,h2⟩
  ·split at a2
   ·rename_i hx;rw[hx];simp only[Bool.and_eq_true,beq_iff_eq] at a2;obtain⟨⟨⟨⟨b1,b2⟩,b3⟩,b4⟩,b5⟩:=a2;refine⟨b1,b2,?_,Nat.le_of_ble_eq_true b4,Nat.le_of_ble_eq_true b5⟩;split at b3
    ·rename_i cs e';exact⟨cs,e',Nat.le_of_ble_eq_true b3⟩
    cases b3
   cases a2
  ·split at a3
   ·rename_i hs;rw[if_pos hs];simp only[Bool.and_eq_true,beq_iff_eq] at a3;exact⟨JE a3.1,a3.2⟩
   rename_i hs;rw[if_neg hs];exact QA a3
  have:=pd a4 c hc;simp only[Bool.and_eq_true,Bool.not_eq_true'] at this;exact⟨yw this.1,this.2⟩
 |buildBx i e n z ps=>simp only[vj,Np] at h;obtain⟨h1,h2⟩:=C5 h;simp only[Bool.and_eq_true,Option.isNone_iff_eq_none,beq_iff_eq] at h1;exact⟨⟨Iy h1.1.1.1.1,h1.1.1.1.2,h1.1.1.2,E7 h1.1.2,λc hc=>by simpa using pd h1.2 c hc⟩,h2⟩
 |mkfn f x y=>cases h;exact⟨trivial,rfl⟩
 |_=>cases h
end
section
variable (X : XE)
def gX(o e:List (Nat×oH))(s:Nat):oH:=match lkX s e with|some d=>d|none=>dem ((lkX s o).getD .undef)
def gbX(b:List (Nat×Option (List oH)))(id:Nat):Option (List oH):=(lkX id b).join
abbrev lR:=List (Nat×oH)
abbrev FJ:=List (Nat×Option (List oH))
theorem Lp(o e:lR)(b:FJ):ASt.getB ⟨o,e,b⟩=gbX b:=funext λid=>by simp only[ASt.getB,gbX,fz]
def z9y:oH->Bool| .lit (.tuple a)=>a.size==0|_=>false
theorem z1d{v:oH}(h:z9y v=true):v=bR:=by
 unfold z9y at h;split at h
 ·simp only[beq_iff_eq] at h;rw[Array.eq_empty_of_size_eq_zero h];rfl
 cases h
theorem z9ga{v:oH}{b:Bool}(h:fG v b=true):isB v:=by unfold fG at h;split at h;exact trivial;cases h
def doX(o:lR)(dst:Option Nat)(op:AOp)(e:lR)(b:FJ):Option (lR×FJ):=
 match vj X (gX o e) (gbX b) op with|some f=>some (match dst with|some d=>(d,f.val)::(f.sl++e)|none=>f.sl++e,f.bx++b)|none=>none
def Ux(o:lR):af->lR->FJ->Option (lR×FJ)
 |⟨dst,none,op⟩,e,b=>doX X o dst op e b
 |⟨dst,some (s,want),op⟩,e,b=>bif fG (gX o e s) want then doX X o dst op e b else bif z7ta (gX o e s)||z9y (gX o e s) then some ((dst.toList.map λs=>(s,bR))++e,b) else none
def Vy(o:lR)(ps:List af):lR->FJ->Option (lR×FJ):=
 List.rec (λe b=>some (e,b)) (λp _ ih e b=>match Ux X o p e b with|some (e1,b1)=>ih e1 b1|none=>none) ps
structure dC (u kk:List Nat) (o e:lR) (org:lR):Prop where
 nil:∀s,s∉kk->lk org s=none
 same:∀s,s∉u->lk org s=lk o s
 seen:∀s∈u,∃d,lk e s=some d∧dem d=d
 sub:∀s∈u,s∈kk
theorem dC.get{u kk:List Nat}{o e org:lR}(h:dC u kk o e org)(b:FJ):ASt.get ⟨org,e,b⟩=gX o e:=funext λs=>by
 simp only[ASt.get,gX,fz];cases he:lk e s with
 |some d=>rfl
 |none=>
  have:s∉u:=λhs=>by obtain⟨d,hd,_⟩:=h.seen s hs;rw[he] at hd;cases hd
  rw[h.same s this]
theorem dC.to{u kk:List Nat}{o e e' org:lR}(h:dC u kk o e org)(hs:∀s∈u,lk e' s=lk e s):dC u kk o e' org:=
 ⟨h.nil,h.same,λs hu=>by rw[hs s hu];exact h.seen s hu,h.sub⟩
variable {X}
theorem z3q{u kk:List Nat}{o e e' org:lR}{b b':FJ}{dst:Option Nat}{op:AOp}(h:doX X o dst op e b=some (e',b'))(ha:dC u kk o e org):
  okp X.env (ASt.get ⟨org,e,b⟩) (ASt.getB ⟨org,e,b⟩) op∧∃f,eff X.env (ASt.get ⟨org,e,b⟩) (ASt.getB ⟨org,e,b⟩) op=f∧(dst.toList.map λs=>(s,f.val))++f.sl++e=e'∧f.bx++b=b':=by
 rw[ha.get,Lp];unfold doX at h;split at h
 ·rename_i f hf;cases h;obtain⟨h1,h2⟩:=Zh hf;exact⟨h1,f,h2,by cases dst<;>rfl,rfl⟩
 cases h
theorem Xv{u kk:List Nat}{o e e' org:lR}{b b':FJ}{p:af}(h:Ux X o p e b=some (e',b'))(hw:∀s∈p.W,s∉kk)(ha:dC u kk o e org):
  okA X.env p ⟨org,e,b⟩∧ai X.env p ⟨org,e,b⟩=⟨org,e',b'⟩∧∀s∈u,lk e' s=lk e s:=by
 have hW:∀s∈p.W,lk org s=none:=λs hs=>ha.nil s (hw s hs);have key:okA X.env p ⟨org,e,b⟩∧ai X.env p ⟨org,e,b⟩=⟨org,e',b'⟩:=by
  obtain⟨dst,gd,op⟩:=p;cases gd with
  |none=>simp only[Ux] at h;obtain⟨h1,f,h2,h3,h4⟩:=z3q h ha;refine⟨⟨hW,h1⟩,?_⟩;simp only[ai,h2,h3,h4]
  |some q=>
   obtain⟨s,want⟩:=q;simp only[Ux] at h;have hg:=congrFun (ha.get b) s;cases hga:fG (gX o e s) want with
   |true=>rw[hga] at h;obtain⟨h1,f,h2,h3,h4⟩:=z3q h ha;refine⟨⟨hW,.inl (by rw[hg];exact z9ga hga),λ_=>h1⟩,?_⟩;simp only[ai,hg,hga,if_true,h2,h3,h4]
   |false=>
    rw[hga] at h;obtain⟨hb,h2⟩:=C5 h;cases h2;have hb':okG (gX o e s):=by simp only[Bool.or_eq_true] at hb;exact hb.imp z5F z1d
    refine⟨⟨hW,by rw[hg];exact hb',λh'=>by rw[hg,hga] at h';cases h'⟩,?_⟩;simp only[ai,hg,hga,Bool.false_eq_true,if_false]
 refine⟨key.1,key.2,λs hs=> ?_⟩;have:=ef (E:=X.env) p ⟨org,e,b⟩ (s:=s) (λh'=>hw s h' (ha.sub s hs));rwa[key.2] at this
theorem NZ{u kk:List Nat}{o org:lR}:∀{ps:List af} {e e':lR} {b b':FJ},Vy X o ps e b=some (e',b')->(∀p∈ps,∀s∈p.W,s∉kk)->dC u kk o e org->
  Aa X.env ps ⟨org,e,b⟩∧C3 X.env ps ⟨org,e,b⟩=⟨org,e',b'⟩∧∀s∈u,lk e' s=lk e s
 |[],e,e',b,b',h,_,_=>by cases h;exact⟨trivial,rfl,λ_ _=>rfl⟩
 |p::ps,e,e',b,b',h,hw,ha=>by
  change(match Ux X o p e b with|some (e1,b1)=>Vy X o ps e1 b1|none=>none)=_ at h;split at h
  ·rename_i e1 b1 h1;obtain⟨k1,k2,k3⟩:=Xv h1 (hw p (by simp)) ha;obtain⟨k4,k5,k6⟩:=NZ h (λq hq=>hw q (by simp[hq])) (ha.to k3);exact⟨⟨k1,by rw[k2];exact k4⟩,by simp only[C3];rw[k2];exact k5,λs hs=>(k6 s hs).trans (k3 s hs)⟩
  cases h
def NV(o e:lR)(l:List Nat):lR:=l.map λs=>(s,gX o e s)
def ghX(u:List Nat)(o:lR):tJ->lR->FJ->Option (lR×FJ)
 | .keep l,e,b=>bif uF l.contains u then some (NV o e l,b) else none
 | .norm ids,e,b=>bif uF (λp=>ids.contains p.1) b then some (e,ids.map λid=>(id,gbX b id)) else none
 | .drop ids,e,b=>bif uF (λp=>uF (λid=> !ids.contains id) (aF p.2)) e&&uF (λp=>ids.contains p.1||(match p.2 with|some cs=>uF (λid=> !ids.contains id) (pT cs)|none=>true)) b then some (e,b.filter λp=> !ids.contains p.1) else none
 | .freeze ids,e,b=>bif u.isEmpty&&uF (λid=>match gbX b id with|some cs=>au cs|none=>false) ids then some ((oS (.freeze ids) ⟨o,e,b⟩).env,(oS (.freeze ids) ⟨o,e,b⟩).box) else none
 | .thaw s id,e,b=>bif !u.contains s&&decide (id<400000)&&(gbX b id).isNone&&uF (λp=>p.1==s||fy p.2) e&&uF (λp=>match p.2 with|some cs=>uF fy cs|none=>true) b then
   (match lkX s e with|some (.sl (.own k) _ n cs)=>bif decide (0<n)&&aj cs then some ((s,.bv id k 0 n n)::e,(id,some cs)::b) else none|_=>none) else none
 | .hideB c i,e,b=>bif decide (c<1000000) then some (e,(oS (.hideB c i) ⟨o,e,b⟩).box) else none
 | .reB c i k,e,b=>bif decide (c<1000000) then some (e,(oS (.reB c i k) ⟨o,e,b⟩).box) else none
 |_,_,_=>none
theorem z9o{u kk:List Nat}{o org:lR}{g:tJ}{e e':lR}{b b':FJ}(h:ghX u o g e b=some (e',b'))(ha:dC u kk o e org):
  bK g ⟨org,e,b⟩∧oS g ⟨org,e,b⟩=⟨org,e',b'⟩∧∀s∈u,lk e' s=lk e s:=by
 cases g with
 |keep l=>
  simp only[ghX] at h;obtain⟨h1,h2⟩:=C5 h;cases h2;refine⟨trivial,?_,λs hs=> ?_⟩
  ·simp only[oS,cB,NV,ha.get]
  have hl:s∈l:=by simpa using pd h1 s hs
  obtain⟨d,hd,_⟩:=ha.seen s hs;rw[NV,qo,if_pos hl,gX,fz,hd]
 |norm ids=>simp only[ghX] at h;obtain⟨h1,h2⟩:=C5 h;cases h2;refine⟨λp hp=>by simpa using pd h1 p hp,?_,λ_ _=>rfl⟩;simp only[oS,Lp]
 |drop ids=>simp only[ghX] at h;obtain⟨h1,h2⟩:=C5 h;cases h2;simp only[Bool.and_eq_true] at h1;refine⟨⟨λp hp id hid=>by simpa using pd (pd h1.1 p hp) id hid,λp hp=> ?_⟩,rfl,λ_ _=>rfl⟩;have:=pd h1.2 p hp;simp only[Bool.or_eq_true,List.contains_eq_mem,decide_eq_true_eq] at this;refine this.imp id λh3 cs hcs id hid=> ?_;rw[hcs] at h3;simpa using pd h3 id hid
 |freeze ids=>
  simp only[ghX] at h;obtain⟨h1,h2⟩:=C5 h;simp only[Bool.and_eq_true,List.isEmpty_iff] at h1;obtain⟨h0,h1⟩:=h1;cases h2;refine⟨λid hid=> ?_,rfl,λs hs=>by rw[h0] at hs;cases hs⟩;rw[Lp];have:=pd h1 id hid;split at this
  ·rename_i cs ec;exact⟨cs,ec,this⟩
  cases this
 |thaw s id=>
  simp only[ghX] at h;obtain⟨h1,h2⟩:=O7 h;simp only[Bool.and_eq_true,Bool.not_eq_true',decide_eq_true_eq,Option.isNone_iff_eq_none] at h1;obtain⟨⟨⟨⟨a1,a2⟩,a3⟩,a4⟩,a5⟩:=h1;split at h2
  ·rename_i k nl n cs hl;obtain⟨h3,h4⟩:=C5 h2;cases h4;simp only[Bool.and_eq_true,decide_eq_true_eq] at h3;rw[fz] at hl;have hg:ASt.get ⟨org,e,b⟩ s= .sl (.own k) nl n cs:=by simp only[ASt.get,hl]
   refine⟨⟨a2,by rw[Lp];exact a3,by simp only[hl];exact h3,λp hp=> ?_,λp hp cs hcs c hc=> ?_⟩,by simp only[oS,hg],λt ht=> ?_⟩
   ·have:=pd a4 p hp;simpa using this
   ·have:=pd a5 p hp;rw[hcs] at this;exact pd this c hc
   have:t≠s:=λhe=>by subst he;simp[ht] at a1
   simp only[lk,if_neg this]
  cases h2
 |hideB c i=>simp only[ghX] at h;obtain⟨h1,h2⟩:=C5 h;cases h2;refine⟨show _<_ from of_decide_eq_true h1,?_,λ_ _=>rfl⟩;simp only[oS,ASt.getB];split<;>rfl
 |reB c i k=>simp only[ghX] at h;obtain⟨h1,h2⟩:=C5 h;cases h2;refine⟨show _<_ from of_decide_eq_true h1,?_,λ_ _=>rfl⟩;simp only[oS,ASt.getB];split<;>rfl
 |_=>cases h
def z7na(u:List Nat)(o:lR):List tJ->lR->FJ->Option (lR×FJ)
 |[],e,b=>some (e,b)
 |g::gs,e,b=>match ghX u o g e b with|some (e1,b1)=>z7na u o gs e1 b1|none=>none
theorem Wi{u kk:List Nat}{o org:lR}:∀{gs:List tJ} {e e':lR} {b b':FJ},z7na u o gs e b=some (e',b')->dC u kk o e org->
  iG gs ⟨org,e,b⟩∧cZ gs ⟨org,e,b⟩=⟨org,e',b'⟩∧∀s∈u,lk e' s=lk e s
 |[],e,e',b,b',h,_=>by cases h;exact⟨trivial,rfl,λ_ _=>rfl⟩
 |g::gs,e,e',b,b',h,ha=>by
  unfold z7na at h;split at h
  ·rename_i e1 b1 h1;obtain⟨k1,k2,k3⟩:=z9o h1 ha;obtain⟨k4,k5,k6⟩:=Wi h (ha.to k3);exact⟨⟨k1,by rw[k2];exact k4⟩,by simp only[cZ];rw[k2];exact k5,λs hs=>(k6 s hs).trans (k3 s hs)⟩
  cases h
abbrev z4F:=Option (aB×lR×lR×FJ)
def Z8(f:lR->lR->FJ->z4F):Nat->lR->lR->FJ->z4F
 |0,_,_,_=>none
 |n+1,o,e,b=>match f o e b with|some (.normal,o1,e1,b1)=>Z8 f n o1 e1 b1|r=>r
def Hn(f:List oH->FJ->z4F):List (List oH)->FJ->Option (aB×FJ)
 |[],b=>some (.normal,b)
 |xs::r,b=>match f xs b with|some (.normal,_,_,b1)=>Hn f r b1|some (x,_,_,b1)=>some (x,b1)|none=>none
variable (X)
def DW(n:Nat):av->List Nat->lR->lR->FJ->z4F
 | .skip,_,o,e,b=>some (.normal,o,e,b)
 | .region keep gs xs,u,o,e,b=>match Vy X o xs e b with
  |some (e1,b1)=>bif uF keep.contains u then(match z7na u o gs (NV o e1 keep) b1 with|some (e2,b2)=>some (.normal,o,e2,b2)|none=>none) else none
  |none=>none
 | .seq p q,u,o,e,b=>match DW n p u o e b with|some (.normal,o1,e1,b1)=>DW n q u o1 e1 b1|r=>r
 | .cond c p q,u,o,e,b=>match arg X.env (gX o e) c with| .lit (.bool true)=>DW n p u o e b| .lit (.bool false)=>DW n q u o e b|_=>none
 | .block id p,u,o,e,b=>match DW n p u o e b with|some (.exit i,o1,e1,b1)=>bif Nat.beq i id then some (.normal,o1,e1,b1) else some (.exit i,o1,e1,b1)|r=>r
 | .loop p,u,o,e,b=>Z8 (DW n p u) n o e b
 | .scope p,u,o,e,b=>DW n p u o e b
 | .exit id,_,o,e,b=>some (.exit id,o,e,b)
 | .ret,_,o,e,b=>some (.ret,o,e,b)
 | .ghost (.unorg s) c,u,o,e,b=>bif u.contains s then none else DW n c u (o.filter λp=>decide (p.1≠s)) ((s,gX o e s)::e) b
 | .ghost g c,u,o,e,b=>match ghX u o g e b with|some (e1,b1)=>DW n c u o e1 b1|none=>none
 | .alt p q,u,o,e,b=>match DW n p u o e b with|some r=>some r|none=>DW n q u o e b
 | .range f t ks ps as bd,u,o,e,b=>bif uF ks.contains u&&uF (λp=> !ks.contains p) ps then
   (match arg X.env (gX o e) t with
   | .fn f' x y=>bif Nat.beq f' f&&au (x++y) then
     (match X.I f x y with
     |some els=>(match Hn (λxs b=>bif xs.length==ps.length&&aj xs then(match DW n as ks o (ps.zip xs++ks.map λs=>(s,dem (gX o e s))) b with|some (.normal,o1,e1,b1)=>DW n bd ks o1 e1 b1|_=>none) else none) els b with
      |some (x,b1)=>some (x,o,ks.map λs=>(s,dem (gX o e s)),b1)
      |none=>none)
     |none=>none) else none
   |_=>none) else none
 |_,_,_,_,_=>none
variable {X}
def wrC(kk:List Nat):av->Bool
 | .region _ _ xs=>xs.all λo=>o.W.all λs=> !kk.contains s
 | .seq a b=>wrC kk a&&wrC kk b
 | .cond _ a b=>wrC kk a&&wrC kk b
 | .block _ b=>wrC kk b
 | .loop b=>wrC kk b
 | .scope b=>wrC kk b
 | .ghost (.unorg s) c=>wrC (kk.filter λk=>decide (k≠s)) c
 | .ghost _ c=>wrC kk c
 | .alt a b=>wrC kk a&&wrC kk b
 | .range _ _ ks ps as bd=>ps.all (λp=> !kk.contains p)&&wrC (ks++kk) as&&wrC (ks++kk) bd
 |_=>true
theorem z46{kk:List Nat}{keep:List Nat}{gs:List tJ}{xs:List af}(h:wrC kk (.region keep gs xs)=true):∀p∈xs,∀s∈p.W,s∉kk:=λp hp s hs=>by simp only[wrC,List.all_eq_true,Bool.not_eq_true',List.contains_eq_mem,decide_eq_false_iff_not] at h;exact h p hp s hs
def z9wa(X:XE)(u kk:List Nat)(o o' e e':lR)(b b':FJ)(x:aB)(c:av):Prop:=
 ∀org,dC u kk o e org->(∀s∈u,lk e' s=lk e s)∧∃org',dC u kk o' e' org'∧(∀s∈u,lk org' s=lk org s)∧∀Q:aB->ASt->Prop,Q x ⟨org',e',b'⟩->awp X.env c Q ⟨org,e,b⟩
theorem tZ(n:Nat):∀(c:av) (u kk:List Nat) (o o' e e':lR) (b b':FJ) (x:aB),DW X n c u o e b=some (x,o',e',b')->wrC kk c=true->z9wa X u kk o o' e e' b b' x c
 | .skip,u,kk,o,o',e,e',b,b',x,h,_=>by unfold DW at h;cases h;exact λorg ha=>⟨λ_ _=>rfl,org,ha,λ_ _=>rfl,λQ hq=>hq⟩
 | .region keep gs xs,u,kk,o,o',e,e',b,b',x,h,hw=>by
  intro org ha;unfold DW at h;split at h
  ·rename_i e1 b1 h1;obtain⟨hk,h⟩:=O7 h;obtain⟨k1,k2,k3⟩:=NZ h1 (z46 hw) ha;have ha1:=ha.to k3;have k7:∀s∈u,lk (NV o e1 keep) s=lk e1 s:=λs hs=>by
    have hl:s∈keep:=by simpa using pd hk s hs
    obtain⟨d,hd,_⟩:=ha1.seen s hs;rw[NV,qo,if_pos hl,gX,fz,hd]
   split at h
   ·rename_i e2 b2 h2;cases h;obtain⟨k4,k5,k6⟩:=Wi h2 (ha1.to k7);have hr:cB keep ⟨org,e1,b1⟩=⟨org,NV o e1 keep,b1⟩:=by simp only[cB,NV,ha1.get]
    have hu:∀s∈u,lk e' s=lk e s:=λs hs=>(k6 s hs).trans ((k7 s hs).trans (k3 s hs));refine⟨hu,org,ha.to hu,λ_ _=>rfl,λQ hq=> ?_⟩;simp only[awp];rw[k2,hr,k5];exact⟨k1,k4,hq⟩
   cases h
  cases h
 | .seq p q,u,kk,o,o',e,e',b,b',x,h,hw=>by
  intro org ha;simp only[wrC,Bool.and_eq_true] at hw;unfold DW at h;split at h
  ·rename_i o1 e1 b1 h1;obtain⟨k1,org1,a1,l1,k2⟩:=tZ n p u kk o o1 e e1 b b1 _ h1 hw.1 org ha;obtain⟨k3,org2,a2,l2,k4⟩:=tZ n q u kk o1 o' e1 e' b1 b' x h hw.2 org1 a1;exact⟨λs hs=>(k3 s hs).trans (k1 s hs),org2,a2,λs hs=>(l2 s hs).trans (l1 s hs),λQ hq=>k2 _ (k4 Q hq)⟩
  rename_i hn;obtain⟨k1,org1,a1,l1,k2⟩:=tZ n p u kk o o' e e' b b' x h hw.1 org ha;refine⟨k1,org1,a1,l1,λQ hq=>k2 _ ?_⟩;cases x with
  |normal=>exact(hn _ _ _ h).elim
  |_=>exact hq
 | .cond c p q,u,kk,o,o',e,e',b,b',x,h,hw=>by
  intro org ha;simp only[wrC,Bool.and_eq_true] at hw;unfold DW at h;split at h
  ·rename_i hc;obtain⟨k1,org1,a1,l1,k2⟩:=tZ n p u kk o o' e e' b b' x h hw.1 org ha;refine⟨k1,org1,a1,l1,λQ hq=> ?_⟩;simp only[awp];rw[ha.get,hc];exact⟨trivial,λ_=>k2 Q hq,λh'=>by cases h'⟩
  ·rename_i hc;obtain⟨k1,org1,a1,l1,k2⟩:=tZ n q u kk o o' e e' b b' x h hw.2 org ha;refine⟨k1,org1,a1,l1,λQ hq=> ?_⟩;simp only[awp];rw[ha.get,hc];exact⟨trivial,λh'=>(by cases h'),λ_=>k2 Q hq⟩
  cases h
 | .block id p,u,kk,o,o',e,e',b,b',x,h,hw=>by
  intro org ha;unfold DW at h;split at h
  ·rename_i i o1 e1 b1 h1;obtain⟨k1,org1,a1,l1,k2⟩:=tZ n p u kk o o1 e e1 b b1 _ h1 hw org ha;cases hi:Nat.beq i id with
   |true=>rw[hi] at h;cases h;exact⟨k1,org1,a1,l1,λQ hq=>k2 _ (by simp only[dL,if_pos (Nat.eq_of_beq_eq_true hi)];exact hq)⟩
   |false=>rw[hi] at h;cases h;exact⟨k1,org1,a1,l1,λQ hq=>k2 _ (by simp only[dL];rw[if_neg (λhe=>by rw[he,Nat.beq_refl] at hi;cases hi)];exact hq)⟩
  rename_i hn;obtain⟨k1,org1,a1,l1,k2⟩:=tZ n p u kk o o' e e' b b' x h hw org ha;refine⟨k1,org1,a1,l1,λQ hq=>k2 _ ?_⟩;cases x with
  |exit i=>exact(hn _ _ _ _ h).elim
  |_=>exact hq
 | .loop p,u,kk,o,o',e,e',b,b',x,h,hw=>by
  intro org ha;unfold DW at h;have key:∀(m:Nat) (o e:lR) (b:FJ) (org:lR),Z8 (DW X n p u) m o e b=some (x,o',e',b')->dC u kk o e org->
    (∀s∈u,lk e' s=lk e s)∧∃org',dC u kk o' e' org'∧(∀s∈u,lk org' s=lk org s)∧∃St:Nat->ASt->Prop,St m ⟨org,e,b⟩∧
     ∀k st,St k st->(∃st1 k1,k1<k∧St k1 st1∧∀Q:aB->ASt->Prop,Q .normal st1->awp X.env p Q st)∨(x≠ .normal∧∀Q:aB->ASt->Prop,Q x ⟨org',e',b'⟩->awp X.env p Q st):=by
   intro m;induction m with
   |zero=>intro o e b org h _;cases h
   |succ m ih=>
    intro o e b org h ha;unfold Z8 at h;split at h
    ·rename_i o1 e1 b1 h1;obtain⟨k1,org1,a1,l1,k2⟩:=tZ n p u kk o o1 e e1 b b1 _ h1 hw org ha;obtain⟨k3,org2,a2,l2,St,i1,i2⟩:=ih o1 e1 b1 org1 h a1;refine⟨λs hs=>(k3 s hs).trans (k1 s hs),org2,a2,λs hs=>(l2 s hs).trans (l1 s hs),λk st=>(k=m+1∧st=⟨org,e,b⟩)∨(k<=m∧St k st),.inl ⟨rfl,rfl⟩,λk st hk=> ?_⟩;rcases hk with⟨rfl,rfl⟩|⟨hk,hi⟩
     ·exact .inl ⟨_,m,Nat.lt_succ_self m,.inr ⟨Nat.le_refl m,i1⟩,k2⟩
     rcases i2 k st hi with⟨st1,k1,h3,h4,h5⟩|h6
     ·exact .inl ⟨st1,k1,h3,.inr ⟨by omega,h4⟩,h5⟩
     exact .inr h6
    rename_i hn;obtain⟨k1,org1,a1,l1,k2⟩:=tZ n p u kk o o' e e' b b' x h hw org ha;refine⟨k1,org1,a1,l1,λk st=>st=⟨org,e,b⟩,rfl,λk st hk=> ?_⟩;subst hk;refine .inr ⟨λhx=> ?_,k2⟩;subst hx;exact hn _ _ _ h
  obtain⟨k1,org1,a1,l1,St,i1,i2⟩:=key n o e b org h ha;refine⟨k1,org1,a1,l1,λQ hq=>⟨St,⟨n,i1⟩,λk st hk=> ?_⟩⟩;rcases i2 k st hk with⟨st1,k1,h3,h4,h5⟩|⟨hx,h6⟩
  ·exact h5 _ ⟨k1,h3,h4⟩
  refine h6 _ ?_;cases x with
  |normal=>exact(hx rfl).elim
  |_=>exact hq
 | .scope p,u,kk,o,o',e,e',b,b',x,h,hw=>λorg ha=>by unfold DW at h;obtain⟨k1,org1,a1,l1,k2⟩:=tZ n p u kk o o' e e' b b' x h hw org ha;exact⟨k1,org1,a1,l1,λQ hq=>k2 Q hq⟩
 | .exit id,u,kk,o,o',e,e',b,b',x,h,_=>by unfold DW at h;cases h;exact λorg ha=>⟨λ_ _=>rfl,org,ha,λ_ _=>rfl,λQ hq=>hq⟩
 | .ret,u,kk,o,o',e,e',b,b',x,h,_=>by unfold DW at h;cases h;exact λorg ha=>⟨λ_ _=>rfl,org,ha,λ_ _=>rfl,λQ hq=>hq⟩
 | .ghost g c,u,kk,o,o',e,e',b,b',x,h,hw=>by
  intro org ha;by_cases hg:∃s,g= .unorg s
  ·obtain⟨s,rfl⟩:=hg;unfold DW at h;unfold wrC at hw;cases hus:u.contains s with
   |true=>rw[hus] at h;cases h
   |false=>
    rw[hus] at h;have hsu:s∉u:=by simpa using hus
    have hA:dC u (kk.filter λk=>decide (k≠s)) (o.filter λp=>decide (p.1≠s)) ((s,gX o e s)::e) (org.filter λp=>decide (p.1≠s)):=by
     refine⟨λt ht=> ?_,λt ht=> ?_,λt ht=> ?_,λt ht=> ?_⟩
     ·rw[tz (λk=>decide (k≠s))];split
      ·rename_i hts;simp only[decide_eq_true_eq] at hts;refine ha.nil t λhk=>ht ?_;simp only[List.mem_filter,decide_eq_true_eq];exact⟨hk,hts⟩
      rfl
     ·rw[tz (λk=>decide (k≠s)),tz (λk=>decide (k≠s)),ha.same t ht]
     ·obtain⟨d,hd,hdd⟩:=ha.seen t ht;have:t≠s:=λhe=>hsu (he▸ht);exact⟨d,by simp only[lk,if_neg this,hd],hdd⟩
     simp only[List.mem_filter,decide_eq_true_eq];exact⟨ha.sub t ht,λhe=>hsu (he▸ht)⟩
    obtain⟨k1,org1,a1,l1,k2⟩:=tZ n c u _ _ o' _ e' b b' x h hw _ hA;refine⟨λt ht=> ?_,org1,⟨λt ht=>a1.nil t λhk=>ht (List.mem_filter.1 hk).1,a1.same,a1.seen,ha.sub⟩,λt ht=> ?_,λQ hq=>⟨trivial,?_⟩⟩
    ·have:t≠s:=λhe=>hsu (he▸ht);rw[k1 t ht];simp only[lk,if_neg this]
    ·have:t≠s:=λhe=>hsu (he▸ht);rw[l1 t ht,tz (λk=>decide (k≠s)),if_pos (by simpa using this)]
    have hr:oS (.unorg s) ⟨org,e,b⟩=⟨org.filter λp=>decide (p.1≠s),(s,gX o e s)::e,b⟩:=by simp only[oS,ha.get]
    rw[hr];exact k2 Q hq
  have h:(match ghX u o g e b with|some (e1,b1)=>DW X n c u o e1 b1|none=>none)=some (x,o',e',b'):=by
   cases g with
   |unorg s=>exact(hg ⟨s,rfl⟩).elim
   |_=>exact h
  have hw:wrC kk c=true:=by
   cases g with
   |unorg s=>exact(hg ⟨s,rfl⟩).elim
   |_=>exact hw
  split at h
  ·rename_i e1 b1 h1;obtain⟨k1,k2,k3⟩:=z9o h1 ha;obtain⟨k4,org1,a1,l1,k5⟩:=tZ n c u kk o o' e1 e' b1 b' x h hw org (ha.to k3);exact⟨λs hs=>(k4 s hs).trans (k3 s hs),org1,a1,l1,λQ hq=>⟨k1,by rw[k2];exact k5 Q hq⟩⟩
  cases h
 | .nm _ _,_,_,_,_,_,_,_,_,_,h,_=>by cases h
 | .alt p q,u,kk,o,o',e,e',b,b',x,h,hw=>by
  intro org ha;simp only[wrC,Bool.and_eq_true] at hw;unfold DW at h;split at h
  ·rename_i r h1;cases h;obtain⟨k1,org1,a1,l1,k2⟩:=tZ n p u kk o o' e e' b b' x h1 hw.1 org ha;exact⟨k1,org1,a1,l1,λQ hq=> .inl (k2 Q hq)⟩
  obtain⟨k1,org1,a1,l1,k2⟩:=tZ n q u kk o o' e e' b b' x h hw.2 org ha;exact⟨k1,org1,a1,l1,λQ hq=> .inr (k2 Q hq)⟩
 | .range f t ks ps as bd,u,kk,o,o',e,e',b,b',x,h,hw=>by
  intro org ha;simp only[wrC,Bool.and_eq_true,List.all_eq_true,Bool.not_eq_true',List.contains_eq_mem,decide_eq_false_iff_not] at hw;obtain⟨⟨w1,w2⟩,w3⟩:=hw;unfold DW at h;obtain⟨h0,h⟩:=O7 h;simp only[Bool.and_eq_true] at h0;have hu:∀s∈u,s∈ks:=λs hs=>by simpa using pd h0.1 s hs
  have hp:∀p∈ps,p∉ks:=λp hp=>by simpa using pd h0.2 p hp
  split at h
  ·rename_i f' xc yc ht;obtain⟨h1,h⟩:=O7 h;simp only[Bool.and_eq_true] at h1;have hf:=Nat.eq_of_beq_eq_true h1.1;subst hf;split at h
   ·rename_i els hels;split at h
    ·rename_i x1 b1 hr;cases h;have hre:dz ⟨org,e,b⟩ ks=ks.map λs=>(s,dem (gX o e s)):=by simp only[dz,ha.get]
     have hlk:∀s,s∈ks->lk (ks.map λs=>(s,dem (gX o e s))) s=some (dem (gX o e s)):=λs hs=>by have:=qo (λs=>dem (gX o e s)) s ks;rwa[if_pos hs] at this
     have hue:∀s∈u,lk (ks.map λs=>(s,dem (gX o e s))) s=lk e s:=λs hs=>by obtain⟨d,hd,hdd⟩:=ha.seen s hs;rw[hlk s (hu s hs),hd];simp only[gX,fz,hd,hdd]
     refine⟨hue,org,ha.to hue,λ_ _=>rfl,λQ hq=> ?_⟩;have hlv:(X.env.I f').lv=[]:=rfl;have hpre:(X.env.I f').pre xc yc:=by show(X.I f' xc yc).isSome=true;rw[hels];rfl
     have hel:∀i,(X.env.I f').el xc yc i=els[i]? :=λi=>by show((X.I f' xc yc).getD [])[i]? =_;rw[hels];rfl
     simp only[awp];refine⟨xc,yc,by rw[ha.get];exact ht,?_,?_,λp hpp=>⟨hp p hpp,ha.nil p (w1 p hpp)⟩,?_⟩
     ·rw[hlv,Pb];exact h1.2
     ·rw[hlv,nD];exact hpre
     rw[hlv];simp only[jB,oD,nD,jO,hel];obtain⟨step,hstep⟩:∃step:List oH->FJ->z4F,step=λxs b=>bif xs.length==ps.length&&aj xs then(match DW X n as ks o (ps.zip xs++ks.map λs=>(s,dem (gX o e s))) b with|some (.normal,o1,e1,b1)=>DW X n bd ks o1 e1 b1|_=>none) else none:=⟨_,rfl⟩;rw[<-hstep] at hr;refine⟨els.length,λi bx=>i<=els.length∧Hn step (els.drop i) bx=some (x,b'),⟨Nat.zero_le _,hr⟩,λi bx hi=>hi.1,λi bx hi hnone=> ?_,λi bx xs hi hsome=> ?_⟩
     ·rw[D6,hre];have hge:els.length<=i:=List.getElem?_eq_none_iff.1 hnone;have h2:=hi.2;rw[List.drop_eq_nil_of_le hge] at h2;cases h2;exact hq
     have hlt:i<els.length:=(List.getElem?_eq_some_iff.1 hsome).1;have h2:=hi.2;rw[List.drop_eq_getElem_cons hlt,show els[i]=xs from(List.getElem?_eq_some_iff.1 hsome).2] at h2;unfold Hn at h2;have hround:∀(x2:aB) (o2 e2:lR) (b2:FJ),step xs bx=some (x2,o2,e2,b2)->((x2= .normal∧i+1<=els.length∧Hn step (els.drop (i+1)) b2=some (x,b'))∨(x2≠ .normal∧x2=x∧b2=b'))->
       xs.length=ps.length∧aj xs=true∧∀V:Nat->Value,awp X.env as (cc (awp X.env bd (Tp ⟨org,e,b⟩ ks V (λbx=>i+1<=els.length∧Hn step (els.drop (i+1)) bx=some (x,b')) (λe1 s=>kV ⟨org,e,b⟩ ks [] Q e1 s.box))) (λ_ _=>False)) (oo ⟨org,e,b⟩ ks ps V xs bx):=by
      intro x2 o2 e2 b2 hrun hcase;rw[hstep] at hrun;obtain⟨hl,hrun⟩:=O7 hrun;simp only[Bool.and_eq_true,beq_iff_eq] at hl;refine⟨hl.1,hl.2,λV=> ?_⟩;split at hrun
      ·rename_i o1 e1 b1 has;have hzip:∀s,s∉ps->lk (ps.zip xs) s=none:=λs hs=>Do λp hp he=>by
        have:=(List.of_mem_zip (a:=p.1) (b:=p.2) hp).1;exact hs (he▸this)
       have hA:dC ks (ks++kk) o (ps.zip xs++ks.map λs=>(s,dem (gX o e s))) ((ks.map λs=>(s,oH.lit (V s)))++org):=by
        refine⟨λs hs=> ?_,λs hs=> ?_,λs hs=> ?_,λs hs=>List.mem_append_left _ hs⟩
        ·rw[List.mem_append,not_or] at hs;rw[aI,qo (λs=>oH.lit (V s)),if_neg hs.1,ha.nil s hs.2];rfl
        ·rw[aI,qo (λs=>oH.lit (V s)),if_neg hs];exact ha.same s (λh=>hs (hu s h))
        exact⟨dem (gX o e s),by rw[aI,hzip s (λh=>hp s h hs),hlk s hs];rfl,cy _⟩
       obtain⟨k1,org1,a1,l1,k2⟩:=tZ n as ks (ks++kk) o o1 _ e1 bx b1 _ has w2 _ hA;obtain⟨k3,org2,a2,l2,k4⟩:=tZ n bd ks (ks++kk) o1 o2 e1 e2 b1 b2 _ hrun w3 _ a1;have hst:oo ⟨org,e,b⟩ ks ps V xs bx=⟨(ks.map λs=>(s,oH.lit (V s)))++org,ps.zip xs++ks.map λs=>(s,dem (gX o e s)),bx⟩:=by simp only[oo,hre]
       rw[hst];refine k2 _ (k4 _ ?_);have hend:fk ⟨org,e,b⟩ ks V ⟨org2,e2,b2⟩:=λs hs=>by
        have h5:lk e2 s=some (dem (gX o e s)):=by rw[k3 s hs,k1 s hs,aI,hzip s (λh=>hp s h hs),hlk s hs];rfl
        refine⟨?_,?_⟩
        ·simp only[ASt.get,h5];have:=congrFun (ha.get b) s;simp only[ASt.get] at this;rw[this]
        rw[l2 s hs,l1 s hs,aI,qo (λs=>oH.lit (V s)),if_pos hs];rfl
       rcases hcase with⟨hx,hj⟩|⟨hx,hx2,hb2⟩
       ·subst hx;exact⟨hend,hj⟩
       subst hx2;subst hb2;have:fk ⟨org,e,b⟩ ks V ⟨org2,e2,b2⟩∧kV ⟨org,e,b⟩ ks [] Q x2 b2:=⟨hend,by rw[D6,hre];exact hq⟩;cases x2 with
       |normal=>exact(hx rfl).elim
       |_=>exact this
      cases hrun
     split at h2
     ·rename_i o2 e2 b2 h3;exact hround _ _ _ _ h3 (.inl ⟨rfl,hlt,h2⟩)
     ·rename_i x2 o2 e2 b2 hn h3;cases h2;exact hround _ _ _ _ h3 (.inr ⟨λhx=>hn hx,rfl,rfl⟩)
     cases h2
    cases h
   cases h
  cases h
 | .bad,_,_,_,_,_,_,_,_,_,h,_=>by unfold DW at h;cases h
end
section
variable (X : XE)
def JP(o e:lR)(b:FJ):gR->Bool
 | .cell s k id=>Rr (ASt.getB ⟨o,e,b⟩) (some id) (k.getD 1) (ASt.get ⟨o,e,b⟩ s)
 |_=>true
def outX(F:nH):z4F->Option oH
 |some (.exit _,_)=>none
 |some (_,o,e,b)=>bif uF (JP o e b) F.res&&ak (Rn ⟨o,e,b⟩ F.res) then some (Rn ⟨o,e,b⟩ F.res) else none
 |none=>none
def kkF(F:nH):List Nat:=(List.range F.n).filter λs=> !F.wr.contains s
def Ma(F:nH)(n:Nat)(ds:List oH):Option oH:=bif Nat.beq ds.length F.n&&wrC (kkF F) F.body then outX F (DW X n F.body [] (fP F.wr ds).org (fP F.wr ds).env []) else none
def z9Aa(F:nH)(n:Nat):aW:=⟨λds=>(Ma X F n ds).isSome=true,λds=>(Ma X F n ds).getD .undef⟩
variable {X}
theorem I0{o e:lR}{b:FJ}{r:gR}(h:JP o e b r=true):F5 ⟨o,e,b⟩ r:=by
 unfold JP at h;split at h
 ·exact NK h
 cases r<;>first|trivial|simp_all
theorem AC{st st':ASt}(hg:st.get=st'.get)(hb:st.getB=st'.getB)(r:gR):lr st r=lr st' r∧F5 st r=F5 st' r:=by cases r<;>simp only[lr,F5,hg,hb,and_self]
theorem FG{st st':ASt}(hg:st.get=st'.get)(hb:st.getB=st'.getB)(rs:List gR):gj st rs=gj st' rs:=by
 have h:rs.map (lr st)=rs.map (lr st'):=List.map_congr_left λr _=>(AC hg hb r).1;unfold gj;split
 ·rw[hg]
 ·exact(AC hg hb _).1
 rw[h]
theorem SX{st st':ASt}(hg:st.get=st'.get)(hb:st.getB=st'.getB)(rs:List gR):Rn st rs=Rn st' rs:=by
 have h:∀rs:List gR,rs.map (lr st)=rs.map (lr st'):=λrs=>List.map_congr_left λr _=>(AC hg hb r).1;unfold Rn;split
 ·rw[hg,h]
 exact FG hg hb _
theorem Xa(F:nH)(n:Nat):∀ds,(z9Aa X F n).pre ds->ds.length=F.n∧awp X.env F.body (qH F.res ((z9Aa X F n).post ds)) (fP F.wr ds):=λds h=>by
 simp only[z9Aa] at h⊢;cases hf:Ma X F n ds with
 |none=>rw[hf] at h;cases h
 |some v=>
  unfold Ma at hf;obtain⟨h0,hf⟩:=O7 hf;simp only[Bool.and_eq_true] at h0;have hl:=Nat.eq_of_beq_eq_true h0.1;refine⟨hl,?_⟩;cases hr:DW X n F.body [] (fP F.wr ds).org (fP F.wr ds).env [] with
  |none=>rw[hr] at hf;cases hf
  |some r=>
   obtain⟨x,o,e,b⟩:=r;rw[hr] at hf;have hA:dC [] (kkF F) (fP F.wr ds).org (fP F.wr ds).env (fP F.wr ds).org:=⟨λs hs=>by
    rw[M4];by_cases hw:s∈F.wr
    ·rw[if_pos hw]
    rw[if_neg hw,List.getElem?_eq_none_iff,hl];simp only[kkF,List.mem_filter,List.mem_range,Bool.not_eq_true',List.contains_eq_mem,decide_eq_false_iff_not,not_and,Decidable.not_not] at hs;exact Nat.le_of_not_lt λhlt=>hw (hs hlt),λ_ _=>rfl,λs hs=>(by cases hs),λs hs=>(by cases hs)⟩
   obtain⟨_,org1,a1,_,k2⟩:=tZ n F.body [] (kkF F) _ o _ e [] b x hr h0.2 _ hA;refine k2 _ ?_;have hg:ASt.get ⟨org1,e,b⟩=ASt.get ⟨o,e,b⟩:=(a1.get b).trans (funext λs=>by simp only[ASt.get,gX,fz];rfl);have fin:(bif uF (JP o e b) F.res&&ak (Rn ⟨o,e,b⟩ F.res) then some (Rn ⟨o,e,b⟩ F.res) else none)=some v->(∀r∈F.res,F5 ⟨org1,e,b⟩ r)∧Rn ⟨org1,e,b⟩ F.res=v∧ak v=true:=λh=>by obtain⟨h1,h2⟩:=C5 h;simp only[Bool.and_eq_true] at h1;exact⟨λr hr=>by rw[(AC hg rfl r).2];exact I0 (pd h1.1 r hr),by rw[SX hg rfl];exact h2,by rw[<-h2];exact h1.2⟩
   cases x with
   |exit _=>cases hf
   |normal=>exact fin hf
   |ret=>exact fin hf
variable (X)
def z67(F:nH)(bx:List Nat):z4F->Option (oH×(Nat->List oH))
 |some (.exit _,_)=>none
 |some (_,o,e,b)=>bif uF (JP o e b) F.res&&uF (λj=>(gbX b j).isSome&&uF bx.contains (pT ((gbX b j).getD []))) bx&&uF bx.contains (aF (gj ⟨o,e,b⟩ F.res)) then some (gj ⟨o,e,b⟩ F.res,λj=>(gbX b j).getD []) else none
 |none=>none
def Fd(F:nH)(n:Nat)(bx nb:List Nat):XM:=⟨bx,nb,λds=>bif Nat.beq ds.length F.n&&uF (λj=>decide (j<F.n)) bx&&wrC bx F.body then z67 F (bx++nb) (DW X n F.body bx [] (mV bx 0 ds) (bx.map λj=>(j,some (dg (ds.getD j .undef))))) else none⟩
def HN(F:nH)(n:Nat)(bx nb:List Nat):CM:=⟨bx,nb,λds=>((Fd X F n bx nb).run ds).isSome=true,λds=>(((Fd X F n bx nb).run ds).getD (.undef,λ_=>[])).1,λds=>(((Fd X F n bx nb).run ds).getD (.undef,λ_=>[])).2⟩
variable {X}
theorem Xx(F:nH)(n:Nat)(bx nb:List Nat):∀ds p,(HN X F n bx nb).pre ds->ds.length=F.n∧awp X.env F.body (PY F.res (HN X F n bx nb) p ds) (nW (HN X F n bx nb).bx p ds):=λds p h=>by
 have h:=h;simp only[HN] at h;cases hf:(Fd X F n bx nb).run ds with
 |none=>rw[hf] at h;cases h
 |some v=>
  have hpost:(HN X F n bx nb).post ds=v.1:=by simp only[HN,hf];rfl
  have hout:(HN X F n bx nb).out ds=v.2:=by simp only[HN,hf];rfl
  simp only[Fd] at hf;obtain⟨h0,hf⟩:=O7 hf;simp only[Bool.and_eq_true] at h0;have hl:=Nat.eq_of_beq_eq_true h0.1.1;have hlt:∀j∈bx,j<F.n:=λj hj=>of_decide_eq_true (pd h0.1.2 j hj);refine⟨hl,?_⟩;cases hr:DW X n F.body bx [] (mV bx 0 ds) (bx.map λj=>(j,some (dg (ds.getD j .undef)))) with
  |none=>rw[hr] at hf;cases hf
  |some r=>
   obtain⟨x,o,e,b⟩:=r;rw[hr] at hf;have henv:∀j∈bx,lk (mV bx 0 ds) j=some (.bp j 0):=λj hj=>by rw[Pw,if_pos (Nat.zero_le j),Nat.sub_zero,List.getElem?_eq_getElem (by rw[hl];exact hlt j hj)];simp[hj]
   have hA:dC bx bx [] (mV bx 0 ds) (bx.map λj=>(j,oH.lit (p j))):=⟨λs hs=>by rw[qo (λj=>oH.lit (p j)),if_neg hs],λs hs=>by rw[qo (λj=>oH.lit (p j)),if_neg hs];rfl,λs hs=>⟨_,henv s hs,rfl⟩,λs hs=>hs⟩;obtain⟨k1,org1,a1,l1,k2⟩:=tZ n F.body bx bx [] o _ e _ b x hr h0.2 _ hA;refine k2 _ ?_;have hg:ASt.get ⟨org1,e,b⟩=ASt.get ⟨o,e,b⟩:=(a1.get b).trans (funext λs=>by simp only[ASt.get,gX,fz];rfl);have hb:ASt.getB ⟨org1,e,b⟩=ASt.getB ⟨o,e,b⟩:=rfl;have fin:(bif uF (JP o e b) F.res&&uF (λj=>(gbX b j).isSome&&uF (bx++nb).contains (pT ((gbX b j).getD []))) (bx++nb)&&uF (bx++nb).contains (aF (gj ⟨o,e,b⟩ F.res)) then some (gj ⟨o,e,b⟩ F.res,λj=>(gbX b j).getD []) else none)=some v->
     (∀r∈F.res,F5 ⟨org1,e,b⟩ r)∧gj ⟨org1,e,b⟩ F.res=(HN X F n bx nb).post ds∧(∀j∈bx,lk org1 j=some (.lit (p j))∧ASt.get ⟨org1,e,b⟩ j= .bp j 0)∧
     (∀j∈bx++nb,ASt.getB ⟨org1,e,b⟩ j=some ((HN X F n bx nb).out ds j))∧(∀id∈aF ((HN X F n bx nb).post ds),id∈bx++nb)∧(∀j∈bx++nb,∀id∈pT ((HN X F n bx nb).out ds j),id∈bx++nb):=λh=>by
    obtain⟨h1,h2⟩:=C5 h;simp only[Bool.and_eq_true] at h1;obtain⟨⟨a1,a2⟩,a3⟩:=h1;rw[hpost,hout,<-h2];refine⟨λr hr=> ?_,FG hg hb _,λj hj=>⟨by rw[l1 j hj,qo (λj=>oH.lit (p j)),if_pos hj],by rw[hg];simp only[ASt.get,k1 j hj,henv j hj]⟩,λj hj=> ?_,λid hid=>List.contains_iff_mem.1 (pd a3 id hid),λj hj id hid=> ?_⟩
    ·rw[(AC hg hb r).2];exact I0 (pd a1 r hr)
    ·have:=pd a2 j hj;simp only[Bool.and_eq_true,Option.isSome_iff_exists] at this;obtain⟨⟨cs,hcs⟩,_⟩:=this;rw[Lp];simp only[hcs,Option.getD_some]
    have:=pd a2 j hj;simp only[Bool.and_eq_true] at this;exact List.contains_iff_mem.1 (pd this.2 id hid)
   cases x with
   |exit _=>cases hf
   |normal=>exact fin hf
   |ret=>exact fin hf
variable (X)
def Ns(F:nH)(n:Nat)(hold bx:List Nat):XW:=⟨hold,bx,λds bs=>bif Nat.beq ds.length F.n&&uF (λj=>decide (j<F.n)) hold&&wrC hold F.body then z67 F bx (DW X n F.body hold [] (UG 0 ds) (bx.map λj=>(j,some (bs j)))) else none⟩
def Hp(F:nH)(n:Nat)(hold bx:List Nat):CW:=⟨hold,bx,[],λds bs=>((Ns X F n hold bx).run ds bs).isSome=true,λds bs=>(((Ns X F n hold bx).run ds bs).getD (.undef,λ_=>[])).1,λds bs=>(((Ns X F n hold bx).run ds bs).getD (.undef,λ_=>[])).2⟩
variable {X}
theorem Z5(F:nH)(n:Nat)(hold bx:List Nat):∀ds bs p,(Hp X F n hold bx).pre ds bs->ds.length=F.n∧awp X.env F.body (z2S F.res (Hp X F n hold bx) p ds bs) (MR (Hp X F n hold bx) p ds bs):=λds bs p h=>by
 have h:=h;simp only[Hp] at h;cases hf:(Ns X F n hold bx).run ds bs with
 |none=>rw[hf] at h;cases h
 |some v=>
  have hpost:(Hp X F n hold bx).post ds bs=v.1:=by simp only[Hp,hf];rfl
  have hout:(Hp X F n hold bx).out ds bs=v.2:=by simp only[Hp,hf];rfl
  simp only[Ns] at hf;obtain⟨h0,hf⟩:=O7 hf;simp only[Bool.and_eq_true] at h0;have hl:=Nat.eq_of_beq_eq_true h0.1.1;have hlt:∀j∈hold,j<F.n:=λj hj=>of_decide_eq_true (pd h0.1.2 j hj);refine⟨hl,?_⟩;cases hr:DW X n F.body hold [] (UG 0 ds) (bx.map λj=>(j,some (bs j))) with
  |none=>rw[hr] at hf;cases hf
  |some r=>
   obtain⟨x,o,e,b⟩:=r;rw[hr] at hf;have henv:∀j∈hold,lk (UG 0 ds) j=some (dem (ds.getD j .undef)):=λj hj=>by
    have hj':j<ds.length:=by rw[hl];exact hlt j hj
    rw[Pz,if_pos (Nat.zero_le j),Nat.sub_zero,List.getD_eq_getElem?_getD,List.getElem?_eq_getElem hj'];rfl
   have hA:dC hold hold [] (UG 0 ds) (hold.map λj=>(j,oH.lit (p j))):=⟨λs hs=>by rw[qo (λj=>oH.lit (p j)),if_neg hs],λs hs=>by rw[qo (λj=>oH.lit (p j)),if_neg hs];rfl,λs hs=>⟨_,henv s hs,cy _⟩,λs hs=>hs⟩;obtain⟨k1,org1,a1,l1,k2⟩:=tZ n F.body hold hold [] o _ e _ b x hr h0.2 _ hA;refine k2 _ ?_;have hg:ASt.get ⟨org1,e,b⟩=ASt.get ⟨o,e,b⟩:=(a1.get b).trans (funext λs=>by simp only[ASt.get,gX,fz];rfl);have hb:ASt.getB ⟨org1,e,b⟩=ASt.getB ⟨o,e,b⟩:=rfl;have fin:(bif uF (JP o e b) F.res&&uF (λj=>(gbX b j).isSome&&uF bx.contains (pT ((gbX b j).getD []))) bx&&uF bx.contains (aF (gj ⟨o,e,b⟩ F.res)) then some (gj ⟨o,e,b⟩ F.res,λj=>(gbX b j).getD []) else none)=some v->
     (∀r∈F.res,F5 ⟨org1,e,b⟩ r)∧gj ⟨org1,e,b⟩ F.res=(Hp X F n hold bx).post ds bs∧
     (∀j∈hold,(lk org1 j=some (.lit (p j))∧ASt.get ⟨org1,e,b⟩ j=dem (ds.getD j .undef))∨held ⟨org1,e,b⟩ (p j) (ds.getD j .undef))∧
     (∀j∈bx++[],ASt.getB ⟨org1,e,b⟩ j=some ((Hp X F n hold bx).out ds bs j))∧(∀id∈aF ((Hp X F n hold bx).post ds bs),id∈bx++[])∧(∀j∈bx++[],∀id∈pT ((Hp X F n hold bx).out ds bs j),id∈bx++[]):=λh=>by
    obtain⟨h1,h2⟩:=C5 h;simp only[Bool.and_eq_true] at h1;obtain⟨⟨a1,a2⟩,a3⟩:=h1;rw[List.append_nil,hpost,hout,<-h2];refine⟨λr hr=> ?_,FG hg hb _,λj hj=> .inl ⟨by rw[l1 j hj,qo (λj=>oH.lit (p j)),if_pos hj],by rw[hg];simp only[ASt.get,k1 j hj,henv j hj]⟩,λj hj=> ?_,λid hid=>by simpa using pd a3 id hid,λj hj id hid=> ?_⟩
    ·rw[(AC hg hb r).2];exact I0 (pd a1 r hr)
    ·have:=pd a2 j hj;simp only[Bool.and_eq_true,Option.isSome_iff_exists] at this;obtain⟨⟨cs,hcs⟩,_⟩:=this;rw[Lp];simp only[hcs,Option.getD_some]
    have:=pd a2 j hj;simp only[Bool.and_eq_true] at this;simpa using pd this.2 id hid
   cases x with
   |exit _=>cases hf
   |normal=>exact fin hf
   |ret=>exact fin hf
end
def z8na(tag:Int)(l:List (List UInt8)):List UInt8:=(z1oa (mY tag l)).take 16
def xOf(ds:List oH):Option oH:=match ds with
 |[.lit (.int .i64 t),.sl .plain _ n cs]=>bif Nat.beq n cs.length&&uF Ww cs&&Nat.ble (Co (cs.map gS)) 1000000000 then some (.agg (bys (z8na t (cs.map gS)))) else none
 |_=>none
def U4:oH->Bool| .lit (.int .u8 n)=>decide (0<=n)&&decide (n<=255)|_=>false
def xSh(ds:List oH):Option oH:=match ds with
 |[.sl .plain _ n cs]=>bif Nat.beq n cs.length&&uF U4 cs&&Nat.ble n 1000000000 then some (.agg (bys ((z1oa (gBs cs)).take 16))) else none
 |_=>none
def xGr(e:Nat)(ds:List oH):Option oH:=match ds with
 |[.sl .plain (some true) 0 [],.lit (.int .i64 n)]=>bif decide (0<=n)&&decide (n<=1000000) then some (.sl (.own e) none 0 []) else none
 |_=>none
def z2E(ds:List oH):Option oH:=match ds with
 |[.sl .plain _ n cs]=>bif Nat.beq cs.length (n*16)&&uF U4 cs&&Nat.ble n 1000000 then some (.sl (.own 16) none n cs) else none
 |_=>none
def z7E(ds:List oH):Option oH:=match ds with
 |[.sl .plain _ n cs]=>bif Nat.beq cs.length (n*30)&&uF AN cs&&au cs&&Nat.ble n 1000000 then some (.sl (.own 30) none n cs) else none
 |_=>none
def xBw(x y:List oH):Option (List (List oH)):=match x,y with
 |[],[.ep [.sl .plain _ n cs]]=>bif Nat.beq cs.length (n*16)&&uF U4 cs&&Nat.ble n 1000000 then some ((List.range n).map λi:Nat=>[i64 ((n:Int)-1-i),.agg ((cs.drop ((n-1-i)*16)).take 16)]) else none
 |_,_=>none
def WM:oH->Bool| .agg l=>uF U4 l|_=>false
def V5(d:oH):Bool:= !ao d
def z2ya(f:Nat->Option (List oH))(n:Nat):Option (List (List oH)):=Nat.rec (some []) (λk ih=>match ih,f k with|some l,some d=>some (l++[d])|_,_=>none) n
def xDg(g:List oH->Option oH)(x y:List oH):Option (List (List oH)):=match x,y with
 |[],[.ep [.sl .plain _ n cs]]=>bif Nat.beq cs.length (n*30)&&uF AN cs&&au cs&&uF V5 cs&&Nat.ble n 1000000 then z2ya (λi:Nat=>(g [.agg ((cs.drop (i*30)).take 30)]).bind λd=>bif WM d then some [d] else none) n else none
 |_,_=>none
def z3oa:List UInt8->List UInt8->Bool
 |[],[]=>true
 |a::as,b::bs=>Nat.beq a.toNat b.toNat&&z3oa as bs
 |_,_=>false
theorem Rm:∀{a b:List UInt8},z3oa a b=true->a=b
 |[],[],_=>rfl
 |[],_::_,h=>by cases h
 |_::_,[],h=>by cases h
 |a::as,b::bs,h=>by simp only[z3oa,Bool.and_eq_true] at h;rw[UInt8.toNat.inj (Nat.eq_of_beq_eq_true h.1),Rm h.2]
def eqMd:cH->cH->Bool
 | .plain,.plain=>true
 | .clip,.clip=>true
 | .own a,.own b=>Nat.beq a b
 |_,_=>false
theorem z1s{a b:cH}(h:eqMd a b=true):a=b:=by cases a<;>cases b<;>first|rfl|cases h|(rw[Nat.eq_of_beq_eq_true h])
mutual
def eqA:oH->oH->Bool
 | .lit (.int k a),.lit (.int k' b)=>decide (k=k')&&decide (a=b)
 | .lit (.bool a),.lit (.bool b)=>a==b
 | .lit (.string a),.lit (.string b)=>z3oa a.data.toList b.data.toList
 | .lit (.slice none 0 0),.lit (.slice none 0 0)=>true
 | .agg a,.agg b=>z0i a b
 | .tup a,.tup b=>z0i a b
 | .sl m nl n a,.sl m' nl' n' b=>eqMd m m'&&(nl==nl')&&Nat.beq n n'&&z0i a b
 |_,_=>false
def z0i:List oH->List oH->Bool
 |[],[]=>true
 |a::as,b::bs=>eqA a b&&z0i as bs
 |_,_=>false
end
mutual
theorem z9l:∀{a b:oH},eqA a b=true->a=b:=λ{a b} h=>by
 unfold eqA at h;split at h
 ·simp only[Bool.and_eq_true,decide_eq_true_eq] at h;rw[h.1,h.2]
 ·rw[beq_iff_eq.1 h]
 ·rw[Rg _ _ (Rm h)]
 ·rfl
 ·rw[IZ h]
 ·rw[IZ h]
 ·simp only[Bool.and_eq_true,beq_iff_eq] at h;rw[z1s h.1.1.1,h.1.1.2,Nat.eq_of_beq_eq_true h.1.2,IZ h.2]
 cases h
theorem IZ:∀{a b:List oH},z0i a b=true->a=b:=λ{a b} h=>by
 unfold z0i at h;split at h
 ·rfl
 ·simp only[Bool.and_eq_true] at h;rw[z9l h.1,IZ h.2]
 cases h
end
def TB(n:Int):oH:= .lit (.int .i64 n)
def nu8(n:Int):oH:= .lit (.int .u8 n)
def sX(l:List UInt8):oH:= .lit (.string ⟨⟨l⟩⟩)
def xE(a b:Int)(s t:oH):List oH:=[TB a,TB 0,TB 0,TB b,TB 0,TB 0,TB 0,TB 0,TB 0,TB 0,sX [],.sl .plain none 0 [],nu8 0,nu8 0,nu8 0,nu8 0,nu8 0,nu8 0,nu8 0,nu8 0,nu8 0,nu8 0,nu8 0,nu8 0,nu8 0,nu8 0,nu8 0,nu8 0,s,t]
def z8n(t:List (List oH×oH))(ds:List oH):Option oH:=List.rec none (λp _ ih=>bif z0i ds p.1 then some p.2 else ih) t
theorem WS{x:List oH->Option oH}:∀{t:List (List oH×oH)} {ds:List oH} {v:oH},(∀p∈t,x p.1=some p.2)->z8n t ds=some v->x ds=some v
 |[],_,_,_,h=>by cases h
 |p::t,ds,v,ht,h=>by
  change(bif z0i ds p.1 then some p.2 else z8n t ds)=some v at h;cases he:z0i ds p.1 with
  |true=>rw[he] at h;rw[IZ he,ht p (by simp)];exact h
  |false=>rw[he] at h;exact WS (λq hq=>ht q (by simp[hq])) h
def Ir(y:List oH->Option oH)(t:List (List oH×oH))(i:Nat):Bool:=match t[i]? with
 |some p=>(match y p.1 with|some v=>eqA v p.2|none=>false)
 |none=>false
theorem JY{y:List oH->Option oH}{t:List (List oH×oH)}(h:∀i,i<t.length->Ir y t i=true):∀p∈t,y p.1=some p.2:=λp hp=>by
 obtain⟨i,hi,rfl⟩:=List.mem_iff_getElem.1 hp;have h1:=h i hi;unfold Ir at h1;rw[List.getElem?_eq_getElem hi] at h1;simp only at h1;split at h1
 ·rename_i v e;rw[e,z9l h1]
 cases h1
def lkG(l:List (Nat×(List oH->Option oH)))(n:Nat):List oH->Option oH:=List.rec (λ_=>none) (λp _ ih=>bif Nat.beq p.1 n then p.2 else ih) l
def xGT(T:Nat->List oH)(l:List (Nat×(List oH->Option oH))):XE:={G:=lkG l,T:=T}
end Go.Abs
end