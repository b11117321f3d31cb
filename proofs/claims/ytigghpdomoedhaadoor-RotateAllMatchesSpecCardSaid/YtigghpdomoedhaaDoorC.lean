/- Lemmas: an abstract interpreter, and what the functions compute. -/
import Derived.Test.YtigghpdomoedhaaDoorB
import Derived.OrdersIn
import Derived.OwnWalkIn
import Derived.RangeFuncNested
import Derived.RangeFuncLeaves
import Derived.Scope
import Derived.Lib.Builder
import Derived.Lib.UnsafeStr
import Derived.Laws.Sem
set_option linter.unusedSimpArgs false
set_option linter.unusedVariables false
set_option linter.unusedSectionVars false
section
namespace Go.Abs

def WF (r:Option Nat):Fence:={Fence.wide with round:=r}
theorem z3sa (r:Option Nat) (f:FuncId):(WF r).fn f:=trivial
theorem z2tb (r:Option Nat):(WF r).round=r:=rfl
theorem z6ta (r:Option Nat):(WF r).depth=none:=rfl
theorem z9na {r:Option Nat} {n:Nat} {P:Program} {f:FuncId} {args:Array Value} {w:World} {R:Ending→World→Prop}:CallsIn (WF r) n P f args w R↔Calls P f args w R:=by
 have h:CallsIn (WF r) n P f args w R↔CallsIn Fence.wide n P f args w R:=Iff.rfl
 rw[h];exact callsIn_wide
theorem z69a {r:Option Nat} {n:Nat} {P:Program} {row:String} {args:Array Value} {w:World} {R:Value→World→Prop} (h:Rows P row args w R):RowsIn (WF r) n P row args w R:=
 fun c cs _=>let⟨v,w',h1,h2⟩:=h c cs;⟨v,w',h1,(stepsIn_wide.2 h2:StepsIn (Machine.fenced P Fence.wide) P _ _)⟩

theorem z1Sb {r:Option Nat} {n:Nat} {P:Program} {o:Oper} {a:Act} {w:World} {K:Act→World→Prop} {Q:Exit→Act→World→Prop} (hd:∀c,o.op≠ .defer c) (h:o.wp P a w K Q):o.wpIn (WF r) n P a w K Q:=by
 refine⟨fun f _=>z3sa r f,?_⟩
 rw[Oper.semAt_plain (WF r) _ _ hd]
 unfold Oper.wp at h
 generalize(execOp a.eval o).run P w=res at*
 have hdep:((WF r).depth.isSome=true→1≤n):=fun h=>by simp[z6ta] at h
 cases res with
 |ok x w'=>
  cases x<;>simp only[Oper.upon,Oper.uponIn] at h⊢<;>
   first
    |exact h
    |exact⟨hdep,z9na.2 h⟩
    |exact⟨hdep,z69a h⟩
 |halt x w'=>cases x<;>simp only[Oper.upon,Oper.uponIn] at h⊢<;>exact h

section
variable {P : Program} {F : Fence} {n : Nat} {a : Act} {w : World} {Q : Exit → Act → World → Prop}
theorem z8D {b:Frame} {k:List Item} {cs:List Frame} {c:Code}:step P (lone (b.atR a (.code (.scope c)::k)) cs w)= .next (lone (b.atR a (.code c:: .inScope c::k)) cs w):=
 step_lone_go (by simp[stepG,stepG.exec,Frame.atR])
theorem z5sa {b:Frame} {k:List Item} {cs:List Frame} {c:Code}:step P (lone (b.atR a (.inScope c::k)) cs w)= .next (lone (b.atR a k) cs w):=
 step_lone_go (by simp[stepG,stepG.exec,Frame.atR])
theorem z5oa {c:Code} (h:c.wpIn F n P (Exit.noGoto Q) a w):(Code.scope c).wpIn F n P Q a w:=by
 intro b k cs hro hb hr
 have h0:(lone (b.atR a (.code (.scope c)::k)) cs w).fenced P F:=fenced_calm hb hr rfl
 obtain⟨e,a₁,w₁,hq,harr⟩:=h b (.inScope c::k) cs hro hb hr
 cases e with
 |normal=>exact⟨.normal,a₁,w₁,hq,.head h0 z8D (StepsIn.trans harr (.one (fenced_calm hb hr rfl) z5sa))⟩
 |exit id=>
  have hx:exitTo id (.inScope c::k)=exitTo id k:=by simp[exitTo]
  exact⟨.exit id,a₁,w₁,hq,fun k' hk=> .head h0 z8D (harr.1 k' (by rw[hx];exact hk)),
   fun hr' hk=>let⟨k₁,h1,h2⟩:=harr.2 hr' (by rw[hx];exact hk);⟨k₁,h1,.head h0 z8D h2⟩⟩
 |goto l=>exact hq.elim
 |ret=>exact⟨_,a₁,w₁,hq,.of_steps (.one h0 z8D) harr⟩
 |panic ch=>exact⟨_,a₁,w₁,hq,.of_steps (.one h0 z8D) harr⟩
 |outgrown=>exact⟨_,a₁,w₁,hq,.of_steps (.one h0 z8D) harr⟩

theorem z7S {c:Code} (I:Nat→Act→World→Prop) {m:Nat} (h₀:I m a w)
  (round:∀m a w,I m a w→c.wpIn F n P (Exit.then (fun a' w'=>∃m',m'<m∧I m' a' w') Q) a w):(Code.loop c).wpIn F n P Q a w:=by
 intro b k cs hro hb hr
 have key:∀j a w,I j a w→∃e a' w',Q e a' w'∧ArrivesIn (Machine.fenced P F) P (lone (b.atR a (.code c:: .inLoop c::k)) cs w) b k cs e a' w':=by
  intro j
  induction j using Nat.strongRecOn with
  |_ j ih=>
   intro a w hI
   obtain⟨e,a₁,w₁,hq,harr⟩:=round j a w hI b (.inLoop c::k) cs hro hb hr
   cases e with
   |normal=>
    obtain⟨m',hlt,hI₁⟩:=hq
    obtain⟨e₂,a₂,w₂,hq₂,harr₂⟩:=ih m' hlt a₁ w₁ hI₁
    exact⟨e₂,a₂,w₂,hq₂,.of_steps (StepsIn.trans harr (.one (fenced_calm hb hr rfl) stepR_inLoop)) harr₂⟩
   |exit id=>exact⟨_,a₁,w₁,hq,.pass (x:= .inLoop c) rfl (fun _ _=> .inl (by simp)) harr⟩
   |goto l=>exact⟨_,a₁,w₁,hq,.pass (x:= .inLoop c) rfl (fun _ _=> .inl (by simp)) harr⟩
   |ret=>exact⟨_,a₁,w₁,hq,.pass (x:= .inLoop c) rfl (fun _ _=> .inl (by simp)) harr⟩
   |panic ch=>exact⟨_,a₁,w₁,hq,.pass (x:= .inLoop c) rfl (fun _ _=> .inl (by simp)) harr⟩
   |outgrown=>exact⟨_,a₁,w₁,hq,.pass (x:= .inLoop c) rfl (fun _ _=> .inl (by simp)) harr⟩
 obtain⟨e,a',w',hq,harr⟩:=key _ a w h₀
 exact⟨e,a',w',hq,.of_steps (.one (fenced_calm hb hr rfl) stepR_loop) harr⟩
end
end Go.Abs
end

section
set_option linter.unusedVariables false
namespace Go.Abs

def z91 (w:World) (b:Nat):Option Nat:=match w.cell? ⟨b,1,none⟩ with|some (.slice (some a) _ _)=>some a.block|_=>none
structure z12a (w w':World) (b:Nat):Prop where
 os:w'.os=w.os
 tape:w'.tape=w.tape
 output:w'.output=w.output
 size:w.heap.size≤w'.heap.size
 block:∀k,k<w.heap.size→k≠b→z91 w b≠some k→w'.heap[k]? =w.heap[k]?
 buf:z91 w' b=z91 w b∨((∀k,z91 w' b=some k→w.heap.size≤k)∧∀k,k<w.heap.size→k≠b→w'.heap[k]? =w.heap[k]?)

theorem z8Ea {w:World} {b:Nat} {v:Value} (h:w.cell? ⟨b,1,none⟩=some v):z91 w b=v.ownBlock:=by
 unfold z91
 rw[h]
 cases v with
 |slice a _ _=>cases a<;>rfl
 |_=>rfl

structure z8Qa (K:Cx) (m:Nat):Prop where
 call:z4Z K.P (K.bf m)
 len:m=0→∀b bs w,Lib.IsBuilder K.bt K.b5 0 b bs w→Calls K.P (K.bf 0) #[.pointer (some ⟨b,0,none⟩)] w fun e w'=>e= .returned (.int .i64 bs.length)∧w'=w
 wstr:m=1→∀b bs s w,Lib.IsBuilder K.bt K.b5 0 b bs w→bs.length+s.size≤140737488355328→Calls K.P (K.bf 1) #[.pointer (some ⟨b,0,none⟩),.string s] w fun e w'=>e= .returned (.tuple #[.int .i64 s.size,.nilIface])∧Lib.IsBuilder K.bt K.b5 0 b (bs++Lib.strCells s) w'∧z12a w w' b
 write:m=2→∀b bs ad m c news w,Lib.IsBuilder K.bt K.b5 0 b bs w→news.length=m→(∀j u,news[j]? =some u→w.cell? (ad.add j)=some u)→ad.block≠b→(∀u∈news,u.oneCell'=true)→bs.length+m≤140737488355328→
  Calls K.P (K.bf 2) #[.pointer (some ⟨b,0,none⟩),.slice (some ad) m c] w fun e w'=>e= .returned (.tuple #[.int .i64 m,.nilIface])∧Lib.IsBuilder K.bt K.b5 0 b (bs++news) w'∧z12a w w' b
 str:m=3→∀b l w,Lib.IsBuilder K.bt K.b5 0 b (Lib.byteCells l) w→l≠[]→Calls K.P (K.bf 3) #[.pointer (some ⟨b,0,none⟩)] w fun e w'=>e= .returned (.string ⟨l.toArray⟩)∧(w'.os=w.os∧w'.tape=w.tape∧w'.output=w.output∧w.heap.size≤w'.heap.size∧∀k,k<w.heap.size→k≠b→z91 w b≠some k→w'.heap[k]? =w.heap[k]?)∧∀x,w'.cell? x=w.cell? x

section
variable {K : Cx} {base : z8s} {g g' : Gh} {w w' : World} {get : Nat → z2a} {getB : Nat → Option (List z2a)} {a : Act} {o : Oper} {d : Option Nat}

theorem z6K (l:List UInt8) (i:Nat):(Lib.byteCells l)[i]? =(l[i]?).map fun b=>Value.int .u8 b.toNat:=by simp[Lib.byteCells]
theorem z6ma (l:List UInt8) (i:Nat):(z5q l)[i]? =(l[i]?).map fun b=>z2a.lit (.int .u8 b.toNat):=by simp[z5q]

theorem z4yb (hI:Inv K base g w getB) {id b:Nat} (hid:1000000≤id) (hb:g.mu id=some b) {nl:Option Bool} {l:List UInt8} (hc:getB id=some [.undef,.sl (.own 1) nl l.length (z5q l)]):
  Lib.IsBuilder K.bt K.b5 0 b (Lib.byteCells l) w∧(∀k,z91 w b=some k→g.ow k=some (.cell id 1))∧(∀k,z91 w b=some k→∀i x,i<g.S k→w.cell? ⟨k,i,none⟩=some x→(Lib.byteCells l)[i]? =some x):=by
 obtain⟨p,v,hk,hp,hv⟩:=hI.obok id b _ hid hb hc (by simp[hdA])
 obtain⟨b',k1,k2,k3⟩:=hI.bxok id _ hc
 rw[hb] at k1;cases k1
 obtain⟨⟨x,hx,hr⟩,_⟩:=k3 1 _ rfl
 have hx':w.cell? ⟨b,1,none⟩=some v:=by simp[World.cell?,hk]
 have hxv:x=v:=by rw[hx] at hx';exact Option.some.inj hx'
 subst hxv
 simp only[Rep] at hr
 obtain⟨hr,hro⟩:=hr
 have hbuf:=z8Ea hx
 have mk:∀(ho:w.ownsRow 0 K.b5 1 x l.length (Lib.byteCells l)) (hn:x.ownBlock≠some b),Lib.IsBuilder K.bt K.b5 0 b (Lib.byteCells l) w:=fun ho hn=>by
  have ho':w.ownsRow 0 K.b5 1 x (Lib.byteCells l).length (Lib.byteCells l):=by rw[Lib.byteCells_length];exact ho
  rcases hp with rfl|rfl
  ·exact .inl ⟨Nat.zero_le _,x,hk,ho',hn⟩
  ·exact .inr ⟨Nat.zero_le _,x,hk,ho',hn⟩
 rcases hv with rfl|⟨k,n,cap,c,rfl,how,hck,hcs,hcm,hnc⟩
 ·have hl:l=[]:=by
   simp only[z2c] at hr
   rcases hr with⟨_,_,_,h,_⟩|⟨_,_,h,_⟩
   ·cases h
   ·exact List.eq_nil_of_length_eq_zero h
  subst hl
  refine⟨mk ⟨rfl,.inl ⟨rfl,rfl⟩⟩ (by simp[Value.ownBlock]),fun k h=> ?_,fun k h=> ?_⟩<;>(rw[hbuf] at h;simp[Value.ownBlock] at h)
 ·have hkb:k≠b:=fun e=>by rw[e,(hI.muW id b hb).2.2] at how;cases how
  simp only[z2c] at hr
  have hr2:n=l.length∧n≤cap∧z1d K.toCon g.S w (z5q l) k 0:=by
   rcases hr with⟨b2,o2,cap2,he,h1,h2,_⟩|⟨q,he,hl0,hl1,_⟩
   ·simp only[Value.slice.injEq,Option.some.injEq,Addr.mk.injEq,and_true] at he
    obtain⟨⟨rfl,rfl⟩,rfl,rfl⟩:=he
    exact⟨rfl,h1,h2⟩
   ·simp only[Value.slice.injEq] at he
    obtain⟨_,rfl,rfl⟩:=he
    exact⟨hl0.symm,Nat.le_refl _,by rw[hl1];simp[z1d]⟩
  obtain⟨rfl,h1,h2⟩:=hr2
  have cell:∀(i:Nat) (u:UInt8),l[i]? =some u→c[i]? =some (Value.int .u8 u.toNat):=fun i u hu=>by
   obtain⟨_,y,hy,hyr⟩:=h2.get i (.lit (.int .u8 u.toNat)) (by rw[z6ma,hu];rfl)
   simp only[z2c] at hyr
   subst hyr
   simpa[World.cell?,hck] using hy
  have htake:c.toList.take (l.length*1)=Lib.byteCells l:=by
   refine List.ext_getElem? fun i=> ?_
   rw[List.getElem?_take,z6K]
   cases hu:l[i]? with
   |none=>
    have:l.length≤i:=List.getElem?_eq_none_iff.1 hu
    rw[if_neg (by omega)];rfl
   |some u=>
    have:i<l.length:=(List.getElem?_eq_some_iff.1 hu).1
    rw[if_pos (by omega),Array.getElem?_toList]
    exact cell i u hu
  refine⟨mk ⟨by rw[Lib.byteCells_length];omega,.inr ⟨k,cap,c,rfl,Nat.zero_le _,hck,hnc,hcm,by omega,htake⟩⟩ (by simpa[Value.ownBlock] using hkb),fun j h=> ?_,fun j h i y hi hy=> ?_⟩
  ·rw[hbuf] at h;simp only[Value.ownBlock,Option.some.injEq] at h;subst h;exact how
  ·rw[hbuf] at h;simp only[Value.ownBlock,Option.some.injEq] at h;subst h
   rcases hro _ rfl with(he|⟨⟨a0,he⟩,hcs0⟩)|⟨b3,cap3,he,_,_,hS3,_⟩
   ·cases he
   ·simp only[Value.slice.injEq] at he
    obtain⟨_,_,rfl⟩:=he
    exfalso
    simp[World.cell?,hck] at hy
    have:=(Array.getElem?_eq_some_iff.1 hy).1
    omega
   ·simp only[Value.slice.injEq,Option.some.injEq,Addr.mk.injEq,and_true] at he
    obtain⟨rfl,_,rfl⟩:=he
    rw[hS3] at hi
    have hil:i<l.length:=by omega
    have:=cell i l[i] (List.getElem?_eq_getElem hil)
    simp[World.cell?,hck] at hy
    rw[this] at hy
    cases hy
    rw[z6K,List.getElem?_eq_getElem hil];rfl

theorem z2Ba (hI:Inv K base g w getB) (hS:z7d K g w get a) {id b:Nat} (hid:1000000≤id) (hb:g.mu id=some b) {l m:List UInt8} (hown:∀k,z91 w b=some k→g.ow k=some (.cell id 1))
  (hst:∀k,z91 w b=some k→∀i x,i<g.S k→w.cell? ⟨k,i,none⟩=some x→(Lib.byteCells l)[i]? =some x) (hB:Lib.IsBuilder K.bt K.b5 0 b (Lib.byteCells (l++m)) w') (hg:z12a w w' b):
  ∃g',Inv K base g' w' (z5U getB [(id,some [.undef,.sl (.own 1) none (l++m).length (z5q (l++m))])])∧z7d K g' w' get a∧(∀l0 d v,(∀x,d= .lit x→v=x)→(∃x,d= .lit x)→Rep K.toCon g' w' l0 d v):=by
 obtain⟨p,v,hk,hp,ho,hne⟩:∃p v,w'.heap[b]? =some (.cells #[p,v] K.bt (0,0))∧(p= .pointer none∨p= .pointer (some ⟨b,0,none⟩))∧w'.ownsRow 0 K.b5 1 v (l++m).length (Lib.byteCells (l++m))∧v.ownBlock≠some b:=by
  rw[←Lib.byteCells_length]
  rcases hB with⟨_,v,h1,h2,h3⟩|⟨_,v,h1,h2,h3⟩
  ·exact⟨_,v,h1,.inl rfl,h2,h3⟩
  ·exact⟨_,v,h1,.inr rfl,h2,h3⟩
 have hc1:w'.cell? ⟨b,1,none⟩=some v:=by simp[World.cell?,hk]
 have hbuf':=z8Ea hc1
 have hbW:=hI.muW id b hb
 generalize hL:l++m=L at*
 have hz:=hI.sz
 -- the new buffer
 have nb:∀x,v.ownBlock=some x→(x<w.heap.size∧z91 w b=some x∧g.ow x=some (.cell id 1))∨w.heap.size≤x:=fun x hx=>by
  rcases hg.buf with h|⟨h,_⟩
  ·rw[hbuf',hx] at h
   have:=hown x h.symm
   exact .inl ⟨(hI.owW x _ this).2,h.symm,this⟩
  ·exact .inr (h x (by rw[hbuf'];exact hx))
 have nlt:∀x,v.ownBlock=some x→x<w'.heap.size:=fun x hx=>by
  rcases ho.2 with⟨rfl,_⟩|⟨k,cap,cur,rfl,_,h,_⟩
  ·simp[Value.ownBlock] at hx
  ·simp only[Value.ownBlock,Option.some.injEq] at hx
   subst hx
   exact(Array.getElem?_eq_some_iff.1 h).1
 have same:∀x,x<w.heap.size→x≠b→v.ownBlock≠some x→w'.heap[x]? =w.heap[x]? :=fun x h1 h2 h3=>by
  rcases hg.buf with h|⟨_,h⟩
  ·exact hg.block x h1 h2 (by rw[←h,hbuf'];exact h3)
  ·exact h x h1 h2
 have noOw:∀x,g.ow x=none→x<w.heap.size→v.ownBlock≠some x:=fun x h1 h2 h3=>by
  rcases nb x h3 with⟨_,_,h⟩|h
  ·rw[h1] at h;cases h
  ·omega
 let g':Gh:={S:=fun x=>if v.ownBlock=some x then L.length else g.S x,ow:=fun x=>if v.ownBlock=some x then some (.cell id 1) else g.ow x,mu:=g.mu}
 have Sb:g.S b=0:=by
  by_cases h:∃cs,getB id=some cs
  ·obtain⟨cs,h⟩:=h
   obtain⟨b',k1,k2,_⟩:=hI.bxok id cs h
   rw[hb] at k1;cases k1;exact k2
  ·have:getB id=none:=by cases hh:getB id with|none=>rfl|some cs=>exact absurd ⟨cs,hh⟩ h
   rw[hI.nobx id this] at hb;cases hb
 have hkp:z7g g.S w g'.S w':=fun b0 i x hi hc=>by
  have hlt:b0<w.heap.size:=World.block_lt_of_cell? w ⟨b0,i,none⟩ hc
  have hne0:b0≠b:=fun e=>by rw[e,Sb] at hi;omega
  by_cases h:v.ownBlock=some b0
  ·have hbo:z91 w b=some b0:=by
    rcases nb b0 h with⟨_,h,_⟩|h
    ·exact h
    ·omega
   have hx:=hst b0 hbo i x hi hc
   have hil:i<l.length:=by
    have:=(List.getElem?_eq_some_iff.1 hx).1
    rwa[Lib.byteCells_length] at this
   refine⟨?_,?_⟩
   ·simp only[g',if_pos h,←hL,List.length_append];omega
   ·have:=ho.cells h i x (by
     rw[z6K] at hx⊢
     rw[←hL,List.getElem?_append_left hil]
     exact hx)
    simpa[Addr.add_mid] using this
  ·refine⟨by simp only[g',if_neg h];exact hi,?_⟩
   rw[World.cell?_of_block (w:=w) (a:=⟨b0,i,none⟩) (same b0 hlt hne0 h)]
   exact hc
 have own:∀m,m≠ .cell id 1→z6x g w g' w' m m:=fun m hm x hx=>by
  have h1:=(hI.owW x m hx).2
  have h2:v.ownBlock≠some x:=fun h=>by
   rcases nb x h with⟨_,_,h⟩|h
   ·rw[hx] at h;cases h;exact hm rfl
   ·omega
  have h3:x≠b:=fun e=>by rw[e,hbW.2.2] at hx;cases hx
  exact⟨by simp only[g',if_neg h2];exact hx,by simp only[g',if_neg h2],fun o n ht=>z2R (same x h1 h3 h2) ht⟩
 have rep:∀{d':z2a} {v':Value} {l0:Option Loc},l0≠some (.cell id 1)→Rep K.toCon g w l0 d' v'→Rep K.toCon g' w' l0 d' v':=fun {d' v' l0} hl hr=>
  Rep.mono hkp d' v' l0 l0 (fun _ _ _ h=>h) (fun m hm=>⟨m,hm,own m fun e=>hl (by rw[hm,e])⟩) hr
 have bo:z4N K.bt K.b5 g'.ow w' b id:=by
  refine⟨p,v,hk,hp,?_⟩
  rcases ho.2 with⟨rfl,_⟩|⟨k,cap,cur,rfl,_,h1,h2,h3,h4,h5⟩
  ·exact .inl rfl
  ·exact .inr ⟨k,_,cap,cur,rfl,by simp[g',Value.ownBlock],h1,by omega,h3,h2⟩
 refine⟨g',⟨hI.fr.trans ⟨hg.os,hg.tape,hg.output,hg.size,fun k hk1 hk2=> ?_⟩,fun x hx hw=> ?_,hI.inj,fun j cs hc=> ?_,fun j hj=> ?_,fun j x hx=> ?_,fun x lo hx=> ?_,fun n hn=>z1d.mono hkp _ _ _ (hI.glob n hn),hI.kp.trans hkp,fun j x es hj hx hc hd=> ?_⟩,fun s=>rep (by simp) (hS s),fun l0 d v h ⟨x,hx⟩=>by subst hx;rw[h x rfl];exact z0r _ _⟩
 ·refine hg.block k (by omega) (fun e=> ?_) (fun e=> ?_)
  ·rcases hbW.1 with h|h
   ·omega
   ·exact hk2 (by rw[e];exact h)
  ·rcases(hI.owW k _ (hown k e)).1 with h|h
   ·omega
   ·exact hk2 h
 ·have:v.ownBlock≠some x:=fun h=>by
   rcases nb x h with⟨_,_,h⟩|h
   ·rcases(hI.owW x _ h).1 with h|h
    ·omega
    ·exact hw h
   ·omega
  simp only[g',if_neg this]
  exact hI.sS x hx hw
 ·simp only[z5U,lk] at hc
  by_cases hj:j=id
  ·subst hj
   simp only[if_true,Option.some.injEq] at hc
   subst hc
   refine⟨b,hb,by simp only[g',if_neg hne];exact Sb,fun i e hi=> ?_⟩
   have fz:w'.frozen? ⟨b,i,none⟩=false:=by simp[World.frozen?,hk]
   match i,hi with
   |0,hi=>simp at hi;subst hi;exact⟨⟨p,by simp[World.cell?,hk],by simp[Rep]⟩,fz⟩
   |1,hi=>
    simp at hi
    subst hi
    refine⟨⟨v,hc1,?_⟩,fz⟩
    simp only[Rep,z2c]
    rcases ho.2 with⟨rfl,h0⟩|⟨k,cap,cur,rfl,_,h1,h2,h3,h4,h5⟩
    ·have hl0:L=[]:=List.eq_nil_of_length_eq_zero h0
     subst hl0
     exact⟨.inr ⟨none,rfl,rfl,rfl,by simp⟩,fun _ _=> .inl (.inl rfl)⟩
    ·have hcell:∀i u,L[i]? =some u→w'.cell? ⟨k,i,none⟩=some (.int .u8 u.toNat):=fun i u hu=>by
      have:=ho.cells (g:=k) rfl i (.int .u8 u.toNat) (by rw[z6K,hu];rfl)
      simpa[Addr.add_mid] using this
     refine⟨.inl ⟨k,0,cap,rfl,h2,z1d.mk fun i e hi=> ?_,by simp,fun h=>by cases h⟩,fun l' hl'=> ?_⟩
     ·rw[z6ma] at hi
      cases hu:L[i]? with
      |none=>rw[hu] at hi;cases hi
      |some u=>
       rw[hu] at hi
       simp only[Option.map_some,Option.some.injEq] at hi
       subst hi
       have hil:i<L.length:=(List.getElem?_eq_some_iff.1 hu).1
       exact⟨by simp[g',Value.ownBlock];omega,_,by simpa using hcell i u hu,by simp[z2c]⟩
     ·cases hl'
      right
      refine⟨k,cap,rfl,h2,by simp[z5q],by simp[g',Value.ownBlock],by simp[g',Value.ownBlock],fun j hj=> ?_⟩
      have hsz:cur.size=cap:=by omega
      refine⟨?_,by simp[World.frozen?,h1]⟩
      have:0+j<cur.size:=by omega
      rw[show w'.cell? ⟨k,0+j,none⟩=cur[0+j]? by simp[World.cell?,h1],Array.getElem?_eq_getElem this]
      rfl
   |_+2,hi=>simp at hi
  ·simp only[if_neg hj] at hc
   obtain⟨b2,k1,k2,k3⟩:=hI.bxok j cs hc
   have hbne:b2≠b:=fun e=>hj (hI.inj j id b (by rw[←e];exact k1) hb)
   have hW2:=hI.muW j b2 k1
   have hno:=noOw b2 hW2.2.2 hW2.2.1
   have hs:=same b2 hW2.2.1 hbne hno
   refine⟨b2,k1,by simp only[g',if_neg hno];exact k2,fun i e hi=> ?_⟩
   obtain⟨⟨x,hx,hr⟩,hfz⟩:=k3 i e hi
   exact⟨⟨x,by rw[World.cell?_of_block (w:=w) (a:=⟨b2,i,none⟩) hs];exact hx,rep (by simp[hj]) hr⟩,by rw[World.frozen?_of_block (w:=w) (a:=⟨b2,i,none⟩) hs];exact hfz⟩
 ·simp only[z5U,lk] at hj
  by_cases h:j=id
  ·simp[h] at hj
  ·simp only[if_neg h] at hj
   exact hI.nobx j hj
 ·have h:=hI.muW j x hx
  exact⟨h.1,Nat.lt_of_lt_of_le h.2.1 hg.size,by simp only[g',if_neg (noOw x h.2.2 h.2.1)];exact h.2.2⟩
 ·simp only[g'] at hx
  split at hx
  ·rename_i h
   refine⟨?_,nlt x h⟩
   rcases nb x h with⟨_,_,h⟩|h
   ·exact(hI.owW x _ h).1
   ·exact .inl (by omega)
  ·have h:=hI.owW x lo hx
   exact⟨h.1,Nat.lt_of_lt_of_le h.2 hg.size⟩
 ·simp only[z5U,lk] at hc
  by_cases h:j=id
  ·subst h
   have hx':g.mu j=some x:=hx
   rw[hb] at hx';cases hx'
   exact bo
  ·simp only[if_neg h] at hc
   have hx':g.mu j=some x:=hx
   have hbne:x≠b:=fun e=>h (hI.inj j id b (by rw[←e];exact hx') hb)
   have hW2:=hI.muW j x hx'
   refine z4N.keep (hI.obok j x es hj hx' hc hd) (same x hW2.2.1 hbne (noOw x hW2.2.2 hW2.2.1)) fun k hk'=> ?_
   have hkn:v.ownBlock≠some k:=fun hh=>by
    rcases nb k hh with⟨_,_,h3⟩|h3
    ·rw[hk'] at h3;cases h3;exact h rfl
    ·have:=(hI.owW k _ hk').2;omega
   exact⟨by simp only[g',if_neg hkn];exact hk',same k (hI.owW k _ hk').2 (fun e=>by rw[e,hbW.2.2] at hk';cases hk') hkn⟩

theorem z3nb (hI:Inv K base g w getB) (hS:z7d K g w get a) {id b:Nat} (hid:1000000≤id) (hb:g.mu id=some b) (hown:∀k,z91 w b=some k→g.ow k=some (.cell id 1))
  (hs:w'.os=w.os∧w'.tape=w.tape∧w'.output=w.output∧w.heap.size≤w'.heap.size∧∀k,k<w.heap.size→k≠b→z91 w b≠some k→w'.heap[k]? =w.heap[k]?) (hcell:∀x,w'.cell? x=w.cell? x):
  Inv K base g w' (z5U getB [(id,some [])])∧z7d K g w' get a:=by
 obtain⟨h1,h2,h3,hsz,hblk⟩:=hs
 have hbW:=hI.muW id b hb
 have hz:=hI.sz
 have hkp:z7g g.S w g.S w':=fun b0 i x hi hc=>⟨hi,by rw[hcell];exact hc⟩
 have same:∀x m,g.ow x=some m→m≠ .cell id 1→w'.heap[x]? =w.heap[x]? :=fun x m hx hm=>
  hblk x (hI.owW x m hx).2 (fun e=>by rw[e,hbW.2.2] at hx;cases hx) (fun e=>by rw[hown x e] at hx;cases hx;exact hm rfl)
 have rep:∀{d':z2a} {v':Value} {l0:Option Loc},l0≠some (.cell id 1)→Rep K.toCon g w l0 d' v'→Rep K.toCon g w' l0 d' v':=fun {d' v' l0} hl hr=>
  Rep.mono hkp d' v' l0 l0 (fun _ _ _ h=>h) (fun m hm=>⟨m,hm,fun x hx=>⟨hx,rfl,fun o n ht=>z2R (same x m hx fun e=>hl (by rw[hm,e])) ht⟩⟩) hr
 have boxs:∀j x,g.mu j=some x→j≠id→w'.heap[x]? =w.heap[x]? :=fun j x hx hj=>by
  have h:=hI.muW j x hx
  exact hblk x h.2.1 (fun e=>hj (hI.inj j id b (by rw[←e];exact hx) hb)) (fun e=>by rw[hown x e] at h;cases h.2.2)
 refine⟨⟨hI.fr.trans ⟨h1,h2,h3,hsz,fun k hk1 hk2=> ?_⟩,hI.sS,hI.inj,fun j cs hc=> ?_,fun j hj=> ?_,fun j x hx=> ?_,fun x lo hx=> ?_,fun n hn=>z1d.mono hkp _ _ _ (hI.glob n hn),hI.kp.trans hkp,fun j x es hj hx hc hd=> ?_⟩,fun s=>rep (by simp) (hS s)⟩
 ·refine hblk k (by omega) (fun e=> ?_) (fun e=> ?_)
  ·rcases hbW.1 with h|h
   ·omega
   ·exact hk2 (by rw[e];exact h)
  ·rcases(hI.owW k _ (hown k e)).1 with h|h
   ·omega
   ·exact hk2 h
 ·simp only[z5U,lk] at hc
  by_cases h:j=id
  ·subst h
   simp only[if_true,Option.some.injEq] at hc
   subst hc
   have Sb:g.S b=0:=by
    by_cases h:∃cs,getB j=some cs
    ·obtain⟨cs,h⟩:=h
     obtain⟨b',k1,k2,_⟩:=hI.bxok j cs h
     rw[hb] at k1;cases k1;exact k2
    ·have:getB j=none:=by cases hh:getB j with|none=>rfl|some cs=>exact absurd ⟨cs,hh⟩ h
     rw[hI.nobx j this] at hb;cases hb
   exact⟨b,hb,Sb,fun i e hi=>by simp at hi⟩
  ·simp only[if_neg h] at hc
   obtain⟨b2,k1,k2,k3⟩:=hI.bxok j cs hc
   refine⟨b2,k1,k2,fun i e hi=> ?_⟩
   obtain⟨⟨x,hx,hr⟩,hfz⟩:=k3 i e hi
   exact⟨⟨x,by rw[hcell];exact hx,rep (by simp[h]) hr⟩,by rw[World.frozen?_of_block (w:=w) (a:=⟨b2,i,none⟩) (boxs j b2 k1 h)];exact hfz⟩
 ·simp only[z5U,lk] at hj
  by_cases h:j=id
  ·simp[h] at hj
  ·simp only[if_neg h] at hj
   exact hI.nobx j hj
 ·have h:=hI.muW j x hx
  exact⟨h.1,Nat.lt_of_lt_of_le h.2.1 hsz,h.2.2⟩
 ·have h:=hI.owW x lo hx
  exact⟨h.1,Nat.lt_of_lt_of_le h.2 hsz⟩
 ·simp only[z5U,lk] at hc
  by_cases h:j=id
  ·subst h
   simp only[if_true,Option.some.injEq] at hc
   subst hc
   exact absurd rfl hd
  ·simp only[if_neg h] at hc
   exact z4N.keep (hI.obok j x es hj hx hc hd) (boxs j x hx h) fun k hk'=>⟨hk',same k _ hk' (by simp[h])⟩

/-! ### The calls -/
def z48a (K:Cx) (op:Op) (k:Nat) (p x:Arg):Bool:=
 match op with
 | .call c=>(match c.callee with| .value (.func f')=>f'==K.bf k|_=>false)&&(match c.args.toList with
  |[p']=>(k==0||k==3)&&z9i K p' p
  |[p',x']=>(k==1||k==2)&&z9i K p' p&&z9i K x' x
  |_=>false)
 |_=>false

theorem z0Na {l:List UInt8} {vs:List Value} (h:z8c K.toCon g w (z5q l) vs):vs=Lib.byteCells l:=by
 induction l generalizing vs with
 |nil=>simpa[z5q,z8c,Lib.byteCells] using h
 |cons u l ih=>
  simp only[z5q,List.map_cons,z8c] at h
  obtain⟨x,xs,rfl,h1,h2⟩:=h
  simp only[Rep] at h1
  subst h1
  rw[ih h2]
  rfl
theorem z41 (l:List UInt8):z4P (z5q l)=⟨l.toArray⟩:=by
 unfold z4P z5q
 rw[List.map_map]
 congr 2
 conv=>rhs;rw[←List.map_id l]
 refine List.map_congr_left fun u _=> ?_
 simp[asI]
theorem z06 (l m:List UInt8):Lib.byteCells (l++m)=Lib.byteCells l++Lib.byteCells m:=by simp[Lib.byteCells]
theorem z9la (l m:List UInt8):z5q (l++m)=z5q l++z5q m:=by simp[z5q]

theorem z2ob (hI:Inv K base g w getB) (hS:z7d K g w get a) {k id:Nat} {p x:Arg} {b:Option Nat} (hF:z8Qa K k) (h:z48a K o.op k p x=true) (hok:okp K.E get getB (.bld k id p b x))
  {next:Act→World→Prop} {Q:Exit→Act→World→Prop} (hn:∀v w',z8Ba K base a get getB d (eff K.E get getB (.bld k id p b x)) v w'→next (a.put o.dst v) w'):o.wp K.P a w next Q:=by
 unfold z48a at h
 split at h
 ·rename_i c ho
  simp only[Bool.and_eq_true] at h
  obtain⟨hcal,ha⟩:=h
  split at hcal
  ·rename_i f' hcal'
   simp only[beq_iff_eq] at hcal
   subst hcal
   obtain⟨hid,hp,nl,l,hc,hk⟩:=hok
   have hrun:(execOp a.eval o).run K.P w= .ok (.enter (K.bf k) (c.args.toList.map a.eval).toArray) w:=by
    simp only[execOp,ho,resolve,hcal',Act.eval,Deferred.ofValue,Sem.run_bind,Sem.run_pure,Result.andThen_ok,invoke]
    rw[z6r w hF.call]
    congr 2
    apply Array.ext'
    simp
   have hcont:hdA (((getB id).getD []).drop 1)= .sl (.own 1) nl l.length (z5q l):=by rw[hc];rfl
   -- the pointer
   have ptr:∀p',z9i K p' p=true→∃bk,g.mu id=some bk∧a.eval p'= .pointer (some ⟨bk,0,none⟩):=fun p' hp'=>by
    have:=z4b hI hS hp'
    rw[hp] at this
    simpa only[Rep] using this
   unfold Oper.wp
   rw[hrun,Oper.upon_enter]
   split at ha
   ·rename_i p' hargs
    simp only[Bool.and_eq_true,Bool.or_eq_true,beq_iff_eq] at ha
    obtain⟨bk,hbk,hev⟩:=ptr p' ha.2
    obtain⟨hB,hown,hst⟩:=z4yb hI hid hbk hc
    rw[hargs]
    simp only[List.map_cons,List.map_nil,hev]
    rcases ha.1 with rfl|rfl
    ·refine(hF.len rfl bk _ w hB).mono ?_
     rintro e w' ⟨rfl,rfl⟩
     refine hn _ _ ⟨g,hI,hS,?_⟩
     simp only[eff,z0U,hcont,z3v,Lib.byteCells_length]
     exact z0r _ _
    ·refine(hF.str rfl bk l w hB hk).mono ?_
     rintro e w' ⟨rfl,hs,hcell⟩
     obtain⟨k1,k2⟩:=z3nb hI hS hid hbk hown hs hcell
     refine hn _ _ ⟨g,k1,k2,?_⟩
     simp only[eff,z0U,hcont,z9h,z41]
     exact z0r _ _
   ·rename_i p' x' hargs
    simp only[Bool.and_eq_true,Bool.or_eq_true,beq_iff_eq] at ha
    obtain⟨bk,hbk,hev⟩:=ptr p' ha.1.2
    obtain⟨hB,hown,hst⟩:=z4yb hI hid hbk hc
    have rx:=z4b hI hS ha.2
    rw[hargs]
    simp only[List.map_cons,List.map_nil,hev]
    have tup:∀(g':Gh) (w':World) (l0:Option Loc) (n:Nat),Rep K.toCon g' w' l0 (.tup [.lit (.int .i64 n),.lit .nilIface]) (.tuple #[.int .i64 n,.nilIface]):=fun g' w' l0 n=>by
     simp only[Rep]
     exact⟨_,rfl,by simp[z8c,Rep]⟩
    rcases ha.1.1 with rfl|rfl
    ·obtain⟨hs,hlen⟩:=hk
     obtain⟨ex,vx⟩:=z13 rx hs
     generalize asS (arg K.E get x)=s at*
     rw[vx]
     have hsl:z3v (arg K.E get x)=s.size:=by rw[ex];rfl
     rw[hsl] at hlen
     refine(hF.wstr rfl bk _ s w hB (by rw[Lib.byteCells_length];exact hlen)).mono ?_
     rintro e w' ⟨rfl,hB',hg⟩
     rw[Lib.strCells_eq,←z06] at hB'
     obtain⟨g',k1,k2,_⟩:=z2Ba hI hS hid hbk hown hst hB' hg
     refine hn _ _ ⟨g',?_,k2,?_⟩
     ·simp only[eff,z0U,hcont,hsl]
      rw[z9la,List.length_append,z0Ac] at k1
      have hx:z9h (bxl getB b) (arg K.E get x)=z5q s.data.toList:=by rw[ex];rfl
      rw[hx]
      exact k1
     ·simp only[eff,z0U,hcont,hsl]
      exact tup _ _ _ _
    ·obtain⟨hb1,hokS,hpos,⟨l',hl'⟩,hlen⟩:=hk
     obtain⟨vs,h1,h2,h3⟩:=z6Ja hI hokS rx
     rw[hl'] at h1
     have hvs:=z0Na h1
     subst hvs
     rw[Lib.byteCells_length,Nat.mul_one] at h2
     rcases h3 with⟨_,_,_,k3⟩|⟨bx,off,cap,k1,_,k2⟩
     ·omega
     ·have hne:bx≠bk:=by
       have Sb:g.S bk=0:=by
        obtain⟨b',k1,k2,_⟩:=hI.bxok id _ hc
        rw[hbk] at k1;cases k1;exact k2
       intro e
       subst e
       cases hx:arg K.E get x with
       |sl m nl' n cs=>
        rw[hx] at rx hpos hokS hl'
        simp only[z3v] at hpos
        have hcs:cs≠[]:=fun e=>by subst e;simp[okS] at hokS;omega
        have hpr:z2c K.toCon g.S w (.sl .plain nl' n cs) (a.eval x')∨z2c K.toCon g.S w (.sl .clip nl' n cs) (a.eval x'):=by
         cases m with
         |own e=>simp only[Rep] at rx;exact .inl rx.1
         |plain=>simp only[Rep] at rx;exact .inl rx
         |clip=>simp only[Rep] at rx;exact .inr rx
        have fin:∀{b1 o1 cap1},a.eval x'= .slice (some ⟨b1,o1,none⟩) n cap1→z1d K.toCon g.S w cs b1 o1→False:=fun {b1 o1 cap1} h4 h5=>by
         rw[k1] at h4
         simp only[Value.slice.injEq,Option.some.injEq,Addr.mk.injEq] at h4
         cases cs with
         |nil=>exact hcs rfl
         |cons c0 cs=>
          simp only[z1d] at h5
          have h6:=h5.1
          rw[←h4.1.1,Sb] at h6
          omega
        rcases hpr with hpr|hpr
        all_goals
         simp only[z2c] at hpr
         rcases hpr with⟨b1,o1,cap1,h4,_,h5,_⟩|⟨q,h4,h5,_⟩
         ·exact fin h4 h5
         ·rw[k1] at h4;simp only[z3v,Value.slice.injEq] at h4;omega
       |bv id' e' off' n c'=>
        rw[hx] at rx hokS
        simp only[okS] at hokS
        simp only[Rep] at rx
        obtain⟨b2,cap2,o2,hb2,h4,_⟩:=rx
        rw[k1] at h4
        simp only[Value.slice.injEq,Option.some.injEq,Addr.mk.injEq] at h4
        have:id'=id:=hI.inj id' id _ hb2 (by rw[←h4.1.1];exact hbk)
        rw[this] at hokS
        exact hb1 hokS.1
       |lit y=>
        rw[hx] at rx hokS hpos
        simp only[Rep] at rx
        rw[k1] at rx
        subst rx
        simp[okS] at hokS
       |undef=>rw[hx] at hokS;simp[okS] at hokS
       |agg _=>rw[hx] at hokS;simp[okS] at hokS
       |tup _=>rw[hx] at hokS;simp[okS] at hokS
       |ep _=>rw[hx] at hokS;simp[okS] at hokS
       |otup _ _ _ _ _=>rw[hx] at hokS;simp[okS] at hokS
       |oagg _ _ _ _ _ _=>rw[hx] at hokS;simp[okS] at hokS
       |fn _ _ _=>rw[hx] at hokS;simp[okS] at hokS
       |bp _ _=>rw[hx] at hokS;simp[okS] at hokS
      rw[k1]
      refine(hF.write rfl bk _ ⟨bx,off,none⟩ _ cap (Lib.byteCells l') w hB (by rw[Lib.byteCells_length];exact h2) (fun j u hj=> ?_) hne (fun u hu=> ?_) (by rw[Lib.byteCells_length];exact hlen)).mono ?_
      ·rw[Addr.add_mid];exact k2 j u hj
      ·simp only[Lib.byteCells,List.mem_map] at hu
       obtain⟨_,_,rfl⟩:=hu
       rfl
      ·rintro e w' ⟨rfl,hB',hg⟩
       rw[←z06] at hB'
       obtain⟨g',k1,k2,_⟩:=z2Ba hI hS hid hbk hown hst hB' hg
       refine hn _ _ ⟨g',?_,k2,?_⟩
       ·simp only[eff,z0U,hcont]
        rw[z9la,List.length_append,h2] at k1
        rw[hl']
        exact k1
       ·simp only[eff,z0U,hcont]
        exact tup _ _ _ _
   ·cases ha
  ·cases hcal
 ·cases h
end
end Go.Abs
end

section
namespace Go.Abs

def z1Na (K:Cx) (op:Op) (x:AOp):Bool:=
 match x with
 | .call f as _=>z27 K op f as
 | .callv _ t as _=>z0Z K op t as
 | .callm f t as _ _=> !Nat.ble 500000000 f&&z9E K op f t as
 | .callw f t as _ _=> !Nat.ble 400000000 f&&z9E K op f t as
 | .bld k _ p _ x=>z48a K op k p x
 |x=>z4ob K op x

def z9X (ops:Array Oper) (g:Option (Nat×Bool)) (g':Option (Nat×Bool)):Bool:=
 match g,g' with
 |none,none=>true
 |some (j,want),some (s,want')=>(match ops[j]? with|some o=>o.dst==some s|none=>false)&&(want==want')
 |_,_=>false

def z7qa (K:Cx) (n:Nat) (ops:Array Oper) (o:Oper) (x:z7i):Bool:=
 (o.dst==x.dst)&&x.dst.toList.all (· <n)&&z9X ops o.guard x.guard&&z1Na K o.op x.op

def wNo (f:Nat):Nat:=500000000+f
def z8O:AOp→List (Nat×Bool)| .call f _ _=>[(f,false)]| .callv f _ _ _=>[(f,false)]| .callm f _ _ _ _=>[(f,true)]| .callw f _ _ _ _=>[(wNo f,true)]| .bld k _ _ _ _=>[(999999990+k,true)]|_=>[]
def VB (K:Cx) (p:Nat×Bool):Prop:=match p.2 with|false=>z9e K p.1 (K.E.G p.1)|true=>match Nat.ble 999999990 p.1 with|true=>z8Qa K (p.1-999999990)|false=>match Nat.ble 500000000 p.1 with|true=>z99 K (p.1-500000000) (K.E.C (p.1-500000000))|false=>z0ga K p.1 (K.E.M p.1)
def VOk (K:Cx) (x:AOp):Prop:=∀p∈z8O x,VB K p

section
variable {K : Cx} {base : z8s} {n : Nat} {st : ASt} {a : Act} {w : World} {ops : Array Oper}

theorem z9tb {st':ASt} (h:z47 st st') (hR:Rel K base n st a w):Rel K base n st' a w:=by
 obtain⟨g,h1,h2,h3,h4,h5⟩:=hR
 refine⟨g,by rw[←h.getB];exact h1,by rw[←h.get];exact h2,fun s d hd=>h3 s d (by rw[h.org];exact hd),h4,h5⟩

theorem z9ba {dst:Option Nat} {v:Value} {s:Nat} (hlt:∀t∈dst.toList,t<a.tmps.size):(a.put dst v).tmps.getD s undef=if dst=some s then v else a.tmps.getD s undef:=by
 cases dst with
 |none=>simp[Act.put]
 |some t=>
  have ht:t<a.tmps.size:=hlt t (by simp)
  simp only[Act.put,Option.some.injEq,Array.getD_eq_getD_getElem?,Array.getElem?_setIfInBounds]
  by_cases h:t=s
  ·subst h;simp[ht]
  ·simp[h]

theorem z5Ka (hR:Rel K base n st a w) {o:z7i} {e:Eff} {v:Value} {w':World} (hlt:∀t∈o.dst.toList,t<n) (horg:∀s∈o.dst.toList,lk st.org s=none) (hsl:∀p∈e.sl,lk st.org p.1=none)
  (hG:z8Ba K base a st.get st.getB o.dst e v w'):Rel K base n {st with env:=(o.dst.toList.map fun s=>(s,e.val))++e.sl++st.env,box:=e.bx++st.box} (a.put o.dst v) w':=by
 obtain⟨_,_,_,hO,hdf,hsz⟩:=hR
 obtain⟨g',h1,h2,h3⟩:=hG
 have hlt':∀t∈o.dst.toList,t<a.tmps.size:=by rw[hsz];exact hlt
 refine⟨g',?_,fun s=> ?_,fun s d hd=> ?_,?_,?_⟩
 ·have:(ASt.getB {st with env:=(o.dst.toList.map fun s=>(s,e.val))++e.sl++st.env,box:=e.bx++st.box})=z5U st.getB e.bx:=funext fun id=>by
   simp only[ASt.getB,z5U,z5l]
   cases lk e.bx id<;>simp
  rw[this]
  exact h1
 ·rw[z9ba hlt']
  have hget:ASt.get {st with env:=(o.dst.toList.map fun s=>(s,e.val))++e.sl++st.env,box:=e.bx++st.box} s=if o.dst=some s then e.val else upd st.get e.sl s:=by
   simp only[ASt.get,z5l,upd]
   cases hd:o.dst with
   |none=>simp[lk];cases lk e.sl s<;>simp
   |some t=>
    simp only[Option.toList_some,List.map_cons,List.map_nil,lk,Option.some.injEq]
    by_cases h:s=t
    ·simp[h]
    ·rw[if_neg h,if_neg (fun e=>h e.symm)]
     cases lk e.sl s<;>simp
  rw[hget]
  by_cases h:o.dst=some s
  ·rw[if_pos h,if_pos h]
   rw[h] at h3
   exact h3
  ·rw[if_neg h,if_neg h]
   exact h2 s
 ·rw[z9ba hlt']
  have hne:o.dst≠some s:=fun e=>by
   have:=horg s (by simp[e])
   simp only at hd
   rw[this] at hd;cases hd
  rw[if_neg hne]
  exact hO s d hd
 ·cases hd:o.dst<;>simp[Act.put,hdf]
 ·cases hd:o.dst<;>simp[Act.put,hsz]

theorem z6W (hR:Rel K base n st a w) {oper:Oper} {o:z7i} (hg:z9X ops oper.guard o.guard=true) {s:Nat} {want:Bool} (ho:o.guard=some (s,want)) (hb:okG (st.get s)):
  Region.wanted oper (yielded ops a.tmps)=z7Ga (st.get s) want:=by
 obtain⟨g,_,hS,_,_,_⟩:=hR
 unfold z9X at hg
 rw[ho] at hg
 split at hg
 ·rename_i h1 h2;cases h2
 ·rename_i j w1 s' w2 h1 h2
  simp only[Option.some.injEq,Prod.mk.injEq] at h2
  obtain⟨rfl,rfl⟩:=h2
  simp only[Bool.and_eq_true,beq_iff_eq] at hg
  obtain⟨hj,rfl⟩:=hg
  split at hj
  ·rename_i oj hoj
   simp only[beq_iff_eq] at hj
   rcases hb with hb|hb
   ·obtain⟨hgv,hv⟩:=z5S (hS s) hb
    have hget:a.tmps[s]? =some (.bool (asB (st.get s))):=by
     rw[Array.getD_eq_getD_getElem?] at hv
     cases hc:a.tmps[s]? with
     |none=>rw[hc] at hv;simp[undef] at hv
     |some x=>rw[hc] at hv;simp only[Option.getD_some] at hv;rw[hv]
    have hgate:z7Ga (st.get s) w1=(asB (st.get s)==w1):=by
     revert hb
     cases st.get s with
     |lit v=>cases v<;>simp[isB,z7Ga,asB]
     |_=>simp[isB]
    unfold Region.wanted
    rw[h1,hgate]
    simp only[yielded,hoj,Option.bind_some,hj,hget]
    cases asB (st.get s)<;>cases w1<;>rfl
   ·have hv:=hS s
    rw[hb] at hv
    simp only[z5T,Rep] at hv
    have hgate:z7Ga (st.get s) w1=false:=by rw[hb];rfl
    unfold Region.wanted
    rw[h1,hgate]
    simp only[yielded,hoj,Option.bind_some,hj]
    rw[Array.getD_eq_getD_getElem?] at hv
    cases hc:a.tmps[s]? with
    |none=>rfl
    |some x=>rw[hc] at hv;simp only[Option.getD_some] at hv;rw[hv];rfl
  ·cases hj
 ·cases hg

theorem z49a {op:Op} {x:AOp} (h:z1Na K op x=true):x= .unsup∨∀c,op≠ .defer c:=by
 by_cases hu:x= .unsup
 ·exact .inl hu
 ·refine .inr ?_
  rintro c rfl
  cases x
  case callm f t as ws ns=>simp only[z1Na,Bool.and_eq_true] at h;cases t<;>exact Bool.noConfusion (show false=true from h.2)
  case callw f t as ws ns=>simp only[z1Na,Bool.and_eq_true] at h;cases t<;>exact Bool.noConfusion (show false=true from h.2)
  all_goals first|exact hu rfl|exact Bool.noConfusion (show false=true from h)
theorem z4Fb {a b:Nat} (h:b<a):Nat.ble a b=false:=by
 cases hb:Nat.ble a b with
 |false=>rfl
 |true=>exact absurd (Nat.le_of_ble_eq_true hb) (Nat.not_le_of_lt h)
theorem z1Gb {a b:Nat} (h:Nat.ble a b=false):b<a:=Nat.lt_of_not_le fun h'=>by rw[Nat.ble_eq_true_of_le h'] at h;cases h
theorem z09 (hR:Rel K base n st a w) {i:Nat} {oper:Oper} {o:z7i} (hi:ops[i]? =some oper) (hm:z7qa K n ops oper o=true) (hok:okA K.E o st) (hV:VOk K o.op)
  {Kn:Act→World→Prop} {Q:Exit→Act→World→Prop} (hn:∀a' w',Rel K base n (z7h K.E o st) a' w'→Kn a' w') {r:Option Nat} {m:Nat}:wpOpIn (WF r) m K.P ops Q i Kn a w:=by
 simp only[z7qa,Bool.and_eq_true,beq_iff_eq,List.all_eq_true,decide_eq_true_eq] at hm
 obtain⟨⟨⟨hdst,hlt⟩,hgd⟩,hch⟩:=hm
 obtain⟨horg,hok⟩:=hok
 have horg1:∀s∈o.dst.toList,lk st.org s=none:=fun s hs=>horg s (by simp only[z7i.W,List.mem_append];exact .inl hs)
 have horg2:∀p∈(eff K.E st.get st.getB o.op).sl,lk st.org p.1=none:=fun p hp=>horg p.1 (by simp only[z7i.W,List.mem_append];exact .inr ((z6ba K.E st.get st.getB o.op).1 p hp))
 -- the operation itself
 have main:okp K.E st.get st.getB o.op→(∀a' w',Rel K base n {st with env:=(o.dst.toList.map fun s=>(s,(eff K.E st.get st.getB o.op).val))++(eff K.E st.get st.getB o.op).sl++st.env,box:=(eff K.E st.get st.getB o.op).bx++st.box} a' w'→Kn a' w')→oper.wp K.P a w Kn Q:=fun hk hnext=>by
  have hR':=hR
  obtain⟨g,hI,hS,_,_,_⟩:=hR'
  have fin:∀v w',z8Ba K base a st.get st.getB o.dst (eff K.E st.get st.getB o.op) v w'→Kn (a.put oper.dst v) w':=fun v w' hG=>by
   rw[hdst]
   exact hnext _ _ (z5Ka hR hlt horg1 horg2 hG)
  have other:z4ob K oper.op o.op=true→oper.wp K.P a w Kn Q:=fun hc=>by
   obtain⟨r,v,w',hrun,hr,hG⟩:=z7pb (d:=o.dst) (o:=oper) hI hS hc hk
   unfold Oper.wp
   rw[hrun]
   rcases hr with rfl|⟨rfl,rfl⟩
   ·exact fin v w' hG
   ·exact fin _ w' hG
  cases hx:o.op with
  |call f as bs=>
   rw[hx] at hch hk fin
   exact z43a (o:=oper) hI hS hch (hV (f,false) (by simp[hx,z8O])) hk (d:=o.dst) fin
  |callv f t as bs=>
   rw[hx] at hch hk fin
   exact z9Ua (o:=oper) hI hS hch (hV (f,false) (by simp[hx,z8O])) hk (d:=o.dst) fin
  |callm f t as ws ns=>
   rw[hx] at hch hk fin
   have hch':(!Nat.ble 500000000 f&&z9E K oper.op f t as)=true:=hch
   simp only[Bool.and_eq_true,Bool.not_eq_true'] at hch'
   have hv:VB K (f,true):=hV (f,true) (by simp[hx,z8O])
   have h9:Nat.ble 999999990 f=false:=z4Fb (Nat.lt_trans (z1Gb hch'.1) (by decide))
   simp only[VB,h9,hch'.1] at hv
   exact z10a (o:=oper) hI hS hch'.2 hv hk (d:=o.dst) fin
  |callw f t as ws ns=>
   rw[hx] at hch hk fin
   have hch':(!Nat.ble 400000000 f&&z9E K oper.op f t as)=true:=hch
   simp only[Bool.and_eq_true,Bool.not_eq_true'] at hch'
   have hlt:f<400000000:=z1Gb hch'.1
   have hv:VB K (wNo f,true):=hV (wNo f,true) (by simp[hx,z8O])
   have h9:Nat.ble 999999990 (wNo f)=false:=z4Fb (by unfold wNo;omega)
   have h8:Nat.ble 500000000 (wNo f)=true:=Nat.ble_eq_true_of_le (by unfold wNo;omega)
   have h7:wNo f-500000000=f:=by unfold wNo;omega
   simp only[VB,h9,h8,h7] at hv
   exact z5Va (o:=oper) hI hS hch'.2 hv hk (d:=o.dst) fin
  |bld k id p b x=>
   rw[hx] at hch hk fin
   have hv:VB K (999999990+k,true):=hV (999999990+k,true) (by simp[hx,z8O])
   have h1:Nat.ble 999999990 (999999990+k)=true:=Nat.ble_eq_true_of_le (Nat.le_add_right _ _)
   simp only[VB,h1,Nat.add_sub_cancel_left] at hv
   exact z2ob (o:=oper) hI hS hv hch hk (d:=o.dst) fin
  |_=>exact other (by rw[hx] at hch⊢;exact hch)
 have mainIn:okp K.E st.get st.getB o.op→(∀a' w',Rel K base n {st with env:=(o.dst.toList.map fun s=>(s,(eff K.E st.get st.getB o.op).val))++(eff K.E st.get st.getB o.op).sl++st.env,box:=(eff K.E st.get st.getB o.op).bx++st.box} a' w'→Kn a' w')→oper.wpIn (WF r) m K.P a w Kn Q:=fun hk hnext=>by
  rcases z49a hch with hu|hnd
  ·rw[hu] at hk;exact hk.elim
  ·exact z1Sb hnd (main hk hnext)
 unfold wpOpIn
 simp only[hi]
 cases hgo:o.guard with
 |none=>
  rw[hgo] at hok hgd
  have hw:Region.wanted oper (yielded ops a.tmps)=true:=by
   unfold z9X at hgd
   split at hgd
   ·rename_i h1 _;unfold Region.wanted;rw[h1]
   ·rename_i h1 h2;cases h2
   ·cases hgd
  rw[if_pos hw]
  refine mainIn hok fun a' w' hr=>hn a' w' ?_
  unfold z7h
  rw[hgo]
  exact hr
 |some sw=>
  obtain⟨s,want⟩:=sw
  rw[hgo] at hok
  have hw:=z6W (ops:=ops) hR hgd hgo hok.1
  by_cases hb:z7Ga (st.get s) want=true
  ·rw[hw,if_pos hb]
   refine mainIn (hok.2 hb) fun a' w' hr=>hn a' w' ?_
   unfold z7h
   rw[hgo]
   simp only[if_pos hb]
   exact hr
  ·rw[hw,if_neg hb]
   refine⟨fun f _=>z3sa r f,hn _ _ ?_⟩
   unfold z7h
   rw[hgo]
   simp only[if_neg hb]
   have hR':=hR
   obtain⟨g,hI,hS,_,_,_⟩:=hR'
   rw[hdst]
   have:=z5Ka (e:={val:=z5T}) (v:=undef) (w':=w) hR hlt horg1 (by simp) ⟨g,hI,hS,by simp[Rep,z5T]⟩
   simpa using this

def z4O (K:Cx) (n:Nat) (ops:Array Oper):List Oper→List z7i→Bool
 |[],[]=>true
 |o::os,x::xs=>z7qa K n ops o x&&z4O K n ops os xs
 |_,_=>false

theorem z2L {ops:Array Oper}:∀{os:List Oper} {xs:List z7i},z4O K n ops os xs=true→os.length=xs.length∧∀(i:Nat) (o:Oper) (x:z7i),os[i]? =some o→xs[i]? =some x→z7qa K n ops o x=true
 |[],[],_=>by simp
 |[],_::_,h=>by simp[z4O] at h
 |_::_,[],h=>by simp[z4O] at h
 |o::os,x::xs,h=>by
  simp only[z4O,Bool.and_eq_true] at h
  obtain⟨h1,h2⟩:=z2L h.2
  refine⟨by simp[h1],fun i o' x' ho hx=> ?_⟩
  cases i with
  |zero=>simp at ho hx;subst ho hx;exact h.1
  |succ i=>exact h2 i o' x' (by simpa using ho) (by simpa using hx)

theorem z0ta {xs:List z7i} (hc:z4O K n ops ops.toList xs=true) (hV:∀x∈xs,VOk K x.op) {Q:Exit→Act→World→Prop} {r:Option Nat} {q:Nat}:∀(m s:Nat) (st:ASt) (a:Act) (w:World),s+m=ops.size→Rel K base n st a w→z2T K.E (xs.drop s) st→
  (∀a' w',Rel K base n (z62 K.E (xs.drop s) st) a' w'→Q .normal a' w')→wpOpsIn (WF r) q K.P ops Q (List.range' s m) a w
 |0,s,st,a,w,hs,hR,_,hn=>by
  have hl:=(z2L hc).1
  have:xs.drop s=[]:=List.drop_eq_nil_of_le (by rw[←hl];simp;omega)
  rw[this] at hn
  exact hn a w hR
 |m+1,s,st,a,w,hs,hR,hok,hn=>by
  obtain⟨hl,hg⟩:=z2L hc
  have hlt:s<ops.size:=by omega
  have hltx:s<xs.length:=by rw[←hl];simpa using hlt
  rw[List.drop_eq_getElem_cons hltx] at hok hn
  rw[List.range'_succ,wpOpsIn_cons]
  refine z09 (oper:=ops[s]) (o:=xs[s]) hR (Array.getElem?_eq_getElem hlt) (hg s _ _ (by simp[hlt]) (List.getElem?_eq_getElem hltx)) hok.1 (hV _ (List.getElem_mem _)) fun a' w' hR'=> ?_
  exact z0ta hc hV m (s+1) _ a' w' (by omega) hR' hok.2 hn

/-! ### In whatever order -/
def z6Ta (ops:Array Oper) (xs:List z7i):Bool:=
 (List.range ops.size).all fun i=>
  match ops[i]? with
  |none=>false
  |some o=>(o.after.all fun e=> !Region.binds .any e||decide (e.on<i))&&
    (List.range i).all fun p=>(o.after.toList.any fun e=>Region.binds .any e&&e.on==p)||z8Wa (xs.getD p default) (xs.getD i default)

theorem z4Ba {xs:List z7i} (hc:z4O K n ops ops.toList xs=true) (hV:∀x∈xs,VOk K x.op) (ho:z6Ta ops xs=true) {Q:Exit→Act→World→Prop} {r:Option Nat} {q:Nat}:
  ∀(fuel:Nat) (R:List Nat) (listed:Array Bool) (st:ASt) (a:Act) (w:World),R.length≤fuel→listed.size=ops.size→R.Pairwise (· <·)→(∀i,i∈R↔i<ops.size∧listed.getD i true=false)→Rel K base n st a w→
   z2T K.E (R.map (xs.getD · default)) st→(∀a' w',Rel K base n (z62 K.E (R.map (xs.getD · default)) st) a' w'→Q .normal a' w')→wpAnyIn (WF r) q K.P .any ops Q fuel listed a w:=by
 obtain⟨hl,hg⟩:=z2L hc
 have hord:∀i o,ops[i]? =some o→(∀e∈o.after,Region.binds .any e=true→e.on<i)∧∀p,p<i→(∃e∈o.after,Region.binds .any e=true∧e.on=p)∨z8Wa (xs.getD p default) (xs.getD i default)=true:=fun i o hi=>by
  have hlt:=(Array.getElem?_eq_some_iff.1 hi).1
  have h1:=List.all_eq_true.1 ho i (List.mem_range.2 hlt)
  simp only[hi,Bool.and_eq_true,Array.all_eq_true_iff_forall_mem,Bool.or_eq_true,Bool.not_eq_true',decide_eq_true_eq,List.all_eq_true,List.mem_range,List.any_eq_true,Array.mem_toList_iff,beq_iff_eq] at h1
  obtain⟨h1,h2⟩:=h1
  refine⟨fun e he hb=>(h1 e he).resolve_left (by simp[hb]),fun p hp=>(h2 p hp).imp (fun⟨e,he,hb⟩=>⟨e,he,hb⟩) id⟩
 have rdy:∀(R:List Nat) (listed:Array Bool),listed.size=ops.size→(∀i,i∈R↔i<ops.size∧listed.getD i true=false)→R.Pairwise (· <·)→Region.ready .any ops listed=[]→R=[]:=fun R listed hsz hR hp hr=>by
  cases R with
  |nil=>rfl
  |cons r R=>
   exfalso
   have h1:=(hR r).1 (by simp)
   have:r∈Region.ready .any ops listed:=by
    rw[mem_ready]
    refine⟨h1.2,ops[r]'h1.1,Array.getElem?_eq_getElem h1.1,fun e he hb=> ?_⟩
    have hlt:=(hord r _ (Array.getElem?_eq_getElem h1.1)).1 e he hb
    have hnot:e.on∉r::R:=fun hm=>by
     rcases List.mem_cons.1 hm with h|h
     ·omega
     ·have:=List.rel_of_pairwise_cons hp h;omega
    have h2:¬(listed.getD e.on true=false):=fun h=>hnot ((hR e.on).2 ⟨by omega,h⟩)
    rw[Array.getD_eq_getD_getElem?] at h2⊢
    cases hg:listed[e.on]? with
    |none=>
     exfalso
     have:=Array.getElem?_eq_none_iff.1 hg
     omega
    |some b=>rw[hg] at h2;simpa using h2
   rw[hr] at this
   cases this
 intro fuel
 induction fuel with
 |zero=>
  intro R listed st a w hlen hsz hp hR hrel hok hn
  have:R=[]:=List.eq_nil_of_length_eq_zero (by omega)
  subst this
  refine⟨?_,hn a w hrel⟩
  refine List.eq_nil_iff_forall_not_mem.2 fun i hi=> ?_
  obtain⟨h1,o,h2,_⟩:=mem_ready.1 hi
  have:=(hR i).2 ⟨(Array.getElem?_eq_some_iff.1 h2).1,h1⟩
  cases this
 |succ fuel ih=>
  intro R listed st a w hlen hsz hp hR hrel hok hn
  refine⟨fun hr=> ?_,fun i hi=> ?_⟩
  ·have:=rdy R listed hsz hR hp hr
   subst this
   exact hn a w hrel
  ·obtain⟨h1,o,h2,h3⟩:=mem_ready.1 hi
   have hilt:=(Array.getElem?_eq_some_iff.1 h2).1
   have hiR:=(hR i).2 ⟨hilt,h1⟩
   obtain⟨pre,post,rfl⟩:=List.append_of_mem hiR
   have hpre:∀p∈pre,p<i:=fun p hm=>by
    have:=(List.pairwise_append.1 hp).2.2 p hm i (by simp)
    exact this
   have hind:∀q∈pre.map (xs.getD · default),z8Wa q (xs.getD i default)=true:=fun q hq=>by
    obtain⟨p,hpm,rfl⟩:=List.mem_map.1 hq
    refine((hord i o h2).2 p (hpre p hpm)).resolve_left fun⟨e,he,hb,hep⟩=> ?_
    have:=h3 e he hb
    have hpl:=((hR p).1 (by simp[hpm])).2
    rw[hep,Array.getD_eq_getD_getElem?] at this
    rw[Array.getD_eq_getD_getElem?] at hpl
    cases hg:listed[p]? with
    |none=>rw[hg] at hpl;simp at hpl
    |some b=>rw[hg] at hpl this;simp at hpl this;rw[hpl] at this;cases this
   simp only[List.map_append,List.map_cons] at hok hn
   obtain⟨k1,k2,k3⟩:=z5Ta _ _ st hind hok
   have hxi:xs[i]? =some (xs.getD i default):=by
    rw[List.getD,List.getElem?_eq_getElem (by rw[←hl];simpa using hilt)]
    rfl
   refine z09 (oper:=o) (o:=xs.getD i default) hrel h2 (hg i o _ (by simpa using h2) hxi) k1 (hV _ (z1l hxi)) fun a' w' hR'=> ?_
   refine ih (pre++post) (listed.setIfInBounds i true) _ a' w' ?_ ?_ ?_ ?_ hR' (by rw[List.map_append];exact k2) ?_
   ·simp at hlen⊢;omega
   ·simpa using hsz
   ·rw[List.pairwise_append] at hp⊢
    refine⟨hp.1,(List.pairwise_cons.1 hp.2.1).2,fun x hx y hy=>hp.2.2 x hx y (by simp[hy])⟩
   ·intro j
    have hj:=hR j
    simp only[List.mem_append,List.mem_cons] at hj⊢
    by_cases hji:j=i
    ·subst hji
     constructor
     ·intro hm
      exfalso
      rw[List.pairwise_append] at hp
      rcases hm with hm|hm
      ·have:=hpre j hm;omega
      ·have:=(List.pairwise_cons.1 hp.2.1).1 j hm;omega
     ·rintro⟨_,hf⟩
      exfalso
      rw[Array.getD_eq_getD_getElem?,Array.getElem?_setIfInBounds] at hf
      simp[hsz,hilt] at hf
    ·rw[getD_set_ne true (fun e=>hji e.symm)]
     rw[←hj]
     constructor
     ·rintro(h|h);exact .inl h;exact .inr (.inr h)
     ·rintro(h|h|h)
      ·exact .inl h
      ·exact absurd h hji
      ·exact .inr h
   ·intro a'' w'' hR''
    rw[List.map_append] at hR''
    exact hn a'' w'' (z9tb k3 hR'')

end
end Go.Abs
end

section
namespace Go.Abs

inductive z2y where
 |keep (slots:List Nat)
 |drop (ids:List Nat)
 |freeze (ids:List Nat)
 |norm (ids:List Nat)
 |thaw (s id:Nat)
 |thawB (b i id:Nat)
 |unorg (s:Nat)
 |hideB (b i:Nat)
 |reB (b i:Nat) (o:Option Nat)
 |rebase (ks:List Nat)
 |cool (s id:Nat)
 |coolB (b i id:Nat)
 deriving Inhabited

mutual
def frm:z2a→Bool
 | .lit _=>true
 | .undef=>true
 | .bp _ _=>true
 | .bv _ _ _ _ _=>true
 | .agg cs=>z3Qb cs
 | .tup cs=>z3Qb cs
 | .fn _ x y=>z3Qb x&&z3Qb y
 | .sl _ _ _ cs=>cs.isEmpty
 | .ep cs=>cs.isEmpty
 | .otup _ _ _ _ _=>false
 | .oagg _ _ _ _ _ _=>false
def z3Qb:List z2a→Bool
 |[]=>true
 |c::cs=>frm c&&z3Qb cs
end
def z3aa:z2a→Bool
 | .sl (.own _) _ _ cs=>z1b cs
 |v=>frm v

mutual
def z49 (ids:List Nat) (bx:Nat→List z2a):z2a→z2a
 | .bp id off=>if id∈ids then .ep ((bx id).drop off) else .bp id off
 | .bv id e off n c=>if id∈ids then .sl .plain (some false) n (((bx id).drop off).take (n*e)) else .bv id e off n c
 | .agg cs=> .agg (z5D ids bx cs)
 | .tup cs=> .tup (z5D ids bx cs)
 | .fn f x y=> .fn f (z5D ids bx x) (z5D ids bx y)
 | .otup _ _ _ _ _=> .undef
 | .oagg _ _ _ _ _ _=> .undef
 |v=>v
def z5D (ids:List Nat) (bx:Nat→List z2a):List z2a→List z2a
 |[]=>[]
 |c::cs=>z49 ids bx c::z5D ids bx cs
end

inductive z9a where
 |skip
 |region (keep:List Nat) (gs:List z2y) (xs:List z7i)
 |seq (a b:z9a)
 |cond (c:Arg) (a b:z9a)
 |block (id:Nat) (b:z9a)
 |loop (b:z9a)
 |scope (b:z9a)
 |exit (id:Nat)
 |ret
 |ghost (g:z2y) (c:z9a)
 |range (f:Nat) (t:Arg) (ks ps:List Nat) (assign body:z9a)
 |bad
 |alt (a b:z9a)
 |thawc (b:Option Nat) (i id:Nat) (c:z9a)
 |holdc (s t:Nat) (c:z9a)
 deriving Inhabited

inductive z4m where
 |normal
 |exit (id:Nat)
 |ret

def z94 (keep:List Nat) (st:ASt):ASt:={st with env:=keep.map fun s=>(s,st.get s)}
def z9V (o:Option Nat) (c:z2a):z2a:=match o with
 |none=>dem c
 |some e=>match c with| .sl .plain (some true) 0 []=> .sl (.own e) none 0 []|c=>c
def z5b:z2y→ASt→ASt
 | .keep l,st=>z94 l st
 | .drop ids,st=>{st with box:=st.box.filter fun p=> !ids.contains p.1}
 | .freeze ids,st=>
  let bx:=fun id=>(st.getB id).getD []
  {st with env:=st.env.map fun p=>(p.1,z49 ids bx p.2),box:=(st.box.filter fun p=> !ids.contains p.1).map fun p=>(p.1,p.2.map (z5D ids bx))}
 | .norm ids,st=>{st with box:=ids.map fun id=>(id,st.getB id)}
 | .thaw s id,st=>match st.get s with| .sl (.own e) _ n cs=>{st with env:=(s,.bv id e 0 n n)::st.env,box:=(id,some cs)::st.box}|_=>st
 | .thawB b i id,st=>match st.getB b with|some bs=>(match bs.getD i .undef with| .sl (.own e) _ n cs=>{st with box:=(b,some (bs.set i (.bv id e 0 n n)))::(id,some cs)::st.box}|_=>st)|none=>st
 | .unorg s,st=>{st with org:=st.org.filter fun p=>decide (p.1≠s),env:=(s,st.get s)::st.env}
 | .hideB b i,st=>match st.getB b with|some bs=>{st with box:=(b,some (bs.set i .undef))::st.box}|none=>st
 | .reB b i o,st=>match st.getB b with|some bs=>{st with box:=(b,some (bs.set i (z9V o (bs.getD i .undef))))::st.box}|none=>st
 | .rebase ks,st=>{st with org:=(ks.map fun s=>(s,st.get s))++st.org,env:=st.env.filter fun p=> !ks.contains p.1}
 | .cool s id,st=>match st.get s with| .bv _ e _ n _=>{st with env:=(s,.sl (.own e) none n (((st.getB id).getD []).take (n*e)))::st.env,box:=(id,none)::st.box}|_=>st
 | .coolB b i id,st=>match st.getB b with|some bs=>(match bs.getD i .undef with| .bv _ e _ n _=>{st with box:=(b,some (bs.set i (.sl (.own e) none n (((st.getB id).getD []).take (n*e)))))::(id,none)::st.box}|_=>st)|none=>st
def z4zc (id:Nat) (cs:Option (List z2a)):z2a→Prop
 | .bv i e o n c=>i=id∧o=0∧n≤c∧∃l,cs=some l∧l.length=c*e∧z1b (l.take (n*e))=true
 |_=>False
def z1x:z2y→ASt→Prop
 | .keep _,_=>True
 | .drop ids,st=>(∀p∈st.env,∀id∈z2o p.2,id∉ids)∧(∀p∈st.box,p.1∈ids∨∀cs,p.2=some cs→∀id∈z2l cs,id∉ids)
 | .freeze ids,st=>∀id∈ids,∃cs,st.getB id=some cs∧z4h cs=true
 | .norm ids,st=>∀p∈st.box,p.1∈ids
 | .thaw s id,st=>id<500000∧st.getB id=none∧(match lk st.env s with|some (.sl (.own _) _ n cs)=>0<n∧z1b cs=true|_=>False)∧
  (∀p∈st.env,p.1=s∨z3aa p.2=true)∧(∀p∈st.box,∀cs,p.2=some cs→∀c∈cs,z3aa c=true)
 | .thawB b i id,st=>id<500000∧b<1000000∧st.getB id=none∧(match st.getB b with|some bs=>i<bs.length∧(match bs.getD i .undef with| .sl (.own _) _ n cs=>0<n∧z1b cs=true|_=>False)|none=>False)∧
  (∀p∈st.env,z3aa p.2=true)∧(∀p∈st.box,∀cs,p.2=some cs→p.1=b∨∀c∈cs,z3aa c=true)∧(∀bs,st.getB b=some bs→∀c∈bs.set i .undef,z3aa c=true)
 | .unorg _,_=>True
 | .hideB b _,_=>b<1000000
 | .reB b _ _,_=>b<1000000
 | .rebase ks,st=>(∀s∈ks,z1f (st.get s)=true∧z6g (st.get s)=false)∧(∀p∈st.env,z6g p.2=false)∧(∀p∈st.box,p.1<1000000∧∀cs,p.2=some cs→∀c∈cs,z6g c=false)
 | .cool s id,st=>500000≤id∧id<1000000∧z4zc id (st.getB id) (st.get s)∧(∀p∈st.env,p.1=s∨id∉z2o p.2)∧(∀p∈st.box,∀cs,p.2=some cs→p.1=id∨id∉z2l cs)
 | .coolB b i id,st=>500000≤id∧id<1000000∧b<500000∧(match st.getB b with|some bs=>i<bs.length∧z4zc id (st.getB id) (bs.getD i .undef)∧id∉z2l (bs.set i .undef)|none=>False)∧
  (∀p∈st.env,id∉z2o p.2)∧(∀p∈st.box,∀cs,p.2=some cs→p.1=id∨p.1=b∨id∉z2l cs)
def z2y.cold:z2y→Bool| .thaw _ _=>false| .thawB _ _ _=>false| .rebase _=>false| .cool _ _=>false| .coolB _ _ _=>false|_=>true
def z3Ta (b:Option Nat) (i id:Nat) (st:ASt):Prop:=match b with
 |none=>id<1000000∧st.getB id=none∧(match lk st.env i with|some (.sl (.own _) _ n cs)=>0<n∧z1b cs=true|_=>False)∧
  (∀p∈st.env,p.1=i∨z3aa p.2=true)∧(∀p∈st.box,∀cs,p.2=some cs→∀c∈cs,z3aa c=true)
 |some b=>id<1000000∧b<1000000∧st.getB id=none∧(match st.getB b with|some bs=>i<bs.length∧(match bs.getD i .undef with| .sl (.own _) _ n cs=>0<n∧z1b cs=true|_=>False)|none=>False)∧
  (∀p∈st.env,z3aa p.2=true)∧(∀p∈st.box,∀cs,p.2=some cs→p.1=b∨∀c∈cs,z3aa c=true)∧(∀bs,st.getB b=some bs→∀c∈bs.set i .undef,z3aa c=true)
def z0Jb:Value→Option Nat
 | .slice (some a) _ _=>some a.block
 | .pointer (some a)=>some a.block
 |_=>none
def z4Ab (s t:Nat) (st:ASt) (V:Value):Prop:=∃id,lk st.org s=some (.lit V)∧(∃e o n c,st.get s= .bv id e o n c)∧(∃e o n c,st.get t= .bv id e o n c)
def z17a (s t:Nat) (V:Value) (st:ASt):ASt:={st with org:=(t,.lit V)::st.org.filter fun p=>decide (p.1≠s),env:=(s,st.get s)::(t,st.get t)::st.env}
def z7ma (b:Option Nat) (i id m:Nat) (st:ASt):ASt:=match b with
 |none=>(match st.get i with| .sl (.own e) _ n cs=>{st with env:=(i,.bv id e 0 n (n+m))::st.env,box:=(id,some (cs++List.replicate (m*e) .undef))::st.box}|_=>st)
 |some b=>(match st.getB b with|some bs=>(match bs.getD i .undef with| .sl (.own e) _ n cs=>{st with box:=(b,some (bs.set i (.bv id e 0 n (n+m))))::(id,some (cs++List.replicate (m*e) .undef))::st.box}|_=>st)|none=>st)
def z9ka:List z2y→ASt→ASt
 |[],st=>st
 |g::gs,st=>z9ka gs (z5b g st)
def z6hb:List z2y→ASt→Prop
 |[],_=>True
 |g::gs,st=>z1x g st∧z6hb gs (z5b g st)

def z92 (f:ASt→Prop) (Q:z4m→ASt→Prop):z4m→ASt→Prop
 | .normal,st=>f st
 |e,st=>Q e st
def z7za (id:Nat) (Q:z4m→ASt→Prop):z4m→ASt→Prop
 | .exit id',st=>if id'=id then Q .normal st else Q (.exit id') st
 |e,st=>Q e st

def z8r (st:ASt) (ks:List Nat):List (Nat×z2a):=ks.map fun s=>(s,dem (st.get s))
def z8ka (st:ASt) (ks ps:List Nat) (V:Nat→Value) (xs:List z2a) (bx:List (Nat×Option (List z2a))):ASt:=
 {org:=(ks.map fun s=>(s,z2a.lit (V s)))++st.org,env:=ps.zip xs++z8r st ks,box:=bx}
def z35 (st:ASt) (ks:List Nat) (V:Nat→Value) (st':ASt):Prop:=∀s∈ks,st'.get s=dem (st.get s)∧lk st'.org s=some (.lit (V s))
def z2Ga (st:ASt) (ks:List Nat) (V:Nat→Value) (J:List (Nat×Option (List z2a))→Prop) (Q:z4m→ASt→Prop):z4m→ASt→Prop
 | .normal,st'=>z35 st ks V st'∧J st'.box
 |e,st'=>z35 st ks V st'∧Q e {org:=st.org,env:=z8r st ks,box:=st'.box}

def epY (getB:Nat→Option (List z2a)) (lv:List Nat) (y:List z2a):List z2a:=y.zipIdx.map fun q=>if q.2∈lv then(match q.1 with| .bp id 0=> .ep ((getB id).getD [])|d=>d) else q.1
@[simp] theorem z1Ka (getB:Nat→Option (List z2a)) (y:List z2a):epY getB [] y=y:=by
 simp[epY]
theorem z9xb (getB:Nat→Option (List z2a)) (lv:List Nat) (y:List z2a) (i:Nat):(epY getB lv y)[i]? =(y[i]?).map fun d=>if i∈lv then(match d with| .bp id 0=> .ep ((getB id).getD [])|d=>d) else d:=by
 rw[epY,List.getElem?_map,List.getElem?_zipIdx]
 cases y[i]? <;>simp
def z23 (lv:List Nat) (y:List z2a):List Nat:=lv.filterMap fun i:Nat=>match(y[i]? :Option z2a) with|some (.bp id 0)=>some id|_=>none
@[simp] theorem z0fa (y:List z2a):z23 [] y=[]:=rfl
def rmB (ids:List Nat) (bx:List (Nat×Option (List z2a))):List (Nat×Option (List z2a)):=bx.filter fun p=> !ids.contains p.1
@[simp] theorem z7Lb (bx:List (Nat×Option (List z2a))):rmB [] bx=bx:=by
 simp[rmB]
def z46 (ids:List Nat) (st:ASt):ASt:={st with env:=st.env.map fun p=>(p.1,if(z2o p.2).any (ids.contains ·) then .undef else p.2)}
@[simp] theorem z58a (st:ASt):z46 [] st=st:=by
 simp[z46]
def bkB (ids:List Nat) (bx:List (Nat×Option (List z2a))):List (Nat×Option (List z2a)):=ids.map (fun id=>(id,some []))++bx
@[simp] theorem z8Nc (bx:List (Nat×Option (List z2a))):bkB [] bx=bx:=rfl
def z4Ja (st:ASt) (ks ids:List Nat) (Q:z4m→ASt→Prop) (e:z4m) (bx:List (Nat×Option (List z2a))):Prop:=
 (∀id∈ids,(lk bx id).join=none)∧Q e {org:=st.org,env:=z8r st ks,box:=bkB ids bx}
theorem z0ja (st:ASt) (ks:List Nat) (Q:z4m→ASt→Prop) (e:z4m) (bx:List (Nat×Option (List z2a))):z4Ja st ks [] Q e bx↔Q e {org:=st.org,env:=z8r st ks,box:=bx}:=by
 simp[z4Ja]
def z9rb (st:ASt) (ks lv:List Nat) (x y:List z2a):Prop:=z4h (x++epY st.getB lv y)=true∧(∀i∈lv,∃id cs,y[i]? =some (.bp id 0)∧id<1000000∧st.getB id=some cs∧z1b cs=true)∧(∀i∈lv,∀j∈lv,y[i]? =y[j]? →i=j)∧
 (∀s∈ks,(∀id∈z2o (st.get s),id∉z23 lv y)∨((∀id∈z2o (st.get s),id∈z23 lv y)∧(z46 (z23 lv y) st).get s= .undef))∧(∀p∈st.box,p.1∈z23 lv y∨∀cs,p.2=some cs→∀id∈z2l cs,id∉z23 lv y)
theorem z5hb (st:ASt) (ks:List Nat) (x y:List z2a):z9rb st ks [] x y↔z4h (x++y)=true:=by
 simp[z9rb]

def awp (E:Env):z9a→(z4m→ASt→Prop)→ASt→Prop
 | .skip,Q,st=>Q .normal st
 | .region keep gs xs,Q,st=>z2T E xs st∧z6hb gs (z94 keep (z62 E xs st))∧Q .normal (z9ka gs (z94 keep (z62 E xs st)))
 | .seq a b,Q,st=>awp E a (z92 (awp E b Q) Q) st
 | .cond c a b,Q,st=>isB (arg E st.get c)∧(asB (arg E st.get c)=true→awp E a Q st)∧(asB (arg E st.get c)=false→awp E b Q st)
 | .block id b,Q,st=>awp E b (z7za id Q) st
 | .loop b,Q,st=>∃I:Nat→ASt→Prop,(∃m,I m st)∧∀m st,I m st→awp E b (z92 (fun st'=>∃m',m'<m∧I m' st') Q) st
 | .scope b,Q,st=>awp E b Q st
 | .exit id,Q,st=>Q (.exit id) st
 | .ret,Q,st=>Q .ret st
 | .ghost g c,Q,st=>z1x g st∧awp E c Q (z5b g st)
 | .range f t ks ps as bd,Q,st=>∃x y,arg E st.get t= .fn f x y∧z9rb st ks (E.I f).lv x y∧(E.I f).pre x (epY st.getB (E.I f).lv y)∧(∀p∈ps,p∉ks∧lk st.org p=none)∧
   ∃(N:Nat) (I:Nat→List (Nat×Option (List z2a))→Prop),I 0 (rmB (z23 (E.I f).lv y) st.box)∧(∀i bx,I i bx→i≤N)∧
    (∀i bx,I i bx→(E.I f).el x (epY st.getB (E.I f).lv y) i=none→z4Ja st ks (z23 (E.I f).lv y) Q .normal bx)∧
    ∀i bx xs,I i bx→(E.I f).el x (epY st.getB (E.I f).lv y) i=some xs→xs.length=ps.length∧z1b xs=true∧
     ∀V:Nat→Value,awp E as (z92 (awp E bd (z2Ga (z46 (z23 (E.I f).lv y) st) ks V (I (i+1)) (fun e s=>z4Ja st ks (z23 (E.I f).lv y) Q e s.box))) (fun _ _=>False)) (z8ka (z46 (z23 (E.I f).lv y) st) ks ps V xs bx)
 | .bad,_,_=>False
 | .alt a b,Q,st=>awp E a Q st∨awp E b Q st
 | .thawc b i id c,Q,st=>z3Ta b i id st∧∀m,awp E c Q (z7ma b i id m st)
 | .holdc s t c,Q,st=>∃V,z4Ab s t st V∧∀V',z0Jb V'=z0Jb V→awp E c Q (z17a s t V' st)

def z8d (K:Cx) (n:Nat):z9a→Code→Bool
 | .ghost _ c,x=>z8d K n c x
 | .thawc _ _ _ c,x=>z8d K n c x
 | .holdc _ _ c,x=>z8d K n c x
 | .skip,x=>match x with| .skip=>true| .label _=>true|_=>false
 | .region _ _ xs,x=>match x with| .region _ ops draw=>z4O K n ops ops.toList xs&&(!draw||(z6Ta ops xs&&K.P.follows .mixedOrders))|_=>false
 | .seq a b,x=>match x with| .seq p q=>z8d K n a p&&z8d K n b q|_=>false
 | .cond c a b,x=>match x with| .cond c' p q=>z9i K c' c&&z8d K n a p&&z8d K n b q|_=>false
 | .block id b,x=>match x with| .block id' p=>(id==id')&&z8d K n b p|_=>false
 | .loop b,x=>match x with| .loop p=>z8d K n b p|_=>false
 | .scope b,x=>match x with| .scope p=>z8d K n b p|_=>false
 | .exit id,x=>match x with| .exit id'=>id==id'|_=>false
 | .ret,x=>match x with| .ret=>true|_=>false
 | .range _ t _ ps as bd,x=>match x with| .rangeFunc g qs p q=>z9i K g t&&(qs.toList==ps)&&ps.all (· <n)&&decide ps.Nodup&&z8d K n as p&&z8d K n bd q|_=>false
 | .bad,_=>true
 | .alt a b,x=>z8d K n a x&&z8d K n b x

def z2r:z9a→Bool
 | .region _ gs _=>gs.all z2y.cold
 | .seq a b=>z2r a&&z2r b
 | .cond _ a b=>z2r a&&z2r b
 | .block _ b=>z2r b
 | .loop b=>z2r b
 | .scope b=>z2r b
 | .ghost g c=>g.cold&&z2r c
 | .thawc _ _ _ _=>false
 | .holdc _ _ c=>z2r c
 | .alt a b=>z2r a&&z2r b
 | .range _ _ _ _ as bd=>z2r as&&z2r bd
 |_=>true
def z9o:z9a→Bool
 | .seq a b=>z9o a&&z9o b
 | .cond _ a b=>z9o a&&z9o b
 | .block _ b=>z9o b
 | .loop b=>z9o b
 | .scope b=>z9o b
 | .ghost _ c=>z9o c
 | .thawc _ _ _ c=>z9o c
 | .holdc _ _ c=>z9o c
 | .alt a b=>z9o a&&z9o b
 | .range .. =>false
 |_=>true
def z6J:z9a→Bool
 | .seq a b=>z6J a&&z6J b
 | .cond _ a b=>z6J a&&z6J b
 | .block _ b=>z6J b
 | .loop b=>z6J b
 | .scope b=>z6J b
 | .ghost _ c=>z6J c
 | .thawc _ _ _ c=>z6J c
 | .holdc _ _ c=>z6J c
 | .alt a b=>z6J a&&z6J b
 | .range _ _ _ _ as bd=>z9o as&&z9o bd
 |_=>true

def z5a:z9a→List (Nat×Bool)
 | .region _ _ xs=>xs.flatMap fun x=>z8O x.op
 | .seq a b=>z5a a++z5a b
 | .cond _ a b=>z5a a++z5a b
 | .block _ b=>z5a b
 | .loop b=>z5a b
 | .scope b=>z5a b
 | .ghost _ c=>z5a c
 | .thawc _ _ _ c=>z5a c
 | .holdc _ _ c=>z5a c
 | .alt a b=>z5a a++z5a b
 | .range _ _ _ _ as bd=>z5a as++z5a bd
 |_=>[]

def z8K:z9a→List Nat
 | .seq a b=>z8K a++z8K b
 | .cond _ a b=>z8K a++z8K b
 | .block _ b=>z8K b
 | .loop b=>z8K b
 | .scope b=>z8K b
 | .ghost _ c=>z8K c
 | .thawc _ _ _ c=>z8K c
 | .holdc _ _ c=>z8K c
 | .alt a b=>z8K a++z8K b
 | .range f _ _ _ as bd=>f::(z8K as++z8K bd)
 |_=>[]

section
variable {K : Cx} {base : z8s} {n : Nat} {st : ASt} {a : Act} {w : World}

theorem z9t {g:Gh} {bx:Nat→Option (List z2a)} (hI:Inv K base g w bx):z7g base.S base.w0 g.S w:=fun b i x hi hc=>by
 have hb:b<base.w0.heap.size:=World.block_lt_of_cell? base.w0 ⟨b,i,none⟩ hc
 unfold z8s.S at hi
 split at hi
 ·rename_i h
  rw[hI.sS b h.1 h.2]
  refine⟨hi,?_⟩
  rw[World.cell?_of_block (w:=base.w0) (a:=⟨b,i,none⟩) (hI.fr.block b h.1 h.2)]
  exact hc
 ·omega

theorem z9w (f:Nat→z2a) (s:Nat):∀l:List Nat,lk (l.map fun s=>(s,f s)) s=if s∈l then some (f s) else none
 |[]=>by simp[lk]
 |t::l=>by
  simp only[List.map_cons,lk,List.mem_cons]
  by_cases h:s=t
  ·subst h;simp
  ·rw[if_neg h,z9w f s l]
   simp only[h,false_or]

theorem z1cb (keep:List Nat) (st:ASt) (s:Nat):(z94 keep st).get s=if s∈keep then st.get s else dem ((lk st.org s).getD .undef):=by
 have:(z94 keep st).get s=match lk (keep.map fun s=>(s,st.get s)) s with|some d=>d|none=>dem ((lk st.org s).getD .undef):=rfl
 rw[this,z9w]
 by_cases h:s∈keep
 ·rw[if_pos h,if_pos h]
 ·rw[if_neg h,if_neg h]

theorem z9z (keep:List Nat) (hR:Rel K base n st a w):Rel K base n (z94 keep st) a w:=by
 obtain⟨g,hI,hS,hO,h⟩:=hR
 refine⟨g,hI,fun s=> ?_,hO,h⟩
 rw[z1cb]
 split
 ·exact hS s
 ·cases hs:lk st.org s with
  |none=>simp[Abs.dem,Rep]
  |some d=>exact z2c.dem _ (z2c.mono (z9t hI) d _ (hO s d hs))

theorem z3w {α:Type} (p:Nat→Bool):∀(l:List (Nat×α)) (s:Nat),lk (l.filter fun q=>p q.1) s=if p s then lk l s else none
 |[],s=>by simp[lk]
 |(k,x)::l,s=>by
  have ih:=z3w p l s
  by_cases hk:p k=true
  ·simp only[List.filter_cons,hk,if_true,lk,ih]
   by_cases h:s=k
   ·subst h;simp[hk]
   ·simp only[if_neg h]
  ·simp only[List.filter_cons,hk,Bool.false_eq_true,if_false,lk,ih]
   by_cases h:s=k
   ·subst h;simp[hk]
   ·simp only[if_neg h]

theorem z6L {α:Type}:∀{l:List (Nat×α)} {s:Nat} {x:α},lk l s=some x→(s,x)∈l
 |[],_,_,h=>by simp[lk] at h
 |(k,y)::l,s,x,h=>by
  simp only[lk] at h
  split at h
  ·cases h;subst_vars;simp
  ·exact List.mem_cons_of_mem _ (z6L h)

theorem z1N:∀{cs:List z2a} {c:z2a} {id:Nat},c∈cs→id∈z2o c→id∈z2l cs
 |[],_,_,h,_=>by cases h
 |d::ds,c,id,h,hi=>by
  simp only[z2l,List.mem_append]
  rcases List.mem_cons.1 h with rfl|h
  ·exact .inl hi
  ·exact .inr (z1N h hi)

theorem z5ob (ids:List Nat) (hR:Rel K base n st a w) (hok:z1x (.drop ids) st):Rel K base n (z5b (.drop ids) st) a w:=by
 obtain⟨g,hI,hS,hO,h⟩:=hR
 obtain⟨h1,h2⟩:=hok
 let g':Gh:={g with mu:=fun id=>if id∈ids then none else g.mu id}
 have hgetB:∀id,(z5b (.drop ids) st).getB id=if id∈ids then none else st.getB id:=fun id=>by
  simp only[ASt.getB,z5b]
  rw[z3w (fun k=> !ids.contains k)]
  by_cases hi:id∈ids
  ·simp[hi]
  ·simp[hi]
 have rep:∀{d:z2a} {v:Value} {l:Option Loc},(∀id∈z2o d,id∉ids)→Rep K.toCon g w l d v→Rep K.toCon g' w l d v:=fun {d v l} hd hr=>
  Rep.mono (g:=g) (g':=g') (z7g.refl g.S w) d v l l (fun id hid b hb=>by simp only[g',if_neg (hd id hid)];exact hb) (fun m hm=>⟨m,hm,fun b hb=>⟨hb,rfl,fun _ _ h=>h⟩⟩) hr
 refine⟨g',⟨hI.fr,hI.sS,fun i j b hi hj=> ?_,fun id cs hc=> ?_,fun id hid=> ?_,fun id b hb=> ?_,hI.owW,hI.glob,hI.kp,fun id b cs ho hb hc hd=> ?_⟩,fun s=> ?_,hO,h⟩
 ·simp only[g'] at hi hj
  split at hi
  ·cases hi
  ·split at hj
   ·cases hj
   ·exact hI.inj i j b hi hj
 ·rw[hgetB] at hc
  split at hc
  ·cases hc
  ·rename_i hni
   obtain⟨b,k1,k2,k3⟩:=hI.bxok id cs hc
   refine⟨b,by simp only[g',if_neg hni];exact k1,k2,fun i d hi=> ?_⟩
   obtain⟨⟨x,h4,h5⟩,h6⟩:=k3 i d hi
   have hbox:∃c,lk st.box id=some (some c)∧c=cs:=by
    simp only[ASt.getB] at hc
    cases hl:lk st.box id with
    |none=>rw[hl] at hc;cases hc
    |some o=>rw[hl] at hc;simp only[Option.join_some] at hc;exact⟨cs,by rw[hc],rfl⟩
   obtain⟨c,hl,rfl⟩:=hbox
   have:=(h2 _ (z6L hl)).resolve_left hni c rfl
   exact⟨⟨x,h4,rep (fun id' hid'=>this id' (z1N (z1l hi) hid')) h5⟩,h6⟩
 ·rw[hgetB] at hid
  simp only[g']
  split
  ·rfl
  ·rename_i hni;rw[if_neg hni] at hid;exact hI.nobx id hid
 ·simp only[g'] at hb
  split at hb
  ·cases hb
  ·exact hI.muW id b hb
 ·simp only[g'] at hb
  rw[hgetB] at hc
  split at hc
  ·cases hc
  ·rename_i hni
   rw[if_neg hni] at hb
   exact z4N.keep (hI.obok id b cs ho hb hc hd) rfl fun k hk=>⟨hk,rfl⟩
 ·have hget:(z5b (.drop ids) st).get s=st.get s:=rfl
  rw[hget]
  unfold ASt.get
  cases hl:lk st.env s with
  |some d=>
   have:=hS s
   unfold ASt.get at this
   rw[hl] at this
   exact rep (h1 _ (z6L hl)) this
  |none=>
   cases hs:lk st.org s with
   |none=>simp[Abs.dem,Rep]
   |some d=>exact z2c.dem (g:=g') _ (z2c.mono (z9t hI) d _ (hO s d hs))

section
variable {ids : List Nat} {g : Gh} {bx : Nat → Option (List z2a)}

theorem z1Ua (hI:Inv K base g w bx) (hbs:∀id∈ids,∃cs,bx id=some cs∧∀c∈cs,z1f c=true) {id b:Nat} (h1:id∈ids) (h3:g.mu id=some b):z1d K.toCon (z50 g bx ids) w ((bx id).getD []) b 0:=by
 have hk:=z9v hI ids hbs
 obtain⟨cs,h2,hp⟩:=hbs id h1
 rw[h2]
 refine z1d.mk fun i e he=> ?_
 obtain⟨b',k1,k2,k3⟩:=hI.bxok id cs h2
 rw[h3] at k1;cases k1
 obtain⟨⟨x,hx,hr⟩,_⟩:=k3 i e he
 rw[Nat.zero_add]
 refine⟨?_,x,hx,z2c.mono hk e x (Rep.pure e x _ (hp e (z1l he)) hr)⟩
 rw[z0Aa hI h1 h3,h2]
 exact(List.getElem?_eq_some_iff.1 he).1

def frz (g:Gh) (bx:Nat→Option (List z2a)) (ids:List Nat):Gh→Prop:=fun g'=>g'.S=z50 g bx ids∧g'.ow=g.ow∧g'.mu=fun id=>if id∈ids then none else g.mu id

mutual
theorem z3qa (hI:Inv K base g w bx) (hbs:∀id∈ids,∃cs,bx id=some cs∧∀c∈cs,z1f c=true) {g':Gh} (hg:frz g bx ids g'):
  ∀(d:z2a) (v:Value) (l:Option Loc),Rep K.toCon g w l d v→Rep K.toCon g' w l (z49 ids (fun id=>(bx id).getD []) d) v
 | .undef,_,_,_=>by simp[z49,Rep]
 | .lit x,v,_,h=>by simpa[z49,Rep] using h
 | .agg cs,v,_,h=>by
  simp only[Rep,z49] at h⊢
  obtain⟨a,rfl,h⟩:=h
  exact⟨a,rfl,z3X hI hbs hg cs _ h⟩
 | .tup cs,v,_,h=>by
  simp only[Rep,z49] at h⊢
  obtain⟨a,rfl,h⟩:=h
  exact⟨a,rfl,z3X hI hbs hg cs _ h⟩
 | .otup _ _ _ _ _,v,_,_=>by simp[z49,Rep]
 | .oagg _ _ _ _ _ _,v,_,_=>by simp[z49,Rep]
 | .fn f x y,v,_,h=>by
  simp only[Rep,z49] at h⊢
  obtain⟨a,c,rfl,h1,h2⟩:=h
  exact⟨a,c,rfl,z3X hI hbs hg x _ h1,z3X hI hbs hg y _ h2⟩
 | .sl (.own esz) nl n cs,v,l,h=>by
  have hk:=z9v hI ids hbs
  simp only[z49]
  refine Rep.mono (g:=g) (by rw[hg.1];exact hk) _ v l l (by simp[z2o]) (fun m hm=>⟨m,hm,fun b hb=>⟨by rw[hg.2.1];exact hb,?_,fun _ _ h=>h⟩⟩) h
  rw[hg.1]
  refine z4E fun id hid hmu=> ?_
  have:=(hI.muW id b hmu).2.2
  rw[hb] at this;cases this
 | .sl .plain nl n cs,v,_,h=>by
  simp only[Rep,z49] at h⊢
  rw[hg.1]
  exact z2c.mono (z9v hI ids hbs) _ _ h
 | .sl .clip nl n cs,v,_,h=>by
  simp only[Rep,z49] at h⊢
  rw[hg.1]
  exact z2c.mono (z9v hI ids hbs) _ _ h
 | .ep cs,v,_,h=>by
  simp only[Rep,z49] at h⊢
  rw[hg.1]
  exact z2c.mono (z9v hI ids hbs) _ _ h
 | .bp id off,v,l,h=>by
  simp only[z49]
  split
  ·rename_i hid
   simp only[Rep] at h
   obtain⟨b,hb,rfl⟩:=h
   simp only[Rep,z2c]
   refine⟨b,off,rfl,?_⟩
   have:=(z1Ua hI hbs hid hb).drop off
   rw[Nat.zero_add] at this
   rw[hg.1]
   exact this
  ·rename_i hid
   simp only[Rep] at h⊢
   obtain⟨b,hb,rfl⟩:=h
   exact⟨b,by rw[hg.2.2];simp only[if_neg hid];exact hb,rfl⟩
 | .bv id e off n c,v,l,h=>by
  simp only[z49]
  split
  ·rename_i hid
   simp only[Rep] at h
   obtain⟨b,cap,o',hb,rfl,hcap,_,ho',_⟩:=h
   simp only[Rep,z2c]
   refine .inl ⟨b,o',cap,rfl,hcap,?_,by simp,by simp⟩
   rw[hg.1]
   rcases ho' with rfl|⟨rfl,_⟩
   ·have:=((z1Ua hI hbs hid hb).drop o').take (n*e)
    rwa[Nat.zero_add] at this
   ·rw[Nat.zero_mul,List.take_zero];simp[z1d]
  ·rename_i hid
   simp only[Rep] at h⊢
   obtain⟨b,cap,o,hb,rfl,h1⟩:=h
   exact⟨b,cap,o,by rw[hg.2.2];simp only[if_neg hid];exact hb,rfl,h1⟩
theorem z3X (hI:Inv K base g w bx) (hbs:∀id∈ids,∃cs,bx id=some cs∧∀c∈cs,z1f c=true) {g':Gh} (hg:frz g bx ids g'):
  ∀(ds:List z2a) (vs:List Value),z8c K.toCon g w ds vs→z8c K.toCon g' w (z5D ids (fun id=>(bx id).getD []) ds) vs
 |[],vs,h=>by simpa[z8c,z5D] using h
 |c::cs,vs,h=>by
  simp only[z8c,z5D] at h⊢
  obtain⟨x,xs,rfl,h1,h2⟩:=h
  exact⟨x,xs,rfl,z3qa hI hbs hg c x none h1,z3X hI hbs hg cs xs h2⟩
end
end

theorem z3oa {α β:Type} (f:α→β) (s:Nat):∀l:List (Nat×α),lk (l.map fun p=>(p.1,f p.2)) s=(lk l s).map f
 |[]=>rfl
 |(k,x)::l=>by
  simp only[List.map_cons,lk]
  split
  ·rfl
  ·exact z3oa f s l

theorem z9ya (ids:List Nat) (f:Nat→List z2a):∀(l:List z2a) (i:Nat),(z5D ids f l)[i]? =(l[i]?).map (z49 ids f)
 |[],i=>by simp[z5D]
 |c::cs,i=>by
  simp only[z5D]
  cases i with
  |zero=>simp
  |succ i=>simp[z9ya ids f cs i]

theorem z6Ua (ids:List Nat) (hR:Rel K base n st a w) (hok:z1x (.freeze ids) st):Rel K base n (z5b (.freeze ids) st) a w:=by
 obtain⟨g,hI,hS,hO,h⟩:=hR
 have hbs:∀id∈ids,∃cs,st.getB id=some cs∧∀c∈cs,z1f c=true:=fun id hid=>by
  obtain⟨cs,h1,h2⟩:=hok id hid
  exact⟨cs,h1,(z1i cs).1 h2⟩
 have hk:=z9v hI ids hbs
 let g':Gh:={S:=z50 g st.getB ids,ow:=g.ow,mu:=fun id=>if id∈ids then none else g.mu id}
 have hg:frz g st.getB ids g':=⟨rfl,rfl,rfl⟩
 let f:Nat→List z2a:=fun id=>(st.getB id).getD []
 have hgetB:∀id,(z5b (.freeze ids) st).getB id=if id∈ids then none else(st.getB id).map (z5D ids f):=fun id=>by
  have hb:(z5b (.freeze ids) st).box=(st.box.filter fun p=> !ids.contains p.1).map fun p=>(p.1,(fun o:Option (List z2a)=>o.map (z5D ids f)) p.2):=rfl
  unfold ASt.getB
  rw[hb,z3oa (fun o:Option (List z2a)=>o.map (z5D ids f)),z3w (fun k=> !ids.contains k)]
  by_cases hi:id∈ids
  ·simp[hi]
  ·simp only[List.contains_eq_mem,hi,decide_false,Bool.not_false,if_true,if_false]
   cases hl:lk st.box id with
   |none=>simp
   |some o=>cases o<;>simp
 have hSother:∀b,(∀id∈ids,g.mu id≠some b)→g'.S b=g.S b:=fun b hb=>z4E fun id h1 h2=>hb id h1 h2
 refine⟨g',⟨hI.fr,fun b hb hw=> ?_,fun i j b hi hj=> ?_,fun id cs hc=> ?_,fun id hid=> ?_,fun id b hb=> ?_,hI.owW,fun m hm=>z1d.mono hk _ _ _ (hI.glob m hm),hI.kp.trans hk,fun id b cs ho hb hc hd=> ?_⟩,fun s=> ?_,hO,h⟩
 ·rw[hSother b fun id _ hmu=> ?_]
  ·exact hI.sS b hb hw
  ·rcases(hI.muW id b hmu).1 with h1|h1
   ·omega
   ·exact hw h1
 ·simp only[g'] at hi hj
  split at hi
  ·cases hi
  ·split at hj
   ·cases hj
   ·exact hI.inj i j b hi hj
 ·rw[hgetB] at hc
  split at hc
  ·cases hc
  ·rename_i hni
   cases ho:st.getB id with
   |none=>rw[ho] at hc;cases hc
   |some ds=>
    rw[ho] at hc
    simp only[Option.map_some,Option.some.injEq] at hc
    subst hc
    obtain⟨b,k1,k2,k3⟩:=hI.bxok id ds ho
    refine⟨b,by simp only[g',if_neg hni];exact k1,?_,fun i d hi=> ?_⟩
    ·rw[hSother b fun j hj hmu=>hni (by rw[hI.inj id j b k1 hmu];exact hj)]
     exact k2
    ·rw[z9ya] at hi
     cases hd:ds[i]? with
     |none=>rw[hd] at hi;cases hi
     |some e=>
      rw[hd] at hi
      simp only[Option.map_some,Option.some.injEq] at hi
      subst hi
      obtain⟨⟨x,h4,h5⟩,h6⟩:=k3 i e hd
      exact⟨⟨x,h4,z3qa hI hbs hg e x _ h5⟩,h6⟩
 ·rw[hgetB] at hid
  simp only[g']
  split
  ·rfl
  ·rename_i hni
   rw[if_neg hni] at hid
   refine hI.nobx id ?_
   cases ho:st.getB id with
   |none=>rfl
   |some ds=>rw[ho] at hid;cases hid
 ·simp only[g'] at hb
  split at hb
  ·cases hb
  ·exact hI.muW id b hb
 ·simp only[g'] at hb
  rw[hgetB] at hc
  split at hc
  ·cases hc
  ·rename_i hni
   rw[if_neg hni] at hb
   cases ho':st.getB id with
   |none=>rw[ho'] at hc;cases hc
   |some ds=>
    rw[ho'] at hc
    simp only[Option.map_some,Option.some.injEq] at hc
    subst hc
    refine z4N.keep (hI.obok id b ds ho hb ho' fun he=>hd ?_) rfl fun k hk=>⟨hk,rfl⟩
    match ds,he with
    |[],_=>rfl
    |[_],_=>simp[z5D,hdA]
    |_::c::cs,he=>simp only[List.drop_succ_cons,List.drop_zero,hdA,List.headD_cons] at he;subst he;simp[z5D,hdA,z49]
 ·have hg0:=hS s
  unfold ASt.get at hg0⊢
  have:lk (z5b (.freeze ids) st).env s=(lk st.env s).map (z49 ids f):=z3oa (z49 ids f) s st.env
  rw[this]
  cases hl:lk st.env s with
  |some d=>
   rw[hl] at hg0
   exact z3qa hI hbs hg d _ _ hg0
  |none=>
   have hg1:(z5b (.freeze ids) st).org=st.org:=rfl
   rw[hg1]
   cases hs:lk st.org s with
   |none=>simp[Abs.dem,Rep]
   |some d=>exact z2c.dem (g:=g') _ (z2c.mono hk d _ (z2c.mono (z9t hI) d _ (hO s d hs)))

def z5ga (K:Cx) (base:z8s):Prop:=(∀b,base.W b→base.S0 b=0)∧∀n∈K.N.gs,z1d K.toCon base.S0 base.w0 (K.E.T n) (K.N.gnum n) 0
mutual
theorem z4Ia {g g':Gh} {w:World} (hm:∀id b,g.mu id=some b→g'.mu id=some b):∀(d:z2a) (v:Value) (l l':Option Loc),frm d=true→Rep K.toCon g w l d v→(∀e nl n cs,d= .sl (.own e) nl n cs→l'=none)→Rep K.toCon g' w l' d v
 | .lit x,v,_,_,_,h,_=>by simpa[Rep] using h
 | .undef,_,_,_,_,_,_=>by simp[Rep]
 | .bp id off,v,_,_,_,h,_=>by
  simp only[Rep] at h⊢
  obtain⟨b,hb,rfl⟩:=h
  exact⟨b,hm _ _ hb,rfl⟩
 | .bv id e off n c,v,_,_,_,h,_=>by
  simp only[Rep] at h⊢
  obtain⟨b,cap,o,hb,rfl,h1⟩:=h
  exact⟨b,cap,o,hm _ _ hb,rfl,h1⟩
 | .agg cs,v,_,_,hf,h,_=>by
  simp only[Rep] at h⊢
  obtain⟨a,rfl,h⟩:=h
  exact⟨a,rfl,z25 hm cs _ (by simpa[frm] using hf) h⟩
 | .tup cs,v,_,_,hf,h,_=>by
  simp only[Rep] at h⊢
  obtain⟨a,rfl,h⟩:=h
  exact⟨a,rfl,z25 hm cs _ (by simpa[frm] using hf) h⟩
 | .fn f x y,v,_,_,hf,h,_=>by
  simp only[Rep] at h⊢
  obtain⟨a,c,rfl,h1,h2⟩:=h
  simp only[frm,Bool.and_eq_true] at hf
  exact⟨a,c,rfl,z25 hm x _ hf.1 h1,z25 hm y _ hf.2 h2⟩
 | .sl m nl n cs,v,l,l',hf,h,hl=>by
  have e:cs=[]:=by simpa[frm] using hf
  subst e
  have key:∀m',z2c K.toCon g.S w (.sl m' nl n []) v→z2c K.toCon g'.S w (.sl m' nl n []) v:=fun m' hp=>by
   simp only[z2c] at hp⊢
   rcases hp with⟨b,o,cap,h1,h2,_,h4⟩|h5
   ·exact .inl ⟨b,o,cap,h1,h2,trivial,h4⟩
   ·exact .inr h5
  cases m with
  |own e=>
   simp only[Rep] at h⊢
   refine⟨key _ h.1,fun l'' hl''=> ?_⟩
   rw[hl e nl n [] rfl] at hl''
   cases hl''
  |plain=>simp only[Rep] at h⊢;exact key _ h
  |clip=>simp only[Rep] at h⊢;exact key _ h
 | .otup _ _ _ _ _,_,_,_,hf,_,_=>by simp[frm] at hf
 | .oagg _ _ _ _ _ _,_,_,_,hf,_,_=>by simp[frm] at hf
 | .ep cs,v,_,_,hf,h,_=>by
  have e:cs=[]:=by simpa[frm] using hf
  subst e
  simp only[Rep,z2c] at h⊢
  obtain⟨b,o,h1,_⟩:=h
  exact⟨b,o,h1,trivial⟩
theorem z25 {g g':Gh} {w:World} (hm:∀id b,g.mu id=some b→g'.mu id=some b):∀(ds:List z2a) (vs:List Value),z3Qb ds=true→z8c K.toCon g w ds vs→z8c K.toCon g' w ds vs
 |[],_,_,h=>by simpa[z8c] using h
 |c::cs,l,hf,h=>by
  simp only[z8c] at h⊢
  simp only[z3Qb,Bool.and_eq_true] at hf
  obtain⟨x,xs,rfl,h1,h2⟩:=h
  exact⟨x,xs,rfl,z4Ia hm c x none none hf.1 h1 (fun _ _ _ _ _=>rfl),z25 hm cs xs hf.2 h2⟩
end
mutual
theorem z6ia:∀c:z2a,z2b c=true→z1f c=true
 | .lit _,_=>rfl
 | .agg cs,h=>by simp only[z2b,z1f] at h⊢;exact z48 cs h
 | .tup cs,h=>by simp only[z2b,z1f] at h⊢;exact z48 cs h
 | .undef,h=>by simp[z2b] at h
 | .sl _ _ _ _,h=>by simp[z2b] at h
 | .bp _ _,h=>by simp[z2b] at h
 | .bv _ _ _ _ _,h=>by simp[z2b] at h
 | .ep _,h=>by simp[z2b] at h
 | .otup _ _ _ _ _,h=>by simp[z2b] at h
 | .oagg _ _ _ _ _ _,h=>by simp[z2b] at h
 | .fn _ _ _,h=>by simp[z2b] at h
theorem z48:∀cs:List z2a,z1b cs=true→z4h cs=true
 |[],_=>rfl
 |c::cs,h=>by
  simp only[z1b,z4h,Bool.and_eq_true] at h⊢
  exact⟨z6ia c h.1,z48 cs h.2⟩
end
theorem z6da:∀{cs:List z2a} {c:z2a},z1b cs=true→c∈cs→z2b c=true
 |[],_,_,h=>by cases h
 |d::cs,c,hf,h=>by
  simp only[z1b,Bool.and_eq_true] at hf
  rcases List.mem_cons.1 h with rfl|h
  ·exact hf.1
  ·exact z6da hf.2 h
theorem z97 {S S':Nat→Nat} {w:World}:∀(cs:List z2a) (b o:Nat),S' b=S b→z1b cs=true→z1d K.toCon S w cs b o→z1d K.toCon S' w cs b o
 |[],_,_,_,_,_=>by simp[z1d]
 |c::cs,b,o,hS,hf,h=>by
  simp only[z1d] at h⊢
  simp only[z1b,Bool.and_eq_true] at hf
  obtain⟨h0,⟨x,hx,h1⟩,h2⟩:=h
  refine⟨by rw[hS];exact h0,⟨x,hx,?_⟩,z97 cs b (o+1) hS hf.2 h2⟩
  have r1:=z2c.rep (g:={S:=S,ow:=fun _=>none,mu:=fun _=>none}) c x h1
  have r2:=z2E (K:=K) (g':={S:=S',ow:=fun _=>none,mu:=fun _=>none}) (w':=w) c x none none hf.1 r1
  exact Rep.pure (g:={S:=S',ow:=fun _=>none,mu:=fun _=>none}) c x none (z6ia c hf.1) r2
theorem z6xa (s id:Nat) (hF:z5ga K base) (hR:Rel K base n st a w) (hok:z3Ta none s id st):∃e nl k cs cap,st.get s= .sl (.own e) nl k cs∧k≤cap∧cs.length=k*e∧
  ∀(c:Nat) (xs:List z2a),(xs=[]∧c=k∧id<500000)∨(c=cap∧xs=List.replicate ((cap-k)*e) .undef)→Rel K base n {st with env:=(s,.bv id e 0 k c)::st.env,box:=(id,some (cs++xs))::st.box} a w:=by
 obtain⟨g,hI,hS,hO,h⟩:=hR
 obtain⟨hid,hgB,henv,hfe,hfb⟩:=hok
 split at henv
 rotate_left
 ·exact henv.elim
 rename_i e nl k cs hl
 obtain⟨hk0,hmf⟩:=henv
 have hget:st.get s= .sl (.own e) nl k cs:=by unfold ASt.get;rw[hl]
 have hs:=hS s
 rw[hget] at hs
 simp only[Rep] at hs
 obtain⟨hp,hown⟩:=hs
 obtain⟨b,cap,hv,hle,hlen,hSb,how,hth⟩:z4aa g w (.slot s) e k cs.length (a.tmps.getD s undef):=by
  rcases hown _ rfl with(h1|⟨⟨p,h1⟩,_⟩)|h1
  ·rw[h1] at hp
   simp only[z2c] at hp
   rcases hp with⟨b,o,cap,h2,_⟩|⟨_,_,h2,_⟩
   ·cases h2
   ·omega
  ·rw[h1] at hp
   simp only[z2c] at hp
   rcases hp with⟨b,o,cap,h2,_⟩|⟨_,h2,_⟩
   ·simp only[Value.slice.injEq] at h2;omega
   ·simp only[Value.slice.injEq] at h2;omega
  ·exact h1
 obtain⟨hB,hbs⟩:=hI.owW b _ how
 have hge:base.w0.heap.size≤b∨(base.W b∧base.S0 b=0):=hB.imp (fun h=>h) fun h=>⟨h,hF.1 b h⟩
 have hmub:∀j,g.mu j≠some b:=fun j hj=>by have:=(hI.muW j b hj).2.2;rw[how] at this;cases this
 have hmuid:g.mu id=none:=hI.nobx id hgB
 let g':Gh:={S:=fun x=>if x=b then 0 else g.S x,ow:=fun x=>if x=b then none else g.ow x,mu:=fun i=>if i=id then some b else g.mu i}
 have hm:∀i x,g.mu i=some x→g'.mu i=some x:=fun i x hx=>by
  have:i≠id:=fun e=>by rw[e,hmuid] at hx;cases hx
  simp only[g',if_neg this];exact hx
 have hcells:z1d K.toCon g.S w cs b 0:=by
  rw[hv] at hp
  simp only[z2c] at hp
  rcases hp with⟨b',o,cap',h2,_,h3,_⟩|⟨q,h2,_⟩
  ·simp only[Value.slice.injEq,Option.some.injEq,Addr.mk.injEq] at h2
   obtain⟨⟨rfl,rfl,_⟩,_⟩:=h2
   exact h3
  ·simp only[Value.slice.injEq] at h2;omega
 -- what is owned elsewhere
 have top:∀{d:z2a} {v:Value} {l:Loc},l≠ .slot s→z3aa d=true→Rep K.toCon g w (some l) d v→Rep K.toCon g' w (some l) d v:=fun {d v l} hne hf hr=>by
  by_cases ho:∃e nl n cs,d= .sl (.own e) nl n cs
  ·obtain⟨e1,nl1,n1,cs1,rfl⟩:=ho
   simp only[z3aa] at hf
   simp only[Rep] at hr⊢
   obtain⟨h1,h2⟩:=hr
   rcases h2 l rfl with h3|⟨b2,cap2,h4,h5,h6,h7,h8,h9⟩
   ·refine⟨?_,fun l' hl'=> .inl h3⟩
    simp only[z2c] at h1⊢
    rcases h1 with⟨b3,o3,c3,q1,q2,q3,q4⟩|q
    ·rcases h3 with h3|⟨_,rfl⟩
     ·rw[h3] at q1;cases q1
     ·exact .inl ⟨b3,o3,c3,q1,q2,trivial,q4⟩
    ·exact .inr q
   ·have hb2:b2≠b:=fun e=>by rw[e,how] at h8;cases h8;exact hne rfl
    refine⟨?_,fun l' hl'=> .inr ⟨b2,cap2,h4,h5,h6,by simp only[g',if_neg hb2];exact h7,by cases hl';simp only[g',if_neg hb2];exact h8,h9⟩⟩
    simp only[z2c] at h1⊢
    rcases h1 with⟨b3,o3,c3,q1,q2,q3,q4⟩|q
    ·refine .inl ⟨b3,o3,c3,q1,q2,?_,q4⟩
     rw[h4] at q1
     simp only[Value.slice.injEq,Option.some.injEq,Addr.mk.injEq] at q1
     obtain⟨⟨rfl,_⟩,_⟩:=q1
     exact z97 cs1 _ _ (by simp only[g',if_neg hb2]) hf q3
    ·exact .inr q
  ·have hf':frm d=true:=by
    cases d with
    |sl m nl n cs=>cases m with
     |own e=>exact absurd ⟨e,nl,n,cs,rfl⟩ ho
     |plain=>exact hf
     |clip=>exact hf
    |_=>exact hf
   exact z4Ia hm d v _ _ hf' hr fun e nl n cs he=>absurd ⟨e,nl,n,cs,he⟩ ho
 have hkp:z7g base.S0 base.w0 g'.S w:=fun b' i x hi hc=>by
  have hlt:b'<base.w0.heap.size:=World.block_lt_of_cell? base.w0 ⟨b',i,none⟩ hc
  have hne:b'≠b:=fun e=>by subst e;rcases hge with h|⟨_,h⟩<;>omega
  obtain⟨k1,k2⟩:=hI.kp b' i x hi hc
  exact⟨by simp only[g',if_neg hne];exact k1,k2⟩
 refine⟨e,nl,k,cs,cap,hget,hle,hlen,fun c xs hcx=> ?_⟩
 have hgetB:∀j,({st with env:=(s,z2a.bv id e 0 k c)::st.env,box:=(id,some (cs++xs))::st.box}:ASt).getB j=if j=id then some (cs++xs) else st.getB j:=fun j=>by
  simp only[ASt.getB,lk]
  split<;>rfl
 have hbox:∀j ds,st.getB j=some ds→∀c∈ds,z3aa c=true:=fun j ds hj=>by
  simp only[ASt.getB] at hj
  cases hl:lk st.box j with
  |none=>rw[hl] at hj;cases hj
  |some o=>rw[hl] at hj;simp only[Option.join_some] at hj;exact hfb _ (z6L hl) ds hj
 have hI':Inv K base g' w ({st with env:=(s,z2a.bv id e 0 k c)::st.env,box:=(id,some (cs++xs))::st.box}:ASt).getB:=by
  refine⟨hI.fr,fun b' hb' hw=> ?_,fun i j x hi hj=> ?_,fun j ds hj=> ?_,fun j hj=> ?_,fun j x hx=> ?_,fun x l hx=> ?_,fun m hm'=>z1d.mono hkp _ _ _ (hF.2 m hm'),hkp,fun j x ds ho hb' hc hd=> ?_⟩
  ·have hne:b'≠b:=fun e=>by
    subst e
    rcases hge with h|⟨h,_⟩
    ·omega
    ·exact hw h
   simp only[g',if_neg hne]
   exact hI.sS b' hb' hw
  ·simp only[g'] at hi hj
   split at hi
   ·cases hi
    split at hj
    ·subst_vars;rfl
    ·exact absurd hj (hmub j)
   ·split at hj
    ·cases hj;exact absurd hi (hmub i)
    ·exact hI.inj i j x hi hj
  ·rw[hgetB] at hj
   split at hj
   ·rename_i he
    subst he
    cases hj
    refine⟨b,by simp[g'],by simp[g'],fun i d hi=> ?_⟩
    have hi0:=hi
    by_cases hic:i<cs.length
    rotate_left
    ·rw[List.getElem?_append_right (by omega)] at hi
     rcases hcx with⟨rfl,_⟩|⟨_,rfl⟩
     ·cases hi
     ·obtain⟨hr1,hr2⟩:=List.getElem?_eq_some_iff.1 hi
      rw[List.getElem_replicate] at hr2
      subst hr2
      rw[List.length_replicate,Nat.sub_mul] at hr1
      have hkc:k*e≤cap*e:=Nat.mul_le_mul_right _ hle
      obtain⟨h8,h9⟩:=hth i (by omega)
      rw[Nat.zero_add] at h8 h9
      obtain⟨y,hy⟩:=Option.isSome_iff_exists.1 h8
      exact⟨⟨y,hy,by simp[Rep]⟩,h9⟩
    rw[List.getElem?_append_left hic] at hi
    obtain⟨_,x,hx,hr⟩:=hcells.get i d hi
    rw[Nat.zero_add] at hx
    have hilt:i<k*e:=by omega
    have hkc:k*e≤cap*e:=Nat.mul_le_mul_right _ hle
    have hfz:=(hth i (by omega)).2
    rw[Nat.zero_add] at hfz
    refine⟨⟨x,hx,?_⟩,hfz⟩
    have hmd:z2b d=true:=z6da hmf (z1l hi)
    exact z2E (g:=g) d x none _ hmd (z2c.rep (g:=g) d x hr)
   ·rename_i hne
    obtain⟨x,k1,k2,k3⟩:=hI.bxok j ds hj
    have hxb:x≠b:=fun e=>hmub j (e▸k1)
    refine⟨x,by simp only[g',if_neg hne];exact k1,by simp only[g',if_neg hxb];exact k2,fun i d hi=> ?_⟩
    obtain⟨⟨y,h4,h5⟩,h6⟩:=k3 i d hi
    exact⟨⟨y,h4,top (by simp) (hbox j ds hj d (z1l hi)) h5⟩,h6⟩
  ·rw[hgetB] at hj
   split at hj
   ·cases hj
   ·rename_i hne
    simp only[g',if_neg hne]
    exact hI.nobx j hj
  ·simp only[g'] at hx
   split at hx
   ·cases hx
    exact⟨hge.imp (fun h=>h) (·.1),hbs,by simp[g']⟩
   ·obtain⟨h1,h2,h3⟩:=hI.muW j x hx
    have hxb:x≠b:=fun e=>hmub j (e▸hx)
    exact⟨h1,h2,by simp only[g',if_neg hxb];exact h3⟩
  ·simp only[g'] at hx
   split at hx
   ·cases hx
   ·exact hI.owW x l hx
  ·have hne:j≠id:=fun e=>by omega
   rw[hgetB,if_neg hne] at hc
   simp only[g',if_neg hne] at hb'
   refine z4N.keep (hI.obok j x ds ho hb' hc hd) rfl fun q hq=>⟨?_,rfl⟩
   have hqb:q≠b:=fun e=>by rw[e,how] at hq;cases hq
   simp only[g',if_neg hqb];exact hq
 refine⟨g',hI',fun t=> ?_,hO,h⟩
 unfold ASt.get
 simp only[lk]
 by_cases ht:t=s
 ·subst ht
  simp only[if_true]
  simp only[Rep]
  exact⟨b,cap,0,by simp[g'],hv,hle,by rcases hcx with⟨_,h,_⟩|⟨h,_⟩<;>omega,.inl rfl,fun h=>by rcases hcx with⟨_,_,h2⟩|⟨h2,_⟩<;>omega⟩
 ·rw[if_neg ht]
  cases hlt:lk st.env t with
  |some d=>
   have:=hS t
   unfold ASt.get at this
   rw[hlt] at this
   exact top (by simpa using ht) ((hfe _ (z6L hlt)).resolve_left ht) this
  |none=>
   cases hs:lk st.org t with
   |none=>simp[Abs.dem,Rep]
   |some d=>exact z2c.dem (g:=g') _ (z2c.mono (z9t hI') d _ (hO t d hs))
theorem z6jb (s id:Nat) (hF:z5ga K base) (hR:Rel K base n st a w) (hok:z1x (.thaw s id) st):Rel K base n (z5b (.thaw s id) st) a w:=by
 obtain⟨e,nl,k,cs,cap,hget,hle,hlen,H⟩:=z6xa s id hF hR ⟨by have:=hok.1;omega,hok.2⟩
 have hrun:z5b (.thaw s id) st={st with env:=(s,.bv id e 0 k k)::st.env,box:=(id,some (cs++[]))::st.box}:=by
  simp only[z5b,hget,List.append_nil]
 rw[hrun]
 exact H k [] (.inl ⟨rfl,rfl,hok.1⟩)

theorem z2na (b0 i0 id:Nat) (hF:z5ga K base) (hR:Rel K base n st a w) (hok:z3Ta (some b0) i0 id st):∃bs e nl k cs cap,st.getB b0=some bs∧bs.getD i0 .undef= .sl (.own e) nl k cs∧k≤cap∧cs.length=k*e∧
  ∀(c:Nat) (xs:List z2a),(xs=[]∧c=k∧id<500000)∨(c=cap∧xs=List.replicate ((cap-k)*e) .undef)→Rel K base n {st with box:=(b0,some (bs.set i0 (.bv id e 0 k c)))::(id,some (cs++xs))::st.box} a w:=by
 obtain⟨g,hI,hS,hO,h⟩:=hR
 obtain⟨hid,hb0,hgB,hbs,hfe,hfb,hfc⟩:=hok
 cases hgb:st.getB b0 with
 |none=>rw[hgb] at hbs;exact hbs.elim
 |some bs=>
 rw[hgb] at hbs
 simp only at hbs
 obtain⟨hilt,hbs⟩:=hbs
 split at hbs
 rotate_left
 ·exact hbs.elim
 rename_i e nl k cs hget
 obtain⟨hk0,hmf⟩:=hbs
 have hgi:bs[i0]? =some (.sl (.own e) nl k cs):=by
  rw[List.getElem?_eq_getElem hilt]
  rw[List.getD_eq_getElem?_getD,List.getElem?_eq_getElem hilt] at hget
  exact congrArg some hget
 have hne0:b0≠id:=fun e=>by rw[e,hgB] at hgb;cases hgb
 obtain⟨bb,hbb,hSbb,hcellsB⟩:=hI.bxok b0 bs hgb
 obtain⟨⟨v,hvc,hrv⟩,hfzv⟩:=hcellsB i0 _ hgi
 simp only[Rep] at hrv
 obtain⟨hp,hown⟩:=hrv
 obtain⟨b,cap,hv,hle,hlen,hSb,how,hth⟩:z4aa g w (.cell b0 i0) e k cs.length v:=by
  rcases hown _ rfl with(h1|⟨⟨p,h1⟩,_⟩)|h1
  ·rw[h1] at hp
   simp only[z2c] at hp
   rcases hp with⟨b,o,cap,h2,_⟩|⟨_,_,h2,_⟩
   ·cases h2
   ·omega
  ·rw[h1] at hp
   simp only[z2c] at hp
   rcases hp with⟨b,o,cap,h2,_⟩|⟨_,h2,_⟩
   ·simp only[Value.slice.injEq] at h2;omega
   ·simp only[Value.slice.injEq] at h2;omega
  ·exact h1
 obtain⟨hB,hbsz⟩:=hI.owW b _ how
 have hge:base.w0.heap.size≤b∨(base.W b∧base.S0 b=0):=hB.imp (fun h=>h) fun h=>⟨h,hF.1 b h⟩
 have hmub:∀j,g.mu j≠some b:=fun j hj=>by have:=(hI.muW j b hj).2.2;rw[how] at this;cases this
 have hmuid:g.mu id=none:=hI.nobx id hgB
 let g':Gh:={S:=fun x=>if x=b then 0 else g.S x,ow:=fun x=>if x=b then none else g.ow x,mu:=fun i=>if i=id then some b else g.mu i}
 have hm:∀i x,g.mu i=some x→g'.mu i=some x:=fun i x hx=>by
  have:i≠id:=fun e=>by rw[e,hmuid] at hx;cases hx
  simp only[g',if_neg this];exact hx
 have hcells:z1d K.toCon g.S w cs b 0:=by
  rw[hv] at hp
  simp only[z2c] at hp
  rcases hp with⟨b',o,cap',h2,_,h3,_⟩|⟨q,h2,_⟩
  ·simp only[Value.slice.injEq,Option.some.injEq,Addr.mk.injEq] at h2
   obtain⟨⟨rfl,rfl,_⟩,_⟩:=h2
   exact h3
  ·simp only[Value.slice.injEq] at h2;omega
 have top:∀{d:z2a} {v:Value} {l:Loc},l≠ .cell b0 i0→z3aa d=true→Rep K.toCon g w (some l) d v→Rep K.toCon g' w (some l) d v:=fun {d v l} hne hf hr=>by
  by_cases ho:∃e nl n cs,d= .sl (.own e) nl n cs
  ·obtain⟨e1,nl1,n1,cs1,rfl⟩:=ho
   simp only[z3aa] at hf
   simp only[Rep] at hr⊢
   obtain⟨h1,h2⟩:=hr
   rcases h2 l rfl with h3|⟨b2,cap2,h4,h5,h6,h7,h8,h9⟩
   ·refine⟨?_,fun l' hl'=> .inl h3⟩
    simp only[z2c] at h1⊢
    rcases h1 with⟨b3,o3,c3,q1,q2,q3,q4⟩|q
    ·rcases h3 with h3|⟨_,rfl⟩
     ·rw[h3] at q1;cases q1
     ·exact .inl ⟨b3,o3,c3,q1,q2,trivial,q4⟩
    ·exact .inr q
   ·have hb2:b2≠b:=fun e=>by rw[e,how] at h8;cases h8;exact hne rfl
    refine⟨?_,fun l' hl'=> .inr ⟨b2,cap2,h4,h5,h6,by simp only[g',if_neg hb2];exact h7,by cases hl';simp only[g',if_neg hb2];exact h8,h9⟩⟩
    simp only[z2c] at h1⊢
    rcases h1 with⟨b3,o3,c3,q1,q2,q3,q4⟩|q
    ·refine .inl ⟨b3,o3,c3,q1,q2,?_,q4⟩
     rw[h4] at q1
     simp only[Value.slice.injEq,Option.some.injEq,Addr.mk.injEq] at q1
     obtain⟨⟨rfl,_⟩,_⟩:=q1
     exact z97 cs1 _ _ (by simp only[g',if_neg hb2]) hf q3
    ·exact .inr q
  ·have hf':frm d=true:=by
    cases d with
    |sl m nl n cs=>cases m with
     |own e=>exact absurd ⟨e,nl,n,cs,rfl⟩ ho
     |plain=>exact hf
     |clip=>exact hf
    |_=>exact hf
   exact z4Ia hm d v _ _ hf' hr fun e nl n cs he=>absurd ⟨e,nl,n,cs,he⟩ ho
 have hkp:z7g base.S0 base.w0 g'.S w:=fun b' i x hi hc=>by
  have hlt:b'<base.w0.heap.size:=World.block_lt_of_cell? base.w0 ⟨b',i,none⟩ hc
  have hne:b'≠b:=fun e=>by subst e;rcases hge with h|⟨_,h⟩<;>omega
  obtain⟨k1,k2⟩:=hI.kp b' i x hi hc
  exact⟨by simp only[g',if_neg hne];exact k1,k2⟩
 refine⟨bs,e,nl,k,cs,cap,rfl,hget,hle,hlen,fun c xs hcx=> ?_⟩
 have hgetB:∀j,({st with box:=(b0,some (bs.set i0 (.bv id e 0 k c)))::(id,some (cs++xs))::st.box}:ASt).getB j=if j=b0 then some (bs.set i0 (.bv id e 0 k c)) else if j=id then some (cs++xs) else st.getB j:=fun j=>by
  simp only[ASt.getB,lk]
  split
  ·rfl
  ·split<;>rfl
 have hbox:∀j ds,j≠b0→st.getB j=some ds→∀c∈ds,z3aa c=true:=fun j ds hj hds=>by
  simp only[ASt.getB] at hds
  cases hl:lk st.box j with
  |none=>rw[hl] at hds;cases hds
  |some o=>rw[hl] at hds;simp only[Option.join_some] at hds;exact(hfb _ (z6L hl) ds hds).resolve_left hj
 have hI':Inv K base g' w ({st with box:=(b0,some (bs.set i0 (.bv id e 0 k c)))::(id,some (cs++xs))::st.box}:ASt).getB:=by
  refine⟨hI.fr,fun b' hb' hw=> ?_,fun i j x hi hj=> ?_,fun j ds hj=> ?_,fun j hj=> ?_,fun j x hx=> ?_,fun x l hx=> ?_,fun m hm'=>z1d.mono hkp _ _ _ (hF.2 m hm'),hkp,fun j x ds ho hb' hc hd=> ?_⟩
  ·have hne:b'≠b:=fun e=>by
    subst e
    rcases hge with h|⟨h,_⟩
    ·omega
    ·exact hw h
   simp only[g',if_neg hne]
   exact hI.sS b' hb' hw
  ·simp only[g'] at hi hj
   split at hi
   ·cases hi
    split at hj
    ·subst_vars;rfl
    ·exact absurd hj (hmub j)
   ·split at hj
    ·cases hj;exact absurd hi (hmub i)
    ·exact hI.inj i j x hi hj
  ·rw[hgetB] at hj
   split at hj
   ·rename_i he
    subst he
    cases hj
    have hxb:bb≠b:=fun e=>hmub j (e▸hbb)
    refine⟨bb,by simp only[g',if_neg hne0];exact hbb,by simp only[g',if_neg hxb];exact hSbb,fun i d hi=> ?_⟩
    rw[List.getElem?_set] at hi
    split at hi
    ·rename_i he
     subst he
     first|(rw[if_pos hilt] at hi;cases hi)|cases hi
     refine⟨⟨v,hvc,?_⟩,hfzv⟩
     simp only[Rep]
     exact⟨b,cap,0,by simp[g'],hv,hle,by rcases hcx with⟨_,h,_⟩|⟨h,_⟩<;>omega,.inl rfl,fun h=>by rcases hcx with⟨_,_,h2⟩|⟨h2,_⟩<;>omega⟩
    ·rename_i hne
     obtain⟨⟨y,h4,h5⟩,h6⟩:=hcellsB i d hi
     have hd:z3aa d=true:=hfc bs hgb d (List.mem_of_getElem? (i:=i) (by rw[List.getElem?_set,if_neg hne];exact hi))
     exact⟨⟨y,h4,top (by simpa using fun h=>hne h.symm) hd h5⟩,h6⟩
   ·rename_i hnb
    split at hj
    ·rename_i he
     subst he
     cases hj
     refine⟨b,by simp[g'],by simp[g'],fun i d hi=> ?_⟩
     have hi0:=hi
     by_cases hic:i<cs.length
     rotate_left
     ·rw[List.getElem?_append_right (by omega)] at hi
      rcases hcx with⟨rfl,_⟩|⟨_,rfl⟩
      ·cases hi
      ·obtain⟨hr1,hr2⟩:=List.getElem?_eq_some_iff.1 hi
       rw[List.getElem_replicate] at hr2
       subst hr2
       rw[List.length_replicate,Nat.sub_mul] at hr1
       have hkc:k*e≤cap*e:=Nat.mul_le_mul_right _ hle
       obtain⟨h8,h9⟩:=hth i (by omega)
       rw[Nat.zero_add] at h8 h9
       obtain⟨y,hy⟩:=Option.isSome_iff_exists.1 h8
       exact⟨⟨y,hy,by simp[Rep]⟩,h9⟩
     rw[List.getElem?_append_left hic] at hi
     obtain⟨_,x,hx,hr⟩:=hcells.get i d hi
     rw[Nat.zero_add] at hx
     have hilt:i<k*e:=by omega
     have hkc:k*e≤cap*e:=Nat.mul_le_mul_right _ hle
     have hfz:=(hth i (by omega)).2
     rw[Nat.zero_add] at hfz
     refine⟨⟨x,hx,?_⟩,hfz⟩
     have hmd:z2b d=true:=z6da hmf (z1l hi)
     exact z2E (g:=g) d x none _ hmd (z2c.rep (g:=g) d x hr)
    ·rename_i hne
     obtain⟨x,k1,k2,k3⟩:=hI.bxok j ds hj
     have hxb:x≠b:=fun e=>hmub j (e▸k1)
     refine⟨x,by simp only[g',if_neg hne];exact k1,by simp only[g',if_neg hxb];exact k2,fun i d hi=> ?_⟩
     obtain⟨⟨y,h4,h5⟩,h6⟩:=k3 i d hi
     exact⟨⟨y,h4,top (by simp only[ne_eq,Loc.cell.injEq,not_and];exact fun h=>absurd h hnb) (hbox j ds hnb hj d (z1l hi)) h5⟩,h6⟩
  ·rw[hgetB] at hj
   split at hj
   ·cases hj
   ·split at hj
    ·cases hj
    ·rename_i hne
     simp only[g',if_neg hne]
     exact hI.nobx j hj
  ·simp only[g'] at hx
   split at hx
   ·cases hx
    exact⟨hge.imp (fun h=>h) (·.1),hbsz,by simp[g']⟩
   ·obtain⟨h1,h2,h3⟩:=hI.muW j x hx
    have hxb:x≠b:=fun e=>hmub j (e▸hx)
    exact⟨h1,h2,by simp only[g',if_neg hxb];exact h3⟩
  ·simp only[g'] at hx
   split at hx
   ·cases hx
   ·exact hI.owW x l hx
  ·have hne:j≠id:=fun e=>by omega
   have hnb:j≠b0:=fun e=>by omega
   rw[hgetB,if_neg hnb,if_neg hne] at hc
   simp only[g',if_neg hne] at hb'
   refine z4N.keep (hI.obok j x ds ho hb' hc hd) rfl fun q hq=>⟨?_,rfl⟩
   have hqb:q≠b:=fun e=>by rw[e,how] at hq;cases hq;exact hnb rfl
   simp only[g',if_neg hqb];exact hq
 refine⟨g',hI',fun t=> ?_,hO,h⟩
 have hgt:({st with box:=(b0,some (bs.set i0 (.bv id e 0 k c)))::(id,some (cs++xs))::st.box}:ASt).get t=st.get t:=rfl
 rw[hgt]
 unfold ASt.get
 cases hlt:lk st.env t with
 |some d=>
  have:=hS t
  unfold ASt.get at this
  rw[hlt] at this
  exact top (by simp) (hfe _ (z6L hlt)) this
 |none=>
  cases hs:lk st.org t with
  |none=>simp[Abs.dem,Rep]
  |some d=>exact z2c.dem (g:=g') _ (z2c.mono (z9t hI') d _ (hO t d hs))
theorem z3bb (b0 i0 id:Nat) (hF:z5ga K base) (hR:Rel K base n st a w) (hok:z1x (.thawB b0 i0 id) st):Rel K base n (z5b (.thawB b0 i0 id) st) a w:=by
 obtain⟨bs,e,nl,k,cs,cap,hgb,hget,hle,hlen,H⟩:=z2na b0 i0 id hF hR ⟨by have:=hok.1;omega,hok.2⟩
 have hrun:z5b (.thawB b0 i0 id) st={st with box:=(b0,some (bs.set i0 (.bv id e 0 k k)))::(id,some (cs++[]))::st.box}:=by
  simp only[z5b,hgb,hget,List.append_nil]
 rw[hrun]
 exact H k [] (.inl ⟨rfl,rfl,hok.1⟩)
theorem z9Ca (s t:Nat) {V:Value} (hR:Rel K base n st a w) (hok:z4Ab s t st V):∃V',z0Jb V'=z0Jb V∧Rel K base n (z17a s t V' st) a w:=by
 obtain⟨g,hI,hS,hO,h⟩:=hR
 obtain⟨id,hl,⟨e1,o1,n1,c1,h1⟩,e2,o2,n2,c2,h2⟩:=hok
 have r1:=hS s
 have r2:=hS t
 rw[h1] at r1
 rw[h2] at r2
 simp only[Rep] at r1 r2
 obtain⟨b1,k1,p1,m1,v1,_⟩:=r1
 obtain⟨b2,k2,p2,m2,v2,_⟩:=r2
 have hV:=hO s _ hl
 simp only[z2c] at hV
 rw[m1] at m2
 cases m2
 refine⟨a.tmps.getD t undef,?_,g,hI,fun x=> ?_,fun x d hx=> ?_,h⟩
 ·rw[v2,←hV,v1];rfl
 ·have hg:(z17a s t (a.tmps.getD t undef) st).get x=st.get x:=by
   by_cases hs:x=s
   ·subst hs
    show(match lk ((x,st.get x)::_) x with|some d=>d|none=>_)=_
    simp[lk]
   ·by_cases ht:x=t
    ·subst ht
     show(match lk ((s,_)::(x,st.get x)::_) x with|some d=>d|none=>_)=_
     simp[lk,hs]
    ·have ho:lk ((t,z2a.lit (a.tmps.getD t undef))::st.org.filter fun p=>decide (p.1≠s)) x=lk st.org x:=by
      rw[lk,if_neg ht,z3w (fun k=>decide (k≠s))]
      simp[hs]
     show(match lk ((s,_)::(t,_)::st.env) x with|some d=>d|none=>dem ((lk ((t,z2a.lit (a.tmps.getD t undef))::st.org.filter fun p=>decide (p.1≠s)) x).getD .undef))=_
     rw[ho]
     simp only[lk,if_neg hs,if_neg ht]
     rfl
  rw[hg]
  exact hS x
 ·have hx':lk ((t,z2a.lit (a.tmps.getD t undef))::st.org.filter fun p=>decide (p.1≠s)) x=some d:=hx
  by_cases ht:x=t
  ·subst ht
   rw[lk,if_pos rfl] at hx'
   cases hx'
   simp[z2c]
  ·rw[lk,if_neg ht,z3w (fun k=>decide (k≠s))] at hx'
   split at hx'
   ·exact hO x d hx'
   ·cases hx'
theorem z4eb (b:Option Nat) (i id:Nat) (hF:z5ga K base) (hR:Rel K base n st a w) (hok:z3Ta b i id st):∃m,Rel K base n (z7ma b i id m st) a w:=by
 cases b with
 |none=>
  obtain⟨e,nl,k,cs,cap,hget,hle,hlen,H⟩:=z6xa i id hF hR hok
  refine⟨cap-k,?_⟩
  have hrun:z7ma none i id (cap-k) st={st with env:=(i,.bv id e 0 k (k+(cap-k)))::st.env,box:=(id,some (cs++List.replicate ((cap-k)*e) .undef))::st.box}:=by
   simp only[z7ma,hget]
  rw[hrun]
  exact H _ _ (.inr ⟨by omega,rfl⟩)
 |some b=>
  obtain⟨bs,e,nl,k,cs,cap,hgb,hget,hle,hlen,H⟩:=z2na b i id hF hR hok
  refine⟨cap-k,?_⟩
  have hrun:z7ma (some b) i id (cap-k) st={st with box:=(b,some (bs.set i (.bv id e 0 k (k+(cap-k)))))::(id,some (cs++List.replicate ((cap-k)*e) .undef))::st.box}:=by
   simp only[z7ma,hgb,hget]
  rw[hrun]
  exact H _ _ (.inr ⟨by omega,rfl⟩)
theorem z77a (s:Nat) (hR:Rel K base n st a w):Rel K base n (z5b (.unorg s) st) a w:=by
 obtain⟨g,hI,hS,hO,h⟩:=hR
 have horg:∀t,lk (z5b (.unorg s) st).org t=if t=s then none else lk st.org t:=fun t=>by
  show lk (st.org.filter fun p=>decide (p.1≠s)) t=_
  rw[z3w (fun k=>decide (k≠s))]
  by_cases ht:t=s<;>simp[ht]
 refine⟨g,hI,fun t=> ?_,fun t d ht=> ?_,h⟩
 ·have:(z5b (.unorg s) st).get t=st.get t:=by
   by_cases ht:t=s
   ·subst ht
    show(match lk ((t,st.get t)::st.env) t with|some d=>d|none=>_)=_
    simp[lk]
   ·unfold ASt.get
    rw[horg,if_neg ht]
    show(match lk ((s,_)::st.env) t with|some d=>d|none=>_)=_
    simp only[lk,if_neg ht]
    cases lk st.env t<;>rfl
  rw[this]
  exact hS t
 ·rw[horg] at ht
  split at ht
  ·cases ht
  ·exact hO t d ht
theorem z33a (b i:Nat) (hR:Rel K base n st a w) (hok:z1x (.hideB b i) st):Rel K base n (z5b (.hideB b i) st) a w:=by
 obtain⟨g,hI,hS,hO,h⟩:=hR
 have hlt:b<1000000:=hok
 cases hb:st.getB b with
 |none=>
  have:z5b (.hideB b i) st=st:=by simp only[z5b,hb]
  rw[this]
  exact⟨g,hI,hS,hO,h⟩
 |some bs=>
  have hrun:z5b (.hideB b i) st={st with box:=(b,some (bs.set i .undef))::st.box}:=by simp only[z5b,hb]
  rw[hrun]
  have hgetB:∀j,({st with box:=(b,some (bs.set i .undef))::st.box}:ASt).getB j=if j=b then some (bs.set i .undef) else st.getB j:=fun j=>by
   show(lk ((b,some (bs.set i .undef))::st.box) j).join=_
   by_cases hj:j=b
   ·simp[lk,hj]
   ·simp only[lk,if_neg hj];rfl
  refine⟨g,⟨hI.fr,hI.sS,hI.inj,fun id cs hc=> ?_,fun id hid=> ?_,hI.muW,hI.owW,hI.glob,hI.kp,fun id x cs ho hx hc hd=> ?_⟩,fun s=>hS s,hO,h⟩
  ·rw[hgetB] at hc
   split at hc
   ·rename_i hj
    cases hc
    subst hj
    obtain⟨k,k1,k2,k3⟩:=hI.bxok id bs hb
    refine⟨k,k1,k2,fun t d hd=> ?_⟩
    rw[List.getElem?_set] at hd
    split at hd
    ·split at hd
     ·rename_i hti hl
      cases hd
      subst hti
      obtain⟨⟨x,h4,_⟩,h6⟩:=k3 i _ (List.getElem?_eq_getElem hl)
      exact⟨⟨x,h4,by simp[Rep]⟩,h6⟩
     ·cases hd
    ·exact k3 t d hd
   ·exact hI.bxok id cs hc
  ·rw[hgetB] at hid
   split at hid
   ·cases hid
   ·exact hI.nobx id hid
  ·rw[hgetB,if_neg (by omega)] at hc
   exact hI.obok id x cs ho hx hc hd

theorem z4Va {K:Con} {g:Gh} {w:World} {l:Option Loc} (o:Option Nat) {c:z2a} {v:Value} (h:Rep K g w l c v):Rep K g w l (z9V o c) v:=by
 cases o with
 |none=>exact Rep.dem l h
 |some e=>
  unfold z9V
  simp only
  split
  ·simp only[Rep,z2c] at h⊢
   rcases h with⟨b,o,cap,_,_,_,h4,_⟩|⟨q,h1,_,_,_⟩
   ·exact absurd rfl h4
   ·exact⟨.inr ⟨q,h1,by simp⟩,fun l' _=> .inl (.inr ⟨⟨q,h1⟩,by simp⟩)⟩
  ·exact h
theorem z5Jb (b i:Nat) (o:Option Nat) (hR:Rel K base n st a w) (hok:z1x (.reB b i o) st):Rel K base n (z5b (.reB b i o) st) a w:=by
 obtain⟨g,hI,hS,hO,h⟩:=hR
 have hlt:b<1000000:=hok
 cases hb:st.getB b with
 |none=>
  have:z5b (.reB b i o) st=st:=by simp only[z5b,hb]
  rw[this]
  exact⟨g,hI,hS,hO,h⟩
 |some bs=>
  have hrun:z5b (.reB b i o) st={st with box:=(b,some (bs.set i (z9V o (bs.getD i .undef))))::st.box}:=by simp only[z5b,hb]
  rw[hrun]
  have hgetB:∀j,({st with box:=(b,some (bs.set i (z9V o (bs.getD i .undef))))::st.box}:ASt).getB j=if j=b then some (bs.set i (z9V o (bs.getD i .undef))) else st.getB j:=fun j=>by
   show(lk ((b,some (bs.set i (z9V o (bs.getD i .undef))))::st.box) j).join=_
   by_cases hj:j=b
   ·simp[lk,hj]
   ·simp only[lk,if_neg hj];rfl
  refine⟨g,⟨hI.fr,hI.sS,hI.inj,fun id cs hc=> ?_,fun id hid=> ?_,hI.muW,hI.owW,hI.glob,hI.kp,fun id x cs ho hx hc hd=> ?_⟩,fun s=>hS s,hO,h⟩
  ·rw[hgetB] at hc
   split at hc
   ·rename_i hj
    cases hc
    subst hj
    obtain⟨k,k1,k2,k3⟩:=hI.bxok id bs hb
    refine⟨k,k1,k2,fun t d hd=> ?_⟩
    rw[List.getElem?_set] at hd
    split at hd
    ·split at hd
     ·rename_i hti hl
      cases hd
      subst hti
      have hgi:bs.getD i .undef=bs[i]:=by simp[List.getD,List.getElem?_eq_getElem hl]
      rw[hgi]
      obtain⟨⟨x,h4,h5⟩,h6⟩:=k3 i _ (List.getElem?_eq_getElem hl)
      exact⟨⟨x,h4,z4Va o h5⟩,h6⟩
     ·cases hd
    ·exact k3 t d hd
   ·exact hI.bxok id cs hc
  ·rw[hgetB] at hid
   split at hid
   ·cases hid
   ·exact hI.nobx id hid
  ·rw[hgetB,if_neg (by omega)] at hc
   exact hI.obok id x cs ho hx hc hd

theorem z3x (gh:z2y) (hF:gh.cold=true) (hR:Rel K base n st a w) (hok:z1x gh st):Rel K base n (z5b gh st) a w:=by
 cases gh with
 |thaw s id=>cases hF
 |thawB b i id=>cases hF
 |rebase ks=>cases hF
 |cool s id=>cases hF
 |coolB b i id=>cases hF
 |unorg s=>exact z77a s hR
 |hideB b i=>exact z33a b i hR hok
 |reB b i o=>exact z5Jb b i o hR hok
 |keep l=>exact z9z l hR
 |drop ids=>exact z5ob ids hR hok
 |freeze ids=>exact z6Ua ids hR hok
 |norm ids=>
  obtain⟨g,hI,h⟩:=hR
  refine⟨g,?_,h⟩
  have:(z5b (.norm ids) st).getB=st.getB:=funext fun id=>by
   have e:(z5b (.norm ids) st).getB id=(lk (ids.map fun id=>(id,st.getB id)) id).join:=rfl
   rw[e]
   have:∀l:List Nat,lk (l.map fun id=>(id,st.getB id)) id=if id∈l then some (st.getB id) else none:=fun l=>by
    induction l with
    |nil=>simp[lk]
    |cons t l ih=>
     simp only[List.map_cons,lk,ih,List.mem_cons]
     by_cases h:id=t
     ·subst h;simp
     ·simp[h]
   rw[this]
   by_cases hi:id∈ids
   ·rw[if_pos hi];rfl
   ·rw[if_neg hi]
    have:lk st.box id=none:=z7U fun p hp e=>hi (e▸hok p hp)
    simp[ASt.getB,this]
  rw[this]
  exact hI

theorem z4ha:∀(gs:List z2y) {st:ASt},gs.all z2y.cold=true→Rel K base n st a w→z6hb gs st→Rel K base n (z9ka gs st) a w
 |[],_,_,hR,_=>hR
 |g::gs,_,hF,hR,hok=>z4ha gs (by simp only[List.all_cons,Bool.and_eq_true] at hF;exact hF.2) (z3x g (by simp only[List.all_cons,Bool.and_eq_true] at hF;exact hF.1) hR hok.1) hok.2

end
end Go.Abs
end

section
set_option linter.unusedVariables false
namespace Go.Abs

def mark (D:Nat):Deferred:={target:= .collected D,args:= #[]}
structure z5K (K:Cx) (base base':z8s):Prop where
 inv:∀g w bx,Inv K base' g w bx→Inv K base g w bx
 org:z7g base.S base.w0 base'.S base'.w0
 fr:Fr base.w0.heap.size base.W base.w0 base'.w0
 wr:∀b,base'.W b→b<base.w0.heap.size→base.W b
 marks:∃ms:List Nat,base'.dl=ms.map mark++base.dl∧ms.Nodup∧(∀D∈ms,base.w0.heap.size≤D∧D<base'.w0.heap.size)∧
  ∀g w bx,Inv K base' g w bx→∀D∈ms,(g.S D=0∧(∀id,g.mu id≠some D)∧g.ow D=none)∧D<w.heap.size∧w.heap[D]? =some (.deferred (some []))

theorem z5K.refl (K:Cx) (base:z8s):z5K K base base:=
 ⟨fun _ _ _ h=>h,z7g.refl _ _,Fr.refl _ _ _,fun _ h _=>h,[],rfl,List.nodup_nil,by simp,fun _ _ _ _ D hD=>by cases hD⟩
theorem z5K.trans {K:Cx} {a b c:z8s} (h:z5K K a b) (k:z5K K b c):z5K K a c:=by
 obtain⟨ms,e1,n1,h1,i1⟩:=h.marks
 obtain⟨ms',e2,n2,h2,i2⟩:=k.marks
 refine⟨fun g w bx hi=>h.inv g w bx (k.inv g w bx hi),h.org.trans k.org,h.fr.trans (k.fr.mono h.fr.size fun x hx hw=>h.wr x hw hx),fun x hw hx=>h.wr x (k.wr x hw (Nat.lt_of_lt_of_le hx h.fr.size)) hx,ms'++ms,?_,?_,?_,?_⟩
 ·rw[e2,e1,List.map_append,List.append_assoc]
 ·refine List.nodup_append.2 ⟨n2,n1,fun x hx y hy e=> ?_⟩
  subst e
  have:=(h2 x hx).1
  have:=(h1 x hy).2
  omega
 ·intro D hD
  rcases List.mem_append.1 hD with hD|hD
  ·exact⟨Nat.le_trans h.fr.size (h2 D hD).1,(h2 D hD).2⟩
  ·exact⟨(h1 D hD).1,Nat.lt_of_lt_of_le (h1 D hD).2 k.fr.size⟩
 ·intro g w bx hi D hD
  rcases List.mem_append.1 hD with hD|hD
  ·exact i2 g w bx hi D hD
  ·exact i1 g w bx (k.inv g w bx hi) D hD

def z2ba (K:Cx) (base:z8s) (n:Nat) (Q:z4m→ASt→Prop):Exit→Act→World→Prop
 | .normal,a,w=>∃base',z5K K base base'∧∃st,Rel K base' n st a w∧Q .normal st
 | .exit id,a,w=>∃base',z5K K base base'∧∃st,Rel K base' n st a w∧Q (.exit id) st
 | .ret,a,w=>∃base',z5K K base base'∧∃st,Rel K base' n st a w∧Q .ret st
 |_,_,_=>False
theorem z2Da {K:Cx} {base base':z8s} {n:Nat} {Q:z4m→ASt→Prop} (h:z5K K base base'):∀e a w,z2ba K base' n Q e a w→z2ba K base n Q e a w:=by
 intro e a w hl
 cases e<;>simp only[z2ba] at hl⊢
 all_goals (obtain⟨b,hb,r⟩:=hl;exact⟨b,h.trans hb,r⟩)
def z5B (g:Gh) (b:Nat):Prop:=g.S b=0∧(∀id,g.mu id≠some b)∧g.ow b=none
theorem z5B.wr {g:Gh} {b:Nat} (h:z5B g b):¬Wr g b:=by
 rintro(⟨id,hi⟩|ho)
 ·exact h.2.1 id hi
 ·exact ho h.2.2

section
variable {K : Cx} {base : z8s} {g g' : Gh} {A B : World} {bx bx' : Nat → Option (List z2a)} {O : Nat → Prop} {dl : List Deferred}

theorem z4Y (hfr:Fr A.heap.size O A B) (h:∀b,O b→z5B g b):z7g g.S A g.S B:=fun b i x hi hc=>by
 have hb:b<A.heap.size:=World.block_lt_of_cell? A ⟨b,i,none⟩ hc
 have hO:¬O b:=fun ho=>by have:=(h b ho).1;omega
 refine⟨hi,?_⟩
 rw[World.cell?_of_block (w:=A) (a:=⟨b,i,none⟩) (hfr.block b hb hO)]
 exact hc
theorem z3nc (hfr:Fr A.heap.size O A B) (h:∀b,O b→z5B g b) (hlt:∀b l,g.ow b=some l→b<A.heap.size) (m:Loc):z6x g A g B m m:=fun b hb=>by
 refine⟨hb,rfl,fun o n ht=>z2R (hfr.block b (hlt b m hb) fun ho=> ?_) ht⟩
 have:=(h b ho).2.2
 rw[hb] at this;cases this
theorem z0na (hfr:Fr A.heap.size O A B) (h:∀b,O b→z5B g b) (hlt:∀b l,g.ow b=some l→b<A.heap.size) {d:z2a} {v:Value} {l:Option Loc} (hr:Rep K.toCon g A l d v):Rep K.toCon g B l d v:=
 Rep.mono (z4Y hfr h) d v l l (fun _ _ _ hb=>hb) (fun m hm=>⟨m,hm,z3nc hfr h hlt m⟩) hr

theorem z5Ca (hI:Inv K base g A bx) (hfr:Fr A.heap.size O A B) (h:∀b,O b→z5B g b∧(base.w0.heap.size≤b∨base.W b)):Inv K base g B bx:=by
 have h1:∀b,O b→z5B g b:=fun b hb=>(h b hb).1
 have hlt:∀b l,g.ow b=some l→b<A.heap.size:=fun b l hb=>(hI.owW b l hb).2
 have hk:=z4Y hfr h1
 refine⟨hI.fr.trans (hfr.mono hI.fr.size fun k hk ho=> ?_),hI.sS,hI.inj,fun id cs hc=> ?_,hI.nobx,fun id b hb=> ?_,fun b l hl=> ?_,fun n hn=>z1d.mono hk _ _ _ (hI.glob n hn),hI.kp.trans hk,fun id b cs ho hb hc hd=>z4N.keep (hI.obok id b cs ho hb hc hd) (hfr.block b (hI.muW id b hb).2.1 fun hO=>(h1 b hO).2.1 id hb) fun k hk'=>⟨hk',hfr.block k (hlt k _ hk') fun hO=>by have:=(h1 k hO).2.2;rw[hk'] at this;cases this⟩⟩
 ·rcases(h k ho).2 with h2|h2
  ·omega
  ·exact h2
 ·obtain⟨b,k1,k2,k3⟩:=hI.bxok id cs hc
  have hbk:B.heap[b]? =A.heap[b]? :=hfr.block b (hI.muW id b k1).2.1 fun ho=>(h1 b ho).2.1 id k1
  refine⟨b,k1,k2,fun i d hi=> ?_⟩
  obtain⟨⟨x,hx,hr⟩,hz⟩:=k3 i d hi
  refine⟨⟨x,?_,z0na hfr h1 hlt hr⟩,?_⟩
  ·rw[World.cell?_of_block (w:=A) (a:=⟨b,i,none⟩) hbk];exact hx
  ·simp only[World.frozen?,hbk] at hz⊢;exact hz
 ·obtain⟨k1,k2,k3⟩:=hI.muW id b hb
  exact⟨k1,Nat.lt_of_lt_of_le k2 hfr.size,k3⟩
 ·obtain⟨k1,k2⟩:=hI.owW b l hl
  exact⟨k1,Nat.lt_of_lt_of_le k2 hfr.size⟩

theorem z1W (hI:Inv K base g A bx) {b:Nat} (h:Wr g b):base.w0.heap.size≤b∨base.W b:=by
 rcases h with⟨id,hi⟩|ho
 ·exact(hI.muW id b hi).1
 ·cases hl:g.ow b with
  |none=>exact absurd hl ho
  |some l=>exact(hI.owW b l hl).1
theorem rebase (hI:Inv K base g A bx):Inv K ⟨A,Wr g,g.S,dl⟩ g A bx:=
 ⟨Fr.refl _ _ _,fun _ _ _=>rfl,hI.inj,hI.bxok,hI.nobx,fun id b hb=>⟨.inr (.inl ⟨id,hb⟩),(hI.muW id b hb).2⟩,fun b l hl=>⟨.inr (.inr (by rw[hl];simp)),(hI.owW b l hl).2⟩,hI.glob,z7g.refl _ _,hI.obok⟩
theorem z6Oa (hI:Inv K base g A bx) (h:Inv K ⟨A,Wr g,g.S,dl⟩ g' B bx'):Inv K base g' B bx':=by
 have hw:∀b,(A.heap.size≤b∨Wr g b)→base.w0.heap.size≤b∨base.W b:=fun b hb=>by
  rcases hb with hb|hb
  ·exact .inl (Nat.le_trans hI.fr.size hb)
  ·exact z1W hI hb
 refine⟨hI.fr.trans (h.fr.mono hI.fr.size fun k hk hwk=> ?_),fun b hb hnw=> ?_,h.inj,h.bxok,h.nobx,fun id b hb=> ?_,fun b l hl=> ?_,h.glob,hI.kp.trans h.kp,h.obok⟩
 ·rcases z1W hI hwk with hx|hx
  ·omega
  ·exact hx
 ·have h1:¬Wr g b:=fun hx=>by
   rcases z1W hI hx with hy|hy
   ·omega
   ·exact hnw hy
  rw[h.sS b (Nat.lt_of_lt_of_le hb hI.fr.size) h1]
  exact hI.sS b hb hnw
 ·obtain⟨k1,k2⟩:=h.muW id b hb
  exact⟨hw b k1,k2⟩
 ·obtain⟨k1,k2⟩:=h.owW b l hl
  exact⟨hw b k1,k2⟩
theorem z9Q (hI:Inv K base g A bx):z7g base.S base.w0 (z8s.S ⟨A,Wr g,g.S,dl⟩) A:=fun b i x hi hc=>by
 have hb:b<base.w0.heap.size:=World.block_lt_of_cell? base.w0 ⟨b,i,none⟩ hc
 unfold z8s.S at hi
 split at hi
 ·rename_i h
  have h1:¬Wr g b:=fun hx=>by
   rcases z1W hI hx with hy|hy
   ·omega
   ·exact h.2 hy
  refine⟨?_,?_⟩
  ·unfold z8s.S
   rw[if_pos ⟨Nat.lt_of_lt_of_le hb hI.fr.size,h1⟩]
   show i<g.S b
   rw[hI.sS b h.1 h.2]
   exact hi
  ·rw[World.cell?_of_block (w:=base.w0) (a:=⟨b,i,none⟩) (hI.fr.block b h.1 h.2)]
   exact hc
 ·omega
theorem z03 (h:Inv K ⟨A,Wr g,g.S,dl⟩ g' B bx') {b:Nat} (hb:b<A.heap.size) (ha:z5B g b):z5B g' b:=by
 refine⟨?_,fun id hi=> ?_,?_⟩
 ·rw[h.sS b hb ha.wr];exact ha.1
 ·rcases(h.muW id b hi).1 with h1|h1
  ·exact absurd hb (Nat.not_lt.2 h1)
  ·exact ha.wr h1
 ·cases hl:g'.ow b with
  |none=>rfl
  |some l=>
   rcases(h.owW b l hl).1 with h1|h1
   ·exact absurd hb (Nat.not_lt.2 h1)
   ·exact absurd h1 ha.wr
theorem z6T (h:Inv K ⟨A,Wr g,g.S,dl⟩ g' B bx') {b:Nat} (hb:b<A.heap.size) (ha:z5B g b):B.heap[b]? =A.heap[b]? :=h.fr.block b hb ha.wr
theorem z7Wa (hI:Inv K base g A bx) (ms:List Nat) (hn:ms.Nodup) (hm:∀D∈ms,base.w0.heap.size≤D∧D<A.heap.size∧z5B g D∧A.heap[D]? =some (.deferred (some []))):z5K K base ⟨A,Wr g,g.S,ms.map mark++base.dl⟩:=
 ⟨fun g' w bx' h=>z6Oa hI h,z9Q hI,hI.fr,fun b hw hb=>(z1W hI hw).resolve_left (by omega),ms,rfl,hn,fun D hD=>⟨(hm D hD).1,(hm D hD).2.1⟩,fun g' w bx' h D hD=>by
  obtain⟨k1,k2,k3,k4⟩:=hm D hD
  exact⟨z03 h k2 k3,Nat.lt_of_lt_of_le k2 h.fr.size,by rw[z6T h k2 k3];exact k4⟩⟩
end
end Go.Abs
end

section
set_option linter.unusedVariables false
namespace Go.Abs
section
variable {K : Cx} {base : z8s} {n : Nat} {st : ASt} {a : Act} {w : World}

theorem z8Za {st:ASt} (h:∀p∈st.env,z6g p.2=false) (s:Nat):z6g (st.get s)=false:=by
 unfold ASt.get
 cases hl:lk st.env s with
 |some d=>exact h _ (z6L hl)
 |none=>exact z0E _
theorem z0da {st:ASt} {id:Nat} {cs:List z2a} (h:st.getB id=some cs):(id,some cs)∈st.box:=by
 simp only[ASt.getB] at h
 cases hl:lk st.box id with
 |none=>rw[hl] at h;cases h
 |some o=>rw[hl] at h;simp only[Option.join_some] at h;subst h;exact z6L hl
theorem z5Vb {g:Gh} {bx:Nat→Option (List z2a)} (hI:Inv K base g w bx) {id b:Nat} (h:g.mu id=some b):g.S b=0:=by
 cases hb:bx id with
 |none=>rw[hI.nobx id hb] at h;cases h
 |some cs=>
  obtain⟨b',h1,h2,_⟩:=hI.bxok id cs hb
  rw[h] at h1;cases h1;exact h2
theorem z9Ya (ks:List Nat) (hR:Rel K base n st a w) (hok:z1x (.rebase ks) st):∃base',z5K K base base'∧z5ga K base'∧Rel K base' n (z5b (.rebase ks) st) a w:=by
 obtain⟨g,hI,hS,hO,hd,hn⟩:=hR
 obtain⟨hk,he,hbx⟩:=hok
 let g':Gh:={g with ow:=fun _=>none}
 have top:∀{d:z2a} {v:Value} {l l':Option Loc},z6g d=false→Rep K.toCon g w l d v→Rep K.toCon g' w l' d v:=fun {d v l l'} ho hr=>
  z1K l' ho (Rep.mono (g:=g) (g':=g') (z7g.refl _ _) d v none none (fun _ _ _ h=>h) (fun _ h=>by cases h) (z3O hr))
 have hI':Inv K base g' w st.getB:=by
  refine⟨hI.fr,hI.sS,hI.inj,fun id cs hc=> ?_,hI.nobx,fun id b hb=> ?_,fun b l hb=>(by cases hb),hI.glob,hI.kp,fun id b cs ho hb hc hd'=> ?_⟩
  ·obtain⟨b,k1,k2,k3⟩:=hI.bxok id cs hc
   refine⟨b,k1,k2,fun i d hi=> ?_⟩
   obtain⟨⟨x,hx,hr⟩,hz⟩:=k3 i d hi
   exact⟨⟨x,hx,top ((hbx _ (z0da hc)).2 cs rfl d (z1l hi)) hr⟩,hz⟩
  ·obtain⟨k1,k2,_⟩:=hI.muW id b hb
   exact⟨k1,k2,rfl⟩
  ·have:=(hbx _ (z0da hc)).1
   simp only at this
   omega
 have hW:∀b,Wr g' b→g.S b=0:=fun b hb=>by
  rcases hb with⟨id,h⟩|h
  ·exact z5Vb hI h
  ·exact absurd rfl h
 have hkS:z7g g.S w (z8s.S ⟨w,Wr g',g'.S,base.dl⟩) w:=fun b i x hi hc=>by
  refine⟨?_,hc⟩
  unfold z8s.S
  rw[if_pos ⟨World.block_lt_of_cell? w ⟨b,i,none⟩ hc,fun h=>by have:=hW b h;omega⟩]
  exact hi
 have hB:=rebase (dl:=base.dl) hI'
 refine⟨⟨w,Wr g',g'.S,base.dl⟩,⟨fun g2 w2 bx h=>z6Oa hI' h,z9Q hI',hI'.fr,fun b hb hlt=>(z1W hI' hb).resolve_left (by omega),[],by simp,List.nodup_nil,by simp,fun _ _ _ _ D hD=>by cases hD⟩,⟨hW,hI.glob⟩,g',hB,fun s=> ?_,fun s d hs=> ?_,hd,hn⟩
 ·have hg:(z5b (.rebase ks) st).get s=if s∈ks then dem (st.get s) else st.get s:=by
   show(match lk (st.env.filter fun p=> !ks.contains p.1) s with|some d=>d|none=>dem ((lk ((ks.map fun s=>(s,st.get s))++st.org) s).getD .undef))=_
   rw[z3w (fun k=> !ks.contains k)]
   by_cases h:s∈ks
   ·have:lk ((ks.map fun s=>(s,st.get s))++st.org) s=some (st.get s):=by
     rw[z5l,z9w,if_pos h];rfl
    simp[h,this]
   ·have:lk ((ks.map fun s=>(s,st.get s))++st.org) s=lk st.org s:=by
     rw[z5l,z9w,if_neg h];rfl
    rw[if_pos (by simpa using h),this,if_neg h];rfl
  rw[hg]
  split
  ·exact top (z0E _) (Rep.dem none (hS s))
  ·exact top (z8Za he s) (hS s)
 ·have hl:lk (z5b (.rebase ks) st).org s=if s∈ks then some (st.get s) else lk st.org s:=by
   show lk ((ks.map fun s=>(s,st.get s))++st.org) s=_
   rw[z5l,z9w]
   by_cases h:s∈ks
   ·rw[if_pos h,if_pos h];rfl
   ·rw[if_neg h,if_neg h];rfl
  rw[hl] at hs
  split at hs
  ·rename_i h
   cases hs
   exact z2c.mono hkS _ _ (Rep.pure _ _ _ (hk s h).1 (hS s))
  ·exact z2c.mono (z9Q hI') d _ (hO s d hs)

structure z87b (K:Cx) (base:z8s) (g g':Gh) (w:World) (id b:Nat) (L:Loc):Prop where
 keeps:z7g g.S w g'.S w
 rep:∀{d:z2a} {v:Value} {l:Loc},id∉z2o d→Rep K.toCon g w (some l) d v→Rep K.toCon g' w (some l) d v
theorem z1wa {g:Gh} {bx:Nat→Option (List z2a)} (hI:Inv K base g w bx) {id:Nat} (h5:500000≤id) (h6:id<1000000) {e n c:Nat} {l:List z2a} (hl:bx id=some l) (hnc:n≤c) (hll:l.length=c*e) (hmf:z1b (l.take (n*e))=true) (L:Loc) {v:Value} {l0:Option Loc}
  (hrv:Rep K.toCon g w l0 (.bv id e 0 n c) v):∃(b:Nat) (g':Gh),g.mu id=some b∧g'={S:=fun x=>if x=b then n*e else g.S x,ow:=fun x=>if x=b then some L else g.ow x,mu:=fun j=>if j=id then none else g.mu j}∧z87b K base g g' w id b L∧
   Rep K.toCon g' w (some L) (.sl (.own e) none n (l.take (n*e))) v∧
   ∀bx':Nat→Option (List z2a),(bx' id=none)→(∀j,1000000≤j→bx' j=bx j)→(∀j,j≠id→(bx' j).isSome=(bx j).isSome)→
    (∀j cs,bx' j=some cs→∃b',g.mu j=some b'∧g.S b'=0∧∀i d,cs[i]? =some d→(∃x,w.cell? ⟨b',i,none⟩=some x∧Rep K.toCon g' w (some (.cell j i)) d x)∧w.frozen? ⟨b',i,none⟩=false)→Inv K base g' w bx':=by
 obtain⟨b,k1,k2,k3⟩:=hI.bxok id l hl
 simp only[Rep] at hrv
 obtain⟨b',cap,o,hb',hv,hncap,hccap,ho,hex⟩:=hrv
 rw[k1] at hb';cases hb'
 have hcap:=hex h5
 subst hcap
 have howb:=(hI.muW id b k1).2.2
 obtain⟨hwb,hbsz,_⟩:=hI.muW id b k1
 let g':Gh:={S:=fun x=>if x=b then n*e else g.S x,ow:=fun x=>if x=b then some L else g.ow x,mu:=fun j=>if j=id then none else g.mu j}
 have hk:z7g g.S w g'.S w:=fun b'' i x hi hc=>by
  refine⟨?_,hc⟩
  have:b''≠b:=fun e=>by subst e;omega
  simp only[g',if_neg this];exact hi
 have rep:∀{d:z2a} {v:Value} {l:Loc},id∉z2o d→Rep K.toCon g w (some l) d v→Rep K.toCon g' w (some l) d v:=fun {d v l} hr h=>
  Rep.mono (g:=g) (g':=g') hk d v (some l) (some l) (fun j hj b'' hb''=>by have:j≠id:=fun e=>hr (e▸hj);simp only[g',if_neg this];exact hb'') (fun m hm=>⟨m,hm,fun b'' hb''=>by
   have:b''≠b:=fun e=>by rw[e,howb] at hb'';cases hb''
   exact⟨by simp only[g',if_neg this];exact hb'',by simp only[g',if_neg this],fun _ _ h=>h⟩⟩) h
 have hle:n*e≤c*e:=Nat.mul_le_mul_right _ hnc
 have hcells:z1d K.toCon g'.S w (l.take (n*e)) b 0:=z1d.mk fun i d hi=>by
  have hi':=hi
  rw[List.getElem?_take] at hi'
  split at hi'
  ·rename_i hlt
   obtain⟨⟨x,hx,hr⟩,_⟩:=k3 i d hi'
   rw[Nat.zero_add]
   refine⟨by simp only[g',if_true];exact hlt,x,hx,?_⟩
   have hmd:z2b d=true:=z6da hmf (z1l hi)
   exact Rep.pure (g:=g') d x none (z6ia d hmd) (z2E (g':=g') (w':=w) d x _ none hmd hr)
  ·cases hi'
 have hth:w.there b 0 (c*e):=fun j hj=>by
  obtain⟨⟨x,hx,_⟩,hz⟩:=k3 j _ (List.getElem?_eq_getElem (by omega))
  rw[Nat.zero_add]
  exact⟨by rw[hx];rfl,hz⟩
 refine⟨b,g',k1,rfl,⟨hk,rep⟩,?_,fun bx' h1 h2 h3 h4=> ?_⟩
 ·simp only[Rep]
  by_cases hc0:n=0∧c=0
  ·obtain⟨rfl,rfl⟩:=hc0
   have hnil:l.take (0*e)=[]:=by rw[Nat.zero_mul];rfl
   rw[hnil]
   subst hv
   exact⟨by simp only[z2c];exact .inr ⟨_,rfl,trivial,trivial,by simp⟩,fun l' _=> .inl (.inr ⟨⟨_,rfl⟩,rfl⟩)⟩
  ·have ho0:o=0:=ho.resolve_right hc0
   subst ho0
   refine⟨by simp only[z2c];exact .inl ⟨b,0,c,hv,hncap,hcells,by simp,by simp⟩,fun l' hl'=> .inr ?_⟩
   cases hl'
   exact⟨b,c,hv,hncap,by rw[List.length_take,hll,Nat.min_eq_left hle],by simp only[g',if_true],by simp only[g',if_true],hth⟩
 ·refine⟨hI.fr,fun b'' hb'' hw=> ?_,fun i j x hi hj=> ?_,fun j cs hj=> ?_,fun j hj=> ?_,fun j x hx=> ?_,fun x L' hx=> ?_,fun m hm=>z1d.mono hk _ _ _ (hI.glob m hm),hI.kp.trans hk,fun j x cs ho' hb' hc hd=> ?_⟩
  ·have:b''≠b:=fun e=>by
    subst e
    rcases hwb with h|h
    ·omega
    ·exact hw h
   simp only[g',if_neg this]
   exact hI.sS b'' hb'' hw
  ·simp only[g'] at hi hj
   split at hi
   ·cases hi
   ·split at hj
    ·cases hj
    ·exact hI.inj i j x hi hj
  ·obtain⟨b2,q1,q2,q3⟩:=h4 j cs hj
   have hjid:j≠id:=fun e=>by rw[e,h1] at hj;cases hj
   have hbb:b2≠b:=fun e=>hjid (hI.inj _ _ _ (e▸q1) k1)
   exact⟨b2,by simp only[g',if_neg hjid];exact q1,by simp only[g',if_neg hbb];exact q2,q3⟩
  ·by_cases hjid:j=id
   ·simp only[g',if_pos hjid]
   ·simp only[g',if_neg hjid]
    refine hI.nobx j ?_
    have:=h3 j hjid
    rw[hj] at this
    cases hbj:bx j with
    |none=>rfl
    |some _=>rw[hbj] at this;cases this
  ·simp only[g'] at hx
   split at hx
   ·cases hx
   ·rename_i hjid
    obtain⟨q1,q2,q3⟩:=hI.muW j x hx
    have:x≠b:=fun e=>hjid (hI.inj _ _ _ (e▸hx) k1)
    exact⟨q1,q2,by simp only[g',if_neg this];exact q3⟩
  ·simp only[g'] at hx
   split at hx
   ·rename_i he;subst he;exact⟨hwb,hbsz⟩
   ·exact hI.owW x L' hx
  ·have hjid:j≠id:=fun e=>by omega
   rw[h2 j ho'] at hc
   simp only[g',if_neg hjid] at hb'
   refine z4N.keep (hI.obok j x cs ho' hb' hc hd) rfl fun q hq=>⟨?_,rfl⟩
   have hqb:q≠b:=fun e=>by rw[e,howb] at hq;cases hq
   simp only[g',if_neg hqb];exact hq

theorem z59a {id:Nat} {cs:Option (List z2a)} {d:z2a} (h:z4zc id cs d):∃e n c l,d= .bv id e 0 n c∧n≤c∧cs=some l∧l.length=c*e∧z1b (l.take (n*e))=true:=by
 unfold z4zc at h
 split at h
 ·obtain⟨rfl,rfl,h1,l,h2,h3,h4⟩:=h
  exact⟨_,_,_,l,rfl,h1,h2,h3,h4⟩
 ·exact h.elim
theorem z9cb (b0 i0 id:Nat) (hR:Rel K base n st a w) (hok:z1x (.coolB b0 i0 id) st):Rel K base n (z5b (.coolB b0 i0 id) st) a w:=by
 obtain⟨g,hI,hS,hO,h⟩:=hR
 obtain⟨h5,h6,hb5,hmid,henv,hbox⟩:=hok
 cases hgb:st.getB b0 with
 |none=>rw[hgb] at hmid;exact hmid.elim
 |some bs=>
 rw[hgb] at hmid
 obtain⟨hilt,hbv,hnr⟩:=hmid
 obtain⟨e,m,c,l,hget,hnc,hl,hll,hmf⟩:=z59a hbv
 have hgi:bs[i0]? =some (.bv id e 0 m c):=by
  rw[List.getElem?_eq_getElem hilt]
  rw[List.getD_eq_getElem?_getD,List.getElem?_eq_getElem hilt] at hget
  exact congrArg some hget
 obtain⟨bb,kb1,kb2,kb3⟩:=hI.bxok b0 bs hgb
 obtain⟨⟨v,hvc,hrv⟩,hfzv⟩:=kb3 i0 _ hgi
 obtain⟨b,g',hmu,hg',⟨hk,rep⟩,hown,mkI⟩:=z1wa hI h5 h6 hl hnc hll hmf (.cell b0 i0) hrv
 have hrun:z5b (.coolB b0 i0 id) st={st with box:=(b0,some (bs.set i0 (.sl (.own e) none m (l.take (m*e)))))::(id,none)::st.box}:=by
  simp only[z5b,hgb,hget,hl,Option.getD_some]
 rw[hrun]
 have hne:b0≠id:=by omega
 have hgetB:∀j,({st with box:=(b0,some (bs.set i0 (.sl (.own e) none m (l.take (m*e)))))::(id,none)::st.box}:ASt).getB j=if j=b0 then some (bs.set i0 (.sl (.own e) none m (l.take (m*e)))) else if j=id then none else st.getB j:=fun j=>by
  simp only[ASt.getB,lk]
  split
  ·rfl
  ·split<;>rfl
 have hI':=mkI ({st with box:=(b0,some (bs.set i0 (.sl (.own e) none m (l.take (m*e)))))::(id,none)::st.box}:ASt).getB (by rw[hgetB,if_neg (by omega),if_pos rfl]) (fun j hj=>by rw[hgetB,if_neg (by omega),if_neg (by omega)])
  (fun j hj=>by
   rw[hgetB]
   by_cases hjb:j=b0
   ·subst hjb;rw[if_pos rfl,hgb];rfl
   ·rw[if_neg hjb,if_neg hj]) (fun j cs hj=>by
   rw[hgetB] at hj
   split at hj
   ·rename_i hjb
    subst hjb
    cases hj
    refine⟨bb,kb1,kb2,fun i d hi=> ?_⟩
    have hi0:=hi
    rw[List.getElem?_set] at hi
    split at hi
    ·rename_i he
     subst he
     first|(rw[if_pos hilt] at hi;cases hi)|cases hi
     exact⟨⟨v,hvc,hown⟩,hfzv⟩
    ·rename_i hne'
     obtain⟨⟨y,h4,h5'⟩,h6'⟩:=kb3 i d hi
     refine⟨⟨y,h4,rep (fun hr=>hnr (z1N (List.mem_of_getElem? (i:=i) (by rw[List.getElem?_set,if_neg hne'];exact hi)) hr)) h5'⟩,h6'⟩
   ·rename_i hjb
    split at hj
    ·cases hj
    ·rename_i hjid
     obtain⟨b2,q1,q2,q3⟩:=hI.bxok j cs hj
     refine⟨b2,q1,q2,fun i d hi=> ?_⟩
     obtain⟨⟨y,h4,h5'⟩,h6'⟩:=q3 i d hi
     refine⟨⟨y,h4,rep (fun hr=> ?_) h5'⟩,h6'⟩
     rcases hbox _ (z0da hj) cs rfl with h|h|h
     ·exact hjid h
     ·exact hjb h
     ·exact h (z1N (z1l hi) hr))
 refine⟨g',hI',fun t=> ?_,hO,h⟩
 have hgt:({st with box:=(b0,some (bs.set i0 (.sl (.own e) none m (l.take (m*e)))))::(id,none)::st.box}:ASt).get t=st.get t:=rfl
 rw[hgt]
 cases hlt:lk st.env t with
 |some d=>
  have h1:=hS t
  have hd:st.get t=d:=by unfold ASt.get;rw[hlt]
  rw[hd] at h1⊢
  exact rep (henv _ (z6L hlt)) h1
 |none=>
  have hd:st.get t=dem ((lk st.org t).getD .undef):=by unfold ASt.get;rw[hlt]
  rw[hd]
  cases hs:lk st.org t with
  |none=>simp[Abs.dem,Rep]
  |some d=>exact z2c.dem (g:=g') _ (z2c.mono (z9t hI') d _ (hO t d hs))
theorem z2sb (s id:Nat) (hR:Rel K base n st a w) (hok:z1x (.cool s id) st):Rel K base n (z5b (.cool s id) st) a w:=by
 obtain⟨g,hI,hS,hO,h⟩:=hR
 obtain⟨h5,h6,hbv,henv,hbox⟩:=hok
 obtain⟨e,m,c,l,hget,hnc,hl,hll,hmf⟩:=z59a hbv
 have hrv:=hS s
 rw[hget] at hrv
 obtain⟨b,g',hmu,hg',⟨hk,rep⟩,hown,mkI⟩:=z1wa hI h5 h6 hl hnc hll hmf (.slot s) hrv
 have hrun:z5b (.cool s id) st={st with env:=(s,.sl (.own e) none m (l.take (m*e)))::st.env,box:=(id,none)::st.box}:=by
  simp only[z5b,hget,hl,Option.getD_some]
 rw[hrun]
 have hgetB:∀j,({st with env:=(s,z2a.sl (.own e) none m (l.take (m*e)))::st.env,box:=(id,none)::st.box}:ASt).getB j=if j=id then none else st.getB j:=fun j=>by
  simp only[ASt.getB,lk]
  split<;>rfl
 have hI':=mkI ({st with env:=(s,z2a.sl (.own e) none m (l.take (m*e)))::st.env,box:=(id,none)::st.box}:ASt).getB (by rw[hgetB,if_pos rfl]) (fun j hj=>by rw[hgetB,if_neg (by omega)])
  (fun j hj=>by rw[hgetB,if_neg hj]) (fun j cs hj=>by
   rw[hgetB] at hj
   split at hj
   ·cases hj
   ·rename_i hjid
    obtain⟨b2,q1,q2,q3⟩:=hI.bxok j cs hj
    refine⟨b2,q1,q2,fun i d hi=> ?_⟩
    obtain⟨⟨y,h4,h5'⟩,h6'⟩:=q3 i d hi
    refine⟨⟨y,h4,rep (fun hr=> ?_) h5'⟩,h6'⟩
    rcases hbox _ (z0da hj) cs rfl with h|h
    ·exact hjid h
    ·exact h (z1N (z1l hi) hr))
 refine⟨g',hI',fun t=> ?_,hO,h⟩
 by_cases ht:t=s
 ·subst ht
  have hgt:({st with env:=(t,z2a.sl (.own e) none m (l.take (m*e)))::st.env,box:=(id,none)::st.box}:ASt).get t= .sl (.own e) none m (l.take (m*e)):=by
   simp[ASt.get,lk]
  rw[hgt]
  exact hown
 ·have hgt:({st with env:=(s,z2a.sl (.own e) none m (l.take (m*e)))::st.env,box:=(id,none)::st.box}:ASt).get t=st.get t:=by
   simp only[ASt.get,lk,if_neg ht]
  rw[hgt]
  cases hlt:lk st.env t with
  |some d=>
   have h1:=hS t
   have hd:st.get t=d:=by unfold ASt.get;rw[hlt]
   rw[hd] at h1⊢
   exact rep ((henv _ (z6L hlt)).resolve_left ht) h1
  |none=>
   have hd:st.get t=dem ((lk st.org t).getD .undef):=by unfold ASt.get;rw[hlt]
   rw[hd]
   cases hs:lk st.org t with
   |none=>simp[Abs.dem,Rep]
   |some d=>exact z2c.dem (g:=g') _ (z2c.mono (z9t hI') d _ (hO t d hs))
theorem z2pa (gh:z2y) (hF:z5ga K base) (hR:Rel K base n st a w) (hok:z1x gh st):∃base',z5K K base base'∧z5ga K base'∧Rel K base' n (z5b gh st) a w:=by
 cases gh with
 |thaw s id=>exact⟨base,z5K.refl _ _,hF,z6jb s id hF hR hok⟩
 |thawB b i id=>exact⟨base,z5K.refl _ _,hF,z3bb b i id hF hR hok⟩
 |rebase ks=>exact z9Ya ks hR hok
 |cool s id=>exact⟨base,z5K.refl _ _,hF,z2sb s id hR hok⟩
 |coolB b i id=>exact⟨base,z5K.refl _ _,hF,z9cb b i id hR hok⟩
 |unorg s=>exact⟨base,z5K.refl _ _,hF,z3x _ rfl hR hok⟩
 |hideB b i=>exact⟨base,z5K.refl _ _,hF,z3x _ rfl hR hok⟩
 |reB b i o=>exact⟨base,z5K.refl _ _,hF,z3x _ rfl hR hok⟩
 |keep l=>exact⟨base,z5K.refl _ _,hF,z3x _ rfl hR hok⟩
 |drop ids=>exact⟨base,z5K.refl _ _,hF,z3x _ rfl hR hok⟩
 |freeze ids=>exact⟨base,z5K.refl _ _,hF,z3x _ rfl hR hok⟩
 |norm ids=>exact⟨base,z5K.refl _ _,hF,z3x _ rfl hR hok⟩
theorem z5Ia:∀(gs:List z2y) {base:z8s} {st:ASt},z5ga K base→Rel K base n st a w→z6hb gs st→∃base',z5K K base base'∧z5ga K base'∧Rel K base' n (z9ka gs st) a w
 |[],base,_,hF,hR,_=>⟨base,z5K.refl _ _,hF,hR⟩
 |g::gs,base,st,hF,hR,hok=>by
  obtain⟨b1,e1,f1,r1⟩:=z2pa g hF hR hok.1
  obtain⟨b2,e2,f2,r2⟩:=z5Ia gs f1 r1 hok.2
  exact⟨b2,e1.trans e2,f2,r2⟩
end
end Go.Abs
end

section
set_option linter.unusedVariables false
namespace Go.Abs

mutual
def toV:z2a→Value
 | .lit v=>v
 | .agg cs=> .agg (z0ca cs).toArray
 | .tup cs=> .tuple (z0ca cs).toArray
 |_=>undef
def z0ca:List z2a→List Value
 |[]=>[]
 |c::cs=>toV c::z0ca cs
end
mutual
theorem z3ia {K:Con} {g:Gh} {w:World}:∀(c:z2a) (l:Option Loc),z2b c=true→Rep K g w l c (toV c)
 | .lit v,_,_=>by simp[Rep,toV]
 | .agg cs,_,h=>by
  simp only[z2b] at h
  simp only[Rep,toV]
  exact⟨_,rfl,by simpa using z1ta cs h⟩
 | .tup cs,_,h=>by
  simp only[z2b] at h
  simp only[Rep,toV]
  exact⟨_,rfl,by simpa using z1ta cs h⟩
 | .undef,_,h=>by simp[z2b] at h
 | .sl _ _ _ _,_,h=>by simp[z2b] at h
 | .bp _ _,_,h=>by simp[z2b] at h
 | .bv _ _ _ _ _,_,h=>by simp[z2b] at h
 | .ep _,_,h=>by simp[z2b] at h
 | .otup _ _ _ _ _,_,h=>by simp[z2b] at h
 | .oagg _ _ _ _ _ _,_,h=>by simp[z2b] at h
 | .fn _ _ _,_,h=>by simp[z2b] at h
theorem z1ta {K:Con} {g:Gh} {w:World}:∀(cs:List z2a),z1b cs=true→z8c K g w cs (z0ca cs)
 |[],_=>by simp[z8c,z0ca]
 |c::cs,h=>by
  simp only[z1b,Bool.and_eq_true] at h
  simp only[z8c,z0ca]
  exact⟨_,_,rfl,z3ia c none h.1,z1ta cs h.2⟩
end
theorem z3ua:∀cs,(z0ca cs).length=cs.length
 |[]=>rfl
 |_::cs=>by simp[z0ca,z3ua cs]
theorem z8Sa:∀(cs:List z2a) (i:Nat),(z0ca cs)[i]? =(cs[i]?).map toV
 |[],i=>by simp[z0ca]
 |c::cs,0=>by simp[z0ca]
 |c::cs,i+1=>by simp[z0ca,z8Sa cs i]

mutual
theorem z8Y {K:Con} {g:Gh} {w:World}:∀(c:z2a) (v:Value) (l:Option Loc),z2b c=true→Rep K g w l c v→v=toV c
 | .lit x,v,_,_,h=>by simpa[Rep,toV] using h
 | .agg cs,v,_,hm,h=>by
  simp only[z2b] at hm
  simp only[Rep] at h
  obtain⟨a,rfl,h⟩:=h
  simp only[toV,Value.agg.injEq]
  rw[←z2S cs _ hm h]
 | .tup cs,v,_,hm,h=>by
  simp only[z2b] at hm
  simp only[Rep] at h
  obtain⟨a,rfl,h⟩:=h
  simp only[toV,Value.tuple.injEq]
  rw[←z2S cs _ hm h]
 | .undef,_,_,h,_=>by simp[z2b] at h
 | .sl _ _ _ _,_,_,h,_=>by simp[z2b] at h
 | .bp _ _,_,_,h,_=>by simp[z2b] at h
 | .bv _ _ _ _ _,_,_,h,_=>by simp[z2b] at h
 | .ep _,_,_,h,_=>by simp[z2b] at h
 | .otup _ _ _ _ _,_,_,h,_=>by simp[z2b] at h
 | .oagg _ _ _ _ _ _,_,_,h,_=>by simp[z2b] at h
 | .fn _ _ _,_,_,h,_=>by simp[z2b] at h
theorem z2S {K:Con} {g:Gh} {w:World}:∀(cs:List z2a) (vs:List Value),z1b cs=true→z8c K g w cs vs→vs=z0ca cs
 |[],vs,_,h=>by simpa[z8c,z0ca] using h
 |c::cs,vs,hm,h=>by
  simp only[z1b,Bool.and_eq_true] at hm
  simp only[z8c] at h
  obtain⟨x,xs,rfl,h1,h2⟩:=h
  rw[z0ca,←z8Y c x none hm.1 h1,←z2S cs xs hm.2 h2]
end

structure z5Ea (K:Cx) (S:Nat→Nat) (el:Nat→Option (List z2a)) (l:Nat) (J:Nat→(Nat→Prop)→World→Prop) (Jx:(Nat→Prop)→World→Prop) (N:Nat) (O0:Nat→Prop) (w:World):Prop where
 start:J 0 O0 w
 bound:∀i O A,J i O A→i≤N
 stab:∀i (O O':Nat→Prop) A B,J i O A→Fr A.heap.size O A B→(∀b,O' b→(O b∨A.heap.size≤b)∧b<B.heap.size)→J i O' B
 stabx:∀(O O':Nat→Prop) A B,Jx O A→Fr A.heap.size O A B→(∀b,O' b→(O b∨A.heap.size≤b)∧b<B.heap.size)→Jx O' B
 round:∀i O A xs q,J i O A→el i=some xs→YieldAt Fence.wide q K.P l (z0ca xs).toArray A fun e B=>
  z7g S w S B∧(∀b,O b→B.heap[b]? =A.heap[b]?)∧A.heap.size≤B.heap.size∧B.os=A.os∧B.tape=A.tape∧B.output=A.output∧
   ((e= .returned (.bool true)∧J (i+1) O B)∨(e= .returned (.bool false)∧Jx O B))

structure z5Ab (K:Cx) (S:Nat→Nat) (w:World) (lv:List Nat) (B:Nat→Option Nat) (y:List z2a) (vy:List Value):Prop where
 len:y.length=vy.length
 at':∀(i:Nat) d v,y[i]? =some d→vy[i]? =some v→if i∈lv then∃b cs,B i=some b∧d= .ep cs∧v= .pointer (some ⟨b,0,none⟩)∧S b=0∧b<w.heap.size∧z1b cs=true∧∀(j:Nat) e,cs[j]? =some e→w.cell? ⟨b,j,none⟩=some (toV e)∧w.frozen? ⟨b,j,none⟩=false else z2c K.toCon S w d v
 inj:∀i j b,B i=some b→B j=some b→i=j
 dom:∀i b,B i=some b→i∈lv
 lt:∀i∈lv,i<y.length

def z0W (K:Cx) (f:Nat) (c:ItC):Prop:=
 z4Z K.P (K.nu f)∧∀(S:Nat→Nat) (w:World) (x y:List z2a) (vx vy:List Value) (B:Nat→Option Nat),(∀n∈K.N.gs,z1d K.toCon S w (K.E.T n) (K.N.gnum n) 0)→z5c K.toCon S w x vx→z5Ab K S w c.lv B y vy→c.pre x y→
  ∀l J Jx N,z5Ea K S (c.el x y) l J Jx N (fun b=>∃i,B i=some b) w→
   Calls K.P (K.nu f) (vx++Value.func (.yield l) #[] #[]::vy).toArray w fun e B'=>∃v,e= .returned v∧∃O,(∀b,(∃i,B i=some b)→O b)∧((∃i,c.el x y i=none∧J i O B')∨Jx O B')

section
variable {K : Cx} {base : z8s} {n : Nat} {st : ASt} {a : Act} {w : World}

structure z1La (K:Cx) (base:z8s) (st:ASt) (ks:List Nat) (a:Act) (l D:Nat) (S0:Nat→Nat) (w0 w1:World) (bx:List (Nat×Option (List z2a))) (O:Nat→Prop) (g:Gh) (A:World):Prop where
 inv:Inv K base g A (ASt.getB {org:=st.org,env:=z8r st ks,box:=bx})
 slots:z7d K g A (ASt.get {org:=st.org,env:=z8r st ks,box:=bx}) a
 apart:∀b,O b∨b=l∨b=D→z5B g b∧(base.w0.heap.size≤b∨base.W b)∧b<A.heap.size
 noL:¬O l
 noD:¬O D
 blkD:A.heap[D]? =some (.deferred (some []))
 kp:z7g S0 w1 g.S A

theorem z0Ja (st:ASt) (ks:List Nat) (bx:List (Nat×Option (List z2a))) (s:Nat):ASt.get {org:=st.org,env:=z8r st ks,box:=bx} s=if s∈ks then dem (st.get s) else dem ((lk st.org s).getD .undef):=by
 show(match lk (z8r st ks) s with|some d=>d|none=>_)=_
 rw[show lk (z8r st ks) s=if s∈ks then some (dem (st.get s)) else none from z9w (fun s=>dem (st.get s)) s ks]
 by_cases hs:s∈ks<;>simp[hs]

theorem z8ia {g:Gh} {w:World} {ks:List Nat} {bx:List (Nat×Option (List z2a))} (h:∀s∈ks,Rep K.toCon g w none (dem (st.get s)) (a.tmps.getD s undef)) (ho:∀s d,lk st.org s=some d→z2c K.toCon g.S w d (a.tmps.getD s undef)):
  z7d K g w (ASt.get {org:=st.org,env:=z8r st ks,box:=bx}) a:=fun s=>by
 rw[z0Ja]
 have hd:∀d:z2a,z6g (dem d)=false:=z0E
 split
 ·rename_i hs
  exact z1K _ (hd _) (h s hs)
 ·cases hl:lk st.org s with
  |none=>simp[Abs.dem,Rep]
  |some d=>exact z2c.dem (g:=g) _ (ho s d hl)

theorem z96a {ps:List Tmp}:∀{vs:List Value} {tmps:Array Value},ps.Nodup→ps.length=vs.length→(∀p∈ps,p<tmps.size)→
  (((ps.zip vs).foldl (fun t (x:Tmp×Value)=>t.setIfInBounds x.1 x.2) tmps).size=tmps.size∧
   (∀s,s∉ps→((ps.zip vs).foldl (fun t (x:Tmp×Value)=>t.setIfInBounds x.1 x.2) tmps).getD s undef=tmps.getD s undef)∧
   ∀(i:Nat) p v,ps[i]? =some p→vs[i]? =some v→((ps.zip vs).foldl (fun t (x:Tmp×Value)=>t.setIfInBounds x.1 x.2) tmps).getD p undef=v):=by
 induction ps with
 |nil=>intro vs tmps _ _ _;simp
 |cons p ps ih=>
  intro vs tmps hn hl hlt
  cases vs with
  |nil=>simp at hl
  |cons v vs=>
   rw[List.nodup_cons] at hn
   obtain⟨h1,h2,h3⟩:=ih (vs:=vs) (tmps:=tmps.setIfInBounds p v) hn.2 (by simpa using hl) (fun q hq=>by simp;exact hlt q (by simp[hq]))
   simp only[List.zip_cons_cons,List.foldl_cons]
   refine⟨by rw[h1];simp,fun s hs=> ?_,fun i q u hi hu=> ?_⟩
   ·simp only[List.mem_cons,not_or] at hs
    rw[h2 s hs.2,Array.getD_eq_getD_getElem?,Array.getElem?_setIfInBounds,if_neg (fun e=>hs.1 e.symm),←Array.getD_eq_getD_getElem?]
   ·cases i with
    |zero=>
     simp at hi hu
     subst hi hu
     rw[h2 p hn.1,Array.getD_eq_getD_getElem?,Array.getElem?_setIfInBounds]
     simp[hlt p (by simp)]
    |succ i=>exact h3 i q u (by simpa using hi) (by simpa using hu)

theorem z2Ja {ps:List Nat} {xs:List z2a} {s:Nat} (h:s∉ps):lk (ps.zip xs) s=none:=by
 induction ps generalizing xs with
 |nil=>simp[lk]
 |cons p ps ih=>
  cases xs with
  |nil=>simp[lk]
  |cons x xs=>
   simp only[List.mem_cons,not_or] at h
   simp only[List.zip_cons_cons,lk,if_neg h.1]
   exact ih h.2
theorem z0ka {ps:List Nat}:∀{xs:List z2a} {s:Nat},ps.length=xs.length→s∈ps→∃(i:Nat) (x:z2a),ps[i]? =some s∧xs[i]? =some x∧lk (ps.zip xs) s=some x:=by
 induction ps with
 |nil=>intro xs s _ h;cases h
 |cons p ps ih=>
  intro xs s hl h
  cases xs with
  |nil=>simp at hl
  |cons x xs=>
   simp only[List.zip_cons_cons,lk]
   by_cases e:s=p
   ·rw[if_pos e];exact⟨0,x,by simp[e],by simp,rfl⟩
   ·rw[if_neg e]
    obtain⟨i,y,h1,h2,h3⟩:=ih (xs:=xs) (by simpa using hl) ((List.mem_cons.1 h).resolve_left e)
    exact⟨i+1,y,by simpa using h1,by simpa using h2,h3⟩

theorem z7db {ks ps:List Nat} {qs:Array Tmp} {xs:List z2a} {bx:List (Nat×Option (List z2a))} {O:Nat→Prop} {g:Gh} {A:World} {l D:Nat} (hps:qs.toList=ps) (hnd:ps.Nodup) (hlt:∀p∈ps,p<n) (hsz:a.tmps.size=n)
  (hlen:xs.length=ps.length) (hmf:z1b xs=true) (hpk:∀p∈ps,p∉ks∧lk st.org p=none) (hO:z4db K base st a) {S0:Nat→Nat} {w1:World} (h:z1La K base st ks a l D S0 w w1 bx O g A):
  Rel K ⟨A,Wr g,g.S,[]⟩ n (z8ka st ks ps (fun s=>a.tmps.getD s undef) xs bx) {tmps:=(qs.zip (z0ca xs).toArray).foldl (fun t (x:Tmp×Value)=>t.setIfInBounds x.1 x.2) a.tmps,defers:=[]} A:=by
 have e1:(qs.zip (z0ca xs).toArray).foldl (fun t (x:Tmp×Value)=>t.setIfInBounds x.1 x.2) a.tmps=(ps.zip (z0ca xs)).foldl (fun t (x:Tmp×Value)=>t.setIfInBounds x.1 x.2) a.tmps:=by
  rw[←hps,←Array.foldl_toList,Array.toList_zip]
 obtain⟨f1,f2,f3⟩:=z96a (ps:=ps) (vs:=z0ca xs) (tmps:=a.tmps) hnd (by rw[z3ua,hlen]) (fun p hp=>by rw[hsz];exact hlt p hp)
 rw[e1]
 refine⟨g,rebase h.inv,fun s=> ?_,fun s d hd=> ?_,rfl,by simp only;rw[f1,hsz]⟩
 ·have hg:ASt.get (z8ka st ks ps (fun s=>a.tmps.getD s undef) xs bx) s=if s∈ps then(lk (ps.zip xs) s).getD .undef else if s∈ks then dem (st.get s) else dem ((lk st.org s).getD .undef):=by
   show(match lk (ps.zip xs++z8r st ks) s with|some d=>d|none=>dem ((lk ((ks.map fun s=>(s,z2a.lit (a.tmps.getD s undef)))++st.org) s).getD .undef))=_
   rw[z5l,z5l,show lk (z8r st ks) s=if s∈ks then some (dem (st.get s)) else none from z9w (fun s=>dem (st.get s)) s ks,
    show lk (ks.map fun s=>(s,z2a.lit (a.tmps.getD s undef))) s=if s∈ks then some (z2a.lit (a.tmps.getD s undef)) else none from z9w (fun s=>z2a.lit (a.tmps.getD s undef)) s ks]
   by_cases hp:s∈ps
   ·obtain⟨i,x,_,_,e⟩:=z0ka hlen.symm hp
    simp[e,hp]
   ·rw[z2Ja hp]
    by_cases hk:s∈ks<;>simp[hp,hk]
  rw[hg]
  by_cases hp:s∈ps
  ·obtain⟨i,x,h1,h2,e⟩:=z0ka hlen.symm hp
   rw[if_pos hp,e,Option.getD_some]
   have hv:(z0ca xs)[i]? =some (toV x):=by rw[z8Sa,h2];rfl
   rw[f3 i s _ h1 hv]
   have hmx:∀(cs:List z2a) (i:Nat) (c:z2a),z1b cs=true→cs[i]? =some c→z2b c=true:=fun cs=>by
    induction cs with
    |nil=>intro i c _ h;simp at h
    |cons c cs ih=>
     intro i d hm hd
     simp only[z1b,Bool.and_eq_true] at hm
     cases i with
     |zero=>simp at hd;subst hd;exact hm.1
     |succ i=>exact ih i d hm.2 (by simpa using hd)
   exact z3ia x _ (hmx xs i x hmf h2)
  ·rw[if_neg hp,f2 s hp]
   have:=h.slots s
   rw[z0Ja] at this
   exact this
 ·show z2c K.toCon _ A d _
  have hd':lk ((ks.map fun s=>(s,z2a.lit (a.tmps.getD s undef)))++st.org) s=some d:=hd
  rw[z5l,show lk (ks.map fun s=>(s,z2a.lit (a.tmps.getD s undef))) s=if s∈ks then some (z2a.lit (a.tmps.getD s undef)) else none from z9w (fun s=>z2a.lit (a.tmps.getD s undef)) s ks] at hd'
  by_cases hk:s∈ks
  ·rw[if_pos hk] at hd'
   simp only[Option.some_or,Option.some.injEq] at hd'
   subst hd'
   have hp:s∉ps:=fun hp=>(hpk s hp).1 hk
   simp only[z2c]
   rw[f2 s hp]
  ·rw[if_neg hk] at hd'
   simp only[Option.none_or] at hd'
   have hp:s∉ps:=fun hp=>by have:=(hpk s hp).2;rw[hd'] at this;cases this
   rw[f2 s hp]
   exact z2c.mono (z9Q h.inv) d _ (hO s d hd')

def recL (fn:FuncId) (a:Act) (qs:Array Tmp) (p q:Code) (D:Nat) (s:LoopState) (pe:Option Code):Loop:={state:=s,pending:=pe,fn,tmps:=a.tmps,params:=qs,assign:=p,body:=q,defers:=D}

theorem z45 (A:World) (l:Nat) (o:Obj):Fr A.heap.size (fun b=>b=l) A (A.putObj l o):=by
 refine⟨rfl,rfl,rfl,by simp[World.putObj],fun k _ hk=> ?_⟩
 exact World.putObj_heap_other hk

theorem z00a {P:Program} {ev:Operand→Value} {G:Operand} {f:FuncId} {first caps:Array Value} (h:ev G= .func (.func f) first caps) (hc:∀v,ev (.const v)=v) (l:Nat) (w:World):
  (resolve ev (rangeCall G l) 0).run P w= .ok {target:= .fn (.func f) caps,args:=first++ #[.func (.yield l) #[] #[]]} w:=by
 simp only[resolve,h]
 simp[go_sem,hc]

theorem z4Xa (va vc:Array Value) (y:Value):(va.toList++y::vc.toList).toArray=va++ #[y]++vc:=by
 apply Array.toList_inj.1;simp

def z83 (g:Gh) (ids:List Nat):Gh:={g with mu:=fun id=>if id∈ids then none else g.mu id}
theorem z6Aa {g:Gh} {ids:List Nat} {d:z2a} {v:Value} {l:Option Loc} (hd:∀id∈z2o d,id∉ids) (hr:Rep K.toCon g w l d v):Rep K.toCon (z83 g ids) w l d v:=
 Rep.mono (g:=g) (g':=z83 g ids) (z7g.refl g.S w) d v l l (fun id hid b hb=>by simp only[z83,if_neg (hd id hid)];exact hb) (fun m hm=>⟨m,hm,fun b hb=>⟨hb,rfl,fun _ _ h=>h⟩⟩) hr
theorem z94a {g:Gh} {ids:List Nat} {o e:List (Nat×z2a)} (hI:Inv K base g w st.getB) (h2:∀p∈st.box,p.1∈ids∨∀cs,p.2=some cs→∀id∈z2l cs,id∉ids):
  Inv K base (z83 g ids) w (ASt.getB {org:=o,env:=e,box:=rmB ids st.box}):=by
 have hgetB:∀id,ASt.getB {org:=o,env:=e,box:=rmB ids st.box} id=if id∈ids then none else st.getB id:=fun id=>by
  simp only[ASt.getB,rmB]
  rw[z3w (fun k=> !ids.contains k)]
  by_cases hi:id∈ids
  ·simp[hi]
  ·simp[hi]
 refine⟨hI.fr,hI.sS,fun i j b hi hj=> ?_,fun id cs hc=> ?_,fun id hid=> ?_,fun id b hb=> ?_,hI.owW,hI.glob,hI.kp,fun id b cs ho hb hc hd=> ?_⟩
 ·simp only[z83] at hi hj
  split at hi
  ·cases hi
  ·split at hj
   ·cases hj
   ·exact hI.inj i j b hi hj
 ·rw[hgetB] at hc
  split at hc
  ·cases hc
  ·rename_i hni
   obtain⟨b,k1,k2,k3⟩:=hI.bxok id cs hc
   refine⟨b,by simp only[z83,if_neg hni];exact k1,k2,fun i d hi=> ?_⟩
   obtain⟨⟨x,h4,h5⟩,h6⟩:=k3 i d hi
   have hbox:∃c,lk st.box id=some (some c)∧c=cs:=by
    simp only[ASt.getB] at hc
    cases hl:lk st.box id with
    |none=>rw[hl] at hc;cases hc
    |some o=>rw[hl] at hc;simp only[Option.join_some] at hc;exact⟨cs,by rw[hc],rfl⟩
   obtain⟨c,hl,rfl⟩:=hbox
   have:=(h2 _ (z6L hl)).resolve_left hni c rfl
   exact⟨⟨x,h4,z6Aa (fun id' hid'=>this id' (z1N (z1l hi) hid')) h5⟩,h6⟩
 ·rw[hgetB] at hid
  simp only[z83]
  split
  ·rfl
  ·rename_i hni;rw[if_neg hni] at hid;exact hI.nobx id hid
 ·simp only[z83] at hb
  split at hb
  ·cases hb
  ·exact hI.muW id b hb
 ·simp only[z83] at hb
  rw[hgetB] at hc
  split at hc
  ·cases hc
  ·rename_i hni
   rw[if_neg hni] at hb
   exact hI.obok id b cs ho hb hc hd
theorem z0za {lv:List Nat} {y:List z2a} {id:Nat}:id∈z23 lv y↔∃i∈lv,y[i]? =some (.bp id 0):=by
 simp only[z23,List.mem_filterMap]
 constructor
 ·rintro⟨i,hi,h⟩
  refine⟨i,hi,?_⟩
  split at h
  ·rename_i e;rw[e];cases h;rfl
  ·cases h
 ·rintro⟨i,hi,h⟩
  exact⟨i,hi,by simp[h]⟩
def lvB (g:Gh) (lv:List Nat) (y:List z2a) (i:Nat):Option Nat:=if i∈lv then(match y[i]? with|some (.bp id 0)=>g.mu id|_=>none) else none
theorem z4da {g:Gh} {lv:List Nat} {y:List z2a} {i b:Nat} (h:lvB g lv y i=some b):i∈lv∧∃id,y[i]? =some (.bp id 0)∧g.mu id=some b:=by
 unfold lvB at h
 split at h
 ·rename_i hi
  split at h
  ·rename_i id e
   exact⟨hi,id,e,h⟩
  ·cases h
 ·cases h
theorem z7Tb {g:Gh} {ks lv:List Nat} {x y:List z2a} {vy:List Value} (hI:Inv K base g w st.getB) (hok:z9rb st ks lv x y) (hr:z8c K.toCon g w y vy):z5Ab K g.S w lv (lvB g lv y) (epY st.getB lv y) vy:=by
 obtain⟨hp,h1,h2,_,_⟩:=hok
 have hl:(epY st.getB lv y).length=y.length:=by simp[epY]
 refine⟨by rw[hl];exact hr.len,fun i d v hd hv=> ?_,fun i j b hi hj=> ?_,fun i b hi=>(z4da hi).1,fun i hi=> ?_⟩
 ·rw[z9xb] at hd
  cases hy:y[i]? with
  |none=>rw[hy] at hd;cases hd
  |some d'=>
   rw[hy] at hd
   simp only[Option.map_some,Option.some.injEq] at hd
   obtain⟨v',hv',hrep⟩:=hr.get i d' hy
   rw[hv] at hv'
   cases hv'
   by_cases hi:i∈lv
   ·rw[if_pos hi]
    obtain⟨id,cs,e1,_,e2,e3⟩:=h1 i hi
    rw[hy] at e1
    cases e1
    rw[if_pos hi] at hd
    simp only[e2,Option.getD_some] at hd
    simp only[Rep] at hrep
    obtain⟨b,hb,rfl⟩:=hrep
    obtain⟨b',k1,k2,k3⟩:=hI.bxok id cs e2
    rw[hb] at k1
    cases k1
    refine⟨b,cs,by simp only[lvB,if_pos hi,hy];exact hb,hd.symm,rfl,k2,(hI.muW id b hb).2.1,e3,fun j e he=> ?_⟩
    obtain⟨⟨z,hz,hrz⟩,hf⟩:=k3 j e he
    have hme:z2b e=true:=by
     have:∀(cs:List z2a) (j:Nat),z1b cs=true→cs[j]? =some e→z2b e=true:=fun cs=>by
      induction cs with
      |nil=>intro j _ h;simp at h
      |cons c cs ih=>
       intro j hm hd
       simp only[z1b,Bool.and_eq_true] at hm
       cases j with
       |zero=>simp at hd;subst hd;exact hm.1
       |succ j=>exact ih j hm.2 (by simpa using hd)
     exact this cs j e3 he
    rw[←z8Y e z _ hme hrz]
    exact⟨hz,hf⟩
   ·rw[if_neg hi]
    rw[if_neg hi] at hd
    subst hd
    have hpu:z1f d'=true:=by
     have:=(z1i _).1 hp d' (List.mem_append_right _ (by
      have hh:(epY st.getB lv y)[i]? =some d':=by rw[z9xb,hy];simp[hi]
      exact List.mem_of_getElem? hh))
     exact this
    exact Rep.pure d' v none hpu hrep
 ·obtain⟨a1,id,a2,a3⟩:=z4da hi
  obtain⟨b1,jd,b2,b3⟩:=z4da hj
  have:=hI.inj id jd b a3 b3
  subst this
  exact h2 i a1 j b1 (by rw[a2,b2])
 ·obtain⟨id,cs,e1,_⟩:=h1 i hi
  rw[hl]
  exact(List.getElem?_eq_some_iff.1 e1).1
theorem z5Ab.keep {S S':Nat→Nat} {w':World} {lv:List Nat} {B:Nat→Option Nat} {y:List z2a} {vy:List Value} (hk:z7g S w S' w') (h0:∀i b,B i=some b→S' b=0) (hs:w.heap.size≤w'.heap.size) (hb:∀i b,B i=some b→w'.heap[b]? =w.heap[b]?) (h:z5Ab K S w lv B y vy):z5Ab K S' w' lv B y vy:=by
 refine⟨h.len,fun i d v hd hv=> ?_,h.inj,h.dom,h.lt⟩
 have:=h.at' i d v hd hv
 by_cases hi:i∈lv
 ·rw[if_pos hi] at this⊢
  obtain⟨b,cs,k1,k2,k3,_,k5,k6,k7⟩:=this
  refine⟨b,cs,k1,k2,k3,h0 i b k1,by omega,k6,fun j e he=> ?_⟩
  obtain⟨c1,c2⟩:=k7 j e he
  have hbk:=hb i b k1
  refine⟨?_,?_⟩
  ·rw[World.cell?_of_block (w:=w) (a:=⟨b,j,none⟩) hbk];exact c1
  ·simp only[World.frozen?,hbk] at c2⊢;exact c2
 ·rw[if_neg hi] at this⊢
  exact z2c.mono hk d v this

theorem z4lb (ids:List Nat) (st:ASt) (s:Nat):(z46 ids st).get s= .undef∨(z46 ids st).get s=st.get s:=by
 have e:lk (z46 ids st).env s=(lk st.env s).map fun d=>if(z2o d).any (ids.contains ·) then .undef else d:=z3oa (fun d=>if(z2o d).any (ids.contains ·) then z2a.undef else d) s st.env
 unfold ASt.get
 rw[e]
 cases lk st.env s with
 |none=>exact .inr rfl
 |some d=>
  simp only[Option.map_some]
  split
  ·exact .inl rfl
  ·exact .inr rfl
theorem z68a {ids:List Nat} {st:ASt} {s:Nat} (h:∀id∈z2o (st.get s),id∉ids):(z46 ids st).get s=st.get s:=by
 have e:lk (z46 ids st).env s=(lk st.env s).map fun d=>if(z2o d).any (ids.contains ·) then .undef else d:=z3oa (fun d=>if(z2o d).any (ids.contains ·) then z2a.undef else d) s st.env
 unfold ASt.get at h⊢
 rw[e]
 cases hl:lk st.env s with
 |none=>rfl
 |some d=>
  rw[hl] at h
  simp only[Option.map_some]
  rw[if_neg]
  simp only[List.any_eq_true,List.contains_eq_mem,decide_eq_true_eq,not_exists,not_and]
  exact h
def z0T (g gB:Gh) (ids:List Nat):Gh:={gB with mu:=fun id=>if id∈ids then g.mu id else gB.mu id}
theorem z7Ra {g gB:Gh} {ids:List Nat} (hn:∀id∈ids,gB.mu id=none) {d:z2a} {v:Value} {l:Option Loc} (hr:Rep K.toCon gB w l d v):Rep K.toCon (z0T g gB ids) w l d v:=
 Rep.mono (g:=gB) (g':=z0T g gB ids) (z7g.refl gB.S w) d v l l (fun id _ b hb=>by
  simp only[z0T]
  split
  ·rename_i h;rw[hn id h] at hb;cases hb
  ·exact hb) (fun m hm=>⟨m,hm,fun b hb=>⟨hb,rfl,fun _ _ h=>h⟩⟩) hr
theorem z2ub {g gB:Gh} {ids:List Nat} {o e o' e':List (Nat×z2a)} {bx:List (Nat×Option (List z2a))} (hI:Inv K base gB w (ASt.getB {org:=o,env:=e,box:=bx})) (hn:∀id∈ids,(lk bx id).join=none) (hlt:∀id∈ids,id<1000000)
  (hinj:∀i j b,g.mu i=some b→g.mu j=some b→i=j) (hap:∀id∈ids,∃b,g.mu id=some b∧z5B gB b∧(base.w0.heap.size≤b∨base.W b)∧b<w.heap.size):
  Inv K base (z0T g gB ids) w (ASt.getB {org:=o',env:=e',box:=bkB ids bx}):=by
 have hmn:∀id∈ids,gB.mu id=none:=fun id hid=>hI.nobx id (hn id hid)
 have hgetB:∀id,ASt.getB {org:=o',env:=e',box:=bkB ids bx} id=if id∈ids then some [] else ASt.getB {org:=o,env:=e,box:=bx} id:=fun id=>by
  simp only[ASt.getB,bkB,z5l]
  have:lk (ids.map fun id=>(id,(some []:Option (List z2a)))) id=if id∈ids then some (some []) else none:=by
   induction ids with
   |nil=>simp[lk]
   |cons t l ih=>
    simp only[List.map_cons,lk,List.mem_cons]
    by_cases h:id=t
    ·simp[h]
    ·rw[if_neg h,ih (fun i hi=>hn i (by simp[hi])) (fun i hi=>hlt i (by simp[hi])) (fun i hi=>hap i (by simp[hi])) (fun i hi=>hmn i (by simp[hi]))]
     simp[h]
  rw[this]
  by_cases h:id∈ids<;>simp[h]
 have rep:∀{d:z2a} {v:Value} {l:Option Loc},Rep K.toCon gB w l d v→Rep K.toCon (z0T g gB ids) w l d v:=fun hr=>z7Ra hmn hr
 refine⟨hI.fr,hI.sS,fun i j b hi hj=> ?_,fun id cs hc=> ?_,fun id hid=> ?_,fun id b hb=> ?_,hI.owW,hI.glob,hI.kp,fun id b cs ho hb hc hd=> ?_⟩
 ·simp only[z0T] at hi hj
  split at hi
  ·rename_i h1
   split at hj
   ·exact hinj i j b hi hj
   ·obtain⟨b',k1,k2,_⟩:=hap i h1
    rw[hi] at k1;cases k1
    exact absurd hj (k2.2.1 j)
  ·split at hj
   ·rename_i h2
    obtain⟨b',k1,k2,_⟩:=hap j h2
    rw[hj] at k1;cases k1
    exact absurd hi (k2.2.1 i)
   ·exact hI.inj i j b hi hj
 ·rw[hgetB] at hc
  split at hc
  ·rename_i h
   cases hc
   obtain⟨b,k1,k2,_⟩:=hap id h
   exact⟨b,by simp only[z0T,if_pos h];exact k1,k2.1,fun i d hi=>by simp at hi⟩
  ·rename_i h
   obtain⟨b,k1,k2,k3⟩:=hI.bxok id cs hc
   refine⟨b,by simp only[z0T,if_neg h];exact k1,k2,fun i d hi=> ?_⟩
   obtain⟨⟨x,h4,h5⟩,h6⟩:=k3 i d hi
   exact⟨⟨x,h4,rep h5⟩,h6⟩
 ·rw[hgetB] at hid
  split at hid
  ·cases hid
  ·rename_i h;simp only[z0T,if_neg h];exact hI.nobx id hid
 ·simp only[z0T] at hb
  split at hb
  ·rename_i h
   obtain⟨b',k1,k2,k3,k4⟩:=hap id h
   rw[hb] at k1;cases k1
   exact⟨k3,k4,k2.2.2⟩
  ·exact hI.muW id b hb
 ·simp only[z0T] at hb
  split at hb
  ·rename_i h
   have:=hlt id h
   omega
  ·rename_i h
   rw[hgetB,if_neg h] at hc
   exact hI.obok id b cs ho hb hc hd

set_option maxHeartbeats 1000000 in
theorem z6Ga {f:Nat} {t:Arg} {ks ps:List Nat} {as bd:z9a} {G:Operand} {qs:Array Tmp} {p q:Code} {Q:z4m→ASt→Prop} {m:Nat}
  (hg:z9i K G t=true) (hps:qs.toList=ps) (hlt:∀x∈ps,x<n) (hnd:ps.Nodup) (hV:z0W K f (K.E.I f))
  (hA:∀(l m':Nat) (base:z8s) (st:ASt) (a:Act) (w:World) (Q:z4m→ASt→Prop),awp K.E as Q st→Rel K base n st a w→p.wpIn (WF (some l)) m' K.P (z2ba K base n Q) a w)
  (hB:∀(l m':Nat) (base:z8s) (st:ASt) (a:Act) (w:World) (Q:z4m→ASt→Prop),awp K.E bd Q st→Rel K base n st a w→q.wpIn (WF (some l)) m' K.P (z2ba K base n Q) a w)
  (h:awp K.E (.range f t ks ps as bd) Q st) (hR:Rel K base n st a w):(Code.rangeFunc G qs p q).wpIn (WF none) m K.P (z2ba K base n Q) a w:=by
 simp only[awp] at h
 obtain⟨x,y,hx,hpure,hpre,hpk,N,I,hI0,hIb,hIdone,hIround⟩:=h
 obtain⟨g,hI,hS,hO,hd,hsz⟩:=hR
 have hrep:=z4b hI hS hg
 rw[hx] at hrep
 simp only[Rep] at hrep
 obtain⟨va,vc,hev,hr1,hr2⟩:=hrep
 have hpx:z4h x=true:=(z1i x).2 fun c hc=>(z1i _).1 hpure.1 c (by simp[hc])
 obtain⟨lv,hlv⟩:∃lv,lv=(K.E.I f).lv:=⟨_,rfl⟩
 obtain⟨ids,hids⟩:∃ids,ids=z23 lv y:=⟨_,rfl⟩
 have hyr:=z7Tb hI hpure hr2
 rw[←hlv] at hyr hpure hpre hI0 hIdone hIround
 rw[←hids] at hI0 hIdone hIround
 obtain⟨_,hlive,_,hksI,hbxI⟩:=hpure
 rw[←hids] at hksI hbxI
 obtain⟨stH,hstH⟩:∃stH,stH=z46 ids st:=⟨_,rfl⟩
 rw[←hstH] at hksI hIround
 have horgH:stH.org=st.org:=by rw[hstH];rfl
 obtain⟨B0,hB0⟩:∃B0,B0=lvB g lv y:=⟨_,rfl⟩
 rw[←hB0] at hyr
 have hB0s:∀i b,B0 i=some b→∃id∈ids,g.mu id=some b:=fun i b hb=>by
  rw[hB0] at hb
  obtain⟨k1,id,k2,k3⟩:=z4da hb
  exact⟨id,by rw[hids];exact z0za.2 ⟨i,k1,k2⟩,k3⟩
 obtain⟨g0,hg0⟩:∃g0,g0=z83 g ids:=⟨_,rfl⟩
 have hI00:Inv K base g0 w (ASt.getB {org:=stH.org,env:=z8r stH ks,box:=rmB ids st.box}):=by rw[hg0];exact z94a hI hbxI
 have hS00:∀s∈ks,Rep K.toCon g0 w (some (.slot s)) (stH.get s) (a.tmps.getD s undef):=fun s hs=>by
  rw[hg0]
  rcases z4lb ids st s with h1|h1
  ·rw[hstH,h1];simp[Rep]
  ·rcases hksI s hs with h2|h2
   ·rw[hstH,h1];exact z6Aa h2 (hS s)
   ·rw[h2.2];simp[Rep]
 have hOH:z4db K base stH a:=fun s d hs=>hO s d (by rw[←horgH];exact hs)
 refine wpIn_rangeFunc fun fn _=> ?_
 rw[z2tb]
 obtain⟨D,hD⟩:∃D,D=w.heap.size:=⟨_,rfl⟩
 obtain⟨l,hl⟩:∃l,l=D+1:=⟨_,rfl⟩
 obtain⟨rec,hrec⟩:∃rec,rec=recL fn a qs p q D:=⟨_,rfl⟩
 obtain⟨W1,hW1⟩:∃W1,(w.alloc (.deferred (some []))).alloc (.loop (rec .ready none))=W1:=⟨_,rfl⟩
 have hs1:(w.alloc (.deferred (some []))).heap.size=l:=by simp[hl,hD]
 have hsW:W1.heap.size=l+1:=by rw[←hW1];simp[hl,hD]
 have hlW:W1.heap[l]? =some (.loop (rec .ready none)):=by
  rw[←hW1,←hs1];exact World.alloc_heap_new _ _
 have hDW:W1.heap[D]? =some (.deferred (some [])):=by
  rw[←hW1,hD];exact(RowKit.Below.heap_alloc _ _ _ (by simp)).trans (World.alloc_heap_new w _)
 obtain⟨g1,hg1⟩:∃g1,g1=z4B (z4B g0 D 0 none) l 0 none:=⟨_,rfl⟩
 have hI1:Inv K base g1 W1 (ASt.getB {org:=stH.org,env:=z8r stH ks,box:=rmB ids st.box}):=by
  have k1:=z9L hI00 (.deferred (some [])) 0 none
  have k2:=z9L k1 (.loop (rec .ready none)) 0 none
  rw[hs1,←hD,hW1,←hg1] at k2
  exact k2
 have hx1:Ext g0 w g1 W1:=by
  have k1:=z9L hI00 (.deferred (some [])) 0 none
  have e1:=z1J hI00 (.deferred (some [])) 0 none
  have e2:=z1J k1 (.loop (rec .ready none)) 0 none
  rw[hs1,←hD,hW1,←hg1] at e2
  rw[←hD] at e1
  exact⟨e1.keeps.trans e2.keeps,fun id b hb=>e2.mu id b (e1.mu id b hb),fun m b hb=>by
   obtain⟨a1,a2,a3⟩:=e1.own m b hb
   obtain⟨b1,b2,b3⟩:=e2.own m b a1
   exact⟨b1,b2.trans a2,fun o n ht=>b3 o n (a3 o n ht)⟩⟩
 have hS1:∀s∈ks,Rep K.toCon g1 W1 (some (.slot s)) (stH.get s) (a.tmps.getD s undef):=fun s hs=>hx1.rep (hS00 s hs)
 have hfr1:base.w0.heap.size≤D:=by rw[hD];exact hI.fr.size
 have apD:z5B g1 D:=by
  refine⟨by rw[hg1];simp[z4B],fun id hi=> ?_,by rw[hg1];simp[z4B]⟩
  have:g0.mu id=some D:=by rw[hg1] at hi;exact hi
  have:=(hI00.muW id D this).2.1
  omega
 have apl:z5B g1 l:=by
  refine⟨by rw[hg1];simp[z4B],fun id hi=> ?_,by rw[hg1];simp[z4B]⟩
  have:g0.mu id=some l:=by rw[hg1] at hi;exact hi
  have:=(hI00.muW id l this).2.1
  omega
 -- what holds between the rounds
 let J:Nat→(Nat→Prop)→World→Prop:=fun i O A=>∃bx gA,I i bx∧z1La K base stH ks a l D g1.S w W1 bx O gA A∧A.heap[l]? =some (.loop (rec .ready none))
 let Jx:(Nat→Prop)→World→Prop:=fun O A=>∃bx gA e jc,(e=z4m.ret∧jc=Code.ret∨∃id,e= .exit id∧jc= .exit id)∧z4Ja st ks ids Q e bx∧z1La K base stH ks a l D g1.S w W1 bx O gA A∧A.heap[l]? =some (.loop (rec .done (some jc)))
 have outer_stab:∀bx gA (O O':Nat→Prop) A B,z1La K base stH ks a l D g1.S w W1 bx O gA A→Fr A.heap.size O A B→(∀b,O' b→(O b∨A.heap.size≤b)∧b<B.heap.size)→
   ∃gB,z1La K base stH ks a l D g1.S w W1 bx O' gB B∧B.heap[l]? =A.heap[l]? :=fun bx gA O O' A B ho hfr hO'=>by
  have hap:∀b,O b→z5B gA b∧(base.w0.heap.size≤b∨base.W b):=fun b hb=>⟨(ho.apart b (.inl hb)).1,(ho.apart b (.inl hb)).2.1⟩
  have hlA:=(ho.apart l (.inr (.inl rfl))).2.2
  have hDA:=(ho.apart D (.inr (.inr rfl))).2.2
  -- what the iterator laid is apart: its cells are stable nowhere
  let gB:Gh:={gA with S:=fun b=>if b<A.heap.size then gA.S b else 0}
  have hkA:z7g gA.S A gB.S A:=fun b i v hi hc=>by
   have:=World.block_lt_of_cell? A ⟨b,i,none⟩ hc
   exact⟨by simp only[gB,if_pos this];exact hi,hc⟩
  have repA:∀{d:z2a} {v:Value} {lo:Option Loc},Rep K.toCon gA A lo d v→Rep K.toCon gB A lo d v:=fun {d v lo} hr=>
   Rep.mono (g:=gA) (g':=gB) hkA d v lo lo (fun _ _ _ hb=>hb) (fun m hm=>⟨m,hm,fun b hb=>⟨hb,by simp only[gB,if_pos (ho.inv.owW b m hb).2],fun _ _ h=>h⟩⟩) hr
  have hIA:Inv K base gB A (ASt.getB {org:=stH.org,env:=z8r stH ks,box:=bx}):=by
   refine⟨ho.inv.fr,fun b hb hw=> ?_,ho.inv.inj,fun id cs hc=> ?_,ho.inv.nobx,ho.inv.muW,ho.inv.owW,fun n hn=>z1d.mono hkA _ _ _ (ho.inv.glob n hn),ho.inv.kp.trans hkA,ho.inv.obok⟩
   ·simp only[gB,if_pos (Nat.lt_of_lt_of_le hb ho.inv.fr.size)]
    exact ho.inv.sS b hb hw
   ·obtain⟨b,k1,k2,k3⟩:=ho.inv.bxok id cs hc
    refine⟨b,k1,by simp only[gB,if_pos (ho.inv.muW id b k1).2.1];exact k2,fun i d hi=> ?_⟩
    obtain⟨⟨v,hv,hr⟩,hz⟩:=k3 i d hi
    exact⟨⟨v,hv,repA hr⟩,hz⟩
  have hapB:∀b,z5B gA b→z5B gB b:=fun b hb=>⟨by simp only[gB];split;exact hb.1;rfl,hb.2.1,hb.2.2⟩
  have hap':∀b,O b→z5B gB b∧(base.w0.heap.size≤b∨base.W b):=fun b hb=>⟨hapB b (hap b hb).1,(hap b hb).2⟩
  have new:∀b,A.heap.size≤b→z5B gB b:=fun b hb=>by
   refine⟨by simp only[gB,if_neg (Nat.not_lt.2 hb)],fun id hi=> ?_,?_⟩
   ·have:=(ho.inv.muW id b hi).2.1;omega
   ·cases hlo:gA.ow b with
    |none=>rfl
    |some lo=>have:=(ho.inv.owW b lo hlo).2;omega
  have hlt':∀b lo,gB.ow b=some lo→b<A.heap.size:=fun b lo hb=>(ho.inv.owW b lo hb).2
  refine⟨gB,⟨z5Ca hIA hfr hap',fun s=>z0na hfr (fun b hb=>(hap' b hb).1) hlt' (repA (ho.slots s)),fun b hb=> ?_,fun hb=> ?_,fun hb=> ?_,?_,?_⟩,?_⟩
  ·rcases hb with hb|rfl|rfl
   ·obtain⟨h1,h2⟩:=hO' b hb
    rcases h1 with h1|h1
    ·exact⟨hapB b (ho.apart b (.inl h1)).1,(ho.apart b (.inl h1)).2.1,h2⟩
    ·exact⟨new b h1,.inl (Nat.le_trans ho.inv.fr.size h1),h2⟩
   ·exact⟨hapB _ (ho.apart _ (.inr (.inl rfl))).1,(ho.apart _ (.inr (.inl rfl))).2.1,Nat.lt_of_lt_of_le hlA hfr.size⟩
   ·exact⟨hapB _ (ho.apart _ (.inr (.inr rfl))).1,(ho.apart _ (.inr (.inr rfl))).2.1,Nat.lt_of_lt_of_le hDA hfr.size⟩
  ·rcases(hO' l hb).1 with h1|h1
   ·exact ho.noL h1
   ·omega
  ·rcases(hO' D hb).1 with h1|h1
   ·exact ho.noD h1
   ·omega
  ·rw[hfr.block D hDA ho.noD];exact ho.blkD
  ·exact(ho.kp.trans hkA).trans (z4Y hfr fun b hb=>(hap' b hb).1)
  ·exact hfr.block l hlA ho.noL
 have hB0lt:∀i b,B0 i=some b→b<w.heap.size:=fun i b hb=>by
  obtain⟨id,_,hm⟩:=hB0s i b hb
  exact(hI.muW id b hm).2.1
 have hB0ap:∀i b,B0 i=some b→z5B g1 b:=fun i b hb=>by
  obtain⟨id,hid,hm⟩:=hB0s i b hb
  have hlt:=hB0lt i b hb
  have hbl:b≠l:=by omega
  have hbD:b≠D:=by omega
  have hSb:g.S b=0:=by
   have hne:st.getB id≠none:=fun e=>by have:=hI.nobx id e;rw[hm] at this;cases this
   cases hc:st.getB id with
   |none=>exact absurd hc hne
   |some cs=>
    obtain⟨b',k1,k2,_⟩:=hI.bxok id cs hc
    rw[hm] at k1;cases k1;exact k2
  have ow0:=(hI.muW id b hm).2.2
  refine⟨by rw[hg1,hg0];simp[z4B,z83,hbl,hbD,hSb],fun jd hj=> ?_,by rw[hg1,hg0];simp[z4B,z83,hbl,hbD,ow0]⟩
  have hj':(z83 g ids).mu jd=some b:=by rw[hg1,hg0] at hj;exact hj
  simp only[z83] at hj'
  split at hj'
  ·cases hj'
  ·rename_i hn
   have:=hI.inj jd id b hj' hm
   exact hn (this▸hid)
 have start:J 0 (fun b=>∃i,B0 i=some b) W1:=by
  refine⟨rmB ids st.box,g1,hI0,⟨?_,?_,fun b hb=> ?_,fun h=> ?_,fun h=> ?_,hDW,z7g.refl _ _⟩,hlW⟩
  ·exact hI1
  ·refine z8ia (fun s hs=> ?_) (fun s d hs=> ?_)
   ·exact Rep.dem none (hS1 s hs)
   ·exact z2c.mono (z9t hI1) d _ (hOH s d hs)
  ·rcases hb with⟨i,hb⟩|rfl|rfl
   ·obtain⟨id,hid,hm⟩:=hB0s i b hb
    exact⟨hB0ap i b hb,(hI.muW id b hm).1,by have:=hB0lt i b hb;omega⟩
   ·exact⟨apl,.inl (by omega),by omega⟩
   ·exact⟨apD,.inl (by omega),by omega⟩
  ·obtain⟨i,hi⟩:=h
   have:=hB0lt i l hi;omega
  ·obtain⟨i,hi⟩:=h
   have:=hB0lt i D hi;omega
 have rounds:z5Ea K g1.S ((K.E.I f).el x (epY st.getB lv y)) l J Jx N (fun b=>∃i,B0 i=some b) W1:=by
  refine⟨start,fun i O A ⟨bx,gA,hi,_⟩=>hIb i bx hi,fun i O O' A B hj hfr hO'=> ?_,fun O O' A B hj hfr hO'=> ?_,fun i O A xs q' hj hel=> ?_⟩
  ·obtain⟨bx,gA,hi,ho,hlA⟩:=hj
   obtain⟨gB,h1,h2⟩:=outer_stab bx gA O O' A B ho hfr hO'
   exact⟨bx,gB,hi,h1,by rw[h2];exact hlA⟩
  ·obtain⟨bx,gA,e,jc,he,hq,ho,hlA⟩:=hj
   obtain⟨gB,h1,h2⟩:=outer_stab bx gA O O' A B ho hfr hO'
   exact⟨bx,gB,e,jc,he,hq,h1,by rw[h2];exact hlA⟩
  ·obtain⟨bx,gA,hi,ho,hlA⟩:=hj
   obtain⟨hlen,hmf,hw⟩:=hIround i bx xs hi hel
   have hal:=ho.apart l (.inr (.inl rfl))
   have haD:=ho.apart D (.inr (.inr rfl))
   have hqs:(z0ca xs).toArray.size=qs.size:=by
    simp only[List.size_toArray,z3ua,hlen,←hps,Array.length_toList]
   have hy:=run_yield (P:=K.P) (args:=(z0ca xs).toArray) hlA (by rw[hrec];exact hqs)
   rw[hrec] at hy
   refine⟨_,_,_,_,hy,roundIn_of_wpIn (n:=q') trivial ?_⟩
   have hR0:=z7db (xs:=xs) (qs:=qs) hps hnd hlt hsz hlen hmf (by rw[horgH];exact hpk) hOH ho
   refine wpIn_mono (hA l q' _ _ _ A _ (hw (fun s=>a.tmps.getD s undef)) hR0) ?_
   intro e a1 w1 hl1
   cases e with
   |normal=>
    simp only[z2ba] at hl1
    obtain⟨base1,hE1,st1,hR1,hq1⟩:=hl1
    simp only[z92] at hq1
    obtain⟨gb,hIb1,hSb,hOb,hdb,hszb⟩:=hR1
    have hIr:=hE1.inv _ _ _ hIb1
    have hl1':w1.heap[l]? =some (.loop (rec .ready none)):=by rw[z6T hIr hal.2.2 hal.1];exact hlA
    have hlt1:l<w1.heap.size:=Nat.lt_of_lt_of_le hal.2.2 hIr.fr.size
    have ap1:∀b,O b∨b=l∨b=D→z5B gb b∧b<w1.heap.size:=fun b hb=>⟨z03 hIr (ho.apart b hb).2.2 (ho.apart b hb).1,Nat.lt_of_lt_of_le (ho.apart b hb).2.2 hIr.fr.size⟩
    simp only[Exit.then]
    refine⟨_,run_beginRound hl1' (by rw[hrec];rfl),?_⟩
    obtain⟨w2,hw2⟩:∃w2,w2=w1.putObj l (.loop {rec .ready none with state:= .busy}):=⟨_,rfl⟩
    rw[←hw2]
    have hf2:Fr w1.heap.size (fun b=>b=l) w1 w2:=by rw[hw2];exact z45 _ _ _
    have hz2:w2.heap.size=w1.heap.size:=by rw[hw2];simp[World.putObj]
    have hl2:w2.heap[l]? =some (.loop {rec .ready none with state:= .busy}):=by rw[hw2];exact World.putObj_heap_same hlt1
    have hI1b:Inv K base gb w1 st1.getB:=z6Oa ho.inv hIr
    have hl0:base.w0.heap.size≤l∨base.W l:= .inl (by omega)
    have hI2:Inv K base gb w2 st1.getB:=z5Ca hI1b hf2 fun b hb=>by subst hb;exact⟨(ap1 _ (.inr (.inl rfl))).1,hl0⟩
    have hlo1:∀b lo,gb.ow b=some lo→b<w1.heap.size:=fun b lo hb=>(hIb1.owW b lo hb).2
    have hfa2:∀b,b=l→z5B gb b:=fun b hb=>by subst hb;exact(ap1 _ (.inr (.inl rfl))).1
    have hR2:Rel K ⟨w2,Wr gb,gb.S,base1.dl⟩ n st1 a1 w2:=by
     refine⟨gb,rebase hI2,fun s=>z0na hf2 hfa2 hlo1 (hSb s),fun s d hs=> ?_,hdb,hszb⟩
     refine z2c.mono ?_ d _ (hOb s d hs)
     refine(z9Q (dl:=base1.dl) hIb1).trans fun b i v hi' hc=> ?_
     have hb:b<w1.heap.size:=World.block_lt_of_cell? w1 ⟨b,i,none⟩ hc
     unfold z8s.S at hi'⊢
     split at hi'
     ·rename_i h
      have hbl:b≠l:=fun e=>by
       subst e
       have:gb.S b=0:=(ap1 _ (.inr (.inl rfl))).1.1
       simp only at hi';omega
      refine⟨?_,?_⟩
      ·rw[if_pos ⟨by rw[hz2];exact h.1,h.2⟩];exact hi'
      ·rw[World.cell?_of_block (w:=w1) (a:=⟨b,i,none⟩) (hf2.block b hb hbl)];exact hc
     ·omega
    refine wpIn_mono (hB l q' _ _ _ w2 _ hq1 hR2) ?_
    -- behind the body
    have fin:∀(jump:Option Code) (a3:Act) (w3:World) (base3:z8s) (st3:ASt),z5K K ⟨w2,Wr gb,gb.S,base1.dl⟩ base3→Rel K base3 n st3 a3 w3→z35 stH ks (fun s=>a.tmps.getD s undef) st3→
      ∃g3 w4,(Instr.endRound l jump).run K.P w3= .ok (.bool jump.isNone) w4∧z1La K base stH ks a l D g1.S w W1 st3.box O g3 w4∧w4.heap[l]? =some (.loop (rec (if jump.isNone then .ready else .done) jump))∧
       z7g g1.S W1 g1.S w4∧(∀b,O b→w4.heap[b]? =A.heap[b]?)∧A.heap.size≤w4.heap.size∧w4.os=A.os∧w4.tape=A.tape∧w4.output=A.output:=fun jump a3 w3 base3 st3 hE3 hR3 hend=>by
     obtain⟨g3,hI3,hS3,hO3,hd3,hsz3⟩:=hR3
     have hIr3:=hE3.inv _ _ _ hI3
     have hB3:=z6Oa hI2 hIr3
     have ap2:∀b,O b∨b=l∨b=D→z5B g3 b∧b<w3.heap.size∧w3.heap[b]? =w2.heap[b]? :=fun b hb=>by
      obtain⟨k1,k2⟩:=ap1 b hb
      rw[←hz2] at k2
      exact⟨z03 hIr3 k2 k1,Nat.lt_of_lt_of_le k2 hIr3.fr.size,z6T hIr3 k2 k1⟩
     have hl3:w3.heap[l]? =some (.loop {rec .ready none with state:= .busy}):=by rw[(ap2 l (.inr (.inl rfl))).2.2];exact hl2
     have hlt3:=(ap2 l (.inr (.inl rfl))).2.1
     obtain⟨w4,hw4⟩:∃w4,w4=w3.putObj l (.loop (rec (if jump.isNone then .ready else .done) jump)):=⟨_,rfl⟩
     have hrun:(Instr.endRound l jump).run K.P w3= .ok (.bool jump.isNone) w4:=by
      have:=run_endRound (P:=K.P) jump hl3
      rw[hw4,hrec] at*
      exact this
     have hf4:Fr w3.heap.size (fun b=>b=l) w3 w4:=by rw[hw4];exact z45 _ _ _
     have hfa4:∀b,b=l→z5B g3 b:=fun b hb=>by subst hb;exact(ap2 _ (.inr (.inl rfl))).1
     have hI4:Inv K base g3 w4 st3.getB:=z5Ca hB3 hf4 fun b hb=>by subst hb;exact⟨(ap2 _ (.inr (.inl rfl))).1,hl0⟩
     have hlo3:∀b lo,g3.ow b=some lo→b<w3.heap.size:=fun b lo hb=>(hI3.owW b lo hb).2
     have blk:∀b,O b∨b=D→b≠l→w4.heap[b]? =A.heap[b]? :=fun b hb hne=>by
      have hb':O b∨b=l∨b=D:=hb.imp id .inr
      rw[hf4.block b (ap2 b hb').2.1 hne,(ap2 b hb').2.2,hf2.block b (ap1 b hb').2 hne,z6T hIr (ho.apart b hb').2.2 (ho.apart b hb').1]
     have hOl:∀b,O b→b≠l:=fun b hb e=>ho.noL (e▸hb)
     have hDl:D≠l:=by omega
     have hkp:z7g g1.S W1 g3.S w4:=(((ho.kp.trans hIr.kp).trans (z4Y hf2 hfa2)).trans hIr3.kp).trans (z4Y hf4 hfa4)
     refine⟨g3,w4,hrun,⟨hI4,?_,fun b hb=> ?_,ho.noL,ho.noD,?_,hkp⟩,?_,fun b i v hi' hc=>⟨hi',(hkp b i v hi' hc).2⟩,fun b hb=>blk b (.inl hb) (hOl b hb),?_,?_,?_,?_⟩
     ·refine z8ia (fun s hs=> ?_) (fun s d hs=>z2c.mono (z9t hI4) d _ (hOH s d hs))
      obtain⟨h1,h2⟩:=hend s hs
      have hv:=hO3 s _ h2
      simp only[z2c] at hv
      have:=z0na hf4 hfa4 hlo3 (hS3 s)
      rw[h1,hv] at this
      exact z3O this
     ·exact⟨(ap2 b hb).1,(ho.apart b hb).2.1,Nat.lt_of_lt_of_le (ap2 b hb).2.1 hf4.size⟩
     ·rw[blk D (.inr rfl) hDl];exact ho.blkD
     ·rw[hw4];exact World.putObj_heap_same hlt3
     ·exact Nat.le_trans hIr.fr.size (Nat.le_trans hf2.size (Nat.le_trans hIr3.fr.size hf4.size))
     ·rw[hf4.os,hIr3.fr.os,hf2.os,hIr.fr.os]
     ·rw[hf4.tape,hIr3.fr.tape,hf2.tape,hIr.fr.tape]
     ·rw[hf4.output,hIr3.fr.output,hf2.output,hIr.fr.output]
    intro e a3 w3 hl3
    cases e with
    |normal=>
     simp only[z2ba] at hl3
     obtain⟨base3,hE3,st3,hR3,hq3⟩:=hl3
     simp only[z2Ga] at hq3
     obtain⟨g3,w4,k1,k2,k3,k4,k5,k6,k7,k8,k9⟩:=fin none a3 w3 base3 st3 hE3 hR3 hq3.1
     exact⟨_,w4,k1,k4,k5,k6,k7,k8,k9,.inl ⟨rfl,st3.box,g3,hq3.2,k2,k3⟩⟩
    |exit id=>
     simp only[z2ba] at hl3
     obtain⟨base3,hE3,st3,hR3,hq3⟩:=hl3
     simp only[z2Ga] at hq3
     obtain⟨g3,w4,k1,k2,k3,k4,k5,k6,k7,k8,k9⟩:=fin (some (.exit id)) a3 w3 base3 st3 hE3 hR3 hq3.1
     exact⟨_,w4,k1,k4,k5,k6,k7,k8,k9,.inr ⟨rfl,st3.box,g3,.exit id,_,.inr ⟨id,rfl,rfl⟩,hq3.2,k2,k3⟩⟩
    |ret=>
     simp only[z2ba] at hl3
     obtain⟨base3,hE3,st3,hR3,hq3⟩:=hl3
     simp only[z2Ga] at hq3
     obtain⟨g3,w4,k1,k2,k3,k4,k5,k6,k7,k8,k9⟩:=fin (some .ret) a3 w3 base3 st3 hE3 hR3 hq3.1
     exact⟨_,w4,k1,k4,k5,k6,k7,k8,k9,.inr ⟨rfl,st3.box,g3,.ret,_,.inl ⟨rfl,rfl⟩,hq3.2,k2,k3⟩⟩
    |goto id=>exact hl3.elim
    |panic ch=>exact hl3.elim
    |outgrown=>exact hl3.elim
   |exit id=>simp only[z2ba,z92] at hl1;obtain⟨_,_,_,_,h⟩:=hl1;exact h.elim
   |ret=>simp only[z2ba,z92] at hl1;obtain⟨_,_,_,_,h⟩:=hl1;exact h.elim
   |goto id=>exact hl1.elim
   |panic ch=>exact hl1.elim
   |outgrown=>exact hl1.elim
 have hx0:z7g g.S w g1.S W1:=fun b i v hi hc=>hx1.keeps b i v (by rw[hg0];exact hi) hc
 have hyr1:z5Ab K g1.S W1 lv B0 (epY st.getB lv y) vc.toList:=hyr.keep hx0 (fun i b hb=>(hB0ap i b hb).1) (by omega) (fun i b hb=>by
  have:=hB0lt i b hb
  rw[←hW1];exact(RowKit.Below.heap_alloc _ _ _ (by simp;omega)).trans (RowKit.Below.heap_alloc _ _ _ this))
 have hcall:=hV.2 g1.S W1 x (epY st.getB lv y) va.toList vc.toList B0 hI1.glob (z5c.mono hx0 x _ (z8c.pure x _ hpx hr1)) (by rw[←hlv];exact hyr1) hpre l J Jx N rounds
 rw[z4Xa] at hcall
 have fin:∀(bx:List (Nat×Option (List z2a))) (gB:Gh) (O:Nat→Prop) (B:World) (s:LoopState) (pe:Option Code),z1La K base stH ks a l D g1.S w W1 bx O gB B→(∀b,(∃i,B0 i=some b)→O b)→(∀id∈ids,(lk bx id).join=none)→B.heap[l]? =some (.loop (rec s pe))→s≠ .busy→
   ∃w4,(Instr.endLoop l).run K.P B= .ok pe w4∧∃base',z5K K base base'∧Rel K base' n {org:=st.org,env:=z8r st ks,box:=bkB ids bx} {tmps:=a.tmps,defers:=[mark D]++a.defers} w4:=fun bx gB O B s pe ho hOO hnone hlB hs=>by
  have hrun:=run_endLoop (P:=K.P) hlB (by rw[hrec];exact hs)
  obtain⟨w4,hw4⟩:∃w4,w4=B.putObj l (.loop {rec s pe with state:= .exhausted}):=⟨_,rfl⟩
  rw[←hw4] at hrun
  have hal:=ho.apart l (.inr (.inl rfl))
  have haD:=ho.apart D (.inr (.inr rfl))
  have hf4:Fr B.heap.size (fun b=>b=l) B w4:=by rw[hw4];exact z45 _ _ _
  have hfa4:∀b,b=l→z5B gB b:=fun b hb=>by subst hb;exact hal.1
  have hI4:=z5Ca ho.inv hf4 fun b hb=>by subst hb;exact⟨hal.1,hal.2.1⟩
  have hlo:∀b lo,gB.ow b=some lo→b<B.heap.size:=fun b lo hb=>(ho.inv.owW b lo hb).2
  have hpe:(rec s pe).pending=pe:=by rw[hrec];rfl
  rw[hpe] at hrun
  have hidl:∀id∈ids,∃i∈lv,y[i]? =some (.bp id 0):=fun id hid=>by rw[hids] at hid;exact z0za.1 hid
  have hlt6:∀id∈ids,id<1000000:=fun id hid=>by
   obtain⟨i,hi,e⟩:=hidl id hid
   obtain⟨id',cs,e1,e2,_⟩:=hlive i hi
   rw[e] at e1;cases e1;exact e2
  have hB0id:∀id∈ids,∃i b,B0 i=some b∧g.mu id=some b:=fun id hid=>by
   obtain⟨i,hi,e⟩:=hidl id hid
   obtain⟨id',cs,e1,_,e3,_⟩:=hlive i hi
   rw[e] at e1;cases e1
   obtain⟨b,hb,_⟩:=hI.bxok id cs e3
   exact⟨i,b,by rw[hB0];simp only[lvB,if_pos hi,e];exact hb,hb⟩
  have hIE:=z2ub (g:=g) (o':=st.org) (e':=z8r st ks) hI4 hnone hlt6 hI.inj fun id hid=>by
   obtain⟨i,b,h1,h2⟩:=hB0id id hid
   have ha:=ho.apart b (.inl (hOO b ⟨i,h1⟩))
   exact⟨b,h2,ha.1,ha.2.1,Nat.lt_of_lt_of_le ha.2.2 hf4.size⟩
  have hmn:∀id∈ids,gB.mu id=none:=fun id hid=>hI4.nobx id (hnone id hid)
  have apE:∀b,z5B gB b→(∀i,B0 i≠some b)→z5B (z0T g gB ids) b:=fun b hb hne=>⟨hb.1,fun id=>by
   simp only[z0T]
   split
   ·rename_i hid
    intro hm
    obtain⟨i,b',h1,h2⟩:=hB0id id hid
    rw[hm] at h2;cases h2
    exact hne i h1
   ·exact hb.2.1 id,hb.2.2⟩
  have hkE:z7g g.S w (z0T g gB ids).S w4:=fun b i v hi hc=>((hx0.trans ho.kp).trans (z4Y hf4 hfa4)) b i v hi hc
  refine⟨w4,hrun,⟨w4,Wr (z0T g gB ids),(z0T g gB ids).S,[D].map mark++base.dl⟩,z7Wa hIE [D] (by simp) (fun x hx=> ?_),z0T g gB ids,rebase hIE,?_,fun s d hs=>z2c.mono (z9Q hIE) d _ (hO s d hs),?_,hsz⟩
  ·simp only[List.mem_singleton] at hx
   subst hx
   refine⟨hfr1,Nat.lt_of_lt_of_le haD.2.2 hf4.size,apE _ haD.1 (fun i hi=> ?_),?_⟩
   ·have:=hB0lt i _ hi;omega
   ·rw[hf4.block _ haD.2.2 (by omega)];exact ho.blkD
  ·refine z8ia (fun s hs=> ?_) (fun s d hs=>z2c.mono (z9t hIE) d _ (hO s d hs))
   rcases hksI s hs with h2|h2
   ·have hv:=ho.slots s
    rw[z0Ja,if_pos hs] at hv
    rw[hstH,z68a h2] at hv
    exact z7Ra hmn (z3O (z0na hf4 hfa4 hlo hv))
   ·have hr:=Rep.dem none (hS s)
    refine Rep.mono (g:=g) (g':=z0T g gB ids) hkE _ _ none none (fun id hid b hb=> ?_) (fun _ h=>by cases h) hr
    have hid':id∈z2o (st.get s):=by
     revert hid
     cases st.get s with
     |sl m _ _ _=>cases m<;>exact fun h=>h
     |otup=>exact fun h=>h
     |oagg=>intro h;simpa[Abs.dem,z2o,z2l,z1O] using h
     |_=>exact fun h=>h
    simp only[z0T,if_pos (h2.1 id hid')]
    exact hb
  ·simp only[hd,List.map_cons,List.map_nil]
 refine⟨l,[mark D],W1,{target:= .fn (.func (K.nu f)) vc,args:=va++ #[.func (.yield l) #[] #[]]},W1,K.nu f,va++ #[.func (.yield l) #[] #[]]++vc,W1,?_,z00a hev (fun _=>rfl) l W1,fun _ _=>z3sa _ _,?_,fun h=>by simp[z6ta] at h,?_⟩
 ·have:=run_enterLoop_outer (P:=K.P) (w:=w) fn a.tmps qs p q
  rw[this,←hW1,hrec,hl,hD]
  rfl
 ·have:=z6r (P:=K.P) W1 hV.1 (va++ #[.func (.yield l) #[] #[]]++vc)
  simp only[invoke]
  exact this
 ·refine z9na.2 (hcall.mono fun e B hq=> ?_)
  obtain⟨v,rfl,O,hOO,hq⟩:=hq
  simp only[rangePost]
  rcases hq with⟨i,hel,bx,gB,hi,ho,hlB⟩|⟨bx,gB,e,jc,he,hq,ho,hlB⟩
  ·obtain⟨hq1,hq2⟩:=hIdone i bx hi hel
   obtain⟨w4,hrun,base',hE,hR'⟩:=fin bx gB O B .ready none ho hOO hq1 hlB (by simp)
   exact⟨none,w4,hrun,base',hE,_,hR',hq2⟩
  ·obtain⟨hq1,hq2⟩:=hq
   obtain⟨w4,hrun,base',hE,hR'⟩:=fin bx gB O B .done (some jc) ho hOO hq1 hlB (by simp)
   refine⟨some jc,w4,hrun,?_⟩
   rcases he with⟨rfl,rfl⟩|⟨id,rfl,rfl⟩
   ·exact wpIn_ret ⟨base',hE,_,hR',hq2⟩
   ·exact wpIn_exit ⟨base',hE,_,hR',hq2⟩
end
end Go.Abs
end

section
set_option linter.unusedVariables false
namespace Go.Abs
section
variable {K : Cx} {n : Nat}

theorem z3ya {keep:List Nat} {gs:List z2y} {xs:List z7i} {x:Code} {Q:z4m→ASt→Prop} {base:z8s} {st:ASt} {a:Act} {w:World} {r:Option Nat} {m:Nat} (hc:z8d K n (.region keep gs xs) x=true)
  (hv:∀p∈z5a (.region keep gs xs),VB K p) (hcd:gs.all z2y.cold=true) (h:awp K.E (.region keep gs xs) Q st) (hR:Rel K base n st a w):x.wpIn (WF r) m K.P (z2ba K base n Q) a w:=by
 simp only[z8d] at hc
 simp only[awp] at h
 obtain⟨hok,hgs,hq⟩:=h
 split at hc
 ·rename_i id ops draw
  simp only[Bool.and_eq_true,Bool.or_eq_true,Bool.not_eq_true'] at hc
  obtain⟨hops,hdr⟩:=hc
  have hV':∀y∈xs,VOk K y.op:=fun y hy f hf=>hv f (by simp only[z5a,List.mem_flatMap];exact⟨y,hy,hf⟩)
  cases draw with
  |false=>
   refine wpIn_region ?_
   rw[List.range_eq_range']
   refine z0ta (Q:=z2ba K base n Q) hops hV' ops.size 0 st a w (by omega) hR (by simpa using hok) fun a' w' hR'=>⟨base,z5K.refl _ _,_,z4ha gs hcd (z9z keep hR') (by simpa using hgs),by simpa using hq⟩
  |true=>
   rcases hdr with hdr|hdr
   ·cases hdr
   ·have hlen:=(z2L hops).1
    have hmap:(List.range ops.size).map (xs.getD · default)=xs:=by
     apply List.ext_getElem?
     intro i
     rw[List.getElem?_map]
     by_cases hi:i<ops.size
     ·rw[List.getElem?_range hi]
      have hi':i<xs.length:=by rw[←hlen];simpa using hi
      simp[List.getD,List.getElem?_eq_getElem hi']
     ·have hi':¬i<xs.length:=by rw[←hlen];simpa using hi
      rw[List.getElem?_eq_none (by simpa using hi),List.getElem?_eq_none (by omega)]
      rfl
    refine wpIn_region_any hdr.2 ?_
    have hR1:Rel K base n st a {w with drawn:=w.drawn+1}:=by
     obtain⟨g,hI,hS,hO⟩:=hR
     exact⟨g,z16 hI,z7Y.slots hS,hO⟩
    refine z4Ba hops hV' hdr.1 ops.size (List.range ops.size) _ st a _ (by simp) (by simp) List.pairwise_lt_range (fun i=> ?_) hR1 (by rw[hmap];exact hok) (fun a' w' hR'=> ?_)
    ·simp only[List.mem_range]
     constructor
     ·intro hi
      refine⟨hi,?_⟩
      simp[Array.getD_eq_getD_getElem?,hi]
     ·exact fun h=>h.1
    ·rw[hmap] at hR'
     exact⟨base,z5K.refl _ _,_,z4ha gs hcd (z9z keep hR') hgs,hq⟩
 ·cases hc

theorem z0p:∀(c:z9a) (x:Code) (r:Option Nat) (m:Nat) (Q:z4m→ASt→Prop) (base:z8s) (st:ASt) (a:Act) (w:World),z8d K n c x=true→(∀p∈z5a c,VB K p)→(∀f∈z8K c,z0W K f (K.E.I f))→
  (z9o c=true∨r=none∧z6J c=true)→z2r c=true→awp K.E c Q st→Rel K base n st a w→x.wpIn (WF r) m K.P (z2ba K base n Q) a w
 | .ghost g c,x,r,m,Q,base,st,a,w,hc,hv,hi,hf,hcd,h,hR=>by
  simp only[z8d] at hc
  simp only[awp] at h
  exact z0p c x r m Q base _ a w hc hv hi (by simpa only[z9o,z6J] using hf) (by simp only[z2r,Bool.and_eq_true] at hcd;exact hcd.2) h.2 (z3x g (by simp only[z2r,Bool.and_eq_true] at hcd;exact hcd.1) hR h.1)
 | .thawc b i id c,x,r,m,Q,base,st,a,w,hc,hv,hi,hf,hcd,h,hR=>by simp[z2r] at hcd
 | .holdc s t c,x,r,m,Q,base,st,a,w,hc,hv,hi,hf,hcd,h,hR=>by
  simp only[z8d] at hc
  simp only[awp] at h
  obtain⟨V,h1,h2⟩:=h
  obtain⟨V',h3,h4⟩:=z9Ca s t hR h1
  exact z0p c x r m Q base _ a w hc hv hi (by simpa only[z9o,z6J] using hf) (by simpa only[z2r] using hcd) (h2 V' h3) h4
 | .skip,x,r,m,Q,base,st,a,w,hc,hv,hi,hf,hcd,h,hR=>by
  simp only[z8d] at hc
  simp only[awp] at h
  split at hc
  ·exact wpIn_skip ⟨base,z5K.refl _ _,st,hR,h⟩
  ·exact wpIn_label ⟨base,z5K.refl _ _,st,hR,h⟩
  ·cases hc
 | .exit id,x,r,m,Q,base,st,a,w,hc,hv,hi,hf,hcd,h,hR=>by
  simp only[z8d] at hc
  simp only[awp] at h
  split at hc
  ·simp only[beq_iff_eq] at hc
   subst hc
   exact wpIn_exit ⟨base,z5K.refl _ _,st,hR,h⟩
  ·cases hc
 | .ret,x,r,m,Q,base,st,a,w,hc,hv,hi,hf,hcd,h,hR=>by
  simp only[z8d] at hc
  simp only[awp] at h
  split at hc
  ·exact wpIn_ret ⟨base,z5K.refl _ _,st,hR,h⟩
  ·cases hc
 | .bad,x,r,m,Q,base,st,a,w,hc,hv,hi,hf,hcd,h,hR=>by
  simp only[awp] at h
 | .alt p q,x,r,m,Q,base,st,a,w,hc,hv,hi,hf,hcd,h,hR=>by
  simp only[z8d,Bool.and_eq_true] at hc
  simp only[awp] at h
  simp only[z5a,z8K,List.mem_append] at hv hi
  simp only[z9o,z6J,Bool.and_eq_true] at hf
  simp only[z2r,Bool.and_eq_true] at hcd
  rcases h with h|h
  ·exact z0p p x r m Q base st a w hc.1 (fun f hf=>hv f (.inl hf)) (fun f hf=>hi f (.inl hf)) (hf.imp (·.1) fun h=>⟨h.1,h.2.1⟩) hcd.1 h hR
  ·exact z0p q x r m Q base st a w hc.2 (fun f hf=>hv f (.inr hf)) (fun f hf=>hi f (.inr hf)) (hf.imp (·.2) fun h=>⟨h.1,h.2.2⟩) hcd.2 h hR
 | .region keep gs xs,x,r,m,Q,base,st,a,w,hc,hv,hi,hf,hcd,h,hR=>z3ya hc hv (by simpa only[z2r] using hcd) h hR
 | .seq p q,x,r,m,Q,base,st,a,w,hc,hv,hi,hf,hcd,h,hR=>by
  simp only[z8d] at hc
  simp only[awp] at h
  simp only[z5a,z8K,List.mem_append] at hv hi
  simp only[z9o,z6J,Bool.and_eq_true] at hf
  simp only[z2r,Bool.and_eq_true] at hcd
  split at hc
  ·rename_i y z
   simp only[Bool.and_eq_true] at hc
   refine wpIn_seq (wpIn_mono (z0p p y r m _ base st a w hc.1 (fun f hf=>hv f (.inl hf)) (fun f hf=>hi f (.inl hf)) (hf.imp (·.1) fun h=>⟨h.1,h.2.1⟩) hcd.1 h hR) ?_)
   intro e a' w' hl
   cases e<;>simp only[z2ba] at hl<;>simp only[Exit.then]
   ·obtain⟨b',hE,st',hR',hq⟩:=hl
    exact wpIn_mono (z0p q z r m Q b' st' a' w' hc.2 (fun f hf=>hv f (.inr hf)) (fun f hf=>hi f (.inr hf)) (hf.imp (·.2) fun h=>⟨h.1,h.2.2⟩) hcd.2 hq hR') (z2Da hE)
   ·exact hl
   ·exact hl
  ·cases hc
 | .cond c p q,x,r,m,Q,base,st,a,w,hc,hv,hi,hf,hcd,h,hR=>by
  simp only[z8d] at hc
  simp only[awp] at h
  simp only[z5a,z8K,List.mem_append] at hv hi
  simp only[z9o,z6J,Bool.and_eq_true] at hf
  simp only[z2r,Bool.and_eq_true] at hcd
  split at hc
  ·rename_i c' y z
   simp only[Bool.and_eq_true] at hc
   obtain⟨⟨hcc,hy⟩,hz⟩:=hc
   obtain⟨hb,ht,hf'⟩:=h
   have hR':=hR
   obtain⟨g,hI,hS,_⟩:=hR'
   obtain⟨_,hval⟩:=z5S (z4b hI hS hcc) hb
   refine wpIn_cond_split hval (fun e=> ?_) (fun e=> ?_)
   ·exact z0p p y r m Q base st a w hy (fun f hf=>hv f (.inl hf)) (fun f hf=>hi f (.inl hf)) (hf.imp (·.1) fun h=>⟨h.1,h.2.1⟩) hcd.1 (ht e) hR
   ·exact z0p q z r m Q base st a w hz (fun f hf=>hv f (.inr hf)) (fun f hf=>hi f (.inr hf)) (hf.imp (·.2) fun h=>⟨h.1,h.2.2⟩) hcd.2 (hf' e) hR
  ·cases hc
 | .scope b,x,r,m,Q,base,st,a,w,hc,hv,hi,hf,hcd,h,hR=>by
  simp only[z8d] at hc
  simp only[awp] at h
  simp only[z9o,z6J] at hf
  simp only[z2r] at hcd
  split at hc
  ·rename_i p
   refine z5oa (wpIn_mono (z0p b p r m Q base st a w hc hv hi hf hcd h hR) ?_)
   intro e a' w' hl
   cases e<;>simp only[z2ba] at hl<;>exact hl
  ·cases hc
 | .block id b,x,r,m,Q,base,st,a,w,hc,hv,hi,hf,hcd,h,hR=>by
  simp only[z8d] at hc
  simp only[awp] at h
  simp only[z9o,z6J] at hf
  simp only[z2r] at hcd
  split at hc
  ·rename_i id' p
   simp only[Bool.and_eq_true,beq_iff_eq] at hc
   obtain⟨rfl,hp⟩:=hc
   refine wpIn_block (wpIn_mono (z0p b p r m _ base st a w hp hv hi hf hcd h hR) ?_)
   intro e a' w' hl
   cases e<;>simp only[z2ba] at hl<;>simp only[Exit.inBlock]
   ·exact hl
   ·rename_i id'
    obtain⟨b',hE,st',hR',hq⟩:=hl
    simp only[z7za] at hq
    split
    ·rename_i he
     rw[if_pos he] at hq
     exact⟨b',hE,st',hR',hq⟩
    ·rename_i he
     rw[if_neg he] at hq
     exact⟨b',hE,st',hR',hq⟩
   ·exact hl
  ·cases hc
 | .loop b,x,r,m,Q,base,st,a,w,hc,hv,hi,hf,hcd,h,hR=>by
  simp only[z8d] at hc
  simp only[awp] at h
  simp only[z9o,z6J] at hf
  simp only[z2r] at hcd
  split at hc
  ·rename_i p
   obtain⟨I,⟨k,hm⟩,hround⟩:=h
   refine z7S (fun k a w=>∃b',z5K K base b'∧∃st,Rel K b' n st a w∧I k st) ⟨base,z5K.refl _ _,st,hR,hm⟩ fun k a w hj=> ?_
   obtain⟨b',hE,st',hR',hI⟩:=hj
   refine wpIn_mono (z0p b p r m _ b' st' a w hc hv hi hf hcd (hround _ st' hI) hR') ?_
   intro e a' w' hl
   have hl:=z2Da hE e a' w' hl
   cases e<;>simp only[z2ba] at hl<;>simp only[Exit.then]
   ·obtain⟨b2,hE2,st2,hR2,m',hlt,hI'⟩:=hl
    exact⟨m',hlt,b2,hE2,st2,hR2,hI'⟩
   ·exact hl
   ·exact hl
  ·cases hc
 | .range f t ks ps as bd,x,r,m,Q,base,st,a,w,hc,hv,hi,hf,hcd,h,hR=>by
  simp only[z8d] at hc
  simp only[z5a,z8K,List.mem_append,List.mem_cons] at hv hi
  simp only[z9o,z6J,Bool.false_eq_true,false_or,Bool.and_eq_true] at hf
  simp only[z2r,Bool.and_eq_true] at hcd
  obtain⟨rfl,hfa,hfb⟩:=hf
  split at hc
  ·rename_i G qs p q
   simp only[Bool.and_eq_true,beq_iff_eq,decide_eq_true_eq,List.all_eq_true] at hc
   obtain⟨⟨⟨⟨⟨hg,hps⟩,hlt⟩,hnd⟩,hca⟩,hcb⟩:=hc
   exact z6Ga hg hps hlt hnd (hi f (.inl rfl))
    (fun l m' base st a w Q h hR=>z0p as p (some l) m' Q base st a w hca (fun p hp=>hv p (.inl hp)) (fun p hp=>hi p (.inr (.inl hp))) (.inl hfa) hcd.1 h hR)
    (fun l m' base st a w Q h hR=>z0p bd q (some l) m' Q base st a w hcb (fun p hp=>hv p (.inr hp)) (fun p hp=>hi p (.inr (.inr hp))) (.inl hfb) hcd.2 h hR) h hR
  ·cases hc

theorem z6ja {F:Fence} {q:Nat} {P:Program} {fn:Func} {tmps:Array Value} {R:Ending→World→Prop}:∀(ms:List Nat) (w:World),(∀D∈ms,w.heap[D]? =some (.deferred (some [])))→ms.Nodup→
  (∀w',Fr w.heap.size (fun b=>b∈ms) w w'→∃v,(results fn tmps).run P w'= .ok v w'∧R (.returned v) w')→LeavesInM F q P fn tmps R (ms.map mark) .returning w
 |[],w,_,_,h=>h w (Fr.refl _ _ _)
 |D::ms,w,hD,hn,h=>by
  rw[List.nodup_cons] at hn
  refine⟨by simp,.inl ⟨D,w.putObj D (.deferred none),rfl,run_takeDeferred (hD D (by simp)),?_⟩⟩
  have hf:=z45 w D (.deferred none)
  have hlt:∀x∈ms,x<w.heap.size:=fun x hx=>by
   have:=hD x (by simp[hx])
   exact(Array.getElem?_eq_some_iff.1 this).1
  refine z6ja ms _ (fun x hx=> ?_) hn.2 (fun w' hw'=>h w' ?_)
  ·rw[hf.block x (hlt x hx) (fun e=>hn.1 (e▸hx))]
   exact hD x (by simp[hx])
  ·exact(hf.mono (Nat.le_refl _) (fun k _ e=>by subst e;simp)).trans (hw'.mono (by simp[World.putObj]) (fun k _ e=>by simp[e]))

theorem z6Xa {base base':z8s} {st:ASt} {a:Act} {w:World} {q:Nat} {fn:Func} {R:Ending→World→Prop} (hE:z5K K base base') (hdl:base.dl=[]) (hR:Rel K base' n st a w)
  (h:∀g w',Inv K base g w' st.getB→z7d K g w' st.get a→z4db K base' st a→∃v,(results fn a.tmps).run K.P w'= .ok v w'∧R (.returned v) w'):LeavesInM (WF none) q K.P fn a.tmps R a.defers .returning w:=by
 obtain⟨g,hI,hS,hO,hd,_⟩:=hR
 obtain⟨ms,e,hn,h1,h2⟩:=hE.marks
 have h3:=h2 g w _ hI
 rw[hd,e,hdl,List.append_nil]
 refine z6ja ms w (fun D hD=>(h3 D hD).2.2) hn fun w' hw'=>h g w' ?_ ?_ hO
 ·exact z5Ca (hE.inv _ _ _ hI) hw' fun b hb=>⟨(h3 b hb).1,.inl (h1 b hb).1⟩
 ·exact fun s=>z0na hw' (fun b hb=>(h3 b hb).1) (fun b l hb=>(hI.owW b l hb).2) (hS s)
end
end Go.Abs
end

section
set_option linter.unusedVariables false
namespace Go.Abs
def z87 (K:Cx) (Cd:Prop) (base:z8s) (n:Nat) (Q:z4m→ASt→Prop):Exit→Act→World→Prop
 | .normal,a,w=>∃base',(z5K K base base'∧(z5ga K base→z5ga K base')∧(Cd→base'=base))∧∃st,Rel K base' n st a w∧Q .normal st
 | .exit id,a,w=>∃base',(z5K K base base'∧(z5ga K base→z5ga K base')∧(Cd→base'=base))∧∃st,Rel K base' n st a w∧Q (.exit id) st
 | .ret,a,w=>∃base',(z5K K base base'∧(z5ga K base→z5ga K base')∧(Cd→base'=base))∧∃st,Rel K base' n st a w∧Q .ret st
 |_,_,_=>False
theorem z17 {K:Cx} {Cd:Prop} {base base':z8s} {n:Nat} {Q:z4m→ASt→Prop} (h:z5K K base base') (hf:z5ga K base→z5ga K base') (he:Cd→base'=base):∀e a w,z87 K Cd base' n Q e a w→z87 K Cd base n Q e a w:=by
 intro e a w hl
 cases e<;>simp only[z87] at hl⊢
 all_goals (obtain⟨b,⟨hb,hb',he'⟩,r⟩:=hl;exact⟨b,⟨h.trans hb,fun x=>hb' (hf x),fun hc=>(he' hc).trans (he hc)⟩,r⟩)
section
variable {K : Cx} {n : Nat} {Cd : Prop}
theorem z5Ga {keep:List Nat} {gs:List z2y} {xs:List z7i} {x:Code} {Q:z4m→ASt→Prop} {base:z8s} {st:ASt} {a:Act} {w:World} {r:Option Nat} {m:Nat} (hc:z8d K n (.region keep gs xs) x=true)
  (hv:∀p∈z5a (.region keep gs xs),VB K p) (hcd:gs.all z2y.cold=true∨(z5ga K base∧¬Cd)) (h:awp K.E (.region keep gs xs) Q st) (hR:Rel K base n st a w):x.wpIn (WF r) m K.P (z87 K Cd base n Q) a w:=by
 simp only[z8d] at hc
 simp only[awp] at h
 obtain⟨hok,hgs,hq⟩:=h
 split at hc
 ·rename_i id ops draw
  simp only[Bool.and_eq_true,Bool.or_eq_true,Bool.not_eq_true'] at hc
  obtain⟨hops,hdr⟩:=hc
  have hV':∀y∈xs,VOk K y.op:=fun y hy f hf=>hv f (by simp only[z5a,List.mem_flatMap];exact⟨y,hy,hf⟩)
  cases draw with
  |false=>
   refine wpIn_region ?_
   rw[List.range_eq_range']
   refine z0ta (Q:=z87 K Cd base n Q) hops hV' ops.size 0 st a w (by omega) hR (by simpa using hok) fun a' w' hR'=> ?_
   rcases hcd with hcd|hcd
   ·exact⟨base,⟨z5K.refl _ _,fun x=>x,fun _=>rfl⟩,_,z4ha gs hcd (z9z keep hR') (by simpa using hgs),by simpa using hq⟩
   ·obtain⟨b',e1,e2,e3⟩:=z5Ia gs hcd.1 (z9z keep hR') (by simpa using hgs)
    exact⟨b',⟨e1,fun _=>e2,fun h=>absurd h hcd.2⟩,_,e3,by simpa using hq⟩
  |true=>
   rcases hdr with hdr|hdr
   ·cases hdr
   ·have hlen:=(z2L hops).1
    have hmap:(List.range ops.size).map (xs.getD · default)=xs:=by
     apply List.ext_getElem?
     intro i
     rw[List.getElem?_map]
     by_cases hi:i<ops.size
     ·rw[List.getElem?_range hi]
      have hi':i<xs.length:=by rw[←hlen];simpa using hi
      simp[List.getD,List.getElem?_eq_getElem hi']
     ·have hi':¬i<xs.length:=by rw[←hlen];simpa using hi
      rw[List.getElem?_eq_none (by simpa using hi),List.getElem?_eq_none (by omega)]
      rfl
    refine wpIn_region_any hdr.2 ?_
    have hR1:Rel K base n st a {w with drawn:=w.drawn+1}:=by
     obtain⟨g,hI,hS,hO⟩:=hR
     exact⟨g,z16 hI,z7Y.slots hS,hO⟩
    refine z4Ba hops hV' hdr.1 ops.size (List.range ops.size) _ st a _ (by simp) (by simp) List.pairwise_lt_range (fun i=> ?_) hR1 (by rw[hmap];exact hok) (fun a' w' hR'=> ?_)
    ·simp only[List.mem_range]
     constructor
     ·intro hi
      refine⟨hi,?_⟩
      simp[Array.getD_eq_getD_getElem?,hi]
     ·exact fun h=>h.1
    ·rw[hmap] at hR'
     rcases hcd with hcd|hcd
     ·exact⟨base,⟨z5K.refl _ _,fun x=>x,fun _=>rfl⟩,_,z4ha gs hcd (z9z keep hR') hgs,hq⟩
     ·obtain⟨b',e1,e2,e3⟩:=z5Ia gs hcd.1 (z9z keep hR') hgs
      exact⟨b',⟨e1,fun _=>e2,fun h=>absurd h hcd.2⟩,_,e3,hq⟩
 ·cases hc

theorem z5db {a b:Bool} {p:Prop} (h:(a&&b)=true∨p):a=true∨p:=h.imp (fun h=>by simp only[Bool.and_eq_true] at h;exact h.1) id
theorem z22a {a b:Bool} {p:Prop} (h:(a&&b)=true∨p):b=true∨p:=h.imp (fun h=>by simp only[Bool.and_eq_true] at h;exact h.2) id
theorem z0s:∀(c:z9a) (x:Code) (r:Option Nat) (m:Nat) (Q:z4m→ASt→Prop) (base:z8s) (st:ASt) (a:Act) (w:World),z8d K n c x=true→(∀p∈z5a c,VB K p)→z9o c=true→(z2r c=true∨(z5ga K base∧¬Cd))→awp K.E c Q st→Rel K base n st a w→x.wpIn (WF r) m K.P (z87 K Cd base n Q) a w
 | .ghost g c,x,r,m,Q,base,st,a,w,hc,hv,hf,hcd,h,hR=>by
  simp only[z8d] at hc
  simp only[awp] at h
  have hf':z9o c=true:=by simpa only[z9o] using hf
  rcases hcd with hcd|hcd
  ·simp only[z2r,Bool.and_eq_true] at hcd
   exact z0s c x r m Q base _ a w hc hv hf' (.inl hcd.2) h.2 (z3x g hcd.1 hR h.1)
  ·obtain⟨b',e1,e2,e3⟩:=z2pa g hcd.1 hR h.1
   exact wpIn_mono (z0s c x r m Q b' _ a w hc hv hf' (.inr ⟨e2,hcd.2⟩) h.2 e3) (z17 e1 (fun _=>e2) fun h=>absurd h hcd.2)
 | .holdc s t c,x,r,m,Q,base,st,a,w,hc,hv,hf,hcd,h,hR=>by
  simp only[z8d] at hc
  simp only[awp] at h
  obtain⟨V,h1,h2⟩:=h
  obtain⟨V',h3,h4⟩:=z9Ca s t hR h1
  exact z0s c x r m Q base _ a w hc hv (by simpa only[z9o] using hf) (by simpa only[z2r] using hcd) (h2 V' h3) h4
 | .thawc b i id c,x,r,m,Q,base,st,a,w,hc,hv,hf,hcd,h,hR=>by
  simp only[z8d] at hc
  simp only[awp] at h
  simp only[z5a] at hv
  have hf':z9o c=true:=by simpa only[z9o] using hf
  rcases hcd with hcd|hcd
  ·simp[z2r] at hcd
  ·obtain⟨k,e3⟩:=z4eb b i id hcd.1 hR h.1
   exact z0s c x r m Q base _ a w hc hv hf' (.inr hcd) (h.2 k) e3
 | .skip,x,r,m,Q,base,st,a,w,hc,hv,hf,hcd,h,hR=>by
  simp only[z8d] at hc
  simp only[awp] at h
  split at hc
  ·exact wpIn_skip ⟨base,⟨z5K.refl _ _,fun x=>x,fun _=>rfl⟩,st,hR,h⟩
  ·exact wpIn_label ⟨base,⟨z5K.refl _ _,fun x=>x,fun _=>rfl⟩,st,hR,h⟩
  ·cases hc
 | .exit id,x,r,m,Q,base,st,a,w,hc,hv,hf,hcd,h,hR=>by
  simp only[z8d] at hc
  simp only[awp] at h
  split at hc
  ·simp only[beq_iff_eq] at hc
   subst hc
   exact wpIn_exit ⟨base,⟨z5K.refl _ _,fun x=>x,fun _=>rfl⟩,st,hR,h⟩
  ·cases hc
 | .ret,x,r,m,Q,base,st,a,w,hc,hv,hf,hcd,h,hR=>by
  simp only[z8d] at hc
  simp only[awp] at h
  split at hc
  ·exact wpIn_ret ⟨base,⟨z5K.refl _ _,fun x=>x,fun _=>rfl⟩,st,hR,h⟩
  ·cases hc
 | .bad,x,r,m,Q,base,st,a,w,hc,hv,hf,hcd,h,hR=>by
  simp only[awp] at h
 | .alt p q,x,r,m,Q,base,st,a,w,hc,hv,hf,hcd,h,hR=>by
  simp only[z8d,Bool.and_eq_true] at hc
  simp only[awp] at h
  simp only[z5a,List.mem_append] at hv
  simp only[z9o,Bool.and_eq_true] at hf
  rcases h with h|h
  ·exact z0s p x r m Q base st a w hc.1 (fun f hf=>hv f (.inl hf)) hf.1 (z5db hcd) h hR
  ·exact z0s q x r m Q base st a w hc.2 (fun f hf=>hv f (.inr hf)) hf.2 (z22a hcd) h hR
 | .region keep gs xs,x,r,m,Q,base,st,a,w,hc,hv,hf,hcd,h,hR=>z5Ga hc hv hcd h hR
 | .seq p q,x,r,m,Q,base,st,a,w,hc,hv,hf,hcd,h,hR=>by
  simp only[z8d] at hc
  simp only[awp] at h
  simp only[z5a,List.mem_append] at hv
  simp only[z9o,Bool.and_eq_true] at hf
  split at hc
  ·rename_i y z
   simp only[Bool.and_eq_true] at hc
   refine wpIn_seq (wpIn_mono (z0s p y r m _ base st a w hc.1 (fun f hf=>hv f (.inl hf)) hf.1 (z5db hcd) h hR) ?_)
   intro e a' w' hl
   cases e<;>simp only[z87] at hl<;>simp only[Exit.then]
   ·obtain⟨b',⟨hE,hE',hE2⟩,st',hR',hq⟩:=hl
    exact wpIn_mono (z0s q z r m Q b' st' a' w' hc.2 (fun f hf=>hv f (.inr hf)) hf.2 ((z22a hcd).imp (fun h=>h) fun h=>⟨hE' h.1,h.2⟩) hq hR') (z17 hE hE' hE2)
   ·exact hl
   ·exact hl
  ·cases hc
 | .cond c p q,x,r,m,Q,base,st,a,w,hc,hv,hf,hcd,h,hR=>by
  simp only[z8d] at hc
  simp only[awp] at h
  simp only[z5a,List.mem_append] at hv
  simp only[z9o,Bool.and_eq_true] at hf
  split at hc
  ·rename_i c' y z
   simp only[Bool.and_eq_true] at hc
   obtain⟨⟨hcc,hy⟩,hz⟩:=hc
   obtain⟨hb,ht,hf'⟩:=h
   have hR':=hR
   obtain⟨g,hI,hS,_⟩:=hR'
   obtain⟨_,hval⟩:=z5S (z4b hI hS hcc) hb
   refine wpIn_cond_split hval (fun e=> ?_) (fun e=> ?_)
   ·exact z0s p y r m Q base st a w hy (fun f hf=>hv f (.inl hf)) hf.1 (z5db hcd) (ht e) hR
   ·exact z0s q z r m Q base st a w hz (fun f hf=>hv f (.inr hf)) hf.2 (z22a hcd) (hf' e) hR
  ·cases hc
 | .scope b,x,r,m,Q,base,st,a,w,hc,hv,hf,hcd,h,hR=>by
  simp only[z8d] at hc
  simp only[awp] at h
  simp only[z9o] at hf
  split at hc
  ·rename_i p
   refine z5oa (wpIn_mono (z0s b p r m Q base st a w hc hv hf hcd h hR) ?_)
   intro e a' w' hl
   cases e<;>simp only[z87] at hl<;>exact hl
  ·cases hc
 | .block id b,x,r,m,Q,base,st,a,w,hc,hv,hf,hcd,h,hR=>by
  simp only[z8d] at hc
  simp only[awp] at h
  simp only[z9o] at hf
  split at hc
  ·rename_i id' p
   simp only[Bool.and_eq_true,beq_iff_eq] at hc
   obtain⟨rfl,hp⟩:=hc
   refine wpIn_block (wpIn_mono (z0s b p r m _ base st a w hp hv hf hcd h hR) ?_)
   intro e a' w' hl
   cases e<;>simp only[z87] at hl<;>simp only[Exit.inBlock]
   ·exact hl
   ·rename_i id'
    obtain⟨b',hE,st',hR',hq⟩:=hl
    simp only[z7za] at hq
    split
    ·rename_i he
     rw[if_pos he] at hq
     exact⟨b',hE,st',hR',hq⟩
    ·rename_i he
     rw[if_neg he] at hq
     exact⟨b',hE,st',hR',hq⟩
   ·exact hl
  ·cases hc
 | .loop b,x,r,m,Q,base,st,a,w,hc,hv,hf,hcd,h,hR=>by
  simp only[z8d] at hc
  simp only[awp] at h
  simp only[z9o] at hf
  split at hc
  ·rename_i p
   obtain⟨I,⟨k,hm⟩,hround⟩:=h
   refine z7S (fun k a w=>∃b',(z5K K base b'∧(z5ga K base→z5ga K b')∧(Cd→b'=base))∧∃st,Rel K b' n st a w∧I k st) ⟨base,⟨z5K.refl _ _,fun x=>x,fun _=>rfl⟩,st,hR,hm⟩ fun k a w hj=> ?_
   obtain⟨b',⟨hE,hE',hE2⟩,st',hR',hI⟩:=hj
   refine wpIn_mono (z0s b p r m _ b' st' a w hc hv hf (hcd.imp (fun h=>h) fun h=>⟨hE' h.1,h.2⟩) (hround _ st' hI) hR') ?_
   intro e a' w' hl
   have hl:=z17 hE hE' hE2 e a' w' hl
   cases e<;>simp only[z87] at hl<;>simp only[Exit.then]
   ·obtain⟨b2,hE2,st2,hR2,m',hlt,hI'⟩:=hl
    exact⟨m',hlt,b2,hE2,st2,hR2,hI'⟩
   ·exact hl
   ·exact hl
  ·cases hc
 | .range f t ks ps as bd,x,r,m,Q,base,st,a,w,hc,hv,hf,hcd,h,hR=>by
  simp[z9o] at hf
theorem z7va {ops:Array Oper} {base:z8s} {Q:Exit→Act→World→Prop} {r:Option Nat} {q:Nat} {rest:List Nat}:∀(xs:List z7i) (s:Nat) (st:ASt) (a:Act) (w:World),z4O K n ops ((ops.toList.drop s).take xs.length) xs=true→(∀x∈xs,VOk K x.op)→Rel K base n st a w→
  z2T K.E xs st→(∀a' w',Rel K base n (z62 K.E xs st) a' w'→wpOpsIn (WF r) q K.P ops Q rest a' w')→wpOpsIn (WF r) q K.P ops Q (List.range' s xs.length++rest) a w
 |[],s,st,a,w,_,_,hR,_,hn=>by simpa using hn a w hR
 |x::xs,s,st,a,w,hc,hV,hR,hok,hn=>by
  cases hd:ops.toList.drop s with
  |nil=>rw[hd] at hc;simp[z4O] at hc
  |cons o os=>
   rw[hd] at hc
   simp only[List.length_cons,List.take_succ_cons,z4O,Bool.and_eq_true] at hc
   have hs:s<ops.size:=by
    have:(ops.toList.drop s).length≠0:=by rw[hd];simp
    simp at this;omega
   have ho:ops[s]? =some o:=by
    have:(ops.toList.drop s)[0]? =some o:=by rw[hd];rfl
    rw[List.getElem?_drop] at this
    simpa using this
   have hos:ops.toList.drop (s+1)=os:=by
    rw[←List.drop_drop,hd];rfl
   rw[List.length_cons,List.range'_succ,List.cons_append,wpOpsIn_cons]
   refine z09 (oper:=o) (o:=x) hR ho hc.1 hok.1 (hV x (by simp)) fun a' w' hR'=> ?_
   exact z7va xs (s+1) _ a' w' (by rw[hos];exact hc.2) (fun y hy=>hV y (by simp[hy])) hR' hok.2 hn
theorem z47a {Cd:Prop} {base:z8s} {Q:z4m→ASt→Prop}:∀e a w,z87 K Cd base n Q e a w→z2ba K base n Q e a w:=by
 intro e a w h
 cases e<;>simp only[z87] at h<;>simp only[z2ba]
 all_goals (obtain⟨b,⟨hb,_⟩,r⟩:=h;exact⟨b,hb,r⟩)
end
end Go.Abs
end

section
namespace Go.Abs

inductive z5Xa where
 |t (s:Nat)
 |cell (s:Nat) (k:Option Nat) (id:Nat)
 |o (s:Nat)
 deriving Inhabited

structure z2p where
 n:Nat
 wr:List Nat:=[]
 body:z9a
 res:List z5Xa

def z1s (i:Nat):List z2a→List (Nat×z2a)
 |[]=>[]
 |d::ds=>(i,d)::z1s (i+1) ds
def z9b (wr:List Nat) (ds:List z2a):ASt:=
 {org:=(z1s 0 ds).filter fun p=> !wr.contains p.1
  env:=((z1s 0 ds).filter fun p=>wr.contains p.1).map fun p=>(p.1,dem p.2)
  box:=[]}

def z2Ra (st:ASt):z5Xa→z2a
 | .t s=>dem (st.get s)
 | .o s=>dem (st.get s)
 | .cell s k id=>match k with
  |none=>dem (hdA (z9s st.getB (some id) (st.get s)))
  |some n=> .agg ((z9s st.getB (some id) (st.get s)).take n)
def z0Ia (st:ASt):z5Xa→Prop
 | .t _=>True
 | .o _=>True
 | .cell s k id=>z4ka st.getB (some id) (k.getD 1) (st.get s)
def z19 (st:ASt):List z5Xa→z2a
 |[.t s]=>st.get s
 |[r]=>z2Ra st r
 |rs=> .tup (rs.map (z2Ra st))
def z6ub (d:z2a) (rest:List z2a):z2a:=match d with| .sl (.own e) nl n cs=> .otup e nl n cs rest|d=> .tup (dem d::rest)
def z02b (st:ASt) (rs:List z5Xa):z2a:=match rs with
 | .o s::r::rs=>z6ub (st.get s) ((r::rs).map (z2Ra st))
 |rs=>z19 st rs

def z2q (res:List z5Xa) (v:z2a):z4m→ASt→Prop
 | .normal,st| .ret,st=>(∀r∈res,z0Ia st r)∧z02b st res=v∧z1f v=true
 |_,_=>False

def z8M (K:Cx):List z5Xa→List ResultVar→Bool
 |[],[]=>true
 | .t s::rs,.tmp t::vs=>(s==t)&&z8M K rs vs
 | .o s::rs,.tmp t::vs=>(s==t)&&z8M K rs vs
 | .cell s k _::rs,.cell t ty::vs=>(s==t)&&z8Ya K.P ty k&&(match k with|some n=>n !=0|none=>true)&&z8M K rs vs
 |_,_=>false

def z7b (K:Cx) (f:z2p) (fn:Func):Bool:=
 !(fn.name== "runtime.NumGoroutine")&&(match fn.body with|some c=>z8d K fn.ntmps f.body c|none=>false)&&z8M K f.res fn.results.toList&&decide (f.n≤fn.ntmps)

section
variable {K : Cx} {base : z8s} {n : Nat} {st : ASt} {a : Act} {w : World}

theorem z5c.len {K:Con} {S:Nat→Nat} {w:World}:∀{ds:List z2a} {vs:List Value},z5c K S w ds vs→ds.length=vs.length
 |[],_,h=>by simp only[z5c] at h;subst h;rfl
 |_::_,_,h=>by
  simp only[z5c] at h
  obtain⟨x,xs,rfl,_,h2⟩:=h
  simp[z5c.len h2]
theorem z5c.get {K:Con} {S:Nat→Nat} {w:World}:∀{ds:List z2a} {vs:List Value},z5c K S w ds vs→∀(i:Nat) (d:z2a),ds[i]? =some d→∃v,vs[i]? =some v∧z2c K S w d v
 |[],_,h,i,d,hd=>by simp at hd
 |c::cs,l,h,i,d,hd=>by
  simp only[z5c] at h
  obtain⟨x,xs,rfl,h1,h2⟩:=h
  cases i with
  |zero=>simp at hd;subst hd;exact⟨x,by simp,h1⟩
  |succ i=>simp at hd;obtain⟨v,hv,hr⟩:=z5c.get h2 i d hd;exact⟨v,by simpa using hv,hr⟩

theorem z7pa:∀(ds:List z2a) (i s:Nat),lk (z1s i ds) s=if i≤s then ds[s-i]? else none
 |[],i,s=>by simp[z1s,lk]
 |d::ds,i,s=>by
  simp only[z1s,lk]
  by_cases h:s=i
  ·subst h;simp
  ·rw[if_neg h,z7pa ds (i+1) s]
   by_cases hi:i≤s
   ·rw[if_pos hi,if_pos (by omega),show s-i=(s-(i+1))+1 by omega]
    simp
   ·rw[if_neg hi,if_neg (by omega)]

theorem z6Sa (wr:List Nat) (ds:List z2a) (s:Nat):lk (z9b wr ds).org s=if s∈wr then none else ds[s]? :=by
 have:(z9b wr ds).org=(z1s 0 ds).filter fun p=>(fun k=> !wr.contains k) p.1:=rfl
 rw[this,z3w (fun k=> !wr.contains k),z7pa]
 by_cases h:s∈wr<;>simp[h]
theorem z0nb (wr:List Nat) (ds:List z2a) (s:Nat):lk (z9b wr ds).env s=if s∈wr then(ds[s]?).map dem else none:=by
 have:(z9b wr ds).env=((z1s 0 ds).filter fun p=>(fun k=>wr.contains k) p.1).map fun p=>(p.1,dem p.2):=rfl
 rw[this,z3oa dem,z3w (fun k=>wr.contains k),z7pa]
 by_cases h:s∈wr<;>simp[h]

theorem z6pb (wr:List Nat) {S:Nat→Nat} {ds:List z2a} {vs:List Value} (hg:∀n∈K.N.gs,z1d K.toCon S w (K.E.T n) (K.N.gnum n) 0) (h:z5c K.toCon S w ds vs) (m:Nat) (hm:vs.length+m=n):
  Rel K ⟨w,fun _=>False,S,[]⟩ n (z9b wr ds) {tmps:=vs.toArray++Array.replicate m undef,defers:=[]} w:=by
 have hlen:=h.len
 have hget:∀s d,ds[s]? =some d→z2c K.toCon S w d ((vs.toArray++Array.replicate m undef).getD s undef):=fun s d hd=>by
  obtain⟨v,hv,hr⟩:=h.get s d hd
  have hs:s<vs.length:=(List.getElem?_eq_some_iff.1 hv).1
  rw[Array.getD_eq_getD_getElem?,Array.getElem?_append_left (by simpa using hs)]
  simpa[hv] using hr
 have hk:z7g S w (z8s.S ⟨w,fun _=>False,S,[]⟩) w:=fun b i x hi hc=>by
  refine⟨?_,hc⟩
  have hb:b<w.heap.size:=World.block_lt_of_cell? w ⟨b,i,none⟩ hc
  unfold z8s.S
  rw[if_pos ⟨hb,fun h=>h⟩]
  exact hi
 refine⟨{S:=S,ow:=fun _=>none,mu:=fun _=>none},{fr:=Fr.refl _ _ _,sS:=fun _ _ _=>rfl,inj:=fun _ _ _ h _=>(by cases h),bxok:=fun id cs h=>by simp[ASt.getB,z9b,lk] at h,nobx:=fun _ _=>rfl,muW:=fun _ _ h=>(by cases h),owW:=fun _ _ h=>(by cases h),glob:=hg,kp:=z7g.refl _ _,obok:=fun _ _ _ _ h=>(by cases h)},fun s=> ?_,fun s d hs=> ?_,rfl,by simp;exact hm⟩
 ·unfold ASt.get
  rw[z0nb,z6Sa]
  by_cases hs:s∈wr
  ·rw[if_pos hs]
   cases hd:ds[s]? with
   |none=>simp[hs,Abs.dem,Rep]
   |some d=>simp only[Option.map_some];exact z2c.dem (g:=⟨S,_,_⟩) _ (hget s d hd)
  ·rw[if_neg hs,if_neg hs]
   cases hd:ds[s]? with
   |none=>simp[Abs.dem,Rep]
   |some d=>exact z2c.dem (g:=⟨S,_,_⟩) _ (hget s d hd)
 ·rw[z6Sa] at hs
  split at hs
  ·cases hs
  ·exact z2c.mono hk d _ (hget s d hs)

theorem z4ua {P:Program} {t:TypeId} {k:Option Nat} (hk:z8Ya P t k=true) {bk o:Nat} {vs:List Value} (hr:w.rangeAt bk o vs) (hn:k.getD 1≤vs.length):
  (loadVar t ⟨bk,o,none⟩).run P w= .ok (z0Da k vs) w:=by
 unfold z0Da
 cases k with
 |none=>
  simp only[z8Ya,Bool.and_eq_true] at hk
  obtain⟨D,hu,hD⟩:=z4l hk.1
  cases vs with
  |nil=>simp at hn
  |cons v r=>
   have h0:=hr 0 v (by simp)
   simp only[Nat.add_zero] at h0
   cases D<;>simp[TypeDesc.isRow] at hD<;>simp[loadVar,isAgg,run_underlying hu,h0]
 |some n=>
  simp only[z8Ya,Bool.and_eq_true] at hk
  obtain⟨D,hu,hD⟩:=z4l hk.1
  simp only[Option.getD_some] at hn
  exact run_loadVar_mid w bk o t (vs.take n) D (fun j v hv=>by
   rw[List.getElem?_take] at hv
   split at hv
   ·exact hr j v hv
   ·cases hv) hu hD (by rw[List.length_take,Nat.min_eq_left hn];exact z1ha hk.2)

def z6O (tmps:Array Value):ResultVar→Sem Value
 | .tmp t=>pure (tmps.getD t undef)
 | .cell a t=>do loadVar t (←asAddr (tmps.getD a undef))

theorem z18 {g:Gh} (hI:Inv K base g w st.getB) (hS:z7d K g w st.get a):∀{rs:List z5Xa} {vs:List ResultVar},z8M K rs vs=true→(∀r∈rs,z0Ia st r)→
  ∃xs,(List.mapM (z6O a.tmps) vs).run K.P w= .ok xs w∧z8c K.toCon g w (rs.map (z2Ra st)) xs∧(∀s,rs=[.t s]→xs=[a.tmps.getD s undef])∧(∀s r',rs= .o s::r'→∃ys,xs=a.tmps.getD s undef::ys)
 |[],[],_,_=>⟨[],by simp,by simp[z8c],by simp,by simp⟩
 |[],_::_,h,_=>by simp[z8M] at h
 | .t _::_,[],h,_=>by simp[z8M] at h
 | .o _::_,[],h,_=>by simp[z8M] at h
 | .o _::rs,.cell _ _::vs,h,_=>by simp[z8M] at h
 | .cell _ _ _::_,[],h,_=>by simp[z8M] at h
 | .t s::rs,.cell _ _::vs,h,_=>by simp[z8M] at h
 | .cell _ _ _::rs,.tmp _::vs,h,_=>by simp[z8M] at h
 | .t s::rs,.tmp t::vs,h,hok=>by
  simp only[z8M,Bool.and_eq_true,beq_iff_eq] at h
  obtain⟨rfl,h⟩:=h
  obtain⟨xs,h1,h2,h3⟩:=z18 hI hS h (fun r hr=>hok r (by simp[hr]))
  refine⟨a.tmps.getD s undef::xs,?_,?_,fun s' hs'=> ?_,fun s' r' hs'=>by simp at hs'⟩
  ·simp only[List.mapM_cons,z6O,Sem.run_bind,Sem.run_pure,Result.andThen_ok,h1]
  ·simp only[List.map_cons,z8c,z2Ra]
   exact⟨_,_,rfl,Rep.dem _ (hS s),h2⟩
  ·simp only[List.cons.injEq,z5Xa.t.injEq] at hs'
   obtain⟨rfl,rfl⟩:=hs'
   have:=h2.len
   simp at this
   rw[List.length_eq_zero_iff.1 this.symm]
 | .o s::rs,.tmp t::vs,h,hok=>by
  simp only[z8M,Bool.and_eq_true,beq_iff_eq] at h
  obtain⟨rfl,h⟩:=h
  obtain⟨xs,h1,h2,h3⟩:=z18 hI hS h (fun r hr=>hok r (by simp[hr]))
  refine⟨a.tmps.getD s undef::xs,?_,?_,fun s' hs'=>by simp at hs',fun s' r' hs'=> ?_⟩
  ·simp only[List.mapM_cons,z6O,Sem.run_bind,Sem.run_pure,Result.andThen_ok,h1]
  ·simp only[List.map_cons,z8c,z2Ra]
   exact⟨_,_,rfl,Rep.dem _ (hS s),h2⟩
  ·simp only[List.cons.injEq,z5Xa.o.injEq] at hs'
   obtain⟨rfl,rfl⟩:=hs'
   exact⟨xs,rfl⟩
 | .cell s k id::rs,.cell t ty::vs,h,hok=>by
  simp only[z8M,Bool.and_eq_true,beq_iff_eq] at h
  obtain⟨⟨⟨rfl,hk⟩,hn0⟩,h⟩:=h
  obtain⟨xs,h1,h2,h3⟩:=z18 hI hS h (fun r hr=>hok r (by simp[hr]))
  have hpos:0<k.getD 1:=by
   cases k with
   |none=>simp
   |some n=>simp at hn0⊢;omega
  have hok1:=hok (.cell s k id) (by simp)
  simp only[z0Ia] at hok1
  obtain⟨bk,off,ws,hv,hr,hrl,hn⟩:=z7Qa hI hok1 hpos (z3O (hS s))
  refine⟨z0Da k ws::xs,?_,?_,fun s' hs'=>by simp at hs',fun s' r' hs'=>by simp at hs'⟩
  ·simp only[List.mapM_cons,z6O,Sem.run_bind,hv,asAddr,Sem.run_pure,Result.andThen_ok,z4ua hk hr hn,h1]
  ·simp only[List.map_cons,z8c,z2Ra]
   refine⟨_,_,rfl,?_,h2⟩
   cases k with
   |some n=>simp only[Rep,z0Da];exact⟨_,rfl,by simpa using hrl.take n⟩
   |none=>
    simp only[z0Da]
    cases hcs:z9s st.getB (some id) (st.get s) with
    |nil=>have:=hrl.len;rw[hcs] at this;simp at this hn;omega
    |cons c cs=>
     rw[hcs] at hrl
     simp only[z8c] at hrl
     obtain⟨v,r,rfl,h1,_⟩:=hrl
     exact Rep.dem _ h1

def z92a (K:Cx) (b:z9a):Prop:=∀(n:Nat) (x:Code) (Q:z4m→ASt→Prop) (base:z8s) (st:ASt) (a:Act) (w:World),z8d K n b x=true→(z2r b=true∨z5ga K base)→awp K.E b Q st→Rel K base n st a w→x.wpIn (WF none) 0 K.P (z2ba K base n Q) a w
theorem z9Z {b:z9a} (hv:∀p∈z5a b,VB K p) (hf:z9o b=true):z92a K b:=fun n x Q base st a w hc ht h hR=>wpIn_mono (z0s (Cd:=False) b x none 0 Q base st a w hc hv hf (ht.imp (fun h=>h) fun h=>⟨h,fun h=>h⟩) h hR) z47a
theorem z6Ba {b:z9a} (hv:∀p∈z5a b,VB K p) (hi:∀f∈z8K b,z0W K f (K.E.I f)) (hfl:z6J b=true) (ht:(z2r b||z9o b)=true):z92a K b:=fun n x Q base st a w hc hF h hR=>by
 cases hcold:z2r b with
 |true=>exact z0p b x none 0 _ _ _ _ w hc hv hi (.inr ⟨rfl,hfl⟩) hcold h hR
 |false=>
  rw[hcold,Bool.false_or] at ht
  exact z9Z hv ht n x Q base st a w hc hF h hR
theorem z8la {f:Nat} {fn:Func} {F:z2p} {c:z4a} (hf:K.P.funcs[K.nu f]? =some fn) (hc:z7b K F fn=true) (hs:z92a K F.body)
  (h:∀ds,c.pre ds→ds.length=F.n∧awp K.E F.body (z2q F.res (c.post ds)) (z9b F.wr ds)):z9e K f c:=by
 simp only[z7b,Bool.and_eq_true,Bool.not_eq_true',decide_eq_true_eq] at hc
 obtain⟨⟨⟨hname,hbody⟩,hres⟩,hsz⟩:=hc
 cases hb:fn.body with
 |none=>rw[hb] at hbody;cases hbody
 |some code=>
  rw[hb] at hbody
  simp only at hbody
  refine⟨⟨fn,hf,by rw[hb];rfl,hname⟩,fun S w ds vs hg hds hpre=> ?_⟩
  obtain⟨hlen,hw⟩:=h ds hpre
  have hl2:=hds.len
  refine callsIn_wide.1 (callsIn_of_wp_marks (F:=WF none) (n:=0) hf hb (z3sa none _) ?_)
  have hR:=z6pb (n:=fn.ntmps) F.wr hg hds (fn.ntmps-vs.length) (by omega)
  have hwp:=hs fn.ntmps code _ _ _ _ w hbody (.inr ⟨fun _ h=>False.elim h,hg⟩) hw hR
  simp only[List.size_toArray]
  refine wpIn_mono hwp fun e a' w' hl=> ?_
  have fin:∀st g w',Inv K ⟨w,fun _=>False,S,[]⟩ g w' st.getB→z7d K g w' st.get a'→((∀r∈F.res,z0Ia st r)∧z02b st F.res=c.post ds∧z1f (c.post ds)=true)→
    ∃v,(results fn a'.tmps).run K.P w'= .ok v w'∧∃v' g',Ending.returned v= .returned v'∧Fr w.heap.size (fun _=>False) w w'∧Rep K.toCon g' w' (some .ret) (c.post ds) v'∧
     (∀b l,g'.ow b=some l→w.heap.size≤b∧b<w'.heap.size)∧∀b,b<w.heap.size→g'.S b=S b:=fun st g w' hI hS hq=>by
   obtain⟨hok,hval,hpure⟩:=hq
   obtain⟨xs,h1,h2,h3,h3o⟩:=z18 hI hS hres hok
   have hmap:fn.results.mapM (z6O a'.tmps)=Functor.map List.toArray (fn.results.toList.mapM (z6O a'.tmps)):=by
    exact Array.mapM_eq_mapM_toList
   have hrun:(results fn a'.tmps).run K.P w'= .ok (if h:xs.toArray.size=1 then xs.toArray[0] else .tuple xs.toArray) w':=by
    have:results fn a'.tmps=(do
     let vs←fn.results.mapM (z6O a'.tmps)
     pure (if h:vs.size=1 then vs[0] else .tuple vs)):=rfl
    rw[this,hmap]
    simp only[map_eq_pure_bind,Sem.run_bind,h1,Result.andThen_ok,Sem.run_pure]
   refine⟨_,hrun,?_⟩
   have how:∀b l,g.ow b=some l→w.heap.size≤b∧b<w'.heap.size:=fun b l hb=>by
    obtain⟨k1,k2⟩:=hI.owW b l hb
    exact⟨k1.resolve_right (fun h=>h),k2⟩
   have hSb:∀b,b<w.heap.size→g.S b=S b:=fun b hb=>hI.sS b hb (fun h=>h)
   by_cases hone:∃s,F.res=[.t s]
   ·obtain⟨s,hs⟩:=hone
    have hx:=h3 s hs
    subst hx
    rw[hs] at hval
    simp only[z02b,z19] at hval
    refine⟨a'.tmps.getD s undef,z2B g (.slot s) .ret,by simp,hI.fr,?_,fun b l hb=> ?_,hSb⟩
    ·rw[←hval];exact z9p (hS s)
    ·simp only[z2B] at hb
     split at hb
     ·rename_i he;exact how b _ he
     ·exact how b l hb
   ·have hl3:=h2.len
    simp only[List.length_map] at hl3
    have rest:∀{d:z2a} {v:Value},Rep K.toCon g w' none d v→z6g d=false→d=c.post ds→Rep K.toCon g w' (some .ret) (c.post ds) v:=fun {d v} hr ho he=>by
     rw[←he];exact z1K _ ho hr
    have hdem:∀d:z2a,z6g (dem d)=false:=z0E
    cases hF:F.res with
    |nil=>
     rw[hF] at h2 hval hl3
     simp only[List.map_nil,z8c] at h2
     subst h2
     refine⟨_,g,rfl,hI.fr,?_,how,hSb⟩
     refine rest (d:= .tup []) ?_ rfl (by rw[←hval];rfl)
     simp[Rep,z8c]
    |cons r rs=>
     rw[hF] at h2 hval hl3 hone
     cases rs with
     |nil=>
      simp only[List.map_cons,List.map_nil,z8c] at h2
      obtain⟨x,ys,rfl,h4,rfl⟩:=h2
      refine⟨x,g,by simp,hI.fr,?_,how,hSb⟩
      cases r with
      |t s=>exact absurd ⟨s,rfl⟩ hone
      |o s=>
       simp only[z02b,z19] at hval
       exact rest h4 (hdem _) hval
      |cell s k id=>
       simp only[z02b,z19] at hval
       refine rest h4 ?_ hval
       cases k with
       |none=>exact hdem _
       |some n=>rfl
     |cons r2 rs=>
      have h5:¬(xs.toArray.size=1):=by simp only[List.size_toArray,←hl3,List.length_cons];omega
      have dflt:c.post ds= .tup ((r::r2::rs).map (z2Ra st))→∃v' g',(.returned (if h:xs.toArray.size=1 then xs.toArray[0] else .tuple xs.toArray):Ending)= .returned v'∧Fr w.heap.size (fun _=>False) w w'∧Rep K.toCon g' w' (some .ret) (c.post ds) v'∧
        (∀b l,g'.ow b=some l→w.heap.size≤b∧b<w'.heap.size)∧∀b,b<w.heap.size→g'.S b=S b:=fun he=>by
       refine⟨.tuple xs.toArray,g,by rw[dif_neg h5],hI.fr,?_,how,hSb⟩
       refine rest (d:= .tup ((r::r2::rs).map (z2Ra st))) ?_ rfl he.symm
       simp only[Rep]
       exact⟨_,rfl,by simpa using h2⟩
      cases r with
      |t s=>exact dflt (by rw[←hval];rfl)
      |cell s k id=>exact dflt (by rw[←hval];rfl)
      |o s=>
       have hval':z6ub (st.get s) ((r2::rs).map (z2Ra st))=c.post ds:=hval
       unfold z6ub at hval'
       split at hval'
       ·rename_i e nl n cs hget
        obtain⟨ys,hys⟩:=h3o s _ hF
        have hm:=z9p (l1:= .ret) (z24 hS s)
        rw[hget] at hm
        simp only[Rep] at hm
        simp only[List.map_cons,z8c] at h2
        obtain⟨x,zs,hx,_,h6⟩:=h2
        rw[hys] at hx
        simp only[List.cons.injEq] at hx
        obtain⟨rfl,rfl⟩:=hx
        refine⟨.tuple xs.toArray,z2B g (.slot s) .ret,by rw[dif_neg h5],hI.fr,?_,fun b l hb=> ?_,hSb⟩
        ·rw[←hval']
         simp only[Rep]
         refine⟨xs.toArray,_,ys,rfl,hys,hm,?_⟩
         exact z8c.mono (g:=g) (g':=z2B g (.slot s) .ret) (z7g.refl g.S w') ((r2::rs).map (z2Ra st)) ys (fun _ _ _ h=>h) (by simpa[z8c] using h6)
        ·simp only[z2B] at hb
         split at hb
         ·rename_i he;exact how b _ he
         ·exact how b l hb
       ·rename_i d hd
        exact dflt (by rw[←hval'];rfl)
  cases e<;>simp only[z2ba] at hl<;>simp only[bodyPostM]
  ·obtain⟨b',hE,st,hR',hq⟩:=hl
   exact z6Xa hE rfl hR' fun g w' hI hS hO=>fin st g w' hI hS hq
  ·obtain⟨b',hE,st,_,hq⟩:=hl
   exact hq
  ·obtain⟨b',hE,st,hR',hq⟩:=hl
   exact z6Xa hE rfl hR' fun g w' hI hS hO=>fin st g w' hI hS hq

theorem z74a {f:Nat} {fn:Func} {F:z2p} {c:z4a} (hf:K.P.funcs[K.nu f]? =some fn) (hc:z7b K F fn=true) (hv:∀p∈z5a F.body,VB K p)
  (h:∀ds,c.pre ds→ds.length=F.n∧awp K.E F.body (z2q F.res (c.post ds)) (z9b F.wr ds)) (hi:∀f∈z8K F.body,z0W K f (K.E.I f)) (hfl:z6J F.body=true) (ht:(z2r F.body||z9o F.body)=true):z9e K f c:=z8la hf hc (z6Ba hv hi hfl ht) h
theorem z3a {f:Nat} {fn:Func} {F:z2p} {c:z4a} (hf:K.P.funcs[K.nu f]? =some fn) (hc:z7b K F fn=true) (hv:∀p∈z5a F.body,VB K p)
  (h:∀ds,c.pre ds→ds.length=F.n∧awp K.E F.body (z2q F.res (c.post ds)) (z9b F.wr ds)) (hfl:z9o F.body=true):z9e K f c:=z8la hf hc (z9Z hv hfl) h
end
end Go.Abs
end

section
namespace Go.Abs

def z2Ub (bx:List Nat):Nat→List z2a→List (Nat×z2a)
 |_,[]=>[]
 |i,d::ds=>(i,if bx.contains i then .bp i 0 else dem d)::z2Ub bx (i+1) ds
def z6fa (bx:List Nat) (p:Nat→Value) (ds:List z2a):ASt:=
 {org:=bx.map fun j=>(j,.lit (p j)),env:=z2Ub bx 0 ds,box:=bx.map fun j=>(j,some (z4M (ds.getD j .undef)))}

def z3Ab (res:List z5Xa) (c:CM) (p:Nat→Value) (ds:List z2a):z4m→ASt→Prop
 | .normal,st| .ret,st=>(∀r∈res,z0Ia st r)∧z19 st res=c.post ds∧(∀j∈c.bx,lk st.org j=some (.lit (p j))∧st.get j= .bp j 0)∧(∀j∈c.bx++c.nb,st.getB j=some (c.out ds j))∧
  (∀id∈z2o (c.post ds),id∈c.bx++c.nb)∧(∀j∈c.bx++c.nb,∀id∈z2l (c.out ds j),id∈c.bx++c.nb)
 |_,_=>False

section
variable {K : Cx} {base : z8s} {n : Nat} {st : ASt} {a : Act} {w : World}

theorem z56a (bx:List Nat):∀(ds:List z2a) (i s:Nat),lk (z2Ub bx i ds) s=if i≤s then(ds[s-i]?).map fun d=>if bx.contains s then z2a.bp s 0 else dem d else none
 |[],i,s=>by simp[z2Ub,lk]
 |d::ds,i,s=>by
  simp only[z2Ub,lk]
  by_cases h:s=i
  ·subst h;simp
  ·rw[if_neg h,z56a bx ds (i+1) s]
   by_cases hi:i≤s
   ·rw[if_pos hi,if_pos (by omega),show s-i=(s-(i+1))+1 by omega]
    simp
   ·rw[if_neg hi,if_neg (by omega)]
theorem z81 {α:Type} (f:Nat→α) (s:Nat):∀l:List Nat,lk (l.map fun s=>(s,f s)) s=if s∈l then some (f s) else none
 |[]=>by simp[lk]
 |t::l=>by
  simp only[List.map_cons,lk,List.mem_cons]
  by_cases h:s=t
  ·subst h;simp
  ·rw[if_neg h,z81 f s l]
   simp only[h,false_or]

theorem z8fb {g:Gh} {c:CM} {ds:List z2a} {vs:List Value} (hI:Inv K ⟨w,Wr g,g.S,[]⟩ g w (c.ins ds)) (hA:z8Qb K c g w ds vs) (hb:∀j∈c.bx,j<ds.length) (m:Nat) (hm:vs.length+m=n):
  Rel K ⟨w,Wr g,g.S,[]⟩ n (z6fa c.bx (fun j=> .pointer (some ⟨(g.mu j).getD 0,0,none⟩)) ds) {tmps:=vs.toArray++Array.replicate m undef,defers:=[]} w:=by
 obtain⟨hlen,hA⟩:=hA
 have hget:∀s v,vs[s]? =some v→(vs.toArray++Array.replicate m undef).getD s undef=v:=fun s v hv=>by
  have hs:s<vs.length:=(List.getElem?_eq_some_iff.1 hv).1
  rw[Array.getD_eq_getD_getElem?,Array.getElem?_append_left (by simpa using hs)]
  simp[hv]
 have harg:∀s d,ds[s]? =some d→∃v,vs[s]? =some v∧if s∈c.bx then∃b,g.mu s=some b∧v= .pointer (some ⟨b,0,none⟩) else z2c K.toCon g.S w d v:=fun s d hd=>by
  have hs:s<vs.length:=by have:=(List.getElem?_eq_some_iff.1 hd).1;omega
  exact⟨vs[s],List.getElem?_eq_getElem hs,hA s d _ hd (List.getElem?_eq_getElem hs)⟩
 have hgb:(z6fa c.bx (fun j=> .pointer (some ⟨(g.mu j).getD 0,0,none⟩)) ds).getB=c.ins ds:=funext fun j=>by
  simp only[ASt.getB,z6fa,z81 fun j=>some (z4M (ds.getD j .undef)),CM.ins]
  split<;>rfl
 have horg:∀s,lk (z6fa c.bx (fun j=> .pointer (some ⟨(g.mu j).getD 0,0,none⟩)) ds).org s=if s∈c.bx then some (.lit (.pointer (some ⟨(g.mu s).getD 0,0,none⟩))) else none:=fun s=>
  z81 (fun j=>z2a.lit (.pointer (some ⟨(g.mu j).getD 0,0,none⟩))) s c.bx
 refine⟨g,by rw[hgb];exact hI,fun s=> ?_,fun s d hs=> ?_,rfl,by simp;exact hm⟩
 ·unfold ASt.get
  rw[horg]
  show Rep K.toCon g w (some (.slot s)) (match lk (z2Ub c.bx 0 ds) s with|some d=>d|none=>_) _
  rw[z56a,if_pos (Nat.zero_le _),Nat.sub_zero]
  cases hd:ds[s]? with
  |none=>
   have hns:s∉c.bx:=fun h=>by have:=hb s h;rw[List.getElem?_eq_none_iff] at hd;omega
   simp[hns,Abs.dem,Rep]
  |some d=>
   obtain⟨v,hv,hr⟩:=harg s d hd
   rw[hget s v hv]
   simp only[Option.map_some,List.contains_iff_mem]
   by_cases hs:s∈c.bx
   ·rw[if_pos hs] at hr⊢
    obtain⟨b,hb,rfl⟩:=hr
    simp only[Rep]
    exact⟨b,hb,rfl⟩
   ·rw[if_neg hs] at hr⊢
    exact z2c.dem (g:=g) _ hr
 ·rw[horg] at hs
  split at hs
  ·rename_i hm
   cases hs
   obtain⟨v,hv,hr⟩:=harg s _ (List.getElem?_eq_getElem (hb s hm))
   rw[if_pos hm] at hr
   obtain⟨b,hb,rfl⟩:=hr
   show z2c _ _ _ _ _
   rw[hget s _ hv]
   simp[z2c,hb]
  ·cases hs

theorem z3Qa {g:Gh} {getB:Nat→Option (List z2a)} (hI:Inv K base g w getB) (js:List Nat) {out:Nat→List z2a} (h1:∀j∈js,getB j=some (out j)) (h2:∀j∈js,∀id∈z2l (out j),id∈js):
  Inv K base {g with mu:=fun j=>if j∈js then g.mu j else none} w (fun j=>if j∈js then some (out j) else none):=by
 refine⟨hI.fr,hI.sS,fun i j b hi hj=> ?_,fun id cs hc=> ?_,fun id hid=> ?_,fun id b hb=> ?_,hI.owW,hI.glob,hI.kp,fun id b cs ho hb hc hd=> ?_⟩
 ·replace hi:(if i∈js then g.mu i else none)=some b:=hi
  replace hj:(if j∈js then g.mu j else none)=some b:=hj
  split at hi
  ·split at hj
   ·exact hI.inj i j b hi hj
   ·cases hj
  ·cases hi
 ·split at hc
  ·rename_i hm
   cases hc
   obtain⟨b,k1,k2,k3⟩:=hI.bxok id _ (h1 id hm)
   refine⟨b,by simp only[if_pos hm];exact k1,k2,fun i d hi=> ?_⟩
   obtain⟨⟨x,h4,h5⟩,h6⟩:=k3 i d hi
   exact⟨⟨x,h4,Rep.mono (g:=g) (g':={g with mu:=fun j=>if j∈js then g.mu j else none}) (z7g.refl g.S w) d x (some (.cell id i)) (some (.cell id i)) (fun id' hid' b' hb'=>by show(if id'∈js then g.mu id' else none)=some b';rw[if_pos (h2 id hm id' (z1N (z1l hi) hid'))];exact hb') (fun m hm=>⟨m,hm,fun b hb=>⟨hb,rfl,fun _ _ h=>h⟩⟩) h5⟩,h6⟩
  ·cases hc
 ·show(if id∈js then g.mu id else none)=none
  replace hid:(if id∈js then some (out id) else none)=none:=hid
  split at hid
  ·cases hid
  ·rename_i hm;rw[if_neg hm]
 ·replace hb:(if id∈js then g.mu id else none)=some b:=hb
  split at hb
  ·exact hI.muW id b hb
  ·cases hb
 ·replace hb:(if id∈js then g.mu id else none)=some b:=hb
  split at hb
  ·rename_i hm
   rw[if_pos hm] at hc
   cases hc
   exact hI.obok id b _ ho hb (h1 id hm) hd
  ·cases hb

theorem z9Ja {f:Nat} {fn:Func} {F:z2p} {c:CM} (hf:K.P.funcs[K.nu f]? =some fn) (hc:z7b K F fn=true) (hs:z92a K F.body) (hb:∀j∈c.bx,j<F.n)
  (h:∀ds p,c.pre ds→ds.length=F.n∧awp K.E F.body (z3Ab F.res c p ds) (z6fa c.bx p ds)) (ht:z2r F.body=true):z0ga K f c:=by
 simp only[z7b,Bool.and_eq_true,Bool.not_eq_true',decide_eq_true_eq] at hc
 obtain⟨⟨⟨hname,hbody⟩,hres⟩,hsz⟩:=hc
 cases hbd:fn.body with
 |none=>rw[hbd] at hbody;cases hbody
 |some code=>
  rw[hbd] at hbody
  simp only at hbody
  refine⟨⟨fn,hf,by rw[hbd];rfl,hname⟩,fun g0 w ds vs hI0 hA hpre=> ?_⟩
  obtain⟨hlen,hw⟩:=h ds (fun j=> .pointer (some ⟨(g0.mu j).getD 0,0,none⟩)) hpre
  have hl2:=hA.1
  refine callsIn_wide.1 (callsIn_of_wp_marks (F:=WF none) (n:=0) hf hbd (z3sa none _) ?_)
  have hR:=z8fb (n:=fn.ntmps) hI0 hA (fun j hj=>by rw[hlen];exact hb j hj) (fn.ntmps-vs.length) (by omega)
  have hwp:=hs fn.ntmps code _ _ _ _ w hbody (.inl ht) hw hR
  simp only[List.size_toArray]
  refine wpIn_mono hwp fun e a' w' hl=> ?_
  have fin:∀st g w',Inv K ⟨w,Wr g0,g0.S,[]⟩ g w' st.getB→z7d K g w' st.get a'→(∀j∈c.bx,lk st.org j=some (.lit (.pointer (some ⟨(g0.mu j).getD 0,0,none⟩)))→a'.tmps.getD j undef= .pointer (some ⟨(g0.mu j).getD 0,0,none⟩))→z3Ab F.res c (fun j=> .pointer (some ⟨(g0.mu j).getD 0,0,none⟩)) ds .ret st→
    ∃v,(results fn a'.tmps).run K.P w'= .ok v w'∧∃v' g',Ending.returned v= .returned v'∧Inv K ⟨w,Wr g0,g0.S,[]⟩ g' w' (c.outs ds)∧(∀j∈c.bx,g'.mu j=g0.mu j)∧Rep K.toCon g' w' (some .ret) (c.post ds) v':=fun st g w' hI hS hO hq=>by
   obtain⟨hok,hval,hbx,hout,hr1,hr2⟩:=hq
   obtain⟨xs,h1,h2,h3,_⟩:=z18 hI hS hres hok
   have hmap:fn.results.mapM (z6O a'.tmps)=Functor.map List.toArray (fn.results.toList.mapM (z6O a'.tmps)):=by
    exact Array.mapM_eq_mapM_toList
   have hrun:(results fn a'.tmps).run K.P w'= .ok (if h:xs.toArray.size=1 then xs.toArray[0] else .tuple xs.toArray) w':=by
    have:results fn a'.tmps=(do
     let vs←fn.results.mapM (z6O a'.tmps)
     pure (if h:vs.size=1 then vs[0] else .tuple vs)):=rfl
    rw[this,hmap]
    simp only[map_eq_pure_bind,Sem.run_bind,h1,Result.andThen_ok,Sem.run_pure]
   refine⟨_,hrun,?_⟩
   let g':Gh:={g with mu:=fun j=>if j∈c.bx++c.nb then g.mu j else none}
   have hI':Inv K ⟨w,Wr g0,g0.S,[]⟩ g' w' (c.outs ds):=z3Qa hI (c.bx++c.nb) hout hr2
   have hmu:∀j∈c.bx,g'.mu j=g0.mu j:=fun j hj=>by
    obtain⟨k1,k2⟩:=hbx j hj
    have e1:=hO j hj k1
    have e2:=hS j
    rw[k2] at e2
    simp only[Rep] at e2
    obtain⟨b,hb1,hb2⟩:=e2
    rw[hb2] at e1
    simp only[Value.pointer.injEq,Option.some.injEq,Addr.mk.injEq,and_true] at e1
    obtain⟨d,hd⟩:∃d,ds[j]? =some d:=⟨_,List.getElem?_eq_getElem (by rw[hlen];exact hb j hj)⟩
    have:=hA.2 j d (vs[j]'(by rw[←hl2,hlen];exact hb j hj)) hd (List.getElem?_eq_getElem _)
    rw[if_pos hj] at this
    obtain⟨b',hb',_⟩:=this
    rw[hb'] at e1
    simp only[Option.getD_some] at e1
    simp only[g',if_pos (List.mem_append_left c.nb hj)]
    rw[hb1,hb',e1]
   have cut:∀{d:z2a} {v:Value} {l:Option Loc},(∀id∈z2o d,id∈c.bx++c.nb)→Rep K.toCon g w' l d v→Rep K.toCon g' w' l d v:=fun {d v l} hd hr=>
    Rep.mono (g:=g) (g':=g') (z7g.refl g.S w') d v l l (fun id hid b hb=>by simp only[g',if_pos (hd id hid)];exact hb) (fun m hm=>⟨m,hm,fun b hb=>⟨hb,rfl,fun _ _ h=>h⟩⟩) hr
   by_cases hone:∃s,F.res=[.t s]
   ·obtain⟨s,hs⟩:=hone
    have hx:=h3 s hs
    subst hx
    rw[hs] at hval
    simp only[z19] at hval
    refine⟨a'.tmps.getD s undef,z2B g' (.slot s) .ret,by simp,z9O hI' s .ret,hmu,?_⟩
    rw[←hval] at hr1⊢
    exact z9p (cut hr1 (hS s))
   ·have hl3:=h2.len
    simp only[List.length_map] at hl3
    have rest:∀{d:z2a} {v:Value},Rep K.toCon g w' none d v→z6g d=false→d=c.post ds→Rep K.toCon g' w' (some .ret) (c.post ds) v:=fun {d v} hr ho he=>by
     subst he;exact z1K _ ho (cut hr1 hr)
    have hdem:∀d:z2a,z6g (dem d)=false:=z0E
    cases hF:F.res with
    |nil=>
     rw[hF] at h2 hval hl3
     simp only[List.map_nil,z8c] at h2
     subst h2
     refine⟨_,g',rfl,hI',hmu,?_⟩
     refine rest (d:= .tup []) ?_ rfl (by rw[←hval];rfl)
     simp[Rep,z8c]
    |cons r rs=>
     rw[hF] at h2 hval hl3 hone
     cases rs with
     |nil=>
      simp only[List.map_cons,List.map_nil,z8c] at h2
      obtain⟨x,ys,rfl,h4,rfl⟩:=h2
      refine⟨x,g',by simp,hI',hmu,?_⟩
      cases r with
      |t s=>exact absurd ⟨s,rfl⟩ hone
      |o s=>
       simp only[z19] at hval
       exact rest h4 (hdem _) hval
      |cell s k id=>
       simp only[z19] at hval
       refine rest h4 ?_ hval
       cases k with
       |none=>exact hdem _
       |some n=>rfl
     |cons r2 rs=>
      have h5:¬(xs.toArray.size=1):=by simp only[List.size_toArray,←hl3,List.length_cons];omega
      refine⟨.tuple xs.toArray,g',by rw[dif_neg h5],hI',hmu,?_⟩
      refine rest (d:= .tup ((r::r2::rs).map (z2Ra st))) ?_ rfl (by rw[←hval];cases r<;>rfl)
      simp only[Rep]
      exact⟨_,rfl,by simpa using h2⟩
  cases e<;>simp only[z2ba] at hl<;>simp only[bodyPostM]
  ·obtain⟨b',hE,st,hR',hq⟩:=hl
   exact z6Xa hE rfl hR' fun g w' hI hS hO=>fin st g w' hI hS (fun j _ hj=>by have:=hO j _ hj;simpa[z2c] using this) hq
  ·obtain⟨b',hE,st,_,hq⟩:=hl
   exact hq
  ·obtain⟨b',hE,st,hR',hq⟩:=hl
   exact z6Xa hE rfl hR' fun g w' hI hS hO=>fin st g w' hI hS (fun j _ hj=>by have:=hO j _ hj;simpa[z2c] using this) hq

theorem z8fa {f:Nat} {fn:Func} {F:z2p} {c:CM} (hf:K.P.funcs[K.nu f]? =some fn) (hc:z7b K F fn=true) (hv:∀p∈z5a F.body,VB K p) (hb:∀j∈c.bx,j<F.n)
  (h:∀ds p,c.pre ds→ds.length=F.n∧awp K.E F.body (z3Ab F.res c p ds) (z6fa c.bx p ds)) (hfl:z9o F.body=true) (ht:z2r F.body=true):z0ga K f c:=z9Ja hf hc (z9Z hv hfl) hb h ht
end
end Go.Abs
end

section
namespace Go.Abs

def z4Cb:Nat→List z2a→List (Nat×z2a)
 |_,[]=>[]
 |i,d::ds=>(i,dem d)::z4Cb (i+1) ds
def z1fa (c:CW) (p:Nat→Value) (ds:List z2a) (bs:Nat→List z2a):ASt:=
 {org:=c.hold.map fun j=>(j,.lit (p j)),env:=z4Cb 0 ds,box:=c.bx.map fun j=>(j,some (bs j))}
def held (st:ASt) (p:Value) (d:z2a):Prop:=∃t V id e o n c e' o' n' c',lk st.org t=some (.lit V)∧z0Jb V=z0Jb p∧st.get t= .bv id e o n c∧d= .bv id e' o' n' c'
def z1xb (res:List z5Xa) (c:CW) (p:Nat→Value) (ds:List z2a) (bs:Nat→List z2a):z4m→ASt→Prop
 | .normal,st| .ret,st=>(∀r∈res,z0Ia st r)∧z19 st res=c.post ds bs∧(∀j∈c.hold,(lk st.org j=some (.lit (p j))∧st.get j=dem (ds.getD j .undef))∨held st (p j) (ds.getD j .undef))∧(∀j∈c.bx++c.nb,st.getB j=some (c.out ds bs j))∧
  (∀id∈z2o (c.post ds bs),id∈c.bx++c.nb)∧(∀j∈c.bx++c.nb,∀id∈z2l (c.out ds bs j),id∈c.bx++c.nb)
 |_,_=>False

section
variable {K : Cx} {base : z8s} {n : Nat} {st : ASt} {a : Act} {w : World}
theorem z7qb (d:z2a):z2o (Abs.dem d)=z2o d:=by
 cases d with
 |sl m nl n cs=>cases m<;>rfl
 |oagg=>simp only[Abs.dem,z2o,z1O,z2l,List.nil_append]
 |_=>rfl
mutual
theorem z8Cb {K:Con} {g g':Gh} {w w':World}:∀(d:z2a) (v:Value) (l l':Option Loc),Rep K g w l d v→Rep K g' w' l' d v→∀id∈z2o d,g.mu id=g'.mu id
 | .bp id off,v,_,_,h,h',i,hi=>by
  simp only[z2o,List.mem_singleton] at hi
  subst hi
  simp only[Rep] at h h'
  obtain⟨b,hb,rfl⟩:=h
  obtain⟨b',hb',e⟩:=h'
  simp only[Value.pointer.injEq,Option.some.injEq,Addr.mk.injEq,and_true] at e
  rw[hb,hb',e]
 | .bv id e off n c,v,_,_,h,h',i,hi=>by
  simp only[z2o,List.mem_singleton] at hi
  subst hi
  simp only[Rep] at h h'
  obtain⟨b,cap,o,hb,rfl,_⟩:=h
  obtain⟨b',cap',o',hb',e,_⟩:=h'
  simp only[Value.slice.injEq,Option.some.injEq,Addr.mk.injEq,and_true] at e
  rw[hb,hb',e.1.1]
 | .agg cs,v,_,_,h,h',i,hi=>by
  simp only[Rep] at h h'
  obtain⟨a,rfl,h⟩:=h
  obtain⟨a',e,h'⟩:=h'
  cases e
  exact z1V cs _ h h' i (by simpa[z2o] using hi)
 | .tup cs,v,_,_,h,h',i,hi=>by
  simp only[Rep] at h h'
  obtain⟨a,rfl,h⟩:=h
  obtain⟨a',e,h'⟩:=h'
  cases e
  exact z1V cs _ h h' i (by simpa[z2o] using hi)
 | .fn f x y,v,_,_,h,h',i,hi=>by
  simp only[Rep] at h h'
  obtain⟨a,c,rfl,h1,h2⟩:=h
  obtain⟨a',c',e,h1',h2'⟩:=h'
  simp only[Value.func.injEq] at e
  obtain⟨_,rfl,rfl⟩:=e
  simp only[z2o,List.mem_append] at hi
  rcases hi with hi|hi
  ·exact z1V x _ h1 h1' i hi
  ·exact z1V y _ h2 h2' i hi
 | .undef,_,_,_,_,_,i,hi=>by simp[z2o] at hi
 | .lit _,_,_,_,_,_,i,hi=>by simp[z2o] at hi
 | .sl _ _ _ _,_,_,_,_,_,i,hi=>by simp[z2o] at hi
 | .ep _,_,_,_,_,_,i,hi=>by simp[z2o] at hi
 | .otup _ _ _ _ rest,v,_,_,h,h',i,hi=>by
  simp only[Rep] at h h'
  obtain⟨a,x,xs,rfl,h0,_,h⟩:=h
  obtain⟨a',x',xs',e,h0',_,h'⟩:=h'
  cases e
  rw[h0] at h0'
  cases h0'
  exact z1V rest _ h h' i (by simpa[z2o] using hi)
 | .oagg pre _ _ _ _ rest,v,_,_,h,h',i,hi=>by
  simp only[Rep] at h h'
  obtain⟨a,ps,x,xs,rfl,h0,h1,_,h⟩:=h
  obtain⟨a',ps',x',xs',e,h0',h1',_,h'⟩:=h'
  cases e
  rw[h0] at h0'
  obtain⟨e1,e2⟩:=List.append_inj h0' (by rw[←h1.len,←h1'.len])
  subst e1
  cases e2
  simp only[z2o,List.mem_append] at hi
  rcases hi with hi|hi
  ·exact z1V pre _ h1 h1' i hi
  ·exact z1V rest _ h h' i hi
theorem z1V {K:Con} {g g':Gh} {w w':World}:∀(ds:List z2a) (vs:List Value),z8c K g w ds vs→z8c K g' w' ds vs→∀id∈z2l ds,g.mu id=g'.mu id
 |[],_,_,_,i,hi=>by simp[z2l] at hi
 |c::cs,l,h,h',i,hi=>by
  simp only[z8c] at h h'
  obtain⟨x,xs,rfl,h1,h2⟩:=h
  obtain⟨x',xs',e,h1',h2'⟩:=h'
  cases e
  simp only[z2l,List.mem_append] at hi
  rcases hi with hi|hi
  ·exact z8Cb c x none none h1 h1' i hi
  ·exact z1V cs xs h2 h2' i hi
end
theorem z27a:∀(ds:List z2a) (i s:Nat),lk (z4Cb i ds) s=if i≤s then(ds[s-i]?).map Abs.dem else none
 |[],i,s=>by simp[z4Cb,lk]
 |d::ds,i,s=>by
  simp only[z4Cb,lk]
  by_cases h:s=i
  ·subst h;simp
  ·rw[if_neg h,z27a ds (i+1) s]
   by_cases hi:i≤s
   ·rw[if_pos hi,if_pos (by omega),show s-i=(s-(i+1))+1 by omega]
    simp
   ·rw[if_neg hi,if_neg (by omega)]

theorem z04a {g:Gh} {c:CW} {ds:List z2a} {bs:Nat→List z2a} {vs:List Value} (hI:Inv K ⟨w,Wr g,g.S,[]⟩ g w (c.ins bs)) (hA:z8c K.toCon g w ds vs) (m:Nat) (hm:vs.length+m=n):
  Rel K ⟨w,Wr g,g.S,[]⟩ n (z1fa c (fun j=>vs.getD j undef) ds bs) {tmps:=vs.toArray++Array.replicate m undef,defers:=[]} w:=by
 have hget:∀s v,vs[s]? =some v→(vs.toArray++Array.replicate m undef).getD s undef=v:=fun s v hv=>by
  have hs:s<vs.length:=(List.getElem?_eq_some_iff.1 hv).1
  rw[Array.getD_eq_getD_getElem?,Array.getElem?_append_left (by simpa using hs)]
  simp[hv]
 have hgb:(z1fa c (fun j=>vs.getD j undef) ds bs).getB=c.ins bs:=funext fun j=>by
  simp only[ASt.getB,z1fa,z81 fun j=>some (bs j),CW.ins]
  split<;>rfl
 have horg:∀s,lk (z1fa c (fun j=>vs.getD j undef) ds bs).org s=if s∈c.hold then some (.lit (vs.getD s undef)) else none:=fun s=>
  z81 (fun j=>z2a.lit (vs.getD j undef)) s c.hold
 have hall:∀s,(vs.toArray++Array.replicate m undef).getD s undef=vs.getD s undef:=fun s=>by
  cases hv:vs[s]? with
  |some v=>rw[hget s v hv,List.getD_eq_getElem?_getD,hv];rfl
  |none=>
   rw[List.getD_eq_getElem?_getD,hv]
   have hs:vs.length≤s:=List.getElem?_eq_none_iff.1 hv
   rw[Array.getD_eq_getD_getElem?,Array.getElem?_append_right (by simpa using hs)]
   simp only[Array.getElem?_replicate,Option.getD_none]
   split<;>rfl
 refine⟨g,by rw[hgb];exact hI,fun s=> ?_,fun s d hs=> ?_,rfl,by simp;exact hm⟩
 ·unfold ASt.get
  rw[horg]
  show Rep K.toCon g w (some (.slot s)) (match lk (z4Cb 0 ds) s with|some d=>d|none=>_) _
  rw[z27a,if_pos (Nat.zero_le _),Nat.sub_zero]
  cases hd:ds[s]? with
  |none=>
   simp only[Option.map_none]
   by_cases hh:s∈c.hold
   ·rw[if_pos hh]
    simp only[Option.getD_some,Abs.dem,Rep]
    exact hall s
   ·rw[if_neg hh]
    simp[Abs.dem,Rep]
  |some d=>
   obtain⟨v,hv,hr⟩:=hA.get s d hd
   rw[hget s v hv]
   simp only[Option.map_some]
   exact Rep.dem _ hr
 ·rw[horg] at hs
  split at hs
  ·cases hs
   show z2c _ _ _ _ _
   rw[hall s]
   simp[z2c]
  ·cases hs

theorem z3ha {f:Nat} {fn:Func} {F:z2p} {c:CW} (hf:K.P.funcs[K.nu f]? =some fn) (hc:z7b K F fn=true) (hs:z92a K F.body)
  (h:∀ds bs p,c.pre ds bs→ds.length=F.n∧awp K.E F.body (z1xb F.res c p ds bs) (z1fa c p ds bs)) (ht:z2r F.body=true):z99 K f c:=by
 simp only[z7b,Bool.and_eq_true,Bool.not_eq_true',decide_eq_true_eq] at hc
 obtain⟨⟨⟨hname,hbody⟩,hres⟩,hsz⟩:=hc
 cases hbd:fn.body with
 |none=>rw[hbd] at hbody;cases hbody
 |some code=>
  rw[hbd] at hbody
  simp only at hbody
  refine⟨⟨fn,hf,by rw[hbd];rfl,hname⟩,fun g0 w ds bs vs hI0 hA hcov hpre=> ?_⟩
  obtain⟨hlen,hw⟩:=h ds bs (fun j=>vs.getD j undef) hpre
  have hl2:=hA.len
  refine callsIn_wide.1 (callsIn_of_wp_marks (F:=WF none) (n:=0) hf hbd (z3sa none _) ?_)
  have hR:=z04a (n:=fn.ntmps) hI0 hA (fn.ntmps-vs.length) (by omega)
  have hwp:=hs fn.ntmps code _ _ _ _ w hbody (.inl ht) hw hR
  simp only[List.size_toArray]
  refine wpIn_mono hwp fun e a' w' hl=> ?_
  have fin:∀st g w',Inv K ⟨w,Wr g0,g0.S,[]⟩ g w' st.getB→z7d K g w' st.get a'→(∀j V,lk st.org j=some (.lit V)→a'.tmps.getD j undef=V)→z1xb F.res c (fun j=>vs.getD j undef) ds bs .ret st→
    ∃v,(results fn a'.tmps).run K.P w'= .ok v w'∧∃v' g',Ending.returned v= .returned v'∧Inv K ⟨w,Wr g0,g0.S,[]⟩ g' w' (c.outs ds bs)∧(∀j∈c.bx,g'.mu j=g0.mu j)∧Rep K.toCon g' w' (some .ret) (c.post ds bs) v':=fun st g w' hI hS hO hq=>by
   obtain⟨hok,hval,hbx,hout,hr1,hr2⟩:=hq
   obtain⟨xs,h1,h2,h3,_⟩:=z18 hI hS hres hok
   have hmap:fn.results.mapM (z6O a'.tmps)=Functor.map List.toArray (fn.results.toList.mapM (z6O a'.tmps)):=by
    exact Array.mapM_eq_mapM_toList
   have hrun:(results fn a'.tmps).run K.P w'= .ok (if h:xs.toArray.size=1 then xs.toArray[0] else .tuple xs.toArray) w':=by
    have:results fn a'.tmps=(do
     let vs←fn.results.mapM (z6O a'.tmps)
     pure (if h:vs.size=1 then vs[0] else .tuple vs)):=rfl
    rw[this,hmap]
    simp only[map_eq_pure_bind,Sem.run_bind,h1,Result.andThen_ok,Sem.run_pure]
   refine⟨_,hrun,?_⟩
   let g':Gh:={g with mu:=fun j=>if j∈c.bx++c.nb then g.mu j else none}
   have hI':Inv K ⟨w,Wr g0,g0.S,[]⟩ g' w' (c.outs ds bs):=z3Qa hI (c.bx++c.nb) hout hr2
   have hmu:∀j∈c.bx,g'.mu j=g0.mu j:=fun j hj=>by
    obtain⟨i,hi,d,hd,hjd⟩:=hcov j hj
    obtain⟨v0,hv0,hr0⟩:=hA.get i d hd
    have hv0':vs.getD i undef=v0:=by rw[List.getD_eq_getElem?_getD,hv0];rfl
    have hdd:ds.getD i .undef=d:=by rw[List.getD_eq_getElem?_getD,hd];rfl
    rcases hbx i hi with⟨k1,k2⟩|⟨t,V,id,e,o,n,c',e',o',n',c'',k1,kb,k2,k3⟩
    rotate_left
    ·have e1:=hO t V k1
     have e2:=hS t
     rw[k2,e1] at e2
     rw[hdd] at k3
     subst k3
     simp only[Rep] at e2 hr0
     obtain⟨b2,_,_,m2,v2,_⟩:=e2
     obtain⟨b1,_,_,m1,v1,_⟩:=hr0
     simp only[hv0',v1,v2,z0Jb,Option.some.injEq] at kb
     subst kb
     simp only[z2o,List.mem_singleton] at hjd
     subst hjd
     simp only[g',if_pos (List.mem_append_left c.nb hj),m2,m1]
    have e1:a'.tmps.getD i undef=vs.getD i undef:=hO i _ k1
    have e2:=hS i
    rw[k2,e1] at e2
    rw[hv0',hdd] at e2
    have hdj:j∈z2o (Abs.dem d):=by rw[z7qb];exact hjd
    have:=z8Cb (Abs.dem d) v0 _ _ e2 (Rep.dem (some (.slot i)) hr0) j hdj
    simp only[g',if_pos (List.mem_append_left c.nb hj)]
    exact this
   have cut:∀{d:z2a} {v:Value} {l:Option Loc},(∀id∈z2o d,id∈c.bx++c.nb)→Rep K.toCon g w' l d v→Rep K.toCon g' w' l d v:=fun {d v l} hd hr=>
    Rep.mono (g:=g) (g':=g') (z7g.refl g.S w') d v l l (fun id hid b hb=>by simp only[g',if_pos (hd id hid)];exact hb) (fun m hm=>⟨m,hm,fun b hb=>⟨hb,rfl,fun _ _ h=>h⟩⟩) hr
   by_cases hone:∃s,F.res=[.t s]
   ·obtain⟨s,hs⟩:=hone
    have hx:=h3 s hs
    subst hx
    rw[hs] at hval
    simp only[z19] at hval
    refine⟨a'.tmps.getD s undef,z2B g' (.slot s) .ret,by simp,z9O hI' s .ret,hmu,?_⟩
    rw[←hval] at hr1⊢
    exact z9p (cut hr1 (hS s))
   ·have hl3:=h2.len
    simp only[List.length_map] at hl3
    have rest:∀{d:z2a} {v:Value},Rep K.toCon g w' none d v→z6g d=false→d=c.post ds bs→Rep K.toCon g' w' (some .ret) (c.post ds bs) v:=fun {d v} hr ho he=>by
     subst he;exact z1K _ ho (cut hr1 hr)
    have hdem:∀d:z2a,z6g (dem d)=false:=z0E
    cases hF:F.res with
    |nil=>
     rw[hF] at h2 hval hl3
     simp only[List.map_nil,z8c] at h2
     subst h2
     refine⟨_,g',rfl,hI',hmu,?_⟩
     refine rest (d:= .tup []) ?_ rfl (by rw[←hval];rfl)
     simp[Rep,z8c]
    |cons r rs=>
     rw[hF] at h2 hval hl3 hone
     cases rs with
     |nil=>
      simp only[List.map_cons,List.map_nil,z8c] at h2
      obtain⟨x,ys,rfl,h4,rfl⟩:=h2
      refine⟨x,g',by simp,hI',hmu,?_⟩
      cases r with
      |t s=>exact absurd ⟨s,rfl⟩ hone
      |o s=>
       simp only[z19] at hval
       exact rest h4 (hdem _) hval
      |cell s k id=>
       simp only[z19] at hval
       refine rest h4 ?_ hval
       cases k with
       |none=>exact hdem _
       |some n=>rfl
     |cons r2 rs=>
      have h5:¬(xs.toArray.size=1):=by simp only[List.size_toArray,←hl3,List.length_cons];omega
      refine⟨.tuple xs.toArray,g',by rw[dif_neg h5],hI',hmu,?_⟩
      refine rest (d:= .tup ((r::r2::rs).map (z2Ra st))) ?_ rfl (by rw[←hval];cases r<;>rfl)
      simp only[Rep]
      exact⟨_,rfl,by simpa using h2⟩
  cases e<;>simp only[z2ba] at hl<;>simp only[bodyPostM]
  ·obtain⟨b',hE,st,hR',hq⟩:=hl
   exact z6Xa hE rfl hR' fun g w' hI hS hO=>fin st g w' hI hS (fun j _ hj=>by have:=hO j _ hj;simpa[z2c] using this) hq
  ·obtain⟨b',hE,st,_,hq⟩:=hl
   exact hq
  ·obtain⟨b',hE,st,hR',hq⟩:=hl
   exact z6Xa hE rfl hR' fun g w' hI hS hO=>fin st g w' hI hS (fun j _ hj=>by have:=hO j _ hj;simpa[z2c] using this) hq

theorem z1Xa {f:Nat} {fn:Func} {F:z2p} {c:CW} (hf:K.P.funcs[K.nu f]? =some fn) (hc:z7b K F fn=true) (hv:∀p∈z5a F.body,VB K p)
  (h:∀ds bs p,c.pre ds bs→ds.length=F.n∧awp K.E F.body (z1xb F.res c p ds bs) (z1fa c p ds bs)) (hi:∀f∈z8K F.body,z0W K f (K.E.I f)) (hfl:z6J F.body=true) (ht:z2r F.body=true):z99 K f c:=z3ha hf hc (z6Ba hv hi hfl (by rw[ht];rfl)) h ht
theorem z2Ma {f:Nat} {fn:Func} {F:z2p} {c:CW} (hf:K.P.funcs[K.nu f]? =some fn) (hc:z7b K F fn=true) (hv:∀p∈z5a F.body,VB K p)
  (h:∀ds bs p,c.pre ds bs→ds.length=F.n∧awp K.E F.body (z1xb F.res c p ds bs) (z1fa c p ds bs)) (hfl:z9o F.body=true) (ht:z2r F.body=true):z99 K f c:=z3ha hf hc (z9Z hv hfl) h ht
end
end Go.Abs
end

section
set_option linter.unusedVariables false
namespace Go.Abs

inductive z8G where
 |plain (c:z9a)
 |seq (a b:z8G)
 |cond (c:Arg) (a b:z8G)
 |block (id:Nat) (b:z8G)
 |loop (b:z8G)
 |yield (keep:List Nat) (gs:List z2y) (xs:List z7i) (d:Option Nat) (y:Nat) (as:List Arg) (zs:List z7i) (gd:Option (Nat×Bool):=none)
 deriving Inhabited

abbrev IQ:=z4m→Nat×Bool→ASt→Prop
def z1ua (f:Nat×Bool→ASt→Prop) (Q:IQ):IQ
 | .normal,p,st=>f p st
 |e,p,st=>Q e p st
def z3la (id:Nat) (Q:IQ):IQ
 | .exit id',p,st=>if id'=id then Q .normal p st else Q (.exit id') p st
 |e,p,st=>Q e p st

def yOk:z2a→Bool
 | .undef=>true
 | .bp _ _=>true
 |c=>z2b c
def z7ca (st:ASt):ASt:={st with env:=st.env.map fun q=>(q.1,if yOk q.2 then q.2 else .undef)}
theorem z2Ib (st:ASt):∀q∈(z7ca st).env,yOk q.2=true:=fun q hq=>by
 obtain⟨r,_,rfl⟩:=List.mem_map.1 hq
 show yOk (if yOk r.2 then r.2 else .undef)=true
 split
 ·assumption
 ·rfl
theorem z0cb (s:Nat):∀e:List (Nat×z2a),lk (e.map fun q=>(q.1,if yOk q.2 then q.2 else .undef)) s=(lk e s).map fun d=>if yOk d then d else .undef
 |[]=>rfl
 |(k,d)::e=>by
  simp only[List.map_cons,lk]
  split
  ·rfl
  ·exact z0cb s e
theorem z3wb {K:Cx} {base:z8s} {n:Nat} {st:ASt} {a:Act} {w:World} (hR:Rel K base n st a w):Rel K base n (z7ca st) a w:=by
 obtain⟨g,hI,hS,hO,h⟩:=hR
 refine⟨g,hI,fun s=> ?_,hO,h⟩
 have hs:=hS s
 unfold ASt.get at hs⊢
 rw[show lk (z7ca st).env s=(lk st.env s).map fun d=>if yOk d then d else .undef from z0cb s st.env,show(z7ca st).org=st.org from rfl]
 cases he:lk st.env s with
 |none=>rw[he] at hs;exact hs
 |some d=>
  rw[he] at hs
  simp only[Option.map_some]
  split
  ·exact hs
  ·simp[Rep]
def z82a (d:Option Nat) (b:Bool) (st:ASt):ASt:={st with env:=d.toList.map (fun s=>(s,bo' b))++st.env}
where bo' (b : Bool) : z2a := .lit (.bool b)

theorem z0Ta {v:z2a} {want:Bool} (h:isB v):z7Ga v want=(asB v==want):=by
 unfold isB at h
 split at h
 ·rfl
 ·exact h.elim
def z3Nb (d:Option Nat) (st:ASt):ASt:={st with env:=d.toList.map (fun s=>(s,z5T))++st.env}
def ifG (gd:Option (Nat×Bool)) (st:ASt) (Y N:Prop):Prop:=match gd with
 |none=>Y
 |some (s,want)=>isB (st.get s)∧(asB (st.get s)=want→Y)∧(asB (st.get s)=(!want)→N)

theorem z6Nb {gd:Option (Nat×Bool)} {st:ASt} {Y N:Prop} (h:ifG gd st Y N) (hw:∀s want,gd=some (s,want)→isB (st.get s)→asB (st.get s)=want):Y:=by
 cases gd with
 |none=>exact h
 |some sw=>
  obtain⟨s,want⟩:=sw
  exact h.2.1 (hw s want rfl h.1)

def z5O (E:Env) (l:Nat) (el:Nat→Option (List z2a)):z8G→IQ→Nat×Bool→ASt→Prop
 | .plain c,Q,p,st=>awp E c (fun e st'=>Q e p st') st
 | .seq a b,Q,p,st=>z5O E l el a (z1ua (fun p st=>z5O E l el b Q p st) Q) p st
 | .cond c a b,Q,p,st=>isB (arg E st.get c)∧(asB (arg E st.get c)=true→z5O E l el a Q p st)∧(asB (arg E st.get c)=false→z5O E l el b Q p st)
 | .block id b,Q,p,st=>z5O E l el b (z3la id Q) p st
 | .loop b,Q,p,st=>∃I:Nat×Bool→ASt→Prop,I p st∧∀p st,I p st→z5O E l el b (z1ua (fun p' st'=>I p' st'∧p.2=false∧(p'=(p.1+1,false)∨p'=(p.1,true))) Q) p st
 | .yield keep gs xs d y as zs gd,Q,p,st=>
  z2T E xs st∧(∀s∈d.toList,lk st.org s=none)∧
  (let st1:=z7ca (z62 E xs st)
   ifG gd st1 (p.2=false∧el p.1=some (as.map (arg E st1.get))∧z1b (as.map (arg E st1.get))=true∧st1.get y= .lit (.func (.yield l) #[] #[])∧(∀q∈st1.box,∀cs,q.2=some cs→cs.all yOk=true∧q.1<1000000)∧
   ∀b:Bool,z2T E zs (z82a d b st1)∧z6hb gs (z94 keep (z62 E zs (z82a d b st1)))∧Q .normal (if b then(p.1+1,false) else(p.1,true)) (z9ka gs (z94 keep (z62 E zs (z82a d b st1))))) (z2T E zs (z3Nb d st1)∧z6hb gs (z94 keep (z62 E zs (z3Nb d st1)))∧Q .normal p (z9ka gs (z94 keep (z62 E zs (z3Nb d st1))))))

def z00 (K:Cx) (n:Nat) (ops:Array Oper) (o:Oper) (d:Option Nat) (y:Nat) (as:List Arg) (gd:Option (Nat×Bool)):Bool:=
 (o.dst==d)&&d.toList.all (· <n)&&z9X ops o.guard gd&&(match o.op with| .call c=>(match c.callee with| .value (.tmp t)=>t==y|_=>false)&&argsL K c.args.toList as|_=>false)
where argsL (K : Cx) : List Operand → List Arg → Bool
 |[],[]=>true
 |x::xs,y::ys=>z9i K x y&&argsL K xs ys
 |_,_=>false
def z2Pa (K:Cx) (n:Nat):z8G→Code→Bool
 | .plain c,x=>z9o c&&z2r c&&z8d K n c x
 | .seq a b,x=>match x with| .seq p q=>z2Pa K n a p&&z2Pa K n b q|_=>false
 | .cond c a b,x=>match x with| .cond c' p q=>z9i K c' c&&z2Pa K n a p&&z2Pa K n b q|_=>false
 | .block id b,x=>match x with| .block id' p=>(id==id')&&z2Pa K n b p|_=>false
 | .loop b,x=>match x with| .loop p=>z2Pa K n b p|_=>false
 | .yield _ gs xs d y as zs gd,x=>match x with
  | .region _ ops draw=> !draw&&(ops.size==xs.length+1+zs.length)&&z4O K n ops (ops.toList.take xs.length) xs&&
   (match ops[xs.length]? with|some o=>z00 K n ops o d y as gd|none=>false)&&z4O K n ops (ops.toList.drop (xs.length+1)) zs&&gs.all z2y.cold
  |_=>false
def z1v:z8G→List (Nat×Bool)
 | .plain c=>z5a c
 | .seq a b=>z1v a++z1v b
 | .cond _ a b=>z1v a++z1v b
 | .block _ b=>z1v b
 | .loop b=>z1v b
 | .yield _ _ xs _ _ _ zs _=>(xs++zs).flatMap fun x=>z8O x.op

section
variable {K : Cx} {S : Nat → Nat} {w0 : World} {n : Nat} {el : Nat → Option (List z2a)} {l : Nat} {J : Nat → (Nat → Prop) → World → Prop} {Jx : (Nat → Prop) → World → Prop} {N : Nat} {O0 : Nat → Prop}

structure Zi (S:Nat→Nat) (w0:World) (base:z8s):Prop where
 own:∀b,base.W b→w0.heap.size≤b∨S b=0
 size:w0.heap.size≤base.w0.heap.size
 kp:z7g S w0 base.S base.w0
 le:∀b,base.S b≤S b
 dl:base.dl=[]
def HyI (O0:Nat→Prop) (J:Nat→(Nat→Prop)→World→Prop) (Jx:(Nat→Prop)→World→Prop) (base:z8s) (p:Nat×Bool):Prop:=
 ∃O:Nat→Prop,(∀b,base.W b→b<base.w0.heap.size→O b)∧(∀b,O0 b→O b∧b<base.w0.heap.size)∧(match p.2 with|false=>J p.1 O base.w0|true=>Jx O base.w0)
def z0Ha (K:Cx) (S:Nat→Nat) (w0:World) (O0:Nat→Prop) (J:Nat→(Nat→Prop)→World→Prop) (Jx:(Nat→Prop)→World→Prop) (n:Nat) (Q:IQ):Exit→Act→World→Prop
 | .normal,a,w=>∃base p st,Zi S w0 base∧HyI O0 J Jx base p∧Rel K base n st a w∧Q .normal p st
 | .exit id,a,w=>∃base p st,Zi S w0 base∧HyI O0 J Jx base p∧Rel K base n st a w∧Q (.exit id) p st
 | .ret,a,w=>∃base p st,Zi S w0 base∧HyI O0 J Jx base p∧Rel K base n st a w∧Q .ret p st
 |_,_,_=>False

theorem z1za {base:z8s} {g:Gh} {w:World} {a:Act} {get:Nat→z2a} {getB:Nat→Option (List z2a)} (hI:Inv K base g w getB) (hS:z7d K g w get a):∀{xs:List Operand} {ys:List Arg},z00.argsL K xs ys=true→z8c K.toCon g w (ys.map (arg K.E get)) (xs.map a.eval)
 |[],[],_=>by simp[z8c]
 |[],_::_,h=>by simp[z00.argsL] at h
 |_::_,[],h=>by simp[z00.argsL] at h
 |x::xs,y::ys,h=>by
  simp only[z00.argsL,Bool.and_eq_true] at h
  simp only[List.map_cons,z8c]
  exact⟨_,_,rfl,z4b hI hS h.1,z1za hI hS h.2⟩

def WO (g:Gh) (O0:Nat→Prop) (b:Nat):Prop:=Wr g b∨O0 b
theorem z2yb (hr:z5Ea K S el l J Jx N O0 w0) {base:z8s} {p:Nat×Bool} {g:Gh} {w:World} {bx:Nat→Option (List z2a)} (hh:HyI O0 J Jx base p) (hI:Inv K base g w bx):(∀b,O0 b→b<w.heap.size)∧match p.2 with|false=>J p.1 (WO g O0) w|true=>Jx (WO g O0) w:=by
 obtain⟨O,hO,hO0,hj⟩:=hh
 have hf:Fr base.w0.heap.size O base.w0 w:=hI.fr.mono (Nat.le_refl _) fun k hk hw=>hO k hw hk
 have hw:∀b,WO g O0 b→(O b∨base.w0.heap.size≤b)∧b<w.heap.size:=fun b hb=>by
  rcases hb with hb|hb
  case inr=>exact⟨.inl (hO0 b hb).1,Nat.lt_of_lt_of_le (hO0 b hb).2 hI.fr.size⟩
  refine⟨?_,?_⟩
  ·rcases Nat.lt_or_ge b base.w0.heap.size with hlt|hge
   ·rcases z1W hI hb with h1|h1
    ·omega
    ·exact .inl (hO b h1 hlt)
   ·exact .inr hge
  ·rcases hb with⟨id,hi⟩|ho
   ·exact(hI.muW id b hi).2.1
   ·cases hl:g.ow b with
    |none=>exact absurd hl ho
    |some lo=>exact(hI.owW b lo hl).2
 obtain⟨i,s⟩:=p
 cases s with
 |false=>exact⟨fun b hb=>(hw b (.inr hb)).2,hr.stab i O (WO g O0) base.w0 w hj hf hw⟩
 |true=>exact⟨fun b hb=>(hw b (.inr hb)).2,hr.stabx O (WO g O0) base.w0 w hj hf hw⟩

theorem z36a {K:Con} {g g':Gh} {w w':World} (hm:g'.mu=g.mu) {d:z2a} {v:Value} {l l':Option Loc} (hy:yOk d=true) (h:Rep K g w l d v):Rep K g' w' l' d v:=by
 cases d with
 |undef=>simp[Rep]
 |bp id off=>simp only[Rep,hm] at h⊢;exact h
 |lit x=>simp only[Rep] at h⊢;exact h
 |agg cs=>rw[z8Y _ _ _ hy h];exact z3ia _ _ hy
 |tup cs=>rw[z8Y _ _ _ hy h];exact z3ia _ _ hy
 |sl _ _ _ _=>simp[yOk,z2b] at hy
 |bv _ _ _ _ _=>simp[yOk,z2b] at hy
 |ep _=>simp[yOk,z2b] at hy
 |otup _ _ _ _ _=>simp[yOk,z2b] at hy
 |oagg _ _ _ _ _ _=>simp[yOk,z2b] at hy
 |fn _ _ _=>simp[yOk,z2b] at hy

theorem z6Fa (hSx:∀b i,i<S b→∃x,w0.cell? ⟨b,i,none⟩=some x) (hg:∀m∈K.N.gs,z1d K.toCon S w0 (K.E.T m) (K.N.gnum m) 0) {base:z8s} (hz:Zi S w0 base) {st:ASt} {a:Act} {w B:World} {g:Gh}
  (hI:Inv K base g w st.getB) (hS:z7d K g w st.get a) (hO:z4db K base st a) (hd:a.defers=base.dl) (hsz:a.tmps.size=n) (he:∀q∈st.env,yOk q.2=true) (hb:∀q∈st.box,∀cs,q.2=some cs→cs.all yOk=true∧q.1<1000000)
  (hk:z7g S w0 S B) (hown:∀b,Wr g b→B.heap[b]? =w.heap[b]?) (hsize:w.heap.size≤B.heap.size) {p:Nat×Bool} (h0:∀b,O0 b→b<w.heap.size) (hj:match p.2 with|false=>J p.1 (WO g O0) B|true=>Jx (WO g O0) B)
  {d:Option Nat} {v:Bool} (hdl:∀s∈d.toList,s<n) (hdo:∀s∈d.toList,lk st.org s=none):
  ∃base',Zi S w0 base'∧HyI O0 J Jx base' p∧Rel K base' n (z82a d v st) (a.put d (.bool v)) B:=by
 let g':Gh:={S:=fun b=>if b<w0.heap.size then S b else 0,ow:=fun _=>none,mu:=g.mu}
 have hw:∀b,Wr g' b→Wr g b:=fun b hb=>by
  rcases hb with hb|hb
  ·exact .inl hb
  ·exact absurd rfl hb
 have hge:∀b,Wr g b→w0.heap.size≤b∨S b=0:=fun b hb=>by
  rcases z1W hI hb with h1|h1
  ·exact .inl (Nat.le_trans hz.size h1)
  ·exact hz.own b h1
 have hB0:w0.heap.size≤B.heap.size:=Nat.le_trans hz.size (Nat.le_trans hI.fr.size hsize)
 have hkp:z7g S w0 (z8s.S ⟨B,Wr g',g'.S,[]⟩) B:=fun b i x hi hc=>by
  have hlt:b<w0.heap.size:=World.block_lt_of_cell? w0 ⟨b,i,none⟩ hc
  refine⟨?_,(hk b i x hi hc).2⟩
  unfold z8s.S
  rw[if_pos ⟨Nat.lt_of_lt_of_le hlt hB0,fun h=>by rcases hge b (hw b h) with h9|h9<;>omega⟩]
  show i<if b<w0.heap.size then S b else 0
  rw[if_pos hlt];exact hi
 have hk':z7g S w0 g'.S B:=fun b i x hi hc=>by
  have hlt:b<w0.heap.size:=World.block_lt_of_cell? w0 ⟨b,i,none⟩ hc
  exact⟨by show i<if b<w0.heap.size then S b else 0;rw[if_pos hlt];exact hi,(hk b i x hi hc).2⟩
 have horg:z7g base.S base.w0 (z8s.S ⟨B,Wr g',g'.S,[]⟩) B:=fun b i x hi hc=>by
  have hi':i<S b:=Nat.lt_of_lt_of_le hi (hz.le b)
  obtain⟨x',hx'⟩:=hSx b i hi'
  have h1:=(hz.kp b i x' hi' hx').2
  rw[hc] at h1
  cases h1
  exact hkp b i x hi' hx'
 refine⟨⟨B,Wr g',g'.S,[]⟩,⟨fun b hb=>hge b (hw b hb),hB0,hkp,fun b=> ?_,rfl⟩,⟨WO g O0,fun b hb _=> .inl (hw b hb),fun b hb=>⟨.inr hb,Nat.lt_of_lt_of_le (h0 b hb) hsize⟩,hj⟩,g',⟨Fr.refl _ _ _,fun _ _ _=>rfl,hI.inj,fun id cs hc=> ?_,hI.nobx,fun id b hb=> ?_,fun b lo hb=> ?_,fun m hm=>z1d.mono hk' _ _ _ (hg m hm),z7g.refl _ _,fun id b cs ho hmu hc _=> ?_⟩,fun s=> ?_,fun s d' hs=> ?_,?_,?_⟩
 ·unfold z8s.S
  split
  ·show(if b<w0.heap.size then S b else 0)≤S b
   split<;>omega
  ·omega
 ·obtain⟨b,k1,k2,k3⟩:=hI.bxok id cs hc
  have hbk:=hown b (.inl ⟨id,k1⟩)
  have hb0:=hge b (.inl ⟨id,k1⟩)
  have hbox:(id,some cs)∈st.box:=by
   have hc':(lk st.box id).join=some cs:=hc
   cases hl:lk st.box id with
   |none=>rw[hl] at hc';cases hc'
   |some o=>rw[hl] at hc';simp only[Option.join_some] at hc';rw[←hc'];exact z6L hl
  have hall:=(hb _ hbox cs rfl).1
  refine⟨b,k1,by show(if b<w0.heap.size then S b else 0)=0;rcases hb0 with h9|h9<;>split<;>omega,fun i e hi=> ?_⟩
  obtain⟨⟨x,hx,hr⟩,hfz⟩:=k3 i e hi
  refine⟨⟨x,?_,z36a (g:=g) (g':=g') rfl (List.all_eq_true.1 hall e (z1l hi)) hr⟩,?_⟩
  ·rw[World.cell?_of_block (w:=w) (a:=⟨b,i,none⟩) hbk];exact hx
  ·simp only[World.frozen?,hbk] at hfz⊢;exact hfz
 ·exact⟨.inr (.inl ⟨id,hb⟩),Nat.lt_of_lt_of_le (hI.muW id b hb).2.1 hsize,rfl⟩
 ·cases hb
 ·have hbox:(id,some cs)∈st.box:=by
   have hc':(lk st.box id).join=some cs:=hc
   cases hl:lk st.box id with
   |none=>rw[hl] at hc';cases hc'
   |some o=>rw[hl] at hc';simp only[Option.join_some] at hc';rw[←hc'];exact z6L hl
  have:=(hb _ hbox cs rfl).2
  simp only at this
  omega
 ·rw[z9ba (by rw[hsz];exact hdl)]
  have hget:(z82a d v st).get s=if d=some s then .lit (.bool v) else st.get s:=by
   show(match lk (d.toList.map (fun s=>(s,z82a.bo' v))++st.env) s with|some d=>d|none=>dem ((lk st.org s).getD .undef))=_
   rw[z5l]
   cases d with
   |none=>simp[lk];rfl
   |some t=>
    simp only[Option.toList_some,List.map_cons,List.map_nil,lk,Option.some.injEq]
    by_cases h:s=t
    ·simp[h,z82a.bo']
    ·rw[if_neg h,if_neg (fun e=>h e.symm)];simp;rfl
  rw[hget]
  by_cases h:d=some s
  ·rw[if_pos h,if_pos h];simp[Rep]
  ·rw[if_neg h,if_neg h]
   have hs:=hS s
   unfold ASt.get at hs⊢
   cases hl:lk st.env s with
   |some e=>
    rw[hl] at hs
    exact z36a (g:=g) (g':=g') rfl (he _ (z6L hl)) hs
   |none=>
    cases ho:lk st.org s with
    |none=>simp[Abs.dem,Rep]
    |some e=>
     refine z2c.dem (g:=g') _ (z2c.mono ?_ e _ (z2c.mono horg e _ (hO s e ho)))
     intro b i x hi hc
     refine⟨?_,hc⟩
     unfold z8s.S at hi
     split at hi
     ·exact hi
     ·omega
 ·rw[z9ba (by rw[hsz];exact hdl)]
  have hs':lk st.org s=some d':=hs
  have hne:d≠some s:=fun e=>by
   have:=hdo s (by simp[e])
   rw[hs'] at this;cases this
  rw[if_neg hne]
  exact z2c.mono horg d' _ (hO s d' hs')
 ·cases d<;>simp[Act.put,hd,hz.dl]
 ·cases d<;>simp[Act.put,hsz]

theorem z6xb {E:Env} (o:z7i) (st:ASt):(z7h E o st).org=st.org:=by
 unfold z7h
 split
 ·rfl
 ·split<;>rfl
theorem z9Fa {E:Env}:∀(xs:List z7i) (st:ASt),z2T E xs st→(z62 E xs st).org=st.org
 |[],st,_=>rfl
 |x::xs,st,h=>by
  show(z62 E xs (z7h E x st)).org=_
  rw[z9Fa xs _ h.2,z6xb]
theorem z1Ha {P:Program} {o:Oper} {a:Act} {w:World} {c:Call} {t:Tmp} {l:Nat} {r:Result Next} (ho:o.op= .call c) (hc:c.callee= .value (.tmp t)) (hv:a.eval (.tmp t)= .func (.yield l) #[] #[])
  (h:(Instr.yield l (c.args.map a.eval)).run P w=r):(execOp a.eval o).run P w=r:=by
 rw[←h]
 simp only[execOp,ho,resolve,hc,hv,Deferred.ofValue,invoke]
 simp[go_sem]

theorem z7M {q:Nat} (hr:z5Ea K S el l J Jx N O0 w0) (hSx:∀b i,i<S b→∃x,w0.cell? ⟨b,i,none⟩=some x) (hg:∀m∈K.N.gs,z1d K.toCon S w0 (K.E.T m) (K.N.gnum m) 0):
  ∀(c:z8G) (x:Code) (Q:IQ) (base:z8s) (p:Nat×Bool) (st:ASt) (a:Act) (w:World),z2Pa K n c x=true→(∀p∈z1v c,VB K p)→z5O K.E l el c Q p st→Zi S w0 base→HyI O0 J Jx base p→Rel K base n st a w→x.wpIn (WF none) q K.P (z0Ha K S w0 O0 J Jx n Q) a w
 | .plain c,x,Q,base,p,st,a,w,hc,hv,h,hz,hh,hR=>by
  simp only[z2Pa,Bool.and_eq_true] at hc
  simp only[z5O] at h
  refine wpIn_mono (z0s (Cd:=True) c x none q _ base st a w hc.2 hv hc.1.1 (.inl hc.1.2) h hR) ?_
  intro e a' w' hl
  cases e<;>simp only[z87] at hl<;>simp only[z0Ha]
  all_goals (obtain⟨b',⟨_,_,he⟩,st',hR',hq⟩:=hl;have he:=he trivial;subst he;exact⟨_,p,st',hz,hh,hR',hq⟩)
 | .seq u v,x,Q,base,p,st,a,w,hc,hv,h,hz,hh,hR=>by
  simp only[z2Pa] at hc
  simp only[z5O] at h
  simp only[z1v,List.mem_append] at hv
  split at hc
  ·rename_i y z
   simp only[Bool.and_eq_true] at hc
   refine wpIn_seq (wpIn_mono (z7M hr hSx hg u y _ base p st a w hc.1 (fun f hf=>hv f (.inl hf)) h hz hh hR) ?_)
   intro e a' w' hl
   cases e<;>simp only[z0Ha] at hl<;>simp only[Exit.then]
   ·obtain⟨b',p',st',hz',hh',hR',hq⟩:=hl
    exact z7M hr hSx hg v z Q b' p' st' a' w' hc.2 (fun f hf=>hv f (.inr hf)) hq hz' hh' hR'
   ·exact hl
   ·exact hl
  ·cases hc
 | .cond c u v,x,Q,base,p,st,a,w,hc,hv,h,hz,hh,hR=>by
  simp only[z2Pa] at hc
  simp only[z5O] at h
  simp only[z1v,List.mem_append] at hv
  split at hc
  ·rename_i c' y z
   simp only[Bool.and_eq_true] at hc
   obtain⟨⟨hcc,hy⟩,hzz⟩:=hc
   obtain⟨hb,ht,hf⟩:=h
   have hR':=hR
   obtain⟨g,hI,hS,_⟩:=hR'
   obtain⟨_,hval⟩:=z5S (z4b hI hS hcc) hb
   refine wpIn_cond_split hval (fun e=> ?_) (fun e=> ?_)
   ·exact z7M hr hSx hg u y Q base p st a w hy (fun f hf=>hv f (.inl hf)) (ht e) hz hh hR
   ·exact z7M hr hSx hg v z Q base p st a w hzz (fun f hf=>hv f (.inr hf)) (hf e) hz hh hR
  ·cases hc
 | .block id b,x,Q,base,p,st,a,w,hc,hv,h,hz,hh,hR=>by
  simp only[z2Pa] at hc
  simp only[z5O] at h
  split at hc
  ·rename_i id' y
   simp only[Bool.and_eq_true,beq_iff_eq] at hc
   obtain⟨rfl,hp⟩:=hc
   refine wpIn_block (wpIn_mono (z7M hr hSx hg b y _ base p st a w hp hv h hz hh hR) ?_)
   intro e a' w' hl
   cases e<;>simp only[z0Ha] at hl<;>simp only[Exit.inBlock]
   ·exact hl
   ·rename_i id'
    obtain⟨b',p',st',hz',hh',hR',hq⟩:=hl
    simp only[z3la] at hq
    split
    ·rename_i he
     rw[if_pos he] at hq
     exact⟨b',p',st',hz',hh',hR',hq⟩
    ·rename_i he
     rw[if_neg he] at hq
     exact⟨b',p',st',hz',hh',hR',hq⟩
   ·exact hl
  ·cases hc
 | .loop b,x,Q,base,p,st,a,w,hc,hv,h,hz,hh,hR=>by
  simp only[z2Pa] at hc
  simp only[z5O] at h
  split at hc
  ·rename_i y
   obtain⟨I,hI0,hround⟩:=h
   have hbd:∀(base:z8s) (p:Nat×Bool),HyI O0 J Jx base p→p.2=false→p.1≤N:=fun base p ⟨O,_,_,hj⟩ hp=>by
    rw[hp] at hj;exact hr.bound _ _ _ hj
   refine z7S (fun k a w=>∃base p st,Zi S w0 base∧HyI O0 J Jx base p∧Rel K base n st a w∧I p st∧k=(match p.2 with|true=>0|false=>N+1-p.1)) ⟨base,p,st,hz,hh,hR,hI0,rfl⟩ fun k a w hj=> ?_
   obtain⟨base',p',st',hz',hh',hR',hI',hk⟩:=hj
   refine wpIn_mono (z7M hr hSx hg b y _ base' p' st' a w hc hv (hround p' st' hI') hz' hh' hR') ?_
   intro e a' w' hl
   cases e<;>simp only[z0Ha] at hl<;>simp only[Exit.then]
   ·obtain⟨b2,p2,st2,hz2,hh2,hR2,hI2,hp,hp2⟩:=hl
    have hle:=hbd base' p' hh' hp
    rw[hp] at hk
    simp only at hk
    refine⟨match p2.2 with|true=>0|false=>N+1-p2.1,?_,b2,p2,st2,hz2,hh2,hR2,hI2,rfl⟩
    rcases hp2 with rfl|rfl
    ·simp only;omega
    ·simp only;omega
   ·exact hl
   ·exact hl
  ·cases hc
 | .yield keep gs xs d y as zs gd,x,Q,base,p,st,a,w,hc,hv,h,hz,hh,hR=>by
  simp only[z2Pa] at hc
  simp only[z5O] at h
  obtain⟨hokx,hdo,hifg⟩:=h
  have hye:=z2Ib (z62 K.E xs st)
  split at hc
  ·rename_i id ops draw
   simp only[Bool.and_eq_true,Bool.not_eq_true',beq_iff_eq] at hc
   obtain⟨⟨⟨⟨⟨hdraw,hsz⟩,hcx⟩,hco⟩,hcz⟩,hcold⟩:=hc
   subst hdraw
   have hVx:∀z∈xs,VOk K z.op:=fun z hz f hf=>hv f (by simp only[z1v,List.mem_flatMap];exact⟨z,by simp[hz],hf⟩)
   have hVz:∀z∈zs,VOk K z.op:=fun z hz f hf=>hv f (by simp only[z1v,List.mem_flatMap];exact⟨z,by simp[hz],hf⟩)
   refine wpIn_region ?_
   have hrange:List.range ops.size=List.range' 0 xs.length++(xs.length::(List.range' (xs.length+1) zs.length)):=by
    rw[hsz,List.range_eq_range',show xs.length+1+zs.length=xs.length+(1+zs.length) by omega,←List.range'_append_1,Nat.zero_add,Nat.add_comm 1,List.range'_succ]
   rw[hrange]
   refine z7va xs 0 st a w (by simpa using hcx) hVx hR hokx fun a1 w1 hR1=> ?_
   replace hR1:=z3wb hR1
   rw[wpOpsIn_cons]
   split at hco
   ·rename_i o ho
    unfold wpOpIn
    simp only[ho]
    simp only[z00,Bool.and_eq_true,beq_iff_eq,List.all_eq_true,decide_eq_true_eq,Option.isNone_iff_eq_none] at hco
    obtain⟨⟨⟨hdst,hdl⟩,hgd⟩,hop⟩:=hco
    have hcz':z4O K n ops ((ops.toList.drop (xs.length+1)).take zs.length) zs=true:=by
     rw[List.take_of_length_le]
     ·exact hcz
     ·simp only[List.length_drop,Array.length_toList,hsz];omega
    have er:List.range' (xs.length+1) zs.length=List.range' (xs.length+1) zs.length++[]:=by simp
    by_cases hwant:Region.wanted o (yielded ops a1.tmps)=true
    case neg=>
     rw[if_neg hwant]
     refine⟨fun f _=>z3sa _ f,?_⟩
     cases gd with
     |none=>
      refine absurd ?_ hwant
      unfold z9X at hgd
      split at hgd
      ·rename_i h1 _;unfold Region.wanted;rw[h1]
      ·rename_i h1 h2;cases h2
      ·cases hgd
     |some sw=>
      obtain⟨s,want⟩:=sw
      obtain⟨hb,_,hno⟩:=hifg
      have hw:=z6W (o:=⟨none,some (s,want),.unsup⟩) hR1 hgd rfl (.inl hb)
      rw[hw,z0Ta hb] at hwant
      have hx:∀a b:Bool,¬((a==b)=true)→a=(!b):=by decide
      have hno:=hno (hx _ _ hwant)
      obtain⟨hokz,hokg,hq⟩:=hno
      have hR1':=hR1
      obtain⟨g,hI,hS,_,_,_⟩:=hR1'
      have hput:=z5Ka (e:={val:=z5T}) (v:=undef) (w':=w1) hR1 (o:=⟨d,none,.unsup⟩) hdl (fun s hs=>by rw[show(z7ca (z62 K.E xs st)).org=(z62 K.E xs st).org from rfl,z9Fa xs st hokx];exact hdo s hs) (by simp) ⟨g,hI,hS,by simp[Rep,z5T]⟩
      rw[er,hdst]
      exact z7va zs (xs.length+1) (z3Nb d (z7ca (z62 K.E xs st))) _ w1 hcz' hVz (by simpa[z3Nb] using hput) hokz fun a' w' hR'=>⟨base,p,_,hz,hh,z4ha gs hcold (z9z keep hR') hokg,hq⟩
    have hpos:=z6Nb hifg fun s want e hb=>by
     subst e
     have hw:=z6W (o:=⟨none,some (s,want),.unsup⟩) hR1 hgd rfl (.inl hb)
     rw[hw,z0Ta hb] at hwant
     simpa using hwant
    obtain⟨hp,hel,hmf,hly,hyb,hrest⟩:=hpos
    rw[if_pos hwant]
    split at hop
    ·rename_i c hoc
     simp only[Bool.and_eq_true] at hop
     obtain⟨hcal,hargs⟩:=hop
     split at hcal
     ·rename_i t hct
      simp only[beq_iff_eq] at hcal
      subst hcal
      obtain⟨g,hI,hS,hO,hdf,hsz1⟩:=hR1
      have hyv:a1.eval (.tmp t)= .func (.yield l) #[] #[]:=by
       have:=hS t
       rw[hly] at this
       simpa[Rep,Act.eval] using this
      have hvs:=z2S _ _ hmf (z1za hI hS hargs)
      have hargs':c.args.map a1.eval=(z0ca (as.map (arg K.E (z7ca (z62 K.E xs st)).get))).toArray:=by
       apply Array.toList_inj.1
       rw[Array.toList_map,hvs]
      obtain⟨h0,hnow⟩:=z2yb hr hh hI
      rw[hp] at hnow
      simp only at hnow
      obtain⟨fn,tm,asg,bdy,hyr,hround⟩:=hr.round p.1 (WO g O0) w1 _ (q-1) hnow hel
      refine⟨fun f _=>z3sa _ f,?_⟩
      rw[Oper.semAt_plain (WF none) _ _ (by rw[hoc];intro c' hc';cases hc'),z1Ha hoc hct hyv rfl,hargs',hyr,Oper.uponIn_round]
      refine⟨fun h=>by simp[z6ta] at h,hround.mono fun e B hB=> ?_⟩
      obtain⟨k1,k2,k3,_,_,_,k4⟩:=hB
      have goOn:∀b:Bool,(match(if b then(p.1+1,false) else(p.1,true):Nat×Bool).2 with|false=>J (if b then(p.1+1,false) else(p.1,true):Nat×Bool).1 (WO g O0) B|true=>Jx (WO g O0) B)→
        wpOpsIn (WF none) q K.P ops (z0Ha K S w0 O0 J Jx n Q) (List.range' (xs.length+1) zs.length) (a1.put o.dst (.bool b)) B:=fun b hj=>by
       obtain⟨base2,hz2,hh2,hR2⟩:=z6Fa (p:=if b then(p.1+1,false) else(p.1,true)) hSx hg hz hI hS hO hdf hsz1 hye hyb k1 (fun b hb=>k2 b (.inl hb)) k3 h0 hj hdl (fun s hs=>by rw[show(z7ca (z62 K.E xs st)).org=(z62 K.E xs st).org from rfl,z9Fa xs st hokx];exact hdo s hs) (v:=b)
       obtain⟨hokz,hokg,hq⟩:=hrest b
       rw[hdst]
       rw[er]
       exact z7va zs (xs.length+1) _ _ B hcz' hVz hR2 hokz fun a' w' hR'=>⟨base2,_,_,hz2,hh2,z4ha gs hcold (z9z keep hR') hokg,hq⟩
      rcases k4 with⟨rfl,hj⟩|⟨rfl,hj⟩
      ·exact goOn true hj
      ·exact goOn false hj
     ·cases hcal
    ·cases hop
   ·cases hco
  ·cases hc

def z4hb (w:World) (b:Nat):Nat:=match w.heap[b]? with|some (.cells c _ _)=>c.size|_=>0
theorem z3Wa {w:World} {b i:Nat} (h:i<z4hb w b):∃x,w.cell? ⟨b,i,none⟩=some x:=by
 unfold z4hb at h
 unfold World.cell?
 split at h
 ·rename_i c e fr hb
  simp only[hb]
  exact⟨c[i],by simp[h]⟩
 ·omega
theorem z4jb {w:World} {b i:Nat} {x:Value} (h:w.cell? ⟨b,i,none⟩=some x):i<z4hb w b:=by
 unfold World.cell? at h
 unfold z4hb
 cases hb:w.heap[b]? with
 |none=>simp[hb] at h
 |some q=>
  cases q with
  |cells c e fr=>
   simp[hb] at h
   exact(Array.getElem?_eq_some_iff.1 h).1
  |_=>simp[hb] at h

structure z5Bc where
 nx:Nat
 ny:Nat
 body:z8G
def lvS (lv:List Nat) (x:List z2a):List Nat:=lv.map (· +(x.length+1))
def z9ab (l:Nat) (lv:List Nat) (x y:List z2a):ASt:=
 {org:=(z1s 0 (x++ .lit (.func (.yield l) #[] #[])::y)).filter fun p=> !(lvS lv x).contains p.1
  env:=(lvS lv x).map fun s=>(s,.bp s 0)
  box:=(lvS lv x).map fun s=>(s,some (z4M ((x++ .lit (.func (.yield l) #[] #[])::y).getD s .undef)))}
theorem z8oc {K:Cx} {S:Nat→Nat} {w:World} {n l m:Nat} {lv:List Nat} {B:Nat→Option Nat} {x y:List z2a} {vx vy:List Value} (hg:∀n∈K.N.gs,z1d K.toCon S w (K.E.T n) (K.N.gnum n) 0) (hx:z5c K.toCon S w x vx) (hy:z5Ab K S w lv B y vy) (hn:x.length+1+y.length≤1000000) (hm:(vx++Value.func (.yield l) #[] #[]::vy).length+m=n):
  Rel K ⟨w,fun b=>∃i,B i=some b,S,[]⟩ n (z9ab l lv x y) {tmps:=(vx++Value.func (.yield l) #[] #[]::vy).toArray++Array.replicate m undef,defers:=[]} w:=by
 have hlx:=hx.len
 have hly:=hy.len
 obtain⟨ds,hds⟩:∃ds,ds=x++z2a.lit (.func (.yield l) #[] #[])::y:=⟨_,rfl⟩
 obtain⟨vs,hvs⟩:∃vs,vs=vx++Value.func (.yield l) #[] #[]::vy:=⟨_,rfl⟩
 have hdl:ds.length=vs.length:=by rw[hds,hvs];simp[hlx,hly]
 have hmem:∀s,s∈lvS lv x↔∃i∈lv,s=i+(x.length+1):=fun s=>by simp[lvS,eq_comm]
 have key:∀s d,ds[s]? =some d→∃v,vs[s]? =some v∧if s∈lvS lv x then∃b cs,B (s-(x.length+1))=some b∧d= .ep cs∧v= .pointer (some ⟨b,0,none⟩)∧S b=0∧b<w.heap.size∧z1b cs=true∧∀(j:Nat) e,cs[j]? =some e→w.cell? ⟨b,j,none⟩=some (toV e)∧w.frozen? ⟨b,j,none⟩=false else z2c K.toCon S w d v:=fun s d hd=>by
  rw[hds] at hd
  rcases Nat.lt_trichotomy s x.length with h|h|h
  ·rw[List.getElem?_append_left h] at hd
   obtain⟨v,hv,hr⟩:=hx.get s d hd
   refine⟨v,by rw[hvs,List.getElem?_append_left (by omega)];exact hv,?_⟩
   rw[if_neg (fun hc=>by obtain⟨i,_,e⟩:=(hmem s).1 hc;omega)]
   exact hr
  ·rw[List.getElem?_append_right (by omega),show s-x.length=0 by omega] at hd
   simp only[List.getElem?_cons_zero,Option.some.injEq] at hd
   subst hd
   refine⟨.func (.yield l) #[] #[],by rw[hvs,List.getElem?_append_right (by omega),show s-vx.length=0 by omega];rfl,?_⟩
   rw[if_neg (fun hc=>by obtain⟨i,_,e⟩:=(hmem s).1 hc;omega)]
   simp[z2c]
  ·rw[List.getElem?_append_right (by omega),show s-x.length=(s-(x.length+1))+1 by omega,List.getElem?_cons_succ] at hd
   have hi:s-(x.length+1)<y.length:=(List.getElem?_eq_some_iff.1 hd).1
   have hv:vy[s-(x.length+1)]? =some (vy[s-(x.length+1)]'(by omega)):=List.getElem?_eq_getElem _
   have ha:=hy.at' _ _ _ hd hv
   refine⟨_,by rw[hvs,List.getElem?_append_right (by omega),show s-vx.length=(s-(x.length+1))+1 by omega,List.getElem?_cons_succ];exact hv,?_⟩
   have hiff:s∈lvS lv x↔s-(x.length+1)∈lv:=by
    rw[hmem]
    constructor
    ·rintro⟨i,h1,h2⟩
     rw[show s-(x.length+1)=i by omega];exact h1
    ·intro h1
     exact⟨_,h1,by omega⟩
   by_cases hs:s∈lvS lv x
   ·rw[if_pos hs];rw[if_pos (hiff.1 hs)] at ha;exact ha
   ·rw[if_neg hs];rw[if_neg (fun h=>hs (hiff.2 h))] at ha;exact ha
 have hlvd:∀s,s∈lvS lv x→∃d,ds[s]? =some d:=fun s hs=>by
  obtain⟨i,hi,e⟩:=(hmem s).1 hs
  have:=hy.lt i hi
  exact⟨_,List.getElem?_eq_getElem (by rw[hds];simp;omega)⟩
 have hget:∀s v,vs[s]? =some v→(vs.toArray++Array.replicate m undef).getD s undef=v:=fun s v hv=>by
  have hs:s<vs.length:=(List.getElem?_eq_some_iff.1 hv).1
  rw[Array.getD_eq_getD_getElem?,Array.getElem?_append_left (by simpa using hs)]
  simp[hv]
 have hBx:∀i b,B i=some b→S b=0∧b<w.heap.size:=fun i b hb=>by
  have hi:=hy.dom i b hb
  have hs:i+(x.length+1)∈lvS lv x:=(hmem _).2 ⟨i,hi,rfl⟩
  obtain⟨d,hd⟩:=hlvd _ hs
  obtain⟨v,_,h2⟩:=key _ d hd
  rw[if_pos hs,show i+(x.length+1)-(x.length+1)=i by omega] at h2
  obtain⟨b',cs,k1,_,_,k4,k5,_⟩:=h2
  rw[hb] at k1;cases k1
  exact⟨k4,k5⟩
 have hW:∀b,(∃i,B i=some b)→S b=0:=fun b ⟨i,hi⟩=>(hBx i b hi).1
 have hk:z7g S w (z8s.S ⟨w,fun b=>∃i,B i=some b,S,[]⟩) w:=fun b i z hi hc=>by
  refine⟨?_,hc⟩
  have hb:b<w.heap.size:=World.block_lt_of_cell? w ⟨b,i,none⟩ hc
  unfold z8s.S
  rw[if_pos ⟨hb,fun h=>by have:=hW b h;omega⟩]
  exact hi
 have hst:z9ab l lv x y={org:=(z1s 0 ds).filter fun p=> !(lvS lv x).contains p.1,env:=(lvS lv x).map fun s=>(s,.bp s 0),box:=(lvS lv x).map fun s=>(s,some (z4M (ds.getD s .undef)))}:=by rw[hds];rfl
 have horg:∀s,lk (z9ab l lv x y).org s=if s∈lvS lv x then none else ds[s]? :=fun s=>by
  rw[hst]
  show lk ((z1s 0 ds).filter fun p=>(fun k=> !(lvS lv x).contains k) p.1) s=_
  rw[z3w (fun k=> !(lvS lv x).contains k),z7pa]
  by_cases h:s∈lvS lv x<;>simp[h]
 have henv:∀s,lk (z9ab l lv x y).env s=if s∈lvS lv x then some (.bp s 0) else none:=fun s=>by
  rw[hst];exact z81 (fun s=>z2a.bp s 0) s _
 have hbox:∀s,(z9ab l lv x y).getB s=if s∈lvS lv x then some (z4M (ds.getD s .undef)) else none:=fun s=>by
  rw[hst]
  show(lk ((lvS lv x).map fun s=>(s,some (z4M (ds.getD s .undef)))) s).join=_
  rw[z81 fun s=>some (z4M (ds.getD s .undef))]
  split<;>rfl
 rw[←hvs]
 have live:∀s,s∈lvS lv x→∃b cs,B (s-(x.length+1))=some b∧ds.getD s .undef= .ep cs∧vs[s]? =some (.pointer (some ⟨b,0,none⟩))∧S b=0∧b<w.heap.size∧z1b cs=true∧∀(j:Nat) e,cs[j]? =some e→w.cell? ⟨b,j,none⟩=some (toV e)∧w.frozen? ⟨b,j,none⟩=false:=fun s hs=>by
  obtain⟨d,hd⟩:=hlvd s hs
  obtain⟨v,hv,h2⟩:=key s d hd
  rw[if_pos hs] at h2
  obtain⟨b,cs,k1,k2,k3,k4,k5,k6,k7⟩:=h2
  exact⟨b,cs,k1,by rw[List.getD_eq_getElem?_getD,hd,k2];rfl,by rw[hv,k3],k4,k5,k6,k7⟩
 refine⟨⟨S,fun _=>none,fun s=>if s∈lvS lv x then B (s-(x.length+1)) else none⟩,⟨Fr.refl _ _ _,fun _ _ _=>rfl,fun i j b hi hj=> ?_,fun id cs hc=> ?_,fun id hid=> ?_,fun id b hb=> ?_,fun _ _ h=>(by cases h),hg,z7g.refl _ _,fun id b cs ho hb _ _=> ?_⟩,fun s=> ?_,fun s d hs=> ?_,rfl,by rw[hvs];simp only[List.size_toArray,Array.size_append,Array.size_replicate];exact hm⟩
 ·simp only at hi hj
  split at hi
  ·rename_i h1
   split at hj
   ·rename_i h2
    have:=hy.inj _ _ b hi hj
    obtain⟨i',_,e1⟩:=(hmem i).1 h1
    obtain⟨j',_,e2⟩:=(hmem j).1 h2
    omega
   ·cases hj
  ·cases hi
 ·rw[hbox] at hc
  split at hc
  ·rename_i hs
   obtain⟨b,cs',k1,k2,_,k4,_,k6,k7⟩:=live id hs
   rw[k2] at hc
   simp only[z4M,Option.some.injEq] at hc
   subst hc
   refine⟨b,by simp only[if_pos hs];exact k1,k4,fun j e he=> ?_⟩
   obtain⟨c1,c2⟩:=k7 j e he
   have hme:z2b e=true:=by
    have:∀(cs:List z2a) (j:Nat),z1b cs=true→cs[j]? =some e→z2b e=true:=fun cs=>by
     induction cs with
     |nil=>intro j _ h;simp at h
     |cons c cs ih=>
      intro j hm hd
      simp only[z1b,Bool.and_eq_true] at hm
      cases j with
      |zero=>simp at hd;subst hd;exact hm.1
      |succ j=>exact ih j hm.2 (by simpa using hd)
    exact this _ j k6 he
   exact⟨⟨_,c1,z3ia e _ hme⟩,c2⟩
  ·cases hc
 ·rw[hbox] at hid
  split at hid
  ·cases hid
  ·rename_i hs;simp only[if_neg hs]
 ·simp only at hb
  split at hb
  ·exact⟨.inr ⟨_,hb⟩,(hBx _ b hb).2,rfl⟩
  ·cases hb
 ·simp only at hb
  split at hb
  ·rename_i hs
   obtain⟨d,hd⟩:=hlvd id hs
   have:=(List.getElem?_eq_some_iff.1 hd).1
   rw[hds] at this
   simp at this
   omega
  ·cases hb
 ·unfold ASt.get
  rw[henv,horg]
  by_cases hs:s∈lvS lv x
  ·rw[if_pos hs]
   obtain⟨b,cs,k1,_,k3,_⟩:=live s hs
   simp only[Rep,if_pos hs]
   exact⟨b,k1,hget s _ k3⟩
  ·rw[if_neg hs,if_neg hs]
   cases hd:ds[s]? with
   |none=>simp[Abs.dem,Rep]
   |some d=>
    obtain⟨v,hv,h2⟩:=key s d hd
    rw[if_neg hs] at h2
    rw[hget s v hv]
    exact z2c.dem (g:=⟨S,_,_⟩) _ h2
 ·rw[horg] at hs
  split at hs
  ·cases hs
  ·rename_i hn'
   obtain⟨v,hv,h2⟩:=key s d hs
   rw[if_neg hn'] at h2
   rw[hget s v hv]
   exact z2c.mono hk d v h2
def itQ (el:Nat→Option (List z2a)):IQ
 | .normal,p,_| .ret,p,_=>p.2=true∨el p.1=none
 |_,_,_=>False
def z0tb (K:Cx) (F:z5Bc) (fn:Func):Bool:=
 !(fn.name== "runtime.NumGoroutine")&&(match fn.body with|some c=>z2Pa K fn.ntmps F.body c|none=>false)&&(fn.results.size==0)&&decide (F.nx+1+F.ny≤fn.ntmps∧F.nx+1+F.ny≤1000000)

theorem z8Pa {f:Nat} {fn:Func} {F:z5Bc} {c:ItC} (hf:K.P.funcs[K.nu f]? =some fn) (hc:z0tb K F fn=true) (hv:∀p∈z1v F.body,VB K p)
  (h:∀x y l,c.pre x y→x.length=F.nx∧y.length=F.ny∧z5O K.E l (c.el x y) F.body (itQ (c.el x y)) (0,false) (z9ab l c.lv x y)):z0W K f c:=by
 simp only[z0tb,Bool.and_eq_true,Bool.not_eq_true',decide_eq_true_eq,beq_iff_eq] at hc
 obtain⟨⟨⟨hname,hbody⟩,hres⟩,hsz⟩:=hc
 cases hb:fn.body with
 |none=>rw[hb] at hbody;cases hbody
 |some code=>
  rw[hb] at hbody
  simp only at hbody
  refine⟨⟨fn,hf,by rw[hb];rfl,hname⟩,fun S w x y vx vy B hg hx hy hpre l J Jx N hr=> ?_⟩
  obtain⟨hlx,hly,hw⟩:=h x y l hpre
  obtain⟨S1,hS1⟩:∃S1:Nat→Nat,S1=fun b=>min (S b) (z4hb w b):=⟨_,rfl⟩
  have hk1:z7g S w S1 w:=fun b i v hi hcell=>⟨by rw[hS1];exact Nat.lt_min.2 ⟨hi,z4jb hcell⟩,hcell⟩
  have hle:∀b,S1 b≤S b:=fun b=>by rw[hS1];exact Nat.min_le_left _ _
  have hSx:∀b i,i<S1 b→∃x,w.cell? ⟨b,i,none⟩=some x:=fun b i hi=>by
   rw[hS1] at hi
   exact z3Wa (Nat.lt_min.1 hi).2
  have hr1:z5Ea K S1 (c.el x y) l J Jx N (fun b=>∃i,B i=some b) w:=by
   refine⟨hr.start,hr.bound,hr.stab,hr.stabx,fun i O A xs q hj hel=> ?_⟩
   obtain⟨fn',tm,asg,bdy,h1,h2⟩:=hr.round i O A xs q hj hel
   exact⟨fn',tm,asg,bdy,h1,h2.mono fun e B ⟨k1,k2⟩=>⟨fun b i v hi hcell=>⟨hi,(k1 b i v (Nat.lt_of_lt_of_le hi (hle b)) hcell).2⟩,k2⟩⟩
  have hg1:∀m∈K.N.gs,z1d K.toCon S1 w (K.E.T m) (K.N.gnum m) 0:=fun m hm=>z1d.mono hk1 _ _ _ (hg m hm)
  have hz0:∀i b,B i=some b→S1 b=0:=fun i b hb=>by
   have hi:=hy.dom i b hb
   have hil:=hy.lt i hi
   have:=hy.at' i y[i] (vy[i]'(by rw[←hy.len];exact hil)) (List.getElem?_eq_getElem hil) (List.getElem?_eq_getElem _)
   rw[if_pos hi] at this
   obtain⟨b',_,k1,_,_,k4,_⟩:=this
   rw[hb] at k1;cases k1
   have:=hle b
   omega
  have hy1:z5Ab K S1 w c.lv B y vy:=hy.keep hk1 hz0 (Nat.le_refl _) (fun _ _ _=>rfl)
  have hx1:=z5c.mono hk1 _ _ hx
  have hlen1:=hx1.len
  have hlen2:=hy1.len
  refine callsIn_wide.1 (callsIn_of_wp_marks (F:=WF none) (n:=0) hf hb (z3sa none _) ?_)
  have hR:=z8oc (n:=fn.ntmps) (l:=l) (m:=fn.ntmps-(vx++Value.func (.yield l) #[] #[]::vy).length) hg1 hx1 hy1 (by omega) (by simp only[List.length_append,List.length_cons];omega)
  simp only[List.size_toArray]
  have hz:Zi S1 w ⟨w,fun b=>∃i,B i=some b,S1,[]⟩:=by
   refine⟨fun b h=> .inr (by obtain⟨i,hi⟩:=h;exact hz0 i b hi),Nat.le_refl _,fun b i v hi hcell=>⟨?_,hcell⟩,fun b=> ?_,rfl⟩
   ·unfold z8s.S
    rw[if_pos ⟨World.block_lt_of_cell? w ⟨b,i,none⟩ hcell,fun h=>by obtain⟨j,hj⟩:=h;have:=hz0 j b hj;omega⟩]
    exact hi
   ·unfold z8s.S
    split
    ·exact Nat.le_refl _
    ·omega
  have hh:HyI (fun b=>∃i,B i=some b) J Jx ⟨w,fun b=>∃i,B i=some b,S1,[]⟩ (0,false):=⟨fun b=>∃i,B i=some b,fun _ h _=>h,fun b hb=>⟨hb,by
   obtain⟨i,hi⟩:=hb
   have hm:=hy.dom i b hi
   have hil:=hy.lt i hm
   have:=hy.at' i y[i] (vy[i]'(by rw[←hy.len];exact hil)) (List.getElem?_eq_getElem hil) (List.getElem?_eq_getElem _)
   rw[if_pos hm] at this
   obtain⟨b',_,k1,_,_,_,k5,_⟩:=this
   rw[hi] at k1;cases k1
   exact k5⟩,hr.start⟩
  have hwp:=z7M (q:=0) hr1 hSx hg1 F.body code _ _ _ _ _ w hbody hv hw hz hh hR
  refine wpIn_mono hwp fun e a' w' hl=> ?_
  have fin:∀(base:z8s) (p:Nat×Bool) (st:ASt),Zi S1 w base→HyI (fun b=>∃i,B i=some b) J Jx base p→Rel K base fn.ntmps st a' w'→(p.2=true∨c.el x y p.1=none)→
    LeavesInM (WF none) 0 K.P fn a'.tmps (fun e B'=>∃v,e=Ending.returned v∧∃O,(∀b,(∃i,B i=some b)→O b)∧((∃i,c.el x y i=none∧J i O B')∨Jx O B')) a'.defers .returning w':=fun base p st hz' hh' hR' hq=>by
   obtain⟨g,hI,_,_,hd,_⟩:=hR'
   obtain⟨_,hnow⟩:=z2yb hr1 hh' hI
   rw[hd,hz'.dl]
   have hre:fn.results= #[]:=Array.eq_empty_of_size_eq_zero hres
   refine⟨.tuple #[],?_,_,rfl,WO g (fun b=>∃i,B i=some b),fun b hb=> .inr hb,?_⟩
   ·have:results fn a'.tmps=(do
     let vs←fn.results.mapM (z6O a'.tmps)
     pure (if h:vs.size=1 then vs[0] else .tuple vs)):=rfl
    rw[this,hre]
    simp[Sem.run_bind,Sem.run_pure]
   ·obtain⟨i,s⟩:=p
    cases s with
    |true=>exact .inr hnow
    |false=>exact .inl ⟨i,hq.resolve_left (by simp),hnow⟩
  cases e<;>simp only[z0Ha] at hl<;>simp only[bodyPostM]
  ·obtain⟨b',p',st',hz',hh',hR',hq⟩:=hl
   exact fin b' p' st' hz' hh' hR' hq
  ·obtain⟨b',p',st',hz',hh',hR',hq⟩:=hl
   exact hq
  ·obtain⟨b',p',st',hz',hh',hR',hq⟩:=hl
   exact fin b' p' st' hz' hh' hR' hq
end
end Go.Abs
end

section
namespace Go.Abs
section
variable {K : Cx}
def z6Ca:z2a→Prop
 | .sl _ none _ _=>False
 | .sl _ (some true) n cs=>n=0∧cs=[]
 |_=>True
def z9Ea (b:Bool):z2a→z2a
 | .sl m none n cs=> .sl m (some b) n cs
 |d=>d
theorem z3jb {S:Nat→Nat} {w:World} {d:z2a} {v:Value} (h:z2c K.toCon S w d v):∃b,z6Ca (z9Ea b d)∧z2c K.toCon S w (z9Ea b d) v:=by
 cases d with
 |sl m nl n cs=>
  cases nl with
  |none=>
   simp only[z2c] at h
   rcases h with⟨b,o,cap,h1,h2,h3,h4,h5⟩|⟨q,h1,h2,h3,h4⟩
   ·exact⟨false,by simp[z9Ea,z6Ca],by simp only[z9Ea,z2c];exact .inl ⟨b,o,cap,h1,h2,h3,by simp,h5⟩⟩
   ·cases q with
    |none=>exact⟨true,by simp[z9Ea,z6Ca,h2,h3],by simp only[z9Ea,z2c];exact .inr ⟨none,h1,h2,h3,by simp⟩⟩
    |some q=>exact⟨false,by simp[z9Ea,z6Ca],by simp only[z9Ea,z2c];exact .inr ⟨some q,h1,h2,h3,by simp⟩⟩
  |some b=>
   cases b with
   |false=>exact⟨false,by simp[z9Ea,z6Ca],h⟩
   |true=>
    refine⟨true,?_,h⟩
    simp only[z2c] at h
    rcases h with⟨_,_,_,_,_,_,h4,_⟩|⟨_,_,h2,h3,_⟩
    ·exact absurd rfl h4
    ·exact⟨h2,h3⟩
 |_=>exact⟨true,by simp[z9Ea,z6Ca],h⟩
theorem z0Ba {S:Nat→Nat} {w:World}:∀{ds:List z2a} {vs:List Value} {i:Nat} {d d':z2a},z5c K.toCon S w ds vs→ds[i]? =some d→(∀v,z2c K.toCon S w d v→vs[i]? =some v→z2c K.toCon S w d' v)→z5c K.toCon S w (ds.set i d') vs
 |[],_,_,_,_,_,h,_=>by simp at h
 |c::cs,vs,0,d,d',hr,h,hd=>by
  simp only[List.getElem?_cons_zero,Option.some.injEq] at h
  subst h
  simp only[z5c,List.set_cons_zero] at hr⊢
  obtain⟨x,xs,rfl,h1,h2⟩:=hr
  exact⟨x,xs,rfl,hd x h1 rfl,h2⟩
 |c::cs,vs,i+1,d,d',hr,h,hd=>by
  simp only[z5c,List.set_cons_succ] at hr⊢
  obtain⟨x,xs,rfl,h1,h2⟩:=hr
  exact⟨x,xs,rfl,h1,z0Ba h2 (by simpa using h) (fun v hv hx=>hd v hv (by simpa using hx))⟩
theorem z5Pa {S:Nat→Nat} {w:World} {d:z2a}:∀{ds:List z2a} {vs:List Value} {i:Nat},z5c K.toCon S w ds vs→ds[i]? =some d→∃v,vs[i]? =some v∧z2c K.toCon S w d v
 |[],_,_,_,h=>by simp at h
 |c::cs,vs,0,hr,h=>by
  simp only[z5c] at hr
  obtain⟨x,xs,rfl,h1,h2⟩:=hr
  simp only[List.getElem?_cons_zero,Option.some.injEq] at h
  subst h
  exact⟨x,rfl,h1⟩
 |c::cs,vs,i+1,hr,h=>by
  simp only[z5c] at hr
  obtain⟨x,xs,rfl,h1,h2⟩:=hr
  obtain⟨v,k1,k2⟩:=z5Pa h2 (by simpa using h)
  exact⟨v,by simpa using k1,k2⟩
theorem z4ab {f:Nat} {c:z4a} (i:Nat) (h:z9e K f ⟨fun ds=>c.pre ds∧∀d,ds[i]? =some d→z6Ca d,c.post⟩) (hc:∀ds d b,c.pre ds→ds[i]? =some d→c.pre (ds.set i (z9Ea b d))∧c.post (ds.set i (z9Ea b d))=c.post ds):z9e K f c:=by
 refine⟨h.1,fun S w ds vs hg hr hp=> ?_⟩
 cases hd:ds[i]? with
 |none=>exact h.2 S w ds vs hg hr ⟨hp,fun d hd'=>by rw[hd] at hd';cases hd'⟩
 |some d=>
  obtain⟨v,hv⟩:=z5Pa hr hd
  obtain⟨b,h1,h2⟩:=z3jb hv.2
  obtain⟨k1,k2⟩:=hc ds d b hp hd
  have hr':z5c K.toCon S w (ds.set i (z9Ea b d)) vs:=z0Ba hr hd fun v' _ hv'=>by
   rw[hv.1] at hv';cases hv';exact h2
  have:=h.2 S w (ds.set i (z9Ea b d)) vs hg hr' ⟨k1,fun d' hd'=>by
   have hlt:=(List.getElem?_eq_some_iff.1 hd).1
   rw[List.getElem?_set_self hlt] at hd'
   cases hd'
   exact h1⟩
  simp only[k2] at this
  exact this
end
end Go.Abs
end
