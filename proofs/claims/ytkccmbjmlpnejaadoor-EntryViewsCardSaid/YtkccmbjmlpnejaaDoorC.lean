/- Lemmas: an abstract interpreter, and what the functions compute. -/
import Derived.Test.YtkccmbjmlpnejaaDoorB
import Derived.OrdersIn
import Derived.OwnWalkIn
import Derived.RangeFuncNested
import Derived.RangeFuncLeaves
import Derived.Scope
import Derived.Lib.Builder
import Derived.Lib.UnsafeStr
import Derived.Laws.Sem
set_option linter.unusedSimpArgs false
set_option linter.unusedVariables false
set_option linter.unusedSectionVars false
section
namespace Go.Abs

def WF (r:Option Nat):Fence:={Fence.wide with round:=r}
theorem z4jb (r:Option Nat) (f:FuncId):(WF r).fn f:=trivial
theorem z8ub (r:Option Nat):(WF r).depth=none:=rfl
theorem z79a {r:Option Nat} {n:Nat} {P:Program} {f:FuncId} {args:Array Value} {w:World} {R:Ending→World→Prop}:CallsIn (WF r) n P f args w R↔Calls P f args w R:=by
 have h:CallsIn (WF r) n P f args w R↔CallsIn Fence.wide n P f args w R:=Iff.rfl
 rw[h];exact callsIn_wide
theorem z9db {r:Option Nat} {n:Nat} {P:Program} {row:String} {args:Array Value} {w:World} {R:Value→World→Prop} (h:Rows P row args w R):RowsIn (WF r) n P row args w R:=
 fun c cs _=>let⟨v,w',h1,h2⟩:=h c cs;⟨v,w',h1,(stepsIn_wide.2 h2:StepsIn (Machine.fenced P Fence.wide) P _ _)⟩

theorem z9Yb {r:Option Nat} {n:Nat} {P:Program} {o:Oper} {a:Act} {w:World} {K:Act→World→Prop} {Q:Exit→Act→World→Prop} (hd:∀c,o.op≠ .defer c) (h:o.wp P a w K Q):o.wpIn (WF r) n P a w K Q:=by
 refine⟨fun f _=>z4jb r f,?_⟩
 rw[Oper.semAt_plain (WF r) _ _ hd]
 unfold Oper.wp at h
 generalize(execOp a.eval o).run P w=res at*
 have hdep:((WF r).depth.isSome=true→1≤n):=fun h=>by simp[z8ub] at h
 cases res with
 |ok x w'=>
  cases x<;>simp only[Oper.upon,Oper.uponIn] at h⊢<;>
   first
    |exact h
    |exact⟨hdep,z79a.2 h⟩
    |exact⟨hdep,z9db h⟩
 |halt x w'=>cases x<;>simp only[Oper.upon,Oper.uponIn] at h⊢<;>exact h

section
variable {P : Program} {F : Fence} {n : Nat} {a : Act} {w : World} {Q : Exit → Act → World → Prop}
theorem z3L {b:Frame} {k:List Item} {cs:List Frame} {c:Code}:step P (lone (b.atR a (.code (.scope c)::k)) cs w)= .next (lone (b.atR a (.code c:: .inScope c::k)) cs w):=
 step_lone_go (by simp[stepG,stepG.exec,Frame.atR])
theorem z9Ba {b:Frame} {k:List Item} {cs:List Frame} {c:Code}:step P (lone (b.atR a (.inScope c::k)) cs w)= .next (lone (b.atR a k) cs w):=
 step_lone_go (by simp[stepG,stepG.exec,Frame.atR])
theorem z56a {c:Code} (h:c.wpIn F n P (Exit.noGoto Q) a w):(Code.scope c).wpIn F n P Q a w:=by
 intro b k cs hro hb hr
 have h0:(lone (b.atR a (.code (.scope c)::k)) cs w).fenced P F:=fenced_calm hb hr rfl
 obtain⟨e,a₁,w₁,hq,harr⟩:=h b (.inScope c::k) cs hro hb hr
 cases e with
 |normal=>exact⟨.normal,a₁,w₁,hq,.head h0 z3L (StepsIn.trans harr (.one (fenced_calm hb hr rfl) z9Ba))⟩
 |exit id=>
  have hx:exitTo id (.inScope c::k)=exitTo id k:=by simp[exitTo]
  exact⟨.exit id,a₁,w₁,hq,fun k' hk=> .head h0 z3L (harr.1 k' (by rw[hx];exact hk)),
   fun hr' hk=>let⟨k₁,h1,h2⟩:=harr.2 hr' (by rw[hx];exact hk);⟨k₁,h1,.head h0 z3L h2⟩⟩
 |goto l=>exact hq.elim
 |ret=>exact⟨_,a₁,w₁,hq,.of_steps (.one h0 z3L) harr⟩
 |panic ch=>exact⟨_,a₁,w₁,hq,.of_steps (.one h0 z3L) harr⟩
 |outgrown=>exact⟨_,a₁,w₁,hq,.of_steps (.one h0 z3L) harr⟩

theorem z5Ca {c:Code} (I:Nat→Act→World→Prop) {m:Nat} (h₀:I m a w)
  (round:∀m a w,I m a w→c.wpIn F n P (Exit.then (fun a' w'=>∃m',m'<m∧I m' a' w') Q) a w):(Code.loop c).wpIn F n P Q a w:=by
 intro b k cs hro hb hr
 have key:∀j a w,I j a w→∃e a' w',Q e a' w'∧ArrivesIn (Machine.fenced P F) P (lone (b.atR a (.code c:: .inLoop c::k)) cs w) b k cs e a' w':=by
  intro j
  induction j using Nat.strongRecOn with
  |_ j ih=>
   intro a w hI
   obtain⟨e,a₁,w₁,hq,harr⟩:=round j a w hI b (.inLoop c::k) cs hro hb hr
   cases e with
   |normal=>
    obtain⟨m',hlt,hI₁⟩:=hq
    obtain⟨e₂,a₂,w₂,hq₂,harr₂⟩:=ih m' hlt a₁ w₁ hI₁
    exact⟨e₂,a₂,w₂,hq₂,.of_steps (StepsIn.trans harr (.one (fenced_calm hb hr rfl) stepR_inLoop)) harr₂⟩
   |exit id=>exact⟨_,a₁,w₁,hq,.pass (x:= .inLoop c) rfl (fun _ _=> .inl (by simp)) harr⟩
   |goto l=>exact⟨_,a₁,w₁,hq,.pass (x:= .inLoop c) rfl (fun _ _=> .inl (by simp)) harr⟩
   |ret=>exact⟨_,a₁,w₁,hq,.pass (x:= .inLoop c) rfl (fun _ _=> .inl (by simp)) harr⟩
   |panic ch=>exact⟨_,a₁,w₁,hq,.pass (x:= .inLoop c) rfl (fun _ _=> .inl (by simp)) harr⟩
   |outgrown=>exact⟨_,a₁,w₁,hq,.pass (x:= .inLoop c) rfl (fun _ _=> .inl (by simp)) harr⟩
 obtain⟨e,a',w',hq,harr⟩:=key _ a w h₀
 exact⟨e,a',w',hq,.of_steps (.one (fenced_calm hb hr rfl) stepR_loop) harr⟩
end
end Go.Abs
end

section
set_option linter.unusedVariables false
namespace Go.Abs

def z7da (w:World) (b:Nat):Option Nat:=match w.cell? ⟨b,1,none⟩ with|some (.slice (some a) _ _)=>some a.block|_=>none
structure z6jb (w w':World) (b:Nat):Prop where
 os:w'.os=w.os
 tape:w'.tape=w.tape
 output:w'.output=w.output
 size:w.heap.size≤w'.heap.size
 block:∀k,k<w.heap.size→k≠b→z7da w b≠some k→w'.heap[k]? =w.heap[k]?
 buf:z7da w' b=z7da w b∨((∀k,z7da w' b=some k→w.heap.size≤k)∧∀k,k<w.heap.size→k≠b→w'.heap[k]? =w.heap[k]?)

theorem z4Ia {w:World} {b:Nat} {v:Value} (h:w.cell? ⟨b,1,none⟩=some v):z7da w b=v.ownBlock:=by
 unfold z7da
 rw[h]
 cases v with
 |slice a _ _=>cases a<;>rfl
 |_=>rfl

structure z6Ya (K:Cx) (m:Nat):Prop where
 call:z1aa K.P (K.bf m)
 len:m=0→∀b bs w,Lib.IsBuilder K.bt K.b5 0 b bs w→Calls K.P (K.bf 0) #[.pointer (some ⟨b,0,none⟩)] w fun e w'=>e= .returned (.int .i64 bs.length)∧w'=w
 wstr:m=1→∀b bs s w,Lib.IsBuilder K.bt K.b5 0 b bs w→bs.length+s.size≤140737488355328→Calls K.P (K.bf 1) #[.pointer (some ⟨b,0,none⟩),.string s] w fun e w'=>e= .returned (.tuple #[.int .i64 s.size,.nilIface])∧Lib.IsBuilder K.bt K.b5 0 b (bs++Lib.strCells s) w'∧z6jb w w' b
 write:m=2→∀b bs ad m c news w,Lib.IsBuilder K.bt K.b5 0 b bs w→news.length=m→(∀j u,news[j]? =some u→w.cell? (ad.add j)=some u)→ad.block≠b→(∀u∈news,u.oneCell'=true)→bs.length+m≤140737488355328→
  Calls K.P (K.bf 2) #[.pointer (some ⟨b,0,none⟩),.slice (some ad) m c] w fun e w'=>e= .returned (.tuple #[.int .i64 m,.nilIface])∧Lib.IsBuilder K.bt K.b5 0 b (bs++news) w'∧z6jb w w' b
 str:m=3→∀b l w,Lib.IsBuilder K.bt K.b5 0 b (Lib.byteCells l) w→l≠[]→Calls K.P (K.bf 3) #[.pointer (some ⟨b,0,none⟩)] w fun e w'=>e= .returned (.string ⟨l.toArray⟩)∧(w'.os=w.os∧w'.tape=w.tape∧w'.output=w.output∧w.heap.size≤w'.heap.size∧∀k,k<w.heap.size→k≠b→z7da w b≠some k→w'.heap[k]? =w.heap[k]?)∧∀x,w'.cell? x=w.cell? x

section
variable {K : Cx} {base : z1P} {g g' : Gh} {w w' : World} {get : Nat → z2a} {getB : Nat → Option (List z2a)} {a : Act} {o : Oper} {d : Option Nat}

theorem z4Q (l:List UInt8) (i:Nat):(Lib.byteCells l)[i]? =(l[i]?).map fun b=>Value.int .u8 b.toNat:=by simp[Lib.byteCells]
theorem z5ya (l:List UInt8) (i:Nat):(z2r l)[i]? =(l[i]?).map fun b=>z2a.lit (.int .u8 b.toNat):=by simp[z2r]

theorem z5Jb (hI:Inv K base g w getB) {id b:Nat} (hid:1000000≤id) (hb:g.mu id=some b) {nl:Option Bool} {l:List UInt8} (hc:getB id=some [.undef,.sl (.own 1) nl l.length (z2r l)]):
  Lib.IsBuilder K.bt K.b5 0 b (Lib.byteCells l) w∧(∀k,z7da w b=some k→g.ow k=some (.cell id 1))∧(∀k,z7da w b=some k→∀i x,i<g.S k→w.cell? ⟨k,i,none⟩=some x→(Lib.byteCells l)[i]? =some x):=by
 obtain⟨p,v,hk,hp,hv⟩:=hI.obok id b _ hid hb hc (by simp[hdA])
 obtain⟨b',k1,k2,k3⟩:=hI.bxok id _ hc
 rw[hb] at k1;cases k1
 obtain⟨⟨x,hx,hr⟩,_⟩:=k3 1 _ rfl
 have hx':w.cell? ⟨b,1,none⟩=some v:=by simp[World.cell?,hk]
 have hxv:x=v:=by rw[hx] at hx';exact Option.some.inj hx'
 subst hxv
 simp only[Rep] at hr
 obtain⟨hr,hro⟩:=hr
 have hbuf:=z4Ia hx
 have mk:∀(ho:w.ownsRow 0 K.b5 1 x l.length (Lib.byteCells l)) (hn:x.ownBlock≠some b),Lib.IsBuilder K.bt K.b5 0 b (Lib.byteCells l) w:=fun ho hn=>by
  have ho':w.ownsRow 0 K.b5 1 x (Lib.byteCells l).length (Lib.byteCells l):=by rw[Lib.byteCells_length];exact ho
  rcases hp with rfl|rfl
  ·exact .inl ⟨Nat.zero_le _,x,hk,ho',hn⟩
  ·exact .inr ⟨Nat.zero_le _,x,hk,ho',hn⟩
 rcases hv with rfl|⟨k,n,cap,c,rfl,how,hck,hcs,hcm,hnc⟩
 ·have hl:l=[]:=by
   simp only[z7c] at hr
   rcases hr with⟨_,_,_,h,_⟩|⟨_,_,h,_⟩
   ·cases h
   ·exact List.eq_nil_of_length_eq_zero h
  subst hl
  refine⟨mk ⟨rfl,.inl ⟨rfl,rfl⟩⟩ (by simp[Value.ownBlock]),fun k h=> ?_,fun k h=> ?_⟩<;>(rw[hbuf] at h;simp[Value.ownBlock] at h)
 ·have hkb:k≠b:=fun e=>by rw[e,(hI.muW id b hb).2.2] at how;cases how
  simp only[z7c] at hr
  have hr2:n=l.length∧n≤cap∧z0f K.toCon g.S w (z2r l) k 0:=by
   rcases hr with⟨b2,o2,cap2,he,h1,h2,_⟩|⟨q,he,hl0,hl1,_⟩
   ·simp only[Value.slice.injEq,Option.some.injEq,Addr.mk.injEq,and_true] at he
    obtain⟨⟨rfl,rfl⟩,rfl,rfl⟩:=he
    exact⟨rfl,h1,h2⟩
   ·simp only[Value.slice.injEq] at he
    obtain⟨_,rfl,rfl⟩:=he
    exact⟨hl0.symm,Nat.le_refl _,by rw[hl1];simp[z0f]⟩
  obtain⟨rfl,h1,h2⟩:=hr2
  have cell:∀(i:Nat) (u:UInt8),l[i]? =some u→c[i]? =some (Value.int .u8 u.toNat):=fun i u hu=>by
   obtain⟨_,y,hy,hyr⟩:=h2.get i (.lit (.int .u8 u.toNat)) (by rw[z5ya,hu];rfl)
   simp only[z7c] at hyr
   subst hyr
   simpa[World.cell?,hck] using hy
  have htake:c.toList.take (l.length*1)=Lib.byteCells l:=by
   refine List.ext_getElem? fun i=> ?_
   rw[List.getElem?_take,z4Q]
   cases hu:l[i]? with
   |none=>
    have:l.length≤i:=List.getElem?_eq_none_iff.1 hu
    rw[if_neg (by omega)];rfl
   |some u=>
    have:i<l.length:=(List.getElem?_eq_some_iff.1 hu).1
    rw[if_pos (by omega),Array.getElem?_toList]
    exact cell i u hu
  refine⟨mk ⟨by rw[Lib.byteCells_length];omega,.inr ⟨k,cap,c,rfl,Nat.zero_le _,hck,hnc,hcm,by omega,htake⟩⟩ (by simpa[Value.ownBlock] using hkb),fun j h=> ?_,fun j h i y hi hy=> ?_⟩
  ·rw[hbuf] at h;simp only[Value.ownBlock,Option.some.injEq] at h;subst h;exact how
  ·rw[hbuf] at h;simp only[Value.ownBlock,Option.some.injEq] at h;subst h
   rcases hro _ rfl with(he|⟨⟨a0,he⟩,hcs0⟩)|⟨b3,cap3,he,_,_,hS3,_⟩
   ·cases he
   ·simp only[Value.slice.injEq] at he
    obtain⟨_,_,rfl⟩:=he
    exfalso
    simp[World.cell?,hck] at hy
    have:=(Array.getElem?_eq_some_iff.1 hy).1
    omega
   ·simp only[Value.slice.injEq,Option.some.injEq,Addr.mk.injEq,and_true] at he
    obtain⟨rfl,_,rfl⟩:=he
    rw[hS3] at hi
    have hil:i<l.length:=by omega
    have:=cell i l[i] (List.getElem?_eq_getElem hil)
    simp[World.cell?,hck] at hy
    rw[this] at hy
    cases hy
    rw[z4Q,List.getElem?_eq_getElem hil];rfl

theorem z9Oa (hI:Inv K base g w getB) (hS:z5e K g w get a) {id b:Nat} (hid:1000000≤id) (hb:g.mu id=some b) {l m:List UInt8} (hown:∀k,z7da w b=some k→g.ow k=some (.cell id 1))
  (hst:∀k,z7da w b=some k→∀i x,i<g.S k→w.cell? ⟨k,i,none⟩=some x→(Lib.byteCells l)[i]? =some x) (hB:Lib.IsBuilder K.bt K.b5 0 b (Lib.byteCells (l++m)) w') (hg:z6jb w w' b):
  ∃g',Inv K base g' w' (z29 getB [(id,some [.undef,.sl (.own 1) none (l++m).length (z2r (l++m))])])∧z5e K g' w' get a∧(∀l0 d v,(∀x,d= .lit x→v=x)→(∃x,d= .lit x)→Rep K.toCon g' w' l0 d v):=by
 obtain⟨p,v,hk,hp,ho,hne⟩:∃p v,w'.heap[b]? =some (.cells #[p,v] K.bt (0,0))∧(p= .pointer none∨p= .pointer (some ⟨b,0,none⟩))∧w'.ownsRow 0 K.b5 1 v (l++m).length (Lib.byteCells (l++m))∧v.ownBlock≠some b:=by
  rw[←Lib.byteCells_length]
  rcases hB with⟨_,v,h1,h2,h3⟩|⟨_,v,h1,h2,h3⟩
  ·exact⟨_,v,h1,.inl rfl,h2,h3⟩
  ·exact⟨_,v,h1,.inr rfl,h2,h3⟩
 have hc1:w'.cell? ⟨b,1,none⟩=some v:=by simp[World.cell?,hk]
 have hbuf':=z4Ia hc1
 have hbW:=hI.muW id b hb
 generalize hL:l++m=L at*
 have hz:=hI.sz
 -- the new buffer
 have nb:∀x,v.ownBlock=some x→(x<w.heap.size∧z7da w b=some x∧g.ow x=some (.cell id 1))∨w.heap.size≤x:=fun x hx=>by
  rcases hg.buf with h|⟨h,_⟩
  ·rw[hbuf',hx] at h
   have:=hown x h.symm
   exact .inl ⟨(hI.owW x _ this).2,h.symm,this⟩
  ·exact .inr (h x (by rw[hbuf'];exact hx))
 have nlt:∀x,v.ownBlock=some x→x<w'.heap.size:=fun x hx=>by
  rcases ho.2 with⟨rfl,_⟩|⟨k,cap,cur,rfl,_,h,_⟩
  ·simp[Value.ownBlock] at hx
  ·simp only[Value.ownBlock,Option.some.injEq] at hx
   subst hx
   exact(Array.getElem?_eq_some_iff.1 h).1
 have same:∀x,x<w.heap.size→x≠b→v.ownBlock≠some x→w'.heap[x]? =w.heap[x]? :=fun x h1 h2 h3=>by
  rcases hg.buf with h|⟨_,h⟩
  ·exact hg.block x h1 h2 (by rw[←h,hbuf'];exact h3)
  ·exact h x h1 h2
 have noOw:∀x,g.ow x=none→x<w.heap.size→v.ownBlock≠some x:=fun x h1 h2 h3=>by
  rcases nb x h3 with⟨_,_,h⟩|h
  ·rw[h1] at h;cases h
  ·omega
 let g':Gh:={S:=fun x=>if v.ownBlock=some x then L.length else g.S x,ow:=fun x=>if v.ownBlock=some x then some (.cell id 1) else g.ow x,mu:=g.mu}
 have Sb:g.S b=0:=by
  by_cases h:∃cs,getB id=some cs
  ·obtain⟨cs,h⟩:=h
   obtain⟨b',k1,k2,_⟩:=hI.bxok id cs h
   rw[hb] at k1;cases k1;exact k2
  ·have:getB id=none:=by cases hh:getB id with|none=>rfl|some cs=>exact absurd ⟨cs,hh⟩ h
   rw[hI.nobx id this] at hb;cases hb
 have hkp:z9k g.S w g'.S w':=fun b0 i x hi hc=>by
  have hlt:b0<w.heap.size:=World.block_lt_of_cell? w ⟨b0,i,none⟩ hc
  have hne0:b0≠b:=fun e=>by rw[e,Sb] at hi;omega
  by_cases h:v.ownBlock=some b0
  ·have hbo:z7da w b=some b0:=by
    rcases nb b0 h with⟨_,h,_⟩|h
    ·exact h
    ·omega
   have hx:=hst b0 hbo i x hi hc
   have hil:i<l.length:=by
    have:=(List.getElem?_eq_some_iff.1 hx).1
    rwa[Lib.byteCells_length] at this
   refine⟨?_,?_⟩
   ·simp only[g',if_pos h,←hL,List.length_append];omega
   ·have:=ho.cells h i x (by
     rw[z4Q] at hx⊢
     rw[←hL,List.getElem?_append_left hil]
     exact hx)
    simpa[Addr.add_mid] using this
  ·refine⟨by simp only[g',if_neg h];exact hi,?_⟩
   rw[World.cell?_of_block (w:=w) (a:=⟨b0,i,none⟩) (same b0 hlt hne0 h)]
   exact hc
 have own:∀m,m≠ .cell id 1→z7C g w g' w' m m:=fun m hm x hx=>by
  have h1:=(hI.owW x m hx).2
  have h2:v.ownBlock≠some x:=fun h=>by
   rcases nb x h with⟨_,_,h⟩|h
   ·rw[hx] at h;cases h;exact hm rfl
   ·omega
  have h3:x≠b:=fun e=>by rw[e,hbW.2.2] at hx;cases hx
  exact⟨by simp only[g',if_neg h2];exact hx,by simp only[g',if_neg h2],fun o n ht=>z00 (same x h1 h3 h2) ht⟩
 have rep:∀{d':z2a} {v':Value} {l0:Option Loc},l0≠some (.cell id 1)→Rep K.toCon g w l0 d' v'→Rep K.toCon g' w' l0 d' v':=fun {d' v' l0} hl hr=>
  Rep.mono hkp d' v' l0 l0 (fun _ _ _ h=>h) (fun m hm=>⟨m,hm,own m fun e=>hl (by rw[hm,e])⟩) hr
 have bo:z2U K.bt K.b5 g'.ow w' b id:=by
  refine⟨p,v,hk,hp,?_⟩
  rcases ho.2 with⟨rfl,_⟩|⟨k,cap,cur,rfl,_,h1,h2,h3,h4,h5⟩
  ·exact .inl rfl
  ·exact .inr ⟨k,_,cap,cur,rfl,by simp[g',Value.ownBlock],h1,by omega,h3,h2⟩
 refine⟨g',⟨hI.fr.trans ⟨hg.os,hg.tape,hg.output,hg.size,fun k hk1 hk2=> ?_⟩,fun x hx hw=> ?_,hI.inj,fun j cs hc=> ?_,fun j hj=> ?_,fun j x hx=> ?_,fun x lo hx=> ?_,fun n hn=>z0f.mono hkp _ _ _ (hI.glob n hn),hI.kp.trans hkp,fun j x es hj hx hc hd=> ?_⟩,fun s=>rep (by simp) (hS s),fun l0 d v h ⟨x,hx⟩=>by subst hx;rw[h x rfl];exact z8r _ _⟩
 ·refine hg.block k (by omega) (fun e=> ?_) (fun e=> ?_)
  ·rcases hbW.1 with h|h
   ·omega
   ·exact hk2 (by rw[e];exact h)
  ·rcases(hI.owW k _ (hown k e)).1 with h|h
   ·omega
   ·exact hk2 h
 ·have:v.ownBlock≠some x:=fun h=>by
   rcases nb x h with⟨_,_,h⟩|h
   ·rcases(hI.owW x _ h).1 with h|h
    ·omega
    ·exact hw h
   ·omega
  simp only[g',if_neg this]
  exact hI.sS x hx hw
 ·simp only[z29,lk] at hc
  by_cases hj:j=id
  ·subst hj
   simp only[if_true,Option.some.injEq] at hc
   subst hc
   refine⟨b,hb,by simp only[g',if_neg hne];exact Sb,fun i e hi=> ?_⟩
   have fz:w'.frozen? ⟨b,i,none⟩=false:=by simp[World.frozen?,hk]
   match i,hi with
   |0,hi=>simp at hi;subst hi;exact⟨⟨p,by simp[World.cell?,hk],by simp[Rep]⟩,fz⟩
   |1,hi=>
    simp at hi
    subst hi
    refine⟨⟨v,hc1,?_⟩,fz⟩
    simp only[Rep,z7c]
    rcases ho.2 with⟨rfl,h0⟩|⟨k,cap,cur,rfl,_,h1,h2,h3,h4,h5⟩
    ·have hl0:L=[]:=List.eq_nil_of_length_eq_zero h0
     subst hl0
     exact⟨.inr ⟨none,rfl,rfl,rfl,by simp⟩,fun _ _=> .inl (.inl rfl)⟩
    ·have hcell:∀i u,L[i]? =some u→w'.cell? ⟨k,i,none⟩=some (.int .u8 u.toNat):=fun i u hu=>by
      have:=ho.cells (g:=k) rfl i (.int .u8 u.toNat) (by rw[z4Q,hu];rfl)
      simpa[Addr.add_mid] using this
     refine⟨.inl ⟨k,0,cap,rfl,h2,z0f.mk fun i e hi=> ?_,by simp,fun h=>by cases h⟩,fun l' hl'=> ?_⟩
     ·rw[z5ya] at hi
      cases hu:L[i]? with
      |none=>rw[hu] at hi;cases hi
      |some u=>
       rw[hu] at hi
       simp only[Option.map_some,Option.some.injEq] at hi
       subst hi
       have hil:i<L.length:=(List.getElem?_eq_some_iff.1 hu).1
       exact⟨by simp[g',Value.ownBlock];omega,_,by simpa using hcell i u hu,by simp[z7c]⟩
     ·cases hl'
      right
      refine⟨k,cap,rfl,h2,by simp[z2r],by simp[g',Value.ownBlock],by simp[g',Value.ownBlock],fun j hj=> ?_⟩
      have hsz:cur.size=cap:=by omega
      refine⟨?_,by simp[World.frozen?,h1]⟩
      have:0+j<cur.size:=by omega
      rw[show w'.cell? ⟨k,0+j,none⟩=cur[0+j]? by simp[World.cell?,h1],Array.getElem?_eq_getElem this]
      rfl
   |_+2,hi=>simp at hi
  ·simp only[if_neg hj] at hc
   obtain⟨b2,k1,k2,k3⟩:=hI.bxok j cs hc
   have hbne:b2≠b:=fun e=>hj (hI.inj j id b (by rw[←e];exact k1) hb)
   have hW2:=hI.muW j b2 k1
   have hno:=noOw b2 hW2.2.2 hW2.2.1
   have hs:=same b2 hW2.2.1 hbne hno
   refine⟨b2,k1,by simp only[g',if_neg hno];exact k2,fun i e hi=> ?_⟩
   obtain⟨⟨x,hx,hr⟩,hfz⟩:=k3 i e hi
   exact⟨⟨x,by rw[World.cell?_of_block (w:=w) (a:=⟨b2,i,none⟩) hs];exact hx,rep (by simp[hj]) hr⟩,by rw[World.frozen?_of_block (w:=w) (a:=⟨b2,i,none⟩) hs];exact hfz⟩
 ·simp only[z29,lk] at hj
  by_cases h:j=id
  ·simp[h] at hj
  ·simp only[if_neg h] at hj
   exact hI.nobx j hj
 ·have h:=hI.muW j x hx
  exact⟨h.1,Nat.lt_of_lt_of_le h.2.1 hg.size,by simp only[g',if_neg (noOw x h.2.2 h.2.1)];exact h.2.2⟩
 ·simp only[g'] at hx
  split at hx
  ·rename_i h
   refine⟨?_,nlt x h⟩
   rcases nb x h with⟨_,_,h⟩|h
   ·exact(hI.owW x _ h).1
   ·exact .inl (by omega)
  ·have h:=hI.owW x lo hx
   exact⟨h.1,Nat.lt_of_lt_of_le h.2 hg.size⟩
 ·simp only[z29,lk] at hc
  by_cases h:j=id
  ·subst h
   have hx':g.mu j=some x:=hx
   rw[hb] at hx';cases hx'
   exact bo
  ·simp only[if_neg h] at hc
   have hx':g.mu j=some x:=hx
   have hbne:x≠b:=fun e=>h (hI.inj j id b (by rw[←e];exact hx') hb)
   have hW2:=hI.muW j x hx'
   refine z2U.keep (hI.obok j x es hj hx' hc hd) (same x hW2.2.1 hbne (noOw x hW2.2.2 hW2.2.1)) fun k hk'=> ?_
   have hkn:v.ownBlock≠some k:=fun hh=>by
    rcases nb k hh with⟨_,_,h3⟩|h3
    ·rw[hk'] at h3;cases h3;exact h rfl
    ·have:=(hI.owW k _ hk').2;omega
   exact⟨by simp only[g',if_neg hkn];exact hk',same k (hI.owW k _ hk').2 (fun e=>by rw[e,hbW.2.2] at hk';cases hk') hkn⟩

theorem z2Gb (hI:Inv K base g w getB) (hS:z5e K g w get a) {id b:Nat} (hid:1000000≤id) (hb:g.mu id=some b) (hown:∀k,z7da w b=some k→g.ow k=some (.cell id 1))
  (hs:w'.os=w.os∧w'.tape=w.tape∧w'.output=w.output∧w.heap.size≤w'.heap.size∧∀k,k<w.heap.size→k≠b→z7da w b≠some k→w'.heap[k]? =w.heap[k]?) (hcell:∀x,w'.cell? x=w.cell? x):
  Inv K base g w' (z29 getB [(id,some [])])∧z5e K g w' get a:=by
 obtain⟨h1,h2,h3,hsz,hblk⟩:=hs
 have hbW:=hI.muW id b hb
 have hz:=hI.sz
 have hkp:z9k g.S w g.S w':=fun b0 i x hi hc=>⟨hi,by rw[hcell];exact hc⟩
 have same:∀x m,g.ow x=some m→m≠ .cell id 1→w'.heap[x]? =w.heap[x]? :=fun x m hx hm=>
  hblk x (hI.owW x m hx).2 (fun e=>by rw[e,hbW.2.2] at hx;cases hx) (fun e=>by rw[hown x e] at hx;cases hx;exact hm rfl)
 have rep:∀{d':z2a} {v':Value} {l0:Option Loc},l0≠some (.cell id 1)→Rep K.toCon g w l0 d' v'→Rep K.toCon g w' l0 d' v':=fun {d' v' l0} hl hr=>
  Rep.mono hkp d' v' l0 l0 (fun _ _ _ h=>h) (fun m hm=>⟨m,hm,fun x hx=>⟨hx,rfl,fun o n ht=>z00 (same x m hx fun e=>hl (by rw[hm,e])) ht⟩⟩) hr
 have boxs:∀j x,g.mu j=some x→j≠id→w'.heap[x]? =w.heap[x]? :=fun j x hx hj=>by
  have h:=hI.muW j x hx
  exact hblk x h.2.1 (fun e=>hj (hI.inj j id b (by rw[←e];exact hx) hb)) (fun e=>by rw[hown x e] at h;cases h.2.2)
 refine⟨⟨hI.fr.trans ⟨h1,h2,h3,hsz,fun k hk1 hk2=> ?_⟩,hI.sS,hI.inj,fun j cs hc=> ?_,fun j hj=> ?_,fun j x hx=> ?_,fun x lo hx=> ?_,fun n hn=>z0f.mono hkp _ _ _ (hI.glob n hn),hI.kp.trans hkp,fun j x es hj hx hc hd=> ?_⟩,fun s=>rep (by simp) (hS s)⟩
 ·refine hblk k (by omega) (fun e=> ?_) (fun e=> ?_)
  ·rcases hbW.1 with h|h
   ·omega
   ·exact hk2 (by rw[e];exact h)
  ·rcases(hI.owW k _ (hown k e)).1 with h|h
   ·omega
   ·exact hk2 h
 ·simp only[z29,lk] at hc
  by_cases h:j=id
  ·subst h
   simp only[if_true,Option.some.injEq] at hc
   subst hc
   have Sb:g.S b=0:=by
    by_cases h:∃cs,getB j=some cs
    ·obtain⟨cs,h⟩:=h
     obtain⟨b',k1,k2,_⟩:=hI.bxok j cs h
     rw[hb] at k1;cases k1;exact k2
    ·have:getB j=none:=by cases hh:getB j with|none=>rfl|some cs=>exact absurd ⟨cs,hh⟩ h
     rw[hI.nobx j this] at hb;cases hb
   exact⟨b,hb,Sb,fun i e hi=>by simp at hi⟩
  ·simp only[if_neg h] at hc
   obtain⟨b2,k1,k2,k3⟩:=hI.bxok j cs hc
   refine⟨b2,k1,k2,fun i e hi=> ?_⟩
   obtain⟨⟨x,hx,hr⟩,hfz⟩:=k3 i e hi
   exact⟨⟨x,by rw[hcell];exact hx,rep (by simp[h]) hr⟩,by rw[World.frozen?_of_block (w:=w) (a:=⟨b2,i,none⟩) (boxs j b2 k1 h)];exact hfz⟩
 ·simp only[z29,lk] at hj
  by_cases h:j=id
  ·simp[h] at hj
  ·simp only[if_neg h] at hj
   exact hI.nobx j hj
 ·have h:=hI.muW j x hx
  exact⟨h.1,Nat.lt_of_lt_of_le h.2.1 hsz,h.2.2⟩
 ·have h:=hI.owW x lo hx
  exact⟨h.1,Nat.lt_of_lt_of_le h.2 hsz⟩
 ·simp only[z29,lk] at hc
  by_cases h:j=id
  ·subst h
   simp only[if_true,Option.some.injEq] at hc
   subst hc
   exact absurd rfl hd
  ·simp only[if_neg h] at hc
   exact z2U.keep (hI.obok j x es hj hx hc hd) (boxs j x hx h) fun k hk'=>⟨hk',same k _ hk' (by simp[h])⟩

/-! ### The calls -/
def z1pb (K:Cx) (op:Op) (k:Nat) (p x:Arg):Bool:=
 match op with
 | .call c=>(match c.callee with| .value (.func f')=>f'==K.bf k|_=>false)&&(match c.args.toList with
  |[p']=>(k==0||k==3)&&z5j K p' p
  |[p',x']=>(k==1||k==2)&&z5j K p' p&&z5j K x' x
  |_=>false)
 |_=>false

theorem z0Va {l:List UInt8} {vs:List Value} (h:z1e K.toCon g w (z2r l) vs):vs=Lib.byteCells l:=by
 induction l generalizing vs with
 |nil=>simpa[z2r,z1e,Lib.byteCells] using h
 |cons u l ih=>
  simp only[z2r,List.map_cons,z1e] at h
  obtain⟨x,xs,rfl,h1,h2⟩:=h
  simp only[Rep] at h1
  subst h1
  rw[ih h2]
  rfl
theorem z0da (l:List UInt8):z6Y (z2r l)=⟨l.toArray⟩:=by
 unfold z6Y z2r
 rw[List.map_map]
 congr 2
 conv=>rhs;rw[←List.map_id l]
 refine List.map_congr_left fun u _=> ?_
 simp[asI]
theorem z4ha (l m:List UInt8):Lib.byteCells (l++m)=Lib.byteCells l++Lib.byteCells m:=by simp[Lib.byteCells]
theorem z3za (l m:List UInt8):z2r (l++m)=z2r l++z2r m:=by simp[z2r]

theorem z0Fb (hI:Inv K base g w getB) (hS:z5e K g w get a) {k id:Nat} {p x:Arg} {b:Option Nat} (hF:z6Ya K k) (h:z1pb K o.op k p x=true) (hok:okp K.E get getB (.bld k id p b x))
  {next:Act→World→Prop} {Q:Exit→Act→World→Prop} (hn:∀v w',z3Oa K base a get getB d (eff K.E get getB (.bld k id p b x)) v w'→next (a.put o.dst v) w'):o.wp K.P a w next Q:=by
 unfold z1pb at h
 split at h
 ·rename_i c ho
  simp only[Bool.and_eq_true] at h
  obtain⟨hcal,ha⟩:=h
  split at hcal
  ·rename_i f' hcal'
   simp only[beq_iff_eq] at hcal
   subst hcal
   obtain⟨hid,hp,nl,l,hc,hk⟩:=hok
   have hrun:(execOp a.eval o).run K.P w= .ok (.enter (K.bf k) (c.args.toList.map a.eval).toArray) w:=by
    simp only[execOp,ho,resolve,hcal',Act.eval,Deferred.ofValue,Sem.run_bind,Sem.run_pure,Result.andThen_ok,invoke]
    rw[z1z w hF.call]
    congr 2
    apply Array.ext'
    simp
   have hcont:hdA (((getB id).getD []).drop 1)= .sl (.own 1) nl l.length (z2r l):=by rw[hc];rfl
   -- the pointer
   have ptr:∀p',z5j K p' p=true→∃bk,g.mu id=some bk∧a.eval p'= .pointer (some ⟨bk,0,none⟩):=fun p' hp'=>by
    have:=z8b hI hS hp'
    rw[hp] at this
    simpa only[Rep] using this
   unfold Oper.wp
   rw[hrun,Oper.upon_enter]
   split at ha
   ·rename_i p' hargs
    simp only[Bool.and_eq_true,Bool.or_eq_true,beq_iff_eq] at ha
    obtain⟨bk,hbk,hev⟩:=ptr p' ha.2
    obtain⟨hB,hown,hst⟩:=z5Jb hI hid hbk hc
    rw[hargs]
    simp only[List.map_cons,List.map_nil,hev]
    rcases ha.1 with rfl|rfl
    ·refine(hF.len rfl bk _ w hB).mono ?_
     rintro e w' ⟨rfl,rfl⟩
     refine hn _ _ ⟨g,hI,hS,?_⟩
     simp only[eff,z75,hcont,z5t,Lib.byteCells_length]
     exact z8r _ _
    ·refine(hF.str rfl bk l w hB hk).mono ?_
     rintro e w' ⟨rfl,hs,hcell⟩
     obtain⟨k1,k2⟩:=z2Gb hI hS hid hbk hown hs hcell
     refine hn _ _ ⟨g,k1,k2,?_⟩
     simp only[eff,z75,hcont,z1i,z0da]
     exact z8r _ _
   ·rename_i p' x' hargs
    simp only[Bool.and_eq_true,Bool.or_eq_true,beq_iff_eq] at ha
    obtain⟨bk,hbk,hev⟩:=ptr p' ha.1.2
    obtain⟨hB,hown,hst⟩:=z5Jb hI hid hbk hc
    have rx:=z8b hI hS ha.2
    rw[hargs]
    simp only[List.map_cons,List.map_nil,hev]
    have tup:∀(g':Gh) (w':World) (l0:Option Loc) (n:Nat),Rep K.toCon g' w' l0 (.tup [.lit (.int .i64 n),.lit .nilIface]) (.tuple #[.int .i64 n,.nilIface]):=fun g' w' l0 n=>by
     simp only[Rep]
     exact⟨_,rfl,by simp[z1e,Rep]⟩
    rcases ha.1.1 with rfl|rfl
    ·obtain⟨hs,hlen⟩:=hk
     obtain⟨ex,vx⟩:=z6ea rx hs
     generalize asS (arg K.E get x)=s at*
     rw[vx]
     have hsl:z5t (arg K.E get x)=s.size:=by rw[ex];rfl
     rw[hsl] at hlen
     refine(hF.wstr rfl bk _ s w hB (by rw[Lib.byteCells_length];exact hlen)).mono ?_
     rintro e w' ⟨rfl,hB',hg⟩
     rw[Lib.strCells_eq,←z4ha] at hB'
     obtain⟨g',k1,k2,_⟩:=z9Oa hI hS hid hbk hown hst hB' hg
     refine hn _ _ ⟨g',?_,k2,?_⟩
     ·simp only[eff,z75,hcont,hsl]
      rw[z3za,List.length_append,z8Nc] at k1
      have hx:z1i (bxl getB b) (arg K.E get x)=z2r s.data.toList:=by rw[ex];rfl
      rw[hx]
      exact k1
     ·simp only[eff,z75,hcont,hsl]
      exact tup _ _ _ _
    ·obtain⟨hb1,hokS,hpos,⟨l',hl'⟩,hlen⟩:=hk
     obtain⟨vs,h1,h2,h3⟩:=z4Ta hI hokS rx
     rw[hl'] at h1
     have hvs:=z0Va h1
     subst hvs
     rw[Lib.byteCells_length,Nat.mul_one] at h2
     rcases h3 with⟨_,_,_,k3⟩|⟨bx,off,cap,k1,_,k2⟩
     ·omega
     ·have hne:bx≠bk:=by
       have Sb:g.S bk=0:=by
        obtain⟨b',k1,k2,_⟩:=hI.bxok id _ hc
        rw[hbk] at k1;cases k1;exact k2
       intro e
       subst e
       cases hx:arg K.E get x with
       |sl m nl' n cs=>
        rw[hx] at rx hpos hokS hl'
        simp only[z5t] at hpos
        have hcs:cs≠[]:=fun e=>by subst e;simp[okS] at hokS;omega
        have hpr:z7c K.toCon g.S w (.sl .plain nl' n cs) (a.eval x')∨z7c K.toCon g.S w (.sl .clip nl' n cs) (a.eval x'):=by
         cases m with
         |own e=>simp only[Rep] at rx;exact .inl rx.1
         |plain=>simp only[Rep] at rx;exact .inl rx
         |clip=>simp only[Rep] at rx;exact .inr rx
        have fin:∀{b1 o1 cap1},a.eval x'= .slice (some ⟨b1,o1,none⟩) n cap1→z0f K.toCon g.S w cs b1 o1→False:=fun {b1 o1 cap1} h4 h5=>by
         rw[k1] at h4
         simp only[Value.slice.injEq,Option.some.injEq,Addr.mk.injEq] at h4
         cases cs with
         |nil=>exact hcs rfl
         |cons c0 cs=>
          simp only[z0f] at h5
          have h6:=h5.1
          rw[←h4.1.1,Sb] at h6
          omega
        rcases hpr with hpr|hpr
        all_goals
         simp only[z7c] at hpr
         rcases hpr with⟨b1,o1,cap1,h4,_,h5,_⟩|⟨q,h4,h5,_⟩
         ·exact fin h4 h5
         ·rw[k1] at h4;simp only[z5t,Value.slice.injEq] at h4;omega
       |bv id' e' off' n c'=>
        rw[hx] at rx hokS
        simp only[okS] at hokS
        simp only[Rep] at rx
        obtain⟨b2,cap2,o2,hb2,h4,_⟩:=rx
        rw[k1] at h4
        simp only[Value.slice.injEq,Option.some.injEq,Addr.mk.injEq] at h4
        have:id'=id:=hI.inj id' id _ hb2 (by rw[←h4.1.1];exact hbk)
        rw[this] at hokS
        exact hb1 hokS.1
       |lit y=>
        rw[hx] at rx hokS hpos
        simp only[Rep] at rx
        rw[k1] at rx
        subst rx
        simp[okS] at hokS
       |undef=>rw[hx] at hokS;simp[okS] at hokS
       |agg _=>rw[hx] at hokS;simp[okS] at hokS
       |tup _=>rw[hx] at hokS;simp[okS] at hokS
       |ep _=>rw[hx] at hokS;simp[okS] at hokS
       |otup _ _ _ _ _=>rw[hx] at hokS;simp[okS] at hokS
       |oagg _ _ _ _ _ _=>rw[hx] at hokS;simp[okS] at hokS
       |fn _ _ _=>rw[hx] at hokS;simp[okS] at hokS
       |bp _ _=>rw[hx] at hokS;simp[okS] at hokS
      rw[k1]
      refine(hF.write rfl bk _ ⟨bx,off,none⟩ _ cap (Lib.byteCells l') w hB (by rw[Lib.byteCells_length];exact h2) (fun j u hj=> ?_) hne (fun u hu=> ?_) (by rw[Lib.byteCells_length];exact hlen)).mono ?_
      ·rw[Addr.add_mid];exact k2 j u hj
      ·simp only[Lib.byteCells,List.mem_map] at hu
       obtain⟨_,_,rfl⟩:=hu
       rfl
      ·rintro e w' ⟨rfl,hB',hg⟩
       rw[←z4ha] at hB'
       obtain⟨g',k1,k2,_⟩:=z9Oa hI hS hid hbk hown hst hB' hg
       refine hn _ _ ⟨g',?_,k2,?_⟩
       ·simp only[eff,z75,hcont]
        rw[z3za,List.length_append,h2] at k1
        rw[hl']
        exact k1
       ·simp only[eff,z75,hcont]
        exact tup _ _ _ _
   ·cases ha
  ·cases hcal
 ·cases h
end
end Go.Abs
end

section
namespace Go.Abs

def z03a (K:Cx) (op:Op) (x:AOp):Bool:=
 match x with
 | .call f as _=>z4la K op f as
 | .callv _ t as _=>z0aa K op t as
 | .callm f t as _ _=> !Nat.ble 500000000 f&&z2M K op f t as
 | .callw f t as _ _=> !Nat.ble 400000000 f&&z2M K op f t as
 | .bld k _ p _ x=>z1pb K op k p x
 |x=>z0Db K op x

def z4qa (ops:Array Oper) (g:Option (Nat×Bool)) (g':Option (Nat×Bool)):Bool:=
 match g,g' with
 |none,none=>true
 |some (j,want),some (s,want')=>(match ops[j]? with|some o=>o.dst==some s|none=>false)&&(want==want')
 |_,_=>false

def z3Ba (K:Cx) (n:Nat) (ops:Array Oper) (o:Oper) (x:z1d):Bool:=
 (o.dst==x.dst)&&x.dst.toList.all (· <n)&&z4qa ops o.guard x.guard&&z03a K o.op x.op

def wNo (f:Nat):Nat:=500000000+f
def z14:AOp→List (Nat×Bool)| .call f _ _=>[(f,false)]| .callv f _ _ _=>[(f,false)]| .callm f _ _ _ _=>[(f,true)]| .callw f _ _ _ _=>[(wNo f,true)]| .bld k _ _ _ _=>[(999999990+k,true)]|_=>[]
def VB (K:Cx) (p:Nat×Bool):Prop:=match p.2 with|false=>z7h K p.1 (K.E.G p.1)|true=>match Nat.ble 999999990 p.1 with|true=>z6Ya K (p.1-999999990)|false=>match Nat.ble 500000000 p.1 with|true=>z5za K (p.1-500000000) (K.E.C (p.1-500000000))|false=>z33 K p.1 (K.E.M p.1)
def VOk (K:Cx) (x:AOp):Prop:=∀p∈z14 x,VB K p

section
variable {K : Cx} {base : z1P} {n : Nat} {st : ASt} {a : Act} {w : World} {ops : Array Oper}

theorem z3ub {st':ASt} (h:z4ka st st') (hR:Rel K base n st a w):Rel K base n st' a w:=by
 obtain⟨g,h1,h2,h3,h4,h5⟩:=hR
 refine⟨g,by rw[←h.getB];exact h1,by rw[←h.get];exact h2,fun s d hd=>h3 s d (by rw[h.org];exact hd),h4,h5⟩

theorem z2Za {dst:Option Nat} {v:Value} {s:Nat} (hlt:∀t∈dst.toList,t<a.tmps.size):(a.put dst v).tmps.getD s undef=if dst=some s then v else a.tmps.getD s undef:=by
 cases dst with
 |none=>simp[Act.put]
 |some t=>
  have ht:t<a.tmps.size:=hlt t (by simp)
  simp only[Act.put,Option.some.injEq,Array.getD_eq_getD_getElem?,Array.getElem?_setIfInBounds]
  by_cases h:t=s
  ·subst h;simp[ht]
  ·simp[h]

theorem z2ib (hR:Rel K base n st a w) {o:z1d} {e:Eff} {v:Value} {w':World} (hlt:∀t∈o.dst.toList,t<n) (horg:∀s∈o.dst.toList,lk st.org s=none) (hsl:∀p∈e.sl,lk st.org p.1=none)
  (hG:z3Oa K base a st.get st.getB o.dst e v w'):Rel K base n {st with env:=(o.dst.toList.map fun s=>(s,e.val))++e.sl++st.env,box:=e.bx++st.box} (a.put o.dst v) w':=by
 obtain⟨_,_,_,hO,hdf,hsz⟩:=hR
 obtain⟨g',h1,h2,h3⟩:=hG
 have hlt':∀t∈o.dst.toList,t<a.tmps.size:=by rw[hsz];exact hlt
 refine⟨g',?_,fun s=> ?_,fun s d hd=> ?_,?_,?_⟩
 ·have:(ASt.getB {st with env:=(o.dst.toList.map fun s=>(s,e.val))++e.sl++st.env,box:=e.bx++st.box})=z29 st.getB e.bx:=funext fun id=>by
   simp only[ASt.getB,z29,z9p]
   cases lk e.bx id<;>simp
  rw[this]
  exact h1
 ·rw[z2Za hlt']
  have hget:ASt.get {st with env:=(o.dst.toList.map fun s=>(s,e.val))++e.sl++st.env,box:=e.bx++st.box} s=if o.dst=some s then e.val else upd st.get e.sl s:=by
   simp only[ASt.get,z9p,upd]
   cases hd:o.dst with
   |none=>simp[lk];cases lk e.sl s<;>simp
   |some t=>
    simp only[Option.toList_some,List.map_cons,List.map_nil,lk,Option.some.injEq]
    by_cases h:s=t
    ·simp[h]
    ·rw[if_neg h,if_neg (fun e=>h e.symm)]
     cases lk e.sl s<;>simp
  rw[hget]
  by_cases h:o.dst=some s
  ·rw[if_pos h,if_pos h]
   rw[h] at h3
   exact h3
  ·rw[if_neg h,if_neg h]
   exact h2 s
 ·rw[z2Za hlt']
  have hne:o.dst≠some s:=fun e=>by
   have:=horg s (by simp[e])
   simp only at hd
   rw[this] at hd;cases hd
  rw[if_neg hne]
  exact hO s d hd
 ·cases hd:o.dst<;>simp[Act.put,hdf]
 ·cases hd:o.dst<;>simp[Act.put,hsz]

theorem z2La (hR:Rel K base n st a w) {oper:Oper} {o:z1d} (hg:z4qa ops oper.guard o.guard=true) {s:Nat} {want:Bool} (ho:o.guard=some (s,want)) (hb:okG (st.get s)):
  Region.wanted oper (yielded ops a.tmps)=z1Va (st.get s) want:=by
 obtain⟨g,_,hS,_,_,_⟩:=hR
 unfold z4qa at hg
 rw[ho] at hg
 split at hg
 ·rename_i h1 h2;cases h2
 ·rename_i j w1 s' w2 h1 h2
  simp only[Option.some.injEq,Prod.mk.injEq] at h2
  obtain⟨rfl,rfl⟩:=h2
  simp only[Bool.and_eq_true,beq_iff_eq] at hg
  obtain⟨hj,rfl⟩:=hg
  split at hj
  ·rename_i oj hoj
   simp only[beq_iff_eq] at hj
   rcases hb with hb|hb
   ·obtain⟨hgv,hv⟩:=z2ha (hS s) hb
    have hget:a.tmps[s]? =some (.bool (asB (st.get s))):=by
     rw[Array.getD_eq_getD_getElem?] at hv
     cases hc:a.tmps[s]? with
     |none=>rw[hc] at hv;simp[undef] at hv
     |some x=>rw[hc] at hv;simp only[Option.getD_some] at hv;rw[hv]
    have hgate:z1Va (st.get s) w1=(asB (st.get s)==w1):=by
     revert hb
     cases st.get s with
     |lit v=>cases v<;>simp[isB,z1Va,asB]
     |_=>simp[isB]
    unfold Region.wanted
    rw[h1,hgate]
    simp only[yielded,hoj,Option.bind_some,hj,hget]
    cases asB (st.get s)<;>cases w1<;>rfl
   ·have hv:=hS s
    rw[hb] at hv
    simp only[z47,Rep] at hv
    have hgate:z1Va (st.get s) w1=false:=by rw[hb];rfl
    unfold Region.wanted
    rw[h1,hgate]
    simp only[yielded,hoj,Option.bind_some,hj]
    rw[Array.getD_eq_getD_getElem?] at hv
    cases hc:a.tmps[s]? with
    |none=>rfl
    |some x=>rw[hc] at hv;simp only[Option.getD_some] at hv;rw[hv];rfl
  ·cases hj
 ·cases hg

theorem z1jb {op:Op} {x:AOp} (h:z03a K op x=true):x= .unsup∨∀c,op≠ .defer c:=by
 by_cases hu:x= .unsup
 ·exact .inl hu
 ·refine .inr ?_
  rintro c rfl
  cases x
  case callm f t as ws ns=>simp only[z03a,Bool.and_eq_true] at h;cases t<;>exact Bool.noConfusion (show false=true from h.2)
  case callw f t as ws ns=>simp only[z03a,Bool.and_eq_true] at h;cases t<;>exact Bool.noConfusion (show false=true from h.2)
  all_goals first|exact hu rfl|exact Bool.noConfusion (show false=true from h)
theorem z7Pb {a b:Nat} (h:b<a):Nat.ble a b=false:=by
 cases hb:Nat.ble a b with
 |false=>rfl
 |true=>exact absurd (Nat.le_of_ble_eq_true hb) (Nat.not_le_of_lt h)
theorem z0Nb {a b:Nat} (h:Nat.ble a b=false):b<a:=Nat.lt_of_not_le fun h'=>by rw[Nat.ble_eq_true_of_le h'] at h;cases h
theorem z5Aa (hR:Rel K base n st a w) {i:Nat} {oper:Oper} {o:z1d} (hi:ops[i]? =some oper) (hm:z3Ba K n ops oper o=true) (hok:okA K.E o st) (hV:VOk K o.op)
  {Kn:Act→World→Prop} {Q:Exit→Act→World→Prop} (hn:∀a' w',Rel K base n (z6g K.E o st) a' w'→Kn a' w') {r:Option Nat} {m:Nat}:wpOpIn (WF r) m K.P ops Q i Kn a w:=by
 simp only[z3Ba,Bool.and_eq_true,beq_iff_eq,List.all_eq_true,decide_eq_true_eq] at hm
 obtain⟨⟨⟨hdst,hlt⟩,hgd⟩,hch⟩:=hm
 obtain⟨horg,hok⟩:=hok
 have horg1:∀s∈o.dst.toList,lk st.org s=none:=fun s hs=>horg s (by simp only[z1d.W,List.mem_append];exact .inl hs)
 have horg2:∀p∈(eff K.E st.get st.getB o.op).sl,lk st.org p.1=none:=fun p hp=>horg p.1 (by simp only[z1d.W,List.mem_append];exact .inr ((z7pa K.E st.get st.getB o.op).1 p hp))
 -- the operation itself
 have main:okp K.E st.get st.getB o.op→(∀a' w',Rel K base n {st with env:=(o.dst.toList.map fun s=>(s,(eff K.E st.get st.getB o.op).val))++(eff K.E st.get st.getB o.op).sl++st.env,box:=(eff K.E st.get st.getB o.op).bx++st.box} a' w'→Kn a' w')→oper.wp K.P a w Kn Q:=fun hk hnext=>by
  have hR':=hR
  obtain⟨g,hI,hS,_,_,_⟩:=hR'
  have fin:∀v w',z3Oa K base a st.get st.getB o.dst (eff K.E st.get st.getB o.op) v w'→Kn (a.put oper.dst v) w':=fun v w' hG=>by
   rw[hdst]
   exact hnext _ _ (z2ib hR hlt horg1 horg2 hG)
  have other:z0Db K oper.op o.op=true→oper.wp K.P a w Kn Q:=fun hc=>by
   obtain⟨r,v,w',hrun,hr,hG⟩:=z1Bb (d:=o.dst) (o:=oper) hI hS hc hk
   unfold Oper.wp
   rw[hrun]
   rcases hr with rfl|⟨rfl,rfl⟩
   ·exact fin v w' hG
   ·exact fin _ w' hG
  cases hx:o.op with
  |call f as bs=>
   rw[hx] at hch hk fin
   exact z7gb (o:=oper) hI hS hch (hV (f,false) (by simp[hx,z14])) hk (d:=o.dst) fin
  |callv f t as bs=>
   rw[hx] at hch hk fin
   exact z88a (o:=oper) hI hS hch (hV (f,false) (by simp[hx,z14])) hk (d:=o.dst) fin
  |callm f t as ws ns=>
   rw[hx] at hch hk fin
   have hch':(!Nat.ble 500000000 f&&z2M K oper.op f t as)=true:=hch
   simp only[Bool.and_eq_true,Bool.not_eq_true'] at hch'
   have hv:VB K (f,true):=hV (f,true) (by simp[hx,z14])
   have h9:Nat.ble 999999990 f=false:=z7Pb (Nat.lt_trans (z0Nb hch'.1) (by decide))
   simp only[VB,h9,hch'.1] at hv
   exact z3ab (o:=oper) hI hS hch'.2 hv hk (d:=o.dst) fin
  |callw f t as ws ns=>
   rw[hx] at hch hk fin
   have hch':(!Nat.ble 400000000 f&&z2M K oper.op f t as)=true:=hch
   simp only[Bool.and_eq_true,Bool.not_eq_true'] at hch'
   have hlt:f<400000000:=z0Nb hch'.1
   have hv:VB K (wNo f,true):=hV (wNo f,true) (by simp[hx,z14])
   have h9:Nat.ble 999999990 (wNo f)=false:=z7Pb (by unfold wNo;omega)
   have h8:Nat.ble 500000000 (wNo f)=true:=Nat.ble_eq_true_of_le (by unfold wNo;omega)
   have h7:wNo f-500000000=f:=by unfold wNo;omega
   simp only[VB,h9,h8,h7] at hv
   exact z27a (o:=oper) hI hS hch'.2 hv hk (d:=o.dst) fin
  |bld k id p b x=>
   rw[hx] at hch hk fin
   have hv:VB K (999999990+k,true):=hV (999999990+k,true) (by simp[hx,z14])
   have h1:Nat.ble 999999990 (999999990+k)=true:=Nat.ble_eq_true_of_le (Nat.le_add_right _ _)
   simp only[VB,h1,Nat.add_sub_cancel_left] at hv
   exact z0Fb (o:=oper) hI hS hv hch hk (d:=o.dst) fin
  |_=>exact other (by rw[hx] at hch⊢;exact hch)
 have mainIn:okp K.E st.get st.getB o.op→(∀a' w',Rel K base n {st with env:=(o.dst.toList.map fun s=>(s,(eff K.E st.get st.getB o.op).val))++(eff K.E st.get st.getB o.op).sl++st.env,box:=(eff K.E st.get st.getB o.op).bx++st.box} a' w'→Kn a' w')→oper.wpIn (WF r) m K.P a w Kn Q:=fun hk hnext=>by
  rcases z1jb hch with hu|hnd
  ·rw[hu] at hk;exact hk.elim
  ·exact z9Yb hnd (main hk hnext)
 unfold wpOpIn
 simp only[hi]
 cases hgo:o.guard with
 |none=>
  rw[hgo] at hok hgd
  have hw:Region.wanted oper (yielded ops a.tmps)=true:=by
   unfold z4qa at hgd
   split at hgd
   ·rename_i h1 _;unfold Region.wanted;rw[h1]
   ·rename_i h1 h2;cases h2
   ·cases hgd
  rw[if_pos hw]
  refine mainIn hok fun a' w' hr=>hn a' w' ?_
  unfold z6g
  rw[hgo]
  exact hr
 |some sw=>
  obtain⟨s,want⟩:=sw
  rw[hgo] at hok
  have hw:=z2La (ops:=ops) hR hgd hgo hok.1
  by_cases hb:z1Va (st.get s) want=true
  ·rw[hw,if_pos hb]
   refine mainIn (hok.2 hb) fun a' w' hr=>hn a' w' ?_
   unfold z6g
   rw[hgo]
   simp only[if_pos hb]
   exact hr
  ·rw[hw,if_neg hb]
   refine⟨fun f _=>z4jb r f,hn _ _ ?_⟩
   unfold z6g
   rw[hgo]
   simp only[if_neg hb]
   have hR':=hR
   obtain⟨g,hI,hS,_,_,_⟩:=hR'
   rw[hdst]
   have:=z2ib (e:={val:=z47}) (v:=undef) (w':=w) hR hlt horg1 (by simp) ⟨g,hI,hS,by simp[Rep,z47]⟩
   simpa using this

def z0ma (K:Cx) (n:Nat) (ops:Array Oper):List Oper→List z1d→Bool
 |[],[]=>true
 |o::os,x::xs=>z3Ba K n ops o x&&z0ma K n ops os xs
 |_,_=>false

theorem z1Z {ops:Array Oper}:∀{os:List Oper} {xs:List z1d},z0ma K n ops os xs=true→os.length=xs.length∧∀(i:Nat) (o:Oper) (x:z1d),os[i]? =some o→xs[i]? =some x→z3Ba K n ops o x=true
 |[],[],_=>by simp
 |[],_::_,h=>by simp[z0ma] at h
 |_::_,[],h=>by simp[z0ma] at h
 |o::os,x::xs,h=>by
  simp only[z0ma,Bool.and_eq_true] at h
  obtain⟨h1,h2⟩:=z1Z h.2
  refine⟨by simp[h1],fun i o' x' ho hx=> ?_⟩
  cases i with
  |zero=>simp at ho hx;subst ho hx;exact h.1
  |succ i=>exact h2 i o' x' (by simpa using ho) (by simpa using hx)

theorem z11a {xs:List z1d} (hc:z0ma K n ops ops.toList xs=true) (hV:∀x∈xs,VOk K x.op) {Q:Exit→Act→World→Prop} {r:Option Nat} {q:Nat}:∀(m s:Nat) (st:ASt) (a:Act) (w:World),s+m=ops.size→Rel K base n st a w→z73 K.E (xs.drop s) st→
  (∀a' w',Rel K base n (z7ma K.E (xs.drop s) st) a' w'→Q .normal a' w')→wpOpsIn (WF r) q K.P ops Q (List.range' s m) a w
 |0,s,st,a,w,hs,hR,_,hn=>by
  have hl:=(z1Z hc).1
  have:xs.drop s=[]:=List.drop_eq_nil_of_le (by rw[←hl];simp;omega)
  rw[this] at hn
  exact hn a w hR
 |m+1,s,st,a,w,hs,hR,hok,hn=>by
  obtain⟨hl,hg⟩:=z1Z hc
  have hlt:s<ops.size:=by omega
  have hltx:s<xs.length:=by rw[←hl];simpa using hlt
  rw[List.drop_eq_getElem_cons hltx] at hok hn
  rw[List.range'_succ,wpOpsIn_cons]
  refine z5Aa (oper:=ops[s]) (o:=xs[s]) hR (Array.getElem?_eq_getElem hlt) (hg s _ _ (by simp[hlt]) (List.getElem?_eq_getElem hltx)) hok.1 (hV _ (List.getElem_mem _)) fun a' w' hR'=> ?_
  exact z11a hc hV m (s+1) _ a' w' (by omega) hR' hok.2 hn

/-! ### In whatever order -/
def z12a (ops:Array Oper) (xs:List z1d):Bool:=
 (List.range ops.size).all fun i=>
  match ops[i]? with
  |none=>false
  |some o=>(o.after.all fun e=> !Region.binds .any e||decide (e.on<i))&&
    (List.range i).all fun p=>(o.after.toList.any fun e=>Region.binds .any e&&e.on==p)||z96a (xs.getD p default) (xs.getD i default)

theorem z5qb {xs:List z1d} (hc:z0ma K n ops ops.toList xs=true) (hV:∀x∈xs,VOk K x.op) (ho:z12a ops xs=true) {Q:Exit→Act→World→Prop} {r:Option Nat} {q:Nat}:
  ∀(fuel:Nat) (R:List Nat) (listed:Array Bool) (st:ASt) (a:Act) (w:World),R.length≤fuel→listed.size=ops.size→R.Pairwise (· <·)→(∀i,i∈R↔i<ops.size∧listed.getD i true=false)→Rel K base n st a w→
   z73 K.E (R.map (xs.getD · default)) st→(∀a' w',Rel K base n (z7ma K.E (R.map (xs.getD · default)) st) a' w'→Q .normal a' w')→wpAnyIn (WF r) q K.P .any ops Q fuel listed a w:=by
 obtain⟨hl,hg⟩:=z1Z hc
 have hord:∀i o,ops[i]? =some o→(∀e∈o.after,Region.binds .any e=true→e.on<i)∧∀p,p<i→(∃e∈o.after,Region.binds .any e=true∧e.on=p)∨z96a (xs.getD p default) (xs.getD i default)=true:=fun i o hi=>by
  have hlt:=(Array.getElem?_eq_some_iff.1 hi).1
  have h1:=List.all_eq_true.1 ho i (List.mem_range.2 hlt)
  simp only[hi,Bool.and_eq_true,Array.all_eq_true_iff_forall_mem,Bool.or_eq_true,Bool.not_eq_true',decide_eq_true_eq,List.all_eq_true,List.mem_range,List.any_eq_true,Array.mem_toList_iff,beq_iff_eq] at h1
  obtain⟨h1,h2⟩:=h1
  refine⟨fun e he hb=>(h1 e he).resolve_left (by simp[hb]),fun p hp=>(h2 p hp).imp (fun⟨e,he,hb⟩=>⟨e,he,hb⟩) id⟩
 have rdy:∀(R:List Nat) (listed:Array Bool),listed.size=ops.size→(∀i,i∈R↔i<ops.size∧listed.getD i true=false)→R.Pairwise (· <·)→Region.ready .any ops listed=[]→R=[]:=fun R listed hsz hR hp hr=>by
  cases R with
  |nil=>rfl
  |cons r R=>
   exfalso
   have h1:=(hR r).1 (by simp)
   have:r∈Region.ready .any ops listed:=by
    rw[mem_ready]
    refine⟨h1.2,ops[r]'h1.1,Array.getElem?_eq_getElem h1.1,fun e he hb=> ?_⟩
    have hlt:=(hord r _ (Array.getElem?_eq_getElem h1.1)).1 e he hb
    have hnot:e.on∉r::R:=fun hm=>by
     rcases List.mem_cons.1 hm with h|h
     ·omega
     ·have:=List.rel_of_pairwise_cons hp h;omega
    have h2:¬(listed.getD e.on true=false):=fun h=>hnot ((hR e.on).2 ⟨by omega,h⟩)
    rw[Array.getD_eq_getD_getElem?] at h2⊢
    cases hg:listed[e.on]? with
    |none=>
     exfalso
     have:=Array.getElem?_eq_none_iff.1 hg
     omega
    |some b=>rw[hg] at h2;simpa using h2
   rw[hr] at this
   cases this
 intro fuel
 induction fuel with
 |zero=>
  intro R listed st a w hlen hsz hp hR hrel hok hn
  have:R=[]:=List.eq_nil_of_length_eq_zero (by omega)
  subst this
  refine⟨?_,hn a w hrel⟩
  refine List.eq_nil_iff_forall_not_mem.2 fun i hi=> ?_
  obtain⟨h1,o,h2,_⟩:=mem_ready.1 hi
  have:=(hR i).2 ⟨(Array.getElem?_eq_some_iff.1 h2).1,h1⟩
  cases this
 |succ fuel ih=>
  intro R listed st a w hlen hsz hp hR hrel hok hn
  refine⟨fun hr=> ?_,fun i hi=> ?_⟩
  ·have:=rdy R listed hsz hR hp hr
   subst this
   exact hn a w hrel
  ·obtain⟨h1,o,h2,h3⟩:=mem_ready.1 hi
   have hilt:=(Array.getElem?_eq_some_iff.1 h2).1
   have hiR:=(hR i).2 ⟨hilt,h1⟩
   obtain⟨pre,post,rfl⟩:=List.append_of_mem hiR
   have hpre:∀p∈pre,p<i:=fun p hm=>by
    have:=(List.pairwise_append.1 hp).2.2 p hm i (by simp)
    exact this
   have hind:∀q∈pre.map (xs.getD · default),z96a q (xs.getD i default)=true:=fun q hq=>by
    obtain⟨p,hpm,rfl⟩:=List.mem_map.1 hq
    refine((hord i o h2).2 p (hpre p hpm)).resolve_left fun⟨e,he,hb,hep⟩=> ?_
    have:=h3 e he hb
    have hpl:=((hR p).1 (by simp[hpm])).2
    rw[hep,Array.getD_eq_getD_getElem?] at this
    rw[Array.getD_eq_getD_getElem?] at hpl
    cases hg:listed[p]? with
    |none=>rw[hg] at hpl;simp at hpl
    |some b=>rw[hg] at hpl this;simp at hpl this;rw[hpl] at this;cases this
   simp only[List.map_append,List.map_cons] at hok hn
   obtain⟨k1,k2,k3⟩:=z00a _ _ st hind hok
   have hxi:xs[i]? =some (xs.getD i default):=by
    rw[List.getD,List.getElem?_eq_getElem (by rw[←hl];simpa using hilt)]
    rfl
   refine z5Aa (oper:=o) (o:=xs.getD i default) hrel h2 (hg i o _ (by simpa using h2) hxi) k1 (hV _ (z3l hxi)) fun a' w' hR'=> ?_
   refine ih (pre++post) (listed.setIfInBounds i true) _ a' w' ?_ ?_ ?_ ?_ hR' (by rw[List.map_append];exact k2) ?_
   ·simp at hlen⊢;omega
   ·simpa using hsz
   ·rw[List.pairwise_append] at hp⊢
    refine⟨hp.1,(List.pairwise_cons.1 hp.2.1).2,fun x hx y hy=>hp.2.2 x hx y (by simp[hy])⟩
   ·intro j
    have hj:=hR j
    simp only[List.mem_append,List.mem_cons] at hj⊢
    by_cases hji:j=i
    ·subst hji
     constructor
     ·intro hm
      exfalso
      rw[List.pairwise_append] at hp
      rcases hm with hm|hm
      ·have:=hpre j hm;omega
      ·have:=(List.pairwise_cons.1 hp.2.1).1 j hm;omega
     ·rintro⟨_,hf⟩
      exfalso
      rw[Array.getD_eq_getD_getElem?,Array.getElem?_setIfInBounds] at hf
      simp[hsz,hilt] at hf
    ·rw[getD_set_ne true (fun e=>hji e.symm)]
     rw[←hj]
     constructor
     ·rintro(h|h);exact .inl h;exact .inr (.inr h)
     ·rintro(h|h|h)
      ·exact .inl h
      ·exact absurd h hji
      ·exact .inr h
   ·intro a'' w'' hR''
    rw[List.map_append] at hR''
    exact hn a'' w'' (z3ub k3 hR'')

end
end Go.Abs
end

section
namespace Go.Abs

inductive z7I where
 |keep (slots:List Nat)
 |drop (ids:List Nat)
 |freeze (ids:List Nat)
 |norm (ids:List Nat)
 |thaw (s id:Nat)
 |thawB (b i id:Nat)
 |unorg (s:Nat)
 |hideB (b i:Nat)
 |reB (b i:Nat) (o:Option Nat)
 |rebase (ks:List Nat)
 |cool (s id:Nat)
 |coolB (b i id:Nat)
 deriving Inhabited

mutual
def frm:z2a→Bool
 | .lit _=>true
 | .undef=>true
 | .bp _ _=>true
 | .bv _ _ _ _ _=>true
 | .agg cs=>z8Wb cs
 | .tup cs=>z8Wb cs
 | .fn _ x y=>z8Wb x&&z8Wb y
 | .sl _ _ _ cs=>cs.isEmpty
 | .ep cs=>cs.isEmpty
 | .otup _ _ _ _ _=>false
 | .oagg _ _ _ _ _ _=>false
def z8Wb:List z2a→Bool
 |[]=>true
 |c::cs=>frm c&&z8Wb cs
end
def z7wa:z2a→Bool
 | .sl (.own _) _ _ cs=>z0c cs
 |v=>frm v

mutual
def z2na (ids:List Nat) (bx:Nat→List z2a):z2a→z2a
 | .bp id off=>if id∈ids then .ep ((bx id).drop off) else .bp id off
 | .bv id e off n c=>if id∈ids then .sl .plain (some false) n (((bx id).drop off).take (n*e)) else .bv id e off n c
 | .agg cs=> .agg (z64 ids bx cs)
 | .tup cs=> .tup (z64 ids bx cs)
 | .fn f x y=> .fn f (z64 ids bx x) (z64 ids bx y)
 | .otup _ _ _ _ _=> .undef
 | .oagg _ _ _ _ _ _=> .undef
 |v=>v
def z64 (ids:List Nat) (bx:Nat→List z2a):List z2a→List z2a
 |[]=>[]
 |c::cs=>z2na ids bx c::z64 ids bx cs
end

inductive z4a where
 |skip
 |region (keep:List Nat) (gs:List z7I) (xs:List z1d)
 |seq (a b:z4a)
 |cond (c:Arg) (a b:z4a)
 |block (id:Nat) (b:z4a)
 |loop (b:z4a)
 |scope (b:z4a)
 |exit (id:Nat)
 |ret
 |ghost (g:z7I) (c:z4a)
 |range (f:Nat) (t:Arg) (ks ps:List Nat) (assign body:z4a)
 |bad
 |alt (a b:z4a)
 |thawc (b:Option Nat) (i id:Nat) (c:z4a)
 |holdc (s t:Nat) (c:z4a)
 deriving Inhabited

inductive z0n where
 |normal
 |exit (id:Nat)
 |ret

def z19 (keep:List Nat) (st:ASt):ASt:={st with env:=keep.map fun s=>(s,st.get s)}
def z86 (o:Option Nat) (c:z2a):z2a:=match o with
 |none=>dem c
 |some e=>match c with| .sl .plain (some true) 0 []=> .sl (.own e) none 0 []|c=>c
def z2b:z7I→ASt→ASt
 | .keep l,st=>z19 l st
 | .drop ids,st=>{st with box:=st.box.filter fun p=> !ids.contains p.1}
 | .freeze ids,st=>
  let bx:=fun id=>(st.getB id).getD []
  {st with env:=st.env.map fun p=>(p.1,z2na ids bx p.2),box:=(st.box.filter fun p=> !ids.contains p.1).map fun p=>(p.1,p.2.map (z64 ids bx))}
 | .norm ids,st=>{st with box:=ids.map fun id=>(id,st.getB id)}
 | .thaw s id,st=>match st.get s with| .sl (.own e) _ n cs=>{st with env:=(s,.bv id e 0 n n)::st.env,box:=(id,some cs)::st.box}|_=>st
 | .thawB b i id,st=>match st.getB b with|some bs=>(match bs.getD i .undef with| .sl (.own e) _ n cs=>{st with box:=(b,some (bs.set i (.bv id e 0 n n)))::(id,some cs)::st.box}|_=>st)|none=>st
 | .unorg s,st=>{st with org:=st.org.filter fun p=>decide (p.1≠s),env:=(s,st.get s)::st.env}
 | .hideB b i,st=>match st.getB b with|some bs=>{st with box:=(b,some (bs.set i .undef))::st.box}|none=>st
 | .reB b i o,st=>match st.getB b with|some bs=>{st with box:=(b,some (bs.set i (z86 o (bs.getD i .undef))))::st.box}|none=>st
 | .rebase ks,st=>{st with org:=(ks.map fun s=>(s,st.get s))++st.org,env:=st.env.filter fun p=> !ks.contains p.1}
 | .cool s id,st=>match st.get s with| .bv _ e _ n _=>{st with env:=(s,.sl (.own e) none n (((st.getB id).getD []).take (n*e)))::st.env,box:=(id,none)::st.box}|_=>st
 | .coolB b i id,st=>match st.getB b with|some bs=>(match bs.getD i .undef with| .bv _ e _ n _=>{st with box:=(b,some (bs.set i (.sl (.own e) none n (((st.getB id).getD []).take (n*e)))))::(id,none)::st.box}|_=>st)|none=>st
def z5Bc (id:Nat) (cs:Option (List z2a)):z2a→Prop
 | .bv i e o n c=>i=id∧o=0∧n≤c∧∃l,cs=some l∧l.length=c*e∧z0c (l.take (n*e))=true
 |_=>False
def z8q:z7I→ASt→Prop
 | .keep _,_=>True
 | .drop ids,st=>(∀p∈st.env,∀id∈z0r p.2,id∉ids)∧(∀p∈st.box,p.1∈ids∨∀cs,p.2=some cs→∀id∈z7g cs,id∉ids)
 | .freeze ids,st=>∀id∈ids,∃cs,st.getB id=some cs∧z2h cs=true
 | .norm ids,st=>∀p∈st.box,p.1∈ids
 | .thaw s id,st=>id<500000∧st.getB id=none∧(match lk st.env s with|some (.sl (.own _) _ n cs)=>0<n∧z0c cs=true|_=>False)∧
  (∀p∈st.env,p.1=s∨z7wa p.2=true)∧(∀p∈st.box,∀cs,p.2=some cs→∀c∈cs,z7wa c=true)
 | .thawB b i id,st=>id<500000∧b<1000000∧st.getB id=none∧(match st.getB b with|some bs=>i<bs.length∧(match bs.getD i .undef with| .sl (.own _) _ n cs=>0<n∧z0c cs=true|_=>False)|none=>False)∧
  (∀p∈st.env,z7wa p.2=true)∧(∀p∈st.box,∀cs,p.2=some cs→p.1=b∨∀c∈cs,z7wa c=true)∧(∀bs,st.getB b=some bs→∀c∈bs.set i .undef,z7wa c=true)
 | .unorg _,_=>True
 | .hideB b _,_=>b<1000000
 | .reB b _ _,_=>b<1000000
 | .rebase ks,st=>(∀s∈ks,z6f (st.get s)=true∧z1f (st.get s)=false)∧(∀p∈st.env,z1f p.2=false)∧(∀p∈st.box,p.1<1000000∧∀cs,p.2=some cs→∀c∈cs,z1f c=false)
 | .cool s id,st=>500000≤id∧id<1000000∧z5Bc id (st.getB id) (st.get s)∧(∀p∈st.env,p.1=s∨id∉z0r p.2)∧(∀p∈st.box,∀cs,p.2=some cs→p.1=id∨id∉z7g cs)
 | .coolB b i id,st=>500000≤id∧id<1000000∧b<500000∧(match st.getB b with|some bs=>i<bs.length∧z5Bc id (st.getB id) (bs.getD i .undef)∧id∉z7g (bs.set i .undef)|none=>False)∧
  (∀p∈st.env,id∉z0r p.2)∧(∀p∈st.box,∀cs,p.2=some cs→p.1=id∨p.1=b∨id∉z7g cs)
def z7I.cold:z7I→Bool| .thaw _ _=>false| .thawB _ _ _=>false| .rebase _=>false| .cool _ _=>false| .coolB _ _ _=>false|_=>true
def z8za (b:Option Nat) (i id:Nat) (st:ASt):Prop:=match b with
 |none=>id<1000000∧st.getB id=none∧(match lk st.env i with|some (.sl (.own _) _ n cs)=>0<n∧z0c cs=true|_=>False)∧
  (∀p∈st.env,p.1=i∨z7wa p.2=true)∧(∀p∈st.box,∀cs,p.2=some cs→∀c∈cs,z7wa c=true)
 |some b=>id<1000000∧b<1000000∧st.getB id=none∧(match st.getB b with|some bs=>i<bs.length∧(match bs.getD i .undef with| .sl (.own _) _ n cs=>0<n∧z0c cs=true|_=>False)|none=>False)∧
  (∀p∈st.env,z7wa p.2=true)∧(∀p∈st.box,∀cs,p.2=some cs→p.1=b∨∀c∈cs,z7wa c=true)∧(∀bs,st.getB b=some bs→∀c∈bs.set i .undef,z7wa c=true)
def z6Fb:Value→Option Nat
 | .slice (some a) _ _=>some a.block
 | .pointer (some a)=>some a.block
 |_=>none
def z7cb (s t:Nat) (st:ASt) (V:Value):Prop:=∃id,lk st.org s=some (.lit V)∧(∃e o n c,st.get s= .bv id e o n c)∧(∃e o n c,st.get t= .bv id e o n c)
def z4Ka (s t:Nat) (V:Value) (st:ASt):ASt:={st with org:=(t,.lit V)::st.org.filter fun p=>decide (p.1≠s),env:=(s,st.get s)::(t,st.get t)::st.env}
def z0ga (b:Option Nat) (i id m:Nat) (st:ASt):ASt:=match b with
 |none=>(match st.get i with| .sl (.own e) _ n cs=>{st with env:=(i,.bv id e 0 n (n+m))::st.env,box:=(id,some (cs++List.replicate (m*e) .undef))::st.box}|_=>st)
 |some b=>(match st.getB b with|some bs=>(match bs.getD i .undef with| .sl (.own e) _ n cs=>{st with box:=(b,some (bs.set i (.bv id e 0 n (n+m))))::(id,some (cs++List.replicate (m*e) .undef))::st.box}|_=>st)|none=>st)
def z7xa:List z7I→ASt→ASt
 |[],st=>st
 |g::gs,st=>z7xa gs (z2b g st)
def z9qb:List z7I→ASt→Prop
 |[],_=>True
 |g::gs,st=>z8q g st∧z9qb gs (z2b g st)

def z2oa (f:ASt→Prop) (Q:z0n→ASt→Prop):z0n→ASt→Prop
 | .normal,st=>f st
 |e,st=>Q e st
def z94a (id:Nat) (Q:z0n→ASt→Prop):z0n→ASt→Prop
 | .exit id',st=>if id'=id then Q .normal st else Q (.exit id') st
 |e,st=>Q e st

def z0cb (st:ASt) (ks:List Nat):List (Nat×z2a):=ks.map fun s=>(s,dem (st.get s))
def z90c (st:ASt) (ks ps:List Nat) (V:Nat→Value) (xs:List z2a) (bx:List (Nat×Option (List z2a))):ASt:=
 {org:=(ks.map fun s=>(s,z2a.lit (V s)))++st.org,env:=ps.zip xs++z0cb st ks,box:=bx}
def z2Nb (st:ASt) (ks:List Nat) (V:Nat→Value) (st':ASt):Prop:=∀s∈ks,st'.get s=dem (st.get s)∧lk st'.org s=some (.lit (V s))
def rngQ (st:ASt) (ks:List Nat) (V:Nat→Value) (J:List (Nat×Option (List z2a))→Prop) (Q:z0n→ASt→Prop):z0n→ASt→Prop
 | .normal,st'=>z2Nb st ks V st'∧J st'.box
 |e,st'=>z2Nb st ks V st'∧Q e {org:=st.org,env:=z0cb st ks,box:=st'.box}

def epY (getB:Nat→Option (List z2a)) (lv:List Nat) (y:List z2a):List z2a:=y.zipIdx.map fun q=>if q.2∈lv then(match q.1 with| .bp id 0=> .ep ((getB id).getD [])|d=>d) else q.1
@[simp] theorem z32c (getB:Nat→Option (List z2a)) (y:List z2a):epY getB [] y=y:=by
 simp[epY]
def z5va (lv:List Nat) (y:List z2a):List Nat:=lv.filterMap fun i:Nat=>match(y[i]? :Option z2a) with|some (.bp id 0)=>some id|_=>none
@[simp] theorem z1nc (y:List z2a):z5va [] y=[]:=rfl
def rmB (ids:List Nat) (bx:List (Nat×Option (List z2a))):List (Nat×Option (List z2a)):=bx.filter fun p=> !ids.contains p.1
@[simp] theorem z09c (bx:List (Nat×Option (List z2a))):rmB [] bx=bx:=by
 simp[rmB]
def z6kb (ids:List Nat) (st:ASt):ASt:={st with env:=st.env.map fun p=>(p.1,if(z0r p.2).any (ids.contains ·) then .undef else p.2)}
@[simp] theorem z4xc (st:ASt):z6kb [] st=st:=by
 simp[z6kb]
def bkB (ids:List Nat) (bx:List (Nat×Option (List z2a))):List (Nat×Option (List z2a)):=ids.map (fun id=>(id,some []))++bx
@[simp] theorem z34c (bx:List (Nat×Option (List z2a))):bkB [] bx=bx:=rfl
def z7zc (st:ASt) (ks ids:List Nat) (Q:z0n→ASt→Prop) (e:z0n) (bx:List (Nat×Option (List z2a))):Prop:=
 (∀id∈ids,(lk bx id).join=none)∧Q e {org:=st.org,env:=z0cb st ks,box:=bkB ids bx}
def z96c (st:ASt) (ks lv:List Nat) (x y:List z2a):Prop:=z2h (x++epY st.getB lv y)=true∧(∀i∈lv,∃id cs,y[i]? =some (.bp id 0)∧id<1000000∧st.getB id=some cs∧z0c cs=true)∧(∀i∈lv,∀j∈lv,y[i]? =y[j]? →i=j)∧
 (∀s∈ks,(∀id∈z0r (st.get s),id∉z5va lv y)∨((∀id∈z0r (st.get s),id∈z5va lv y)∧(z6kb (z5va lv y) st).get s= .undef))∧(∀p∈st.box,p.1∈z5va lv y∨∀cs,p.2=some cs→∀id∈z7g cs,id∉z5va lv y)
def awp (E:Env):z4a→(z0n→ASt→Prop)→ASt→Prop
 | .skip,Q,st=>Q .normal st
 | .region keep gs xs,Q,st=>z73 E xs st∧z9qb gs (z19 keep (z7ma E xs st))∧Q .normal (z7xa gs (z19 keep (z7ma E xs st)))
 | .seq a b,Q,st=>awp E a (z2oa (awp E b Q) Q) st
 | .cond c a b,Q,st=>isB (arg E st.get c)∧(asB (arg E st.get c)=true→awp E a Q st)∧(asB (arg E st.get c)=false→awp E b Q st)
 | .block id b,Q,st=>awp E b (z94a id Q) st
 | .loop b,Q,st=>∃I:Nat→ASt→Prop,(∃m,I m st)∧∀m st,I m st→awp E b (z2oa (fun st'=>∃m',m'<m∧I m' st') Q) st
 | .scope b,Q,st=>awp E b Q st
 | .exit id,Q,st=>Q (.exit id) st
 | .ret,Q,st=>Q .ret st
 | .ghost g c,Q,st=>z8q g st∧awp E c Q (z2b g st)
 | .range f t ks ps as bd,Q,st=>∃x y,arg E st.get t= .fn f x y∧z96c st ks (E.I f).lv x y∧(E.I f).pre x (epY st.getB (E.I f).lv y)∧(∀p∈ps,p∉ks∧lk st.org p=none)∧
   ∃(N:Nat) (I:Nat→List (Nat×Option (List z2a))→Prop),I 0 (rmB (z5va (E.I f).lv y) st.box)∧(∀i bx,I i bx→i≤N)∧
    (∀i bx,I i bx→(E.I f).el x (epY st.getB (E.I f).lv y) i=none→z7zc st ks (z5va (E.I f).lv y) Q .normal bx)∧
    ∀i bx xs,I i bx→(E.I f).el x (epY st.getB (E.I f).lv y) i=some xs→xs.length=ps.length∧z0c xs=true∧
     ∀V:Nat→Value,awp E as (z2oa (awp E bd (rngQ (z6kb (z5va (E.I f).lv y) st) ks V (I (i+1)) (fun e s=>z7zc st ks (z5va (E.I f).lv y) Q e s.box))) (fun _ _=>False)) (z90c (z6kb (z5va (E.I f).lv y) st) ks ps V xs bx)
 | .bad,_,_=>False
 | .alt a b,Q,st=>awp E a Q st∨awp E b Q st
 | .thawc b i id c,Q,st=>z8za b i id st∧∀m,awp E c Q (z0ga b i id m st)
 | .holdc s t c,Q,st=>∃V,z7cb s t st V∧∀V',z6Fb V'=z6Fb V→awp E c Q (z4Ka s t V' st)

def z6j (K:Cx) (n:Nat):z4a→Code→Bool
 | .ghost _ c,x=>z6j K n c x
 | .thawc _ _ _ c,x=>z6j K n c x
 | .holdc _ _ c,x=>z6j K n c x
 | .skip,x=>match x with| .skip=>true| .label _=>true|_=>false
 | .region _ _ xs,x=>match x with| .region _ ops draw=>z0ma K n ops ops.toList xs&&(!draw||(z12a ops xs&&K.P.follows .mixedOrders))|_=>false
 | .seq a b,x=>match x with| .seq p q=>z6j K n a p&&z6j K n b q|_=>false
 | .cond c a b,x=>match x with| .cond c' p q=>z5j K c' c&&z6j K n a p&&z6j K n b q|_=>false
 | .block id b,x=>match x with| .block id' p=>(id==id')&&z6j K n b p|_=>false
 | .loop b,x=>match x with| .loop p=>z6j K n b p|_=>false
 | .scope b,x=>match x with| .scope p=>z6j K n b p|_=>false
 | .exit id,x=>match x with| .exit id'=>id==id'|_=>false
 | .ret,x=>match x with| .ret=>true|_=>false
 | .range _ t _ ps as bd,x=>match x with| .rangeFunc g qs p q=>z5j K g t&&(qs.toList==ps)&&ps.all (· <n)&&decide ps.Nodup&&z6j K n as p&&z6j K n bd q|_=>false
 | .bad,_=>true
 | .alt a b,x=>z6j K n a x&&z6j K n b x

def z4U:z4a→Bool
 | .region _ gs _=>gs.all z7I.cold
 | .seq a b=>z4U a&&z4U b
 | .cond _ a b=>z4U a&&z4U b
 | .block _ b=>z4U b
 | .loop b=>z4U b
 | .scope b=>z4U b
 | .ghost g c=>g.cold&&z4U c
 | .thawc _ _ _ _=>false
 | .holdc _ _ c=>z4U c
 | .alt a b=>z4U a&&z4U b
 | .range _ _ _ _ as bd=>z4U as&&z4U bd
 |_=>true
def z6H:z4a→Bool
 | .seq a b=>z6H a&&z6H b
 | .cond _ a b=>z6H a&&z6H b
 | .block _ b=>z6H b
 | .loop b=>z6H b
 | .scope b=>z6H b
 | .ghost _ c=>z6H c
 | .thawc _ _ _ c=>z6H c
 | .holdc _ _ c=>z6H c
 | .alt a b=>z6H a&&z6H b
 | .range .. =>false
 |_=>true
def z8a:z4a→List (Nat×Bool)
 | .region _ _ xs=>xs.flatMap fun x=>z14 x.op
 | .seq a b=>z8a a++z8a b
 | .cond _ a b=>z8a a++z8a b
 | .block _ b=>z8a b
 | .loop b=>z8a b
 | .scope b=>z8a b
 | .ghost _ c=>z8a c
 | .thawc _ _ _ c=>z8a c
 | .holdc _ _ c=>z8a c
 | .alt a b=>z8a a++z8a b
 | .range _ _ _ _ as bd=>z8a as++z8a bd
 |_=>[]

section
variable {K : Cx} {base : z1P} {n : Nat} {st : ASt} {a : Act} {w : World}

theorem z9J {g:Gh} {bx:Nat→Option (List z2a)} (hI:Inv K base g w bx):z9k base.S base.w0 g.S w:=fun b i x hi hc=>by
 have hb:b<base.w0.heap.size:=World.block_lt_of_cell? base.w0 ⟨b,i,none⟩ hc
 unfold z1P.S at hi
 split at hi
 ·rename_i h
  rw[hI.sS b h.1 h.2]
  refine⟨hi,?_⟩
  rw[World.cell?_of_block (w:=base.w0) (a:=⟨b,i,none⟩) (hI.fr.block b h.1 h.2)]
  exact hc
 ·omega

theorem z6R (f:Nat→z2a) (s:Nat):∀l:List Nat,lk (l.map fun s=>(s,f s)) s=if s∈l then some (f s) else none
 |[]=>by simp[lk]
 |t::l=>by
  simp only[List.map_cons,lk,List.mem_cons]
  by_cases h:s=t
  ·subst h;simp
  ·rw[if_neg h,z6R f s l]
   simp only[h,false_or]

theorem z4eb (keep:List Nat) (st:ASt) (s:Nat):(z19 keep st).get s=if s∈keep then st.get s else dem ((lk st.org s).getD .undef):=by
 have:(z19 keep st).get s=match lk (keep.map fun s=>(s,st.get s)) s with|some d=>d|none=>dem ((lk st.org s).getD .undef):=rfl
 rw[this,z6R]
 by_cases h:s∈keep
 ·rw[if_pos h,if_pos h]
 ·rw[if_neg h,if_neg h]

theorem z89 (keep:List Nat) (hR:Rel K base n st a w):Rel K base n (z19 keep st) a w:=by
 obtain⟨g,hI,hS,hO,h⟩:=hR
 refine⟨g,hI,fun s=> ?_,hO,h⟩
 rw[z4eb]
 split
 ·exact hS s
 ·cases hs:lk st.org s with
  |none=>simp[Abs.dem,Rep]
  |some d=>exact z7c.dem _ (z7c.mono (z9J hI) d _ (hO s d hs))

theorem z5H {α:Type} (p:Nat→Bool):∀(l:List (Nat×α)) (s:Nat),lk (l.filter fun q=>p q.1) s=if p s then lk l s else none
 |[],s=>by simp[lk]
 |(k,x)::l,s=>by
  have ih:=z5H p l s
  by_cases hk:p k=true
  ·simp only[List.filter_cons,hk,if_true,lk,ih]
   by_cases h:s=k
   ·subst h;simp[hk]
   ·simp only[if_neg h]
  ·simp only[List.filter_cons,hk,Bool.false_eq_true,if_false,lk,ih]
   by_cases h:s=k
   ·subst h;simp[hk]
   ·simp only[if_neg h]

theorem z28 {α:Type}:∀{l:List (Nat×α)} {s:Nat} {x:α},lk l s=some x→(s,x)∈l
 |[],_,_,h=>by simp[lk] at h
 |(k,y)::l,s,x,h=>by
  simp only[lk] at h
  split at h
  ·cases h;subst_vars;simp
  ·exact List.mem_cons_of_mem _ (z28 h)

theorem z10:∀{cs:List z2a} {c:z2a} {id:Nat},c∈cs→id∈z0r c→id∈z7g cs
 |[],_,_,h,_=>by cases h
 |d::ds,c,id,h,hi=>by
  simp only[z7g,List.mem_append]
  rcases List.mem_cons.1 h with rfl|h
  ·exact .inl hi
  ·exact .inr (z10 h hi)

theorem z0Hb (ids:List Nat) (hR:Rel K base n st a w) (hok:z8q (.drop ids) st):Rel K base n (z2b (.drop ids) st) a w:=by
 obtain⟨g,hI,hS,hO,h⟩:=hR
 obtain⟨h1,h2⟩:=hok
 let g':Gh:={g with mu:=fun id=>if id∈ids then none else g.mu id}
 have hgetB:∀id,(z2b (.drop ids) st).getB id=if id∈ids then none else st.getB id:=fun id=>by
  simp only[ASt.getB,z2b]
  rw[z5H (fun k=> !ids.contains k)]
  by_cases hi:id∈ids
  ·simp[hi]
  ·simp[hi]
 have rep:∀{d:z2a} {v:Value} {l:Option Loc},(∀id∈z0r d,id∉ids)→Rep K.toCon g w l d v→Rep K.toCon g' w l d v:=fun {d v l} hd hr=>
  Rep.mono (g:=g) (g':=g') (z9k.refl g.S w) d v l l (fun id hid b hb=>by simp only[g',if_neg (hd id hid)];exact hb) (fun m hm=>⟨m,hm,fun b hb=>⟨hb,rfl,fun _ _ h=>h⟩⟩) hr
 refine⟨g',⟨hI.fr,hI.sS,fun i j b hi hj=> ?_,fun id cs hc=> ?_,fun id hid=> ?_,fun id b hb=> ?_,hI.owW,hI.glob,hI.kp,fun id b cs ho hb hc hd=> ?_⟩,fun s=> ?_,hO,h⟩
 ·simp only[g'] at hi hj
  split at hi
  ·cases hi
  ·split at hj
   ·cases hj
   ·exact hI.inj i j b hi hj
 ·rw[hgetB] at hc
  split at hc
  ·cases hc
  ·rename_i hni
   obtain⟨b,k1,k2,k3⟩:=hI.bxok id cs hc
   refine⟨b,by simp only[g',if_neg hni];exact k1,k2,fun i d hi=> ?_⟩
   obtain⟨⟨x,h4,h5⟩,h6⟩:=k3 i d hi
   have hbox:∃c,lk st.box id=some (some c)∧c=cs:=by
    simp only[ASt.getB] at hc
    cases hl:lk st.box id with
    |none=>rw[hl] at hc;cases hc
    |some o=>rw[hl] at hc;simp only[Option.join_some] at hc;exact⟨cs,by rw[hc],rfl⟩
   obtain⟨c,hl,rfl⟩:=hbox
   have:=(h2 _ (z28 hl)).resolve_left hni c rfl
   exact⟨⟨x,h4,rep (fun id' hid'=>this id' (z10 (z3l hi) hid')) h5⟩,h6⟩
 ·rw[hgetB] at hid
  simp only[g']
  split
  ·rfl
  ·rename_i hni;rw[if_neg hni] at hid;exact hI.nobx id hid
 ·simp only[g'] at hb
  split at hb
  ·cases hb
  ·exact hI.muW id b hb
 ·simp only[g'] at hb
  rw[hgetB] at hc
  split at hc
  ·cases hc
  ·rename_i hni
   rw[if_neg hni] at hb
   exact z2U.keep (hI.obok id b cs ho hb hc hd) rfl fun k hk=>⟨hk,rfl⟩
 ·have hget:(z2b (.drop ids) st).get s=st.get s:=rfl
  rw[hget]
  unfold ASt.get
  cases hl:lk st.env s with
  |some d=>
   have:=hS s
   unfold ASt.get at this
   rw[hl] at this
   exact rep (h1 _ (z28 hl)) this
  |none=>
   cases hs:lk st.org s with
   |none=>simp[Abs.dem,Rep]
   |some d=>exact z7c.dem (g:=g') _ (z7c.mono (z9J hI) d _ (hO s d hs))

section
variable {ids : List Nat} {g : Gh} {bx : Nat → Option (List z2a)}

theorem z33a (hI:Inv K base g w bx) (hbs:∀id∈ids,∃cs,bx id=some cs∧∀c∈cs,z6f c=true) {id b:Nat} (h1:id∈ids) (h3:g.mu id=some b):z0f K.toCon (z0ca g bx ids) w ((bx id).getD []) b 0:=by
 have hk:=z9y hI ids hbs
 obtain⟨cs,h2,hp⟩:=hbs id h1
 rw[h2]
 refine z0f.mk fun i e he=> ?_
 obtain⟨b',k1,k2,k3⟩:=hI.bxok id cs h2
 rw[h3] at k1;cases k1
 obtain⟨⟨x,hx,hr⟩,_⟩:=k3 i e he
 rw[Nat.zero_add]
 refine⟨?_,x,hx,z7c.mono hk e x (Rep.pure e x _ (hp e (z3l he)) hr)⟩
 rw[z7La hI h1 h3,h2]
 exact(List.getElem?_eq_some_iff.1 he).1

def frz (g:Gh) (bx:Nat→Option (List z2a)) (ids:List Nat):Gh→Prop:=fun g'=>g'.S=z0ca g bx ids∧g'.ow=g.ow∧g'.mu=fun id=>if id∈ids then none else g.mu id

mutual
theorem z9Ga (hI:Inv K base g w bx) (hbs:∀id∈ids,∃cs,bx id=some cs∧∀c∈cs,z6f c=true) {g':Gh} (hg:frz g bx ids g'):
  ∀(d:z2a) (v:Value) (l:Option Loc),Rep K.toCon g w l d v→Rep K.toCon g' w l (z2na ids (fun id=>(bx id).getD []) d) v
 | .undef,_,_,_=>by simp[z2na,Rep]
 | .lit x,v,_,h=>by simpa[z2na,Rep] using h
 | .agg cs,v,_,h=>by
  simp only[Rep,z2na] at h⊢
  obtain⟨a,rfl,h⟩:=h
  exact⟨a,rfl,z78 hI hbs hg cs _ h⟩
 | .tup cs,v,_,h=>by
  simp only[Rep,z2na] at h⊢
  obtain⟨a,rfl,h⟩:=h
  exact⟨a,rfl,z78 hI hbs hg cs _ h⟩
 | .otup _ _ _ _ _,v,_,_=>by simp[z2na,Rep]
 | .oagg _ _ _ _ _ _,v,_,_=>by simp[z2na,Rep]
 | .fn f x y,v,_,h=>by
  simp only[Rep,z2na] at h⊢
  obtain⟨a,c,rfl,h1,h2⟩:=h
  exact⟨a,c,rfl,z78 hI hbs hg x _ h1,z78 hI hbs hg y _ h2⟩
 | .sl (.own esz) nl n cs,v,l,h=>by
  have hk:=z9y hI ids hbs
  simp only[z2na]
  refine Rep.mono (g:=g) (by rw[hg.1];exact hk) _ v l l (by simp[z0r]) (fun m hm=>⟨m,hm,fun b hb=>⟨by rw[hg.2.1];exact hb,?_,fun _ _ h=>h⟩⟩) h
  rw[hg.1]
  refine z0L fun id hid hmu=> ?_
  have:=(hI.muW id b hmu).2.2
  rw[hb] at this;cases this
 | .sl .plain nl n cs,v,_,h=>by
  simp only[Rep,z2na] at h⊢
  rw[hg.1]
  exact z7c.mono (z9y hI ids hbs) _ _ h
 | .sl .clip nl n cs,v,_,h=>by
  simp only[Rep,z2na] at h⊢
  rw[hg.1]
  exact z7c.mono (z9y hI ids hbs) _ _ h
 | .ep cs,v,_,h=>by
  simp only[Rep,z2na] at h⊢
  rw[hg.1]
  exact z7c.mono (z9y hI ids hbs) _ _ h
 | .bp id off,v,l,h=>by
  simp only[z2na]
  split
  ·rename_i hid
   simp only[Rep] at h
   obtain⟨b,hb,rfl⟩:=h
   simp only[Rep,z7c]
   refine⟨b,off,rfl,?_⟩
   have:=(z33a hI hbs hid hb).drop off
   rw[Nat.zero_add] at this
   rw[hg.1]
   exact this
  ·rename_i hid
   simp only[Rep] at h⊢
   obtain⟨b,hb,rfl⟩:=h
   exact⟨b,by rw[hg.2.2];simp only[if_neg hid];exact hb,rfl⟩
 | .bv id e off n c,v,l,h=>by
  simp only[z2na]
  split
  ·rename_i hid
   simp only[Rep] at h
   obtain⟨b,cap,o',hb,rfl,hcap,_,ho',_⟩:=h
   simp only[Rep,z7c]
   refine .inl ⟨b,o',cap,rfl,hcap,?_,by simp,by simp⟩
   rw[hg.1]
   rcases ho' with rfl|⟨rfl,_⟩
   ·have:=((z33a hI hbs hid hb).drop o').take (n*e)
    rwa[Nat.zero_add] at this
   ·rw[Nat.zero_mul,List.take_zero];simp[z0f]
  ·rename_i hid
   simp only[Rep] at h⊢
   obtain⟨b,cap,o,hb,rfl,h1⟩:=h
   exact⟨b,cap,o,by rw[hg.2.2];simp only[if_neg hid];exact hb,rfl,h1⟩
theorem z78 (hI:Inv K base g w bx) (hbs:∀id∈ids,∃cs,bx id=some cs∧∀c∈cs,z6f c=true) {g':Gh} (hg:frz g bx ids g'):
  ∀(ds:List z2a) (vs:List Value),z1e K.toCon g w ds vs→z1e K.toCon g' w (z64 ids (fun id=>(bx id).getD []) ds) vs
 |[],vs,h=>by simpa[z1e,z64] using h
 |c::cs,vs,h=>by
  simp only[z1e,z64] at h⊢
  obtain⟨x,xs,rfl,h1,h2⟩:=h
  exact⟨x,xs,rfl,z9Ga hI hbs hg c x none h1,z78 hI hbs hg cs xs h2⟩
end
end

theorem z50a {α β:Type} (f:α→β) (s:Nat):∀l:List (Nat×α),lk (l.map fun p=>(p.1,f p.2)) s=(lk l s).map f
 |[]=>rfl
 |(k,x)::l=>by
  simp only[List.map_cons,lk]
  split
  ·rfl
  ·exact z50a f s l

theorem z7Ka (ids:List Nat) (f:Nat→List z2a):∀(l:List z2a) (i:Nat),(z64 ids f l)[i]? =(l[i]?).map (z2na ids f)
 |[],i=>by simp[z64]
 |c::cs,i=>by
  simp only[z64]
  cases i with
  |zero=>simp
  |succ i=>simp[z7Ka ids f cs i]

theorem z07a (ids:List Nat) (hR:Rel K base n st a w) (hok:z8q (.freeze ids) st):Rel K base n (z2b (.freeze ids) st) a w:=by
 obtain⟨g,hI,hS,hO,h⟩:=hR
 have hbs:∀id∈ids,∃cs,st.getB id=some cs∧∀c∈cs,z6f c=true:=fun id hid=>by
  obtain⟨cs,h1,h2⟩:=hok id hid
  exact⟨cs,h1,(z5m cs).1 h2⟩
 have hk:=z9y hI ids hbs
 let g':Gh:={S:=z0ca g st.getB ids,ow:=g.ow,mu:=fun id=>if id∈ids then none else g.mu id}
 have hg:frz g st.getB ids g':=⟨rfl,rfl,rfl⟩
 let f:Nat→List z2a:=fun id=>(st.getB id).getD []
 have hgetB:∀id,(z2b (.freeze ids) st).getB id=if id∈ids then none else(st.getB id).map (z64 ids f):=fun id=>by
  have hb:(z2b (.freeze ids) st).box=(st.box.filter fun p=> !ids.contains p.1).map fun p=>(p.1,(fun o:Option (List z2a)=>o.map (z64 ids f)) p.2):=rfl
  unfold ASt.getB
  rw[hb,z50a (fun o:Option (List z2a)=>o.map (z64 ids f)),z5H (fun k=> !ids.contains k)]
  by_cases hi:id∈ids
  ·simp[hi]
  ·simp only[List.contains_eq_mem,hi,decide_false,Bool.not_false,if_true,if_false]
   cases hl:lk st.box id with
   |none=>simp
   |some o=>cases o<;>simp
 have hSother:∀b,(∀id∈ids,g.mu id≠some b)→g'.S b=g.S b:=fun b hb=>z0L fun id h1 h2=>hb id h1 h2
 refine⟨g',⟨hI.fr,fun b hb hw=> ?_,fun i j b hi hj=> ?_,fun id cs hc=> ?_,fun id hid=> ?_,fun id b hb=> ?_,hI.owW,fun m hm=>z0f.mono hk _ _ _ (hI.glob m hm),hI.kp.trans hk,fun id b cs ho hb hc hd=> ?_⟩,fun s=> ?_,hO,h⟩
 ·rw[hSother b fun id _ hmu=> ?_]
  ·exact hI.sS b hb hw
  ·rcases(hI.muW id b hmu).1 with h1|h1
   ·omega
   ·exact hw h1
 ·simp only[g'] at hi hj
  split at hi
  ·cases hi
  ·split at hj
   ·cases hj
   ·exact hI.inj i j b hi hj
 ·rw[hgetB] at hc
  split at hc
  ·cases hc
  ·rename_i hni
   cases ho:st.getB id with
   |none=>rw[ho] at hc;cases hc
   |some ds=>
    rw[ho] at hc
    simp only[Option.map_some,Option.some.injEq] at hc
    subst hc
    obtain⟨b,k1,k2,k3⟩:=hI.bxok id ds ho
    refine⟨b,by simp only[g',if_neg hni];exact k1,?_,fun i d hi=> ?_⟩
    ·rw[hSother b fun j hj hmu=>hni (by rw[hI.inj id j b k1 hmu];exact hj)]
     exact k2
    ·rw[z7Ka] at hi
     cases hd:ds[i]? with
     |none=>rw[hd] at hi;cases hi
     |some e=>
      rw[hd] at hi
      simp only[Option.map_some,Option.some.injEq] at hi
      subst hi
      obtain⟨⟨x,h4,h5⟩,h6⟩:=k3 i e hd
      exact⟨⟨x,h4,z9Ga hI hbs hg e x _ h5⟩,h6⟩
 ·rw[hgetB] at hid
  simp only[g']
  split
  ·rfl
  ·rename_i hni
   rw[if_neg hni] at hid
   refine hI.nobx id ?_
   cases ho:st.getB id with
   |none=>rfl
   |some ds=>rw[ho] at hid;cases hid
 ·simp only[g'] at hb
  split at hb
  ·cases hb
  ·exact hI.muW id b hb
 ·simp only[g'] at hb
  rw[hgetB] at hc
  split at hc
  ·cases hc
  ·rename_i hni
   rw[if_neg hni] at hb
   cases ho':st.getB id with
   |none=>rw[ho'] at hc;cases hc
   |some ds=>
    rw[ho'] at hc
    simp only[Option.map_some,Option.some.injEq] at hc
    subst hc
    refine z2U.keep (hI.obok id b ds ho hb ho' fun he=>hd ?_) rfl fun k hk=>⟨hk,rfl⟩
    match ds,he with
    |[],_=>rfl
    |[_],_=>simp[z64,hdA]
    |_::c::cs,he=>simp only[List.drop_succ_cons,List.drop_zero,hdA,List.headD_cons] at he;subst he;simp[z64,hdA,z2na]
 ·have hg0:=hS s
  unfold ASt.get at hg0⊢
  have:lk (z2b (.freeze ids) st).env s=(lk st.env s).map (z2na ids f):=z50a (z2na ids f) s st.env
  rw[this]
  cases hl:lk st.env s with
  |some d=>
   rw[hl] at hg0
   exact z9Ga hI hbs hg d _ _ hg0
  |none=>
   have hg1:(z2b (.freeze ids) st).org=st.org:=rfl
   rw[hg1]
   cases hs:lk st.org s with
   |none=>simp[Abs.dem,Rep]
   |some d=>exact z7c.dem (g:=g') _ (z7c.mono hk d _ (z7c.mono (z9J hI) d _ (hO s d hs)))

def z4ua (K:Cx) (base:z1P):Prop:=(∀b,base.W b→base.S0 b=0)∧∀n∈K.N.gs,z0f K.toCon base.S0 base.w0 (K.E.T n) (K.N.gnum n) 0
mutual
theorem z7Va {g g':Gh} {w:World} (hm:∀id b,g.mu id=some b→g'.mu id=some b):∀(d:z2a) (v:Value) (l l':Option Loc),frm d=true→Rep K.toCon g w l d v→(∀e nl n cs,d= .sl (.own e) nl n cs→l'=none)→Rep K.toCon g' w l' d v
 | .lit x,v,_,_,_,h,_=>by simpa[Rep] using h
 | .undef,_,_,_,_,_,_=>by simp[Rep]
 | .bp id off,v,_,_,_,h,_=>by
  simp only[Rep] at h⊢
  obtain⟨b,hb,rfl⟩:=h
  exact⟨b,hm _ _ hb,rfl⟩
 | .bv id e off n c,v,_,_,_,h,_=>by
  simp only[Rep] at h⊢
  obtain⟨b,cap,o,hb,rfl,h1⟩:=h
  exact⟨b,cap,o,hm _ _ hb,rfl,h1⟩
 | .agg cs,v,_,_,hf,h,_=>by
  simp only[Rep] at h⊢
  obtain⟨a,rfl,h⟩:=h
  exact⟨a,rfl,z1ia hm cs _ (by simpa[frm] using hf) h⟩
 | .tup cs,v,_,_,hf,h,_=>by
  simp only[Rep] at h⊢
  obtain⟨a,rfl,h⟩:=h
  exact⟨a,rfl,z1ia hm cs _ (by simpa[frm] using hf) h⟩
 | .fn f x y,v,_,_,hf,h,_=>by
  simp only[Rep] at h⊢
  obtain⟨a,c,rfl,h1,h2⟩:=h
  simp only[frm,Bool.and_eq_true] at hf
  exact⟨a,c,rfl,z1ia hm x _ hf.1 h1,z1ia hm y _ hf.2 h2⟩
 | .sl m nl n cs,v,l,l',hf,h,hl=>by
  have e:cs=[]:=by simpa[frm] using hf
  subst e
  have key:∀m',z7c K.toCon g.S w (.sl m' nl n []) v→z7c K.toCon g'.S w (.sl m' nl n []) v:=fun m' hp=>by
   simp only[z7c] at hp⊢
   rcases hp with⟨b,o,cap,h1,h2,_,h4⟩|h5
   ·exact .inl ⟨b,o,cap,h1,h2,trivial,h4⟩
   ·exact .inr h5
  cases m with
  |own e=>
   simp only[Rep] at h⊢
   refine⟨key _ h.1,fun l'' hl''=> ?_⟩
   rw[hl e nl n [] rfl] at hl''
   cases hl''
  |plain=>simp only[Rep] at h⊢;exact key _ h
  |clip=>simp only[Rep] at h⊢;exact key _ h
 | .otup _ _ _ _ _,_,_,_,hf,_,_=>by simp[frm] at hf
 | .oagg _ _ _ _ _ _,_,_,_,hf,_,_=>by simp[frm] at hf
 | .ep cs,v,_,_,hf,h,_=>by
  have e:cs=[]:=by simpa[frm] using hf
  subst e
  simp only[Rep,z7c] at h⊢
  obtain⟨b,o,h1,_⟩:=h
  exact⟨b,o,h1,trivial⟩
theorem z1ia {g g':Gh} {w:World} (hm:∀id b,g.mu id=some b→g'.mu id=some b):∀(ds:List z2a) (vs:List Value),z8Wb ds=true→z1e K.toCon g w ds vs→z1e K.toCon g' w ds vs
 |[],_,_,h=>by simpa[z1e] using h
 |c::cs,l,hf,h=>by
  simp only[z1e] at h⊢
  simp only[z8Wb,Bool.and_eq_true] at hf
  obtain⟨x,xs,rfl,h1,h2⟩:=h
  exact⟨x,xs,rfl,z7Va hm c x none none hf.1 h1 (fun _ _ _ _ _=>rfl),z1ia hm cs xs hf.2 h2⟩
end
mutual
theorem z3ra:∀c:z2a,z2f c=true→z6f c=true
 | .lit _,_=>rfl
 | .agg cs,h=>by simp only[z2f,z6f] at h⊢;exact z1ka cs h
 | .tup cs,h=>by simp only[z2f,z6f] at h⊢;exact z1ka cs h
 | .undef,h=>by simp[z2f] at h
 | .sl _ _ _ _,h=>by simp[z2f] at h
 | .bp _ _,h=>by simp[z2f] at h
 | .bv _ _ _ _ _,h=>by simp[z2f] at h
 | .ep _,h=>by simp[z2f] at h
 | .otup _ _ _ _ _,h=>by simp[z2f] at h
 | .oagg _ _ _ _ _ _,h=>by simp[z2f] at h
 | .fn _ _ _,h=>by simp[z2f] at h
theorem z1ka:∀cs:List z2a,z0c cs=true→z2h cs=true
 |[],_=>rfl
 |c::cs,h=>by
  simp only[z0c,z2h,Bool.and_eq_true] at h⊢
  exact⟨z3ra c h.1,z1ka cs h.2⟩
end
theorem z2qa:∀{cs:List z2a} {c:z2a},z0c cs=true→c∈cs→z2f c=true
 |[],_,_,h=>by cases h
 |d::cs,c,hf,h=>by
  simp only[z0c,Bool.and_eq_true] at hf
  rcases List.mem_cons.1 h with rfl|h
  ·exact hf.1
  ·exact z2qa hf.2 h
theorem z0ja {S S':Nat→Nat} {w:World}:∀(cs:List z2a) (b o:Nat),S' b=S b→z0c cs=true→z0f K.toCon S w cs b o→z0f K.toCon S' w cs b o
 |[],_,_,_,_,_=>by simp[z0f]
 |c::cs,b,o,hS,hf,h=>by
  simp only[z0f] at h⊢
  simp only[z0c,Bool.and_eq_true] at hf
  obtain⟨h0,⟨x,hx,h1⟩,h2⟩:=h
  refine⟨by rw[hS];exact h0,⟨x,hx,?_⟩,z0ja cs b (o+1) hS hf.2 h2⟩
  have r1:=z7c.rep (g:={S:=S,ow:=fun _=>none,mu:=fun _=>none}) c x h1
  have r2:=z5K (K:=K) (g':={S:=S',ow:=fun _=>none,mu:=fun _=>none}) (w':=w) c x none none hf.1 r1
  exact Rep.pure (g:={S:=S',ow:=fun _=>none,mu:=fun _=>none}) c x none (z3ra c hf.1) r2
theorem z0Na (s id:Nat) (hF:z4ua K base) (hR:Rel K base n st a w) (hok:z8za none s id st):∃e nl k cs cap,st.get s= .sl (.own e) nl k cs∧k≤cap∧cs.length=k*e∧
  ∀(c:Nat) (xs:List z2a),(xs=[]∧c=k∧id<500000)∨(c=cap∧xs=List.replicate ((cap-k)*e) .undef)→Rel K base n {st with env:=(s,.bv id e 0 k c)::st.env,box:=(id,some (cs++xs))::st.box} a w:=by
 obtain⟨g,hI,hS,hO,h⟩:=hR
 obtain⟨hid,hgB,henv,hfe,hfb⟩:=hok
 split at henv
 rotate_left
 ·exact henv.elim
 rename_i e nl k cs hl
 obtain⟨hk0,hmf⟩:=henv
 have hget:st.get s= .sl (.own e) nl k cs:=by unfold ASt.get;rw[hl]
 have hs:=hS s
 rw[hget] at hs
 simp only[Rep] at hs
 obtain⟨hp,hown⟩:=hs
 obtain⟨b,cap,hv,hle,hlen,hSb,how,hth⟩:z6oa g w (.slot s) e k cs.length (a.tmps.getD s undef):=by
  rcases hown _ rfl with(h1|⟨⟨p,h1⟩,_⟩)|h1
  ·rw[h1] at hp
   simp only[z7c] at hp
   rcases hp with⟨b,o,cap,h2,_⟩|⟨_,_,h2,_⟩
   ·cases h2
   ·omega
  ·rw[h1] at hp
   simp only[z7c] at hp
   rcases hp with⟨b,o,cap,h2,_⟩|⟨_,h2,_⟩
   ·simp only[Value.slice.injEq] at h2;omega
   ·simp only[Value.slice.injEq] at h2;omega
  ·exact h1
 obtain⟨hB,hbs⟩:=hI.owW b _ how
 have hge:base.w0.heap.size≤b∨(base.W b∧base.S0 b=0):=hB.imp (fun h=>h) fun h=>⟨h,hF.1 b h⟩
 have hmub:∀j,g.mu j≠some b:=fun j hj=>by have:=(hI.muW j b hj).2.2;rw[how] at this;cases this
 have hmuid:g.mu id=none:=hI.nobx id hgB
 let g':Gh:={S:=fun x=>if x=b then 0 else g.S x,ow:=fun x=>if x=b then none else g.ow x,mu:=fun i=>if i=id then some b else g.mu i}
 have hm:∀i x,g.mu i=some x→g'.mu i=some x:=fun i x hx=>by
  have:i≠id:=fun e=>by rw[e,hmuid] at hx;cases hx
  simp only[g',if_neg this];exact hx
 have hcells:z0f K.toCon g.S w cs b 0:=by
  rw[hv] at hp
  simp only[z7c] at hp
  rcases hp with⟨b',o,cap',h2,_,h3,_⟩|⟨q,h2,_⟩
  ·simp only[Value.slice.injEq,Option.some.injEq,Addr.mk.injEq] at h2
   obtain⟨⟨rfl,rfl,_⟩,_⟩:=h2
   exact h3
  ·simp only[Value.slice.injEq] at h2;omega
 -- what is owned elsewhere
 have top:∀{d:z2a} {v:Value} {l:Loc},l≠ .slot s→z7wa d=true→Rep K.toCon g w (some l) d v→Rep K.toCon g' w (some l) d v:=fun {d v l} hne hf hr=>by
  by_cases ho:∃e nl n cs,d= .sl (.own e) nl n cs
  ·obtain⟨e1,nl1,n1,cs1,rfl⟩:=ho
   simp only[z7wa] at hf
   simp only[Rep] at hr⊢
   obtain⟨h1,h2⟩:=hr
   rcases h2 l rfl with h3|⟨b2,cap2,h4,h5,h6,h7,h8,h9⟩
   ·refine⟨?_,fun l' hl'=> .inl h3⟩
    simp only[z7c] at h1⊢
    rcases h1 with⟨b3,o3,c3,q1,q2,q3,q4⟩|q
    ·rcases h3 with h3|⟨_,rfl⟩
     ·rw[h3] at q1;cases q1
     ·exact .inl ⟨b3,o3,c3,q1,q2,trivial,q4⟩
    ·exact .inr q
   ·have hb2:b2≠b:=fun e=>by rw[e,how] at h8;cases h8;exact hne rfl
    refine⟨?_,fun l' hl'=> .inr ⟨b2,cap2,h4,h5,h6,by simp only[g',if_neg hb2];exact h7,by cases hl';simp only[g',if_neg hb2];exact h8,h9⟩⟩
    simp only[z7c] at h1⊢
    rcases h1 with⟨b3,o3,c3,q1,q2,q3,q4⟩|q
    ·refine .inl ⟨b3,o3,c3,q1,q2,?_,q4⟩
     rw[h4] at q1
     simp only[Value.slice.injEq,Option.some.injEq,Addr.mk.injEq] at q1
     obtain⟨⟨rfl,_⟩,_⟩:=q1
     exact z0ja cs1 _ _ (by simp only[g',if_neg hb2]) hf q3
    ·exact .inr q
  ·have hf':frm d=true:=by
    cases d with
    |sl m nl n cs=>cases m with
     |own e=>exact absurd ⟨e,nl,n,cs,rfl⟩ ho
     |plain=>exact hf
     |clip=>exact hf
    |_=>exact hf
   exact z7Va hm d v _ _ hf' hr fun e nl n cs he=>absurd ⟨e,nl,n,cs,he⟩ ho
 have hkp:z9k base.S0 base.w0 g'.S w:=fun b' i x hi hc=>by
  have hlt:b'<base.w0.heap.size:=World.block_lt_of_cell? base.w0 ⟨b',i,none⟩ hc
  have hne:b'≠b:=fun e=>by subst e;rcases hge with h|⟨_,h⟩<;>omega
  obtain⟨k1,k2⟩:=hI.kp b' i x hi hc
  exact⟨by simp only[g',if_neg hne];exact k1,k2⟩
 refine⟨e,nl,k,cs,cap,hget,hle,hlen,fun c xs hcx=> ?_⟩
 have hgetB:∀j,({st with env:=(s,z2a.bv id e 0 k c)::st.env,box:=(id,some (cs++xs))::st.box}:ASt).getB j=if j=id then some (cs++xs) else st.getB j:=fun j=>by
  simp only[ASt.getB,lk]
  split<;>rfl
 have hbox:∀j ds,st.getB j=some ds→∀c∈ds,z7wa c=true:=fun j ds hj=>by
  simp only[ASt.getB] at hj
  cases hl:lk st.box j with
  |none=>rw[hl] at hj;cases hj
  |some o=>rw[hl] at hj;simp only[Option.join_some] at hj;exact hfb _ (z28 hl) ds hj
 have hI':Inv K base g' w ({st with env:=(s,z2a.bv id e 0 k c)::st.env,box:=(id,some (cs++xs))::st.box}:ASt).getB:=by
  refine⟨hI.fr,fun b' hb' hw=> ?_,fun i j x hi hj=> ?_,fun j ds hj=> ?_,fun j hj=> ?_,fun j x hx=> ?_,fun x l hx=> ?_,fun m hm'=>z0f.mono hkp _ _ _ (hF.2 m hm'),hkp,fun j x ds ho hb' hc hd=> ?_⟩
  ·have hne:b'≠b:=fun e=>by
    subst e
    rcases hge with h|⟨h,_⟩
    ·omega
    ·exact hw h
   simp only[g',if_neg hne]
   exact hI.sS b' hb' hw
  ·simp only[g'] at hi hj
   split at hi
   ·cases hi
    split at hj
    ·subst_vars;rfl
    ·exact absurd hj (hmub j)
   ·split at hj
    ·cases hj;exact absurd hi (hmub i)
    ·exact hI.inj i j x hi hj
  ·rw[hgetB] at hj
   split at hj
   ·rename_i he
    subst he
    cases hj
    refine⟨b,by simp[g'],by simp[g'],fun i d hi=> ?_⟩
    have hi0:=hi
    by_cases hic:i<cs.length
    rotate_left
    ·rw[List.getElem?_append_right (by omega)] at hi
     rcases hcx with⟨rfl,_⟩|⟨_,rfl⟩
     ·cases hi
     ·obtain⟨hr1,hr2⟩:=List.getElem?_eq_some_iff.1 hi
      rw[List.getElem_replicate] at hr2
      subst hr2
      rw[List.length_replicate,Nat.sub_mul] at hr1
      have hkc:k*e≤cap*e:=Nat.mul_le_mul_right _ hle
      obtain⟨h8,h9⟩:=hth i (by omega)
      rw[Nat.zero_add] at h8 h9
      obtain⟨y,hy⟩:=Option.isSome_iff_exists.1 h8
      exact⟨⟨y,hy,by simp[Rep]⟩,h9⟩
    rw[List.getElem?_append_left hic] at hi
    obtain⟨_,x,hx,hr⟩:=hcells.get i d hi
    rw[Nat.zero_add] at hx
    have hilt:i<k*e:=by omega
    have hkc:k*e≤cap*e:=Nat.mul_le_mul_right _ hle
    have hfz:=(hth i (by omega)).2
    rw[Nat.zero_add] at hfz
    refine⟨⟨x,hx,?_⟩,hfz⟩
    have hmd:z2f d=true:=z2qa hmf (z3l hi)
    exact z5K (g:=g) d x none _ hmd (z7c.rep (g:=g) d x hr)
   ·rename_i hne
    obtain⟨x,k1,k2,k3⟩:=hI.bxok j ds hj
    have hxb:x≠b:=fun e=>hmub j (e▸k1)
    refine⟨x,by simp only[g',if_neg hne];exact k1,by simp only[g',if_neg hxb];exact k2,fun i d hi=> ?_⟩
    obtain⟨⟨y,h4,h5⟩,h6⟩:=k3 i d hi
    exact⟨⟨y,h4,top (by simp) (hbox j ds hj d (z3l hi)) h5⟩,h6⟩
  ·rw[hgetB] at hj
   split at hj
   ·cases hj
   ·rename_i hne
    simp only[g',if_neg hne]
    exact hI.nobx j hj
  ·simp only[g'] at hx
   split at hx
   ·cases hx
    exact⟨hge.imp (fun h=>h) (·.1),hbs,by simp[g']⟩
   ·obtain⟨h1,h2,h3⟩:=hI.muW j x hx
    have hxb:x≠b:=fun e=>hmub j (e▸hx)
    exact⟨h1,h2,by simp only[g',if_neg hxb];exact h3⟩
  ·simp only[g'] at hx
   split at hx
   ·cases hx
   ·exact hI.owW x l hx
  ·have hne:j≠id:=fun e=>by omega
   rw[hgetB,if_neg hne] at hc
   simp only[g',if_neg hne] at hb'
   refine z2U.keep (hI.obok j x ds ho hb' hc hd) rfl fun q hq=>⟨?_,rfl⟩
   have hqb:q≠b:=fun e=>by rw[e,how] at hq;cases hq
   simp only[g',if_neg hqb];exact hq
 refine⟨g',hI',fun t=> ?_,hO,h⟩
 unfold ASt.get
 simp only[lk]
 by_cases ht:t=s
 ·subst ht
  simp only[if_true]
  simp only[Rep]
  exact⟨b,cap,0,by simp[g'],hv,hle,by rcases hcx with⟨_,h,_⟩|⟨h,_⟩<;>omega,.inl rfl,fun h=>by rcases hcx with⟨_,_,h2⟩|⟨h2,_⟩<;>omega⟩
 ·rw[if_neg ht]
  cases hlt:lk st.env t with
  |some d=>
   have:=hS t
   unfold ASt.get at this
   rw[hlt] at this
   exact top (by simpa using ht) ((hfe _ (z28 hlt)).resolve_left ht) this
  |none=>
   cases hs:lk st.org t with
   |none=>simp[Abs.dem,Rep]
   |some d=>exact z7c.dem (g:=g') _ (z7c.mono (z9J hI') d _ (hO t d hs))
theorem z4ub (s id:Nat) (hF:z4ua K base) (hR:Rel K base n st a w) (hok:z8q (.thaw s id) st):Rel K base n (z2b (.thaw s id) st) a w:=by
 obtain⟨e,nl,k,cs,cap,hget,hle,hlen,H⟩:=z0Na s id hF hR ⟨by have:=hok.1;omega,hok.2⟩
 have hrun:z2b (.thaw s id) st={st with env:=(s,.bv id e 0 k k)::st.env,box:=(id,some (cs++[]))::st.box}:=by
  simp only[z2b,hget,List.append_nil]
 rw[hrun]
 exact H k [] (.inl ⟨rfl,rfl,hok.1⟩)

theorem z0Aa (b0 i0 id:Nat) (hF:z4ua K base) (hR:Rel K base n st a w) (hok:z8za (some b0) i0 id st):∃bs e nl k cs cap,st.getB b0=some bs∧bs.getD i0 .undef= .sl (.own e) nl k cs∧k≤cap∧cs.length=k*e∧
  ∀(c:Nat) (xs:List z2a),(xs=[]∧c=k∧id<500000)∨(c=cap∧xs=List.replicate ((cap-k)*e) .undef)→Rel K base n {st with box:=(b0,some (bs.set i0 (.bv id e 0 k c)))::(id,some (cs++xs))::st.box} a w:=by
 obtain⟨g,hI,hS,hO,h⟩:=hR
 obtain⟨hid,hb0,hgB,hbs,hfe,hfb,hfc⟩:=hok
 cases hgb:st.getB b0 with
 |none=>rw[hgb] at hbs;exact hbs.elim
 |some bs=>
 rw[hgb] at hbs
 simp only at hbs
 obtain⟨hilt,hbs⟩:=hbs
 split at hbs
 rotate_left
 ·exact hbs.elim
 rename_i e nl k cs hget
 obtain⟨hk0,hmf⟩:=hbs
 have hgi:bs[i0]? =some (.sl (.own e) nl k cs):=by
  rw[List.getElem?_eq_getElem hilt]
  rw[List.getD_eq_getElem?_getD,List.getElem?_eq_getElem hilt] at hget
  exact congrArg some hget
 have hne0:b0≠id:=fun e=>by rw[e,hgB] at hgb;cases hgb
 obtain⟨bb,hbb,hSbb,hcellsB⟩:=hI.bxok b0 bs hgb
 obtain⟨⟨v,hvc,hrv⟩,hfzv⟩:=hcellsB i0 _ hgi
 simp only[Rep] at hrv
 obtain⟨hp,hown⟩:=hrv
 obtain⟨b,cap,hv,hle,hlen,hSb,how,hth⟩:z6oa g w (.cell b0 i0) e k cs.length v:=by
  rcases hown _ rfl with(h1|⟨⟨p,h1⟩,_⟩)|h1
  ·rw[h1] at hp
   simp only[z7c] at hp
   rcases hp with⟨b,o,cap,h2,_⟩|⟨_,_,h2,_⟩
   ·cases h2
   ·omega
  ·rw[h1] at hp
   simp only[z7c] at hp
   rcases hp with⟨b,o,cap,h2,_⟩|⟨_,h2,_⟩
   ·simp only[Value.slice.injEq] at h2;omega
   ·simp only[Value.slice.injEq] at h2;omega
  ·exact h1
 obtain⟨hB,hbsz⟩:=hI.owW b _ how
 have hge:base.w0.heap.size≤b∨(base.W b∧base.S0 b=0):=hB.imp (fun h=>h) fun h=>⟨h,hF.1 b h⟩
 have hmub:∀j,g.mu j≠some b:=fun j hj=>by have:=(hI.muW j b hj).2.2;rw[how] at this;cases this
 have hmuid:g.mu id=none:=hI.nobx id hgB
 let g':Gh:={S:=fun x=>if x=b then 0 else g.S x,ow:=fun x=>if x=b then none else g.ow x,mu:=fun i=>if i=id then some b else g.mu i}
 have hm:∀i x,g.mu i=some x→g'.mu i=some x:=fun i x hx=>by
  have:i≠id:=fun e=>by rw[e,hmuid] at hx;cases hx
  simp only[g',if_neg this];exact hx
 have hcells:z0f K.toCon g.S w cs b 0:=by
  rw[hv] at hp
  simp only[z7c] at hp
  rcases hp with⟨b',o,cap',h2,_,h3,_⟩|⟨q,h2,_⟩
  ·simp only[Value.slice.injEq,Option.some.injEq,Addr.mk.injEq] at h2
   obtain⟨⟨rfl,rfl,_⟩,_⟩:=h2
   exact h3
  ·simp only[Value.slice.injEq] at h2;omega
 have top:∀{d:z2a} {v:Value} {l:Loc},l≠ .cell b0 i0→z7wa d=true→Rep K.toCon g w (some l) d v→Rep K.toCon g' w (some l) d v:=fun {d v l} hne hf hr=>by
  by_cases ho:∃e nl n cs,d= .sl (.own e) nl n cs
  ·obtain⟨e1,nl1,n1,cs1,rfl⟩:=ho
   simp only[z7wa] at hf
   simp only[Rep] at hr⊢
   obtain⟨h1,h2⟩:=hr
   rcases h2 l rfl with h3|⟨b2,cap2,h4,h5,h6,h7,h8,h9⟩
   ·refine⟨?_,fun l' hl'=> .inl h3⟩
    simp only[z7c] at h1⊢
    rcases h1 with⟨b3,o3,c3,q1,q2,q3,q4⟩|q
    ·rcases h3 with h3|⟨_,rfl⟩
     ·rw[h3] at q1;cases q1
     ·exact .inl ⟨b3,o3,c3,q1,q2,trivial,q4⟩
    ·exact .inr q
   ·have hb2:b2≠b:=fun e=>by rw[e,how] at h8;cases h8;exact hne rfl
    refine⟨?_,fun l' hl'=> .inr ⟨b2,cap2,h4,h5,h6,by simp only[g',if_neg hb2];exact h7,by cases hl';simp only[g',if_neg hb2];exact h8,h9⟩⟩
    simp only[z7c] at h1⊢
    rcases h1 with⟨b3,o3,c3,q1,q2,q3,q4⟩|q
    ·refine .inl ⟨b3,o3,c3,q1,q2,?_,q4⟩
     rw[h4] at q1
     simp only[Value.slice.injEq,Option.some.injEq,Addr.mk.injEq] at q1
     obtain⟨⟨rfl,_⟩,_⟩:=q1
     exact z0ja cs1 _ _ (by simp only[g',if_neg hb2]) hf q3
    ·exact .inr q
  ·have hf':frm d=true:=by
    cases d with
    |sl m nl n cs=>cases m with
     |own e=>exact absurd ⟨e,nl,n,cs,rfl⟩ ho
     |plain=>exact hf
     |clip=>exact hf
    |_=>exact hf
   exact z7Va hm d v _ _ hf' hr fun e nl n cs he=>absurd ⟨e,nl,n,cs,he⟩ ho
 have hkp:z9k base.S0 base.w0 g'.S w:=fun b' i x hi hc=>by
  have hlt:b'<base.w0.heap.size:=World.block_lt_of_cell? base.w0 ⟨b',i,none⟩ hc
  have hne:b'≠b:=fun e=>by subst e;rcases hge with h|⟨_,h⟩<;>omega
  obtain⟨k1,k2⟩:=hI.kp b' i x hi hc
  exact⟨by simp only[g',if_neg hne];exact k1,k2⟩
 refine⟨bs,e,nl,k,cs,cap,rfl,hget,hle,hlen,fun c xs hcx=> ?_⟩
 have hgetB:∀j,({st with box:=(b0,some (bs.set i0 (.bv id e 0 k c)))::(id,some (cs++xs))::st.box}:ASt).getB j=if j=b0 then some (bs.set i0 (.bv id e 0 k c)) else if j=id then some (cs++xs) else st.getB j:=fun j=>by
  simp only[ASt.getB,lk]
  split
  ·rfl
  ·split<;>rfl
 have hbox:∀j ds,j≠b0→st.getB j=some ds→∀c∈ds,z7wa c=true:=fun j ds hj hds=>by
  simp only[ASt.getB] at hds
  cases hl:lk st.box j with
  |none=>rw[hl] at hds;cases hds
  |some o=>rw[hl] at hds;simp only[Option.join_some] at hds;exact(hfb _ (z28 hl) ds hds).resolve_left hj
 have hI':Inv K base g' w ({st with box:=(b0,some (bs.set i0 (.bv id e 0 k c)))::(id,some (cs++xs))::st.box}:ASt).getB:=by
  refine⟨hI.fr,fun b' hb' hw=> ?_,fun i j x hi hj=> ?_,fun j ds hj=> ?_,fun j hj=> ?_,fun j x hx=> ?_,fun x l hx=> ?_,fun m hm'=>z0f.mono hkp _ _ _ (hF.2 m hm'),hkp,fun j x ds ho hb' hc hd=> ?_⟩
  ·have hne:b'≠b:=fun e=>by
    subst e
    rcases hge with h|⟨h,_⟩
    ·omega
    ·exact hw h
   simp only[g',if_neg hne]
   exact hI.sS b' hb' hw
  ·simp only[g'] at hi hj
   split at hi
   ·cases hi
    split at hj
    ·subst_vars;rfl
    ·exact absurd hj (hmub j)
   ·split at hj
    ·cases hj;exact absurd hi (hmub i)
    ·exact hI.inj i j x hi hj
  ·rw[hgetB] at hj
   split at hj
   ·rename_i he
    subst he
    cases hj
    have hxb:bb≠b:=fun e=>hmub j (e▸hbb)
    refine⟨bb,by simp only[g',if_neg hne0];exact hbb,by simp only[g',if_neg hxb];exact hSbb,fun i d hi=> ?_⟩
    rw[List.getElem?_set] at hi
    split at hi
    ·rename_i he
     subst he
     first|(rw[if_pos hilt] at hi;cases hi)|cases hi
     refine⟨⟨v,hvc,?_⟩,hfzv⟩
     simp only[Rep]
     exact⟨b,cap,0,by simp[g'],hv,hle,by rcases hcx with⟨_,h,_⟩|⟨h,_⟩<;>omega,.inl rfl,fun h=>by rcases hcx with⟨_,_,h2⟩|⟨h2,_⟩<;>omega⟩
    ·rename_i hne
     obtain⟨⟨y,h4,h5⟩,h6⟩:=hcellsB i d hi
     have hd:z7wa d=true:=hfc bs hgb d (List.mem_of_getElem? (i:=i) (by rw[List.getElem?_set,if_neg hne];exact hi))
     exact⟨⟨y,h4,top (by simpa using fun h=>hne h.symm) hd h5⟩,h6⟩
   ·rename_i hnb
    split at hj
    ·rename_i he
     subst he
     cases hj
     refine⟨b,by simp[g'],by simp[g'],fun i d hi=> ?_⟩
     have hi0:=hi
     by_cases hic:i<cs.length
     rotate_left
     ·rw[List.getElem?_append_right (by omega)] at hi
      rcases hcx with⟨rfl,_⟩|⟨_,rfl⟩
      ·cases hi
      ·obtain⟨hr1,hr2⟩:=List.getElem?_eq_some_iff.1 hi
       rw[List.getElem_replicate] at hr2
       subst hr2
       rw[List.length_replicate,Nat.sub_mul] at hr1
       have hkc:k*e≤cap*e:=Nat.mul_le_mul_right _ hle
       obtain⟨h8,h9⟩:=hth i (by omega)
       rw[Nat.zero_add] at h8 h9
       obtain⟨y,hy⟩:=Option.isSome_iff_exists.1 h8
       exact⟨⟨y,hy,by simp[Rep]⟩,h9⟩
     rw[List.getElem?_append_left hic] at hi
     obtain⟨_,x,hx,hr⟩:=hcells.get i d hi
     rw[Nat.zero_add] at hx
     have hilt:i<k*e:=by omega
     have hkc:k*e≤cap*e:=Nat.mul_le_mul_right _ hle
     have hfz:=(hth i (by omega)).2
     rw[Nat.zero_add] at hfz
     refine⟨⟨x,hx,?_⟩,hfz⟩
     have hmd:z2f d=true:=z2qa hmf (z3l hi)
     exact z5K (g:=g) d x none _ hmd (z7c.rep (g:=g) d x hr)
    ·rename_i hne
     obtain⟨x,k1,k2,k3⟩:=hI.bxok j ds hj
     have hxb:x≠b:=fun e=>hmub j (e▸k1)
     refine⟨x,by simp only[g',if_neg hne];exact k1,by simp only[g',if_neg hxb];exact k2,fun i d hi=> ?_⟩
     obtain⟨⟨y,h4,h5⟩,h6⟩:=k3 i d hi
     exact⟨⟨y,h4,top (by simp only[ne_eq,Loc.cell.injEq,not_and];exact fun h=>absurd h hnb) (hbox j ds hnb hj d (z3l hi)) h5⟩,h6⟩
  ·rw[hgetB] at hj
   split at hj
   ·cases hj
   ·split at hj
    ·cases hj
    ·rename_i hne
     simp only[g',if_neg hne]
     exact hI.nobx j hj
  ·simp only[g'] at hx
   split at hx
   ·cases hx
    exact⟨hge.imp (fun h=>h) (·.1),hbsz,by simp[g']⟩
   ·obtain⟨h1,h2,h3⟩:=hI.muW j x hx
    have hxb:x≠b:=fun e=>hmub j (e▸hx)
    exact⟨h1,h2,by simp only[g',if_neg hxb];exact h3⟩
  ·simp only[g'] at hx
   split at hx
   ·cases hx
   ·exact hI.owW x l hx
  ·have hne:j≠id:=fun e=>by omega
   have hnb:j≠b0:=fun e=>by omega
   rw[hgetB,if_neg hnb,if_neg hne] at hc
   simp only[g',if_neg hne] at hb'
   refine z2U.keep (hI.obok j x ds ho hb' hc hd) rfl fun q hq=>⟨?_,rfl⟩
   have hqb:q≠b:=fun e=>by rw[e,how] at hq;cases hq;exact hnb rfl
   simp only[g',if_neg hqb];exact hq
 refine⟨g',hI',fun t=> ?_,hO,h⟩
 have hgt:({st with box:=(b0,some (bs.set i0 (.bv id e 0 k c)))::(id,some (cs++xs))::st.box}:ASt).get t=st.get t:=rfl
 rw[hgt]
 unfold ASt.get
 cases hlt:lk st.env t with
 |some d=>
  have:=hS t
  unfold ASt.get at this
  rw[hlt] at this
  exact top (by simp) (hfe _ (z28 hlt)) this
 |none=>
  cases hs:lk st.org t with
  |none=>simp[Abs.dem,Rep]
  |some d=>exact z7c.dem (g:=g') _ (z7c.mono (z9J hI') d _ (hO t d hs))
theorem z6gb (b0 i0 id:Nat) (hF:z4ua K base) (hR:Rel K base n st a w) (hok:z8q (.thawB b0 i0 id) st):Rel K base n (z2b (.thawB b0 i0 id) st) a w:=by
 obtain⟨bs,e,nl,k,cs,cap,hgb,hget,hle,hlen,H⟩:=z0Aa b0 i0 id hF hR ⟨by have:=hok.1;omega,hok.2⟩
 have hrun:z2b (.thawB b0 i0 id) st={st with box:=(b0,some (bs.set i0 (.bv id e 0 k k)))::(id,some (cs++[]))::st.box}:=by
  simp only[z2b,hgb,hget,List.append_nil]
 rw[hrun]
 exact H k [] (.inl ⟨rfl,rfl,hok.1⟩)
theorem z1ib (s t:Nat) {V:Value} (hR:Rel K base n st a w) (hok:z7cb s t st V):∃V',z6Fb V'=z6Fb V∧Rel K base n (z4Ka s t V' st) a w:=by
 obtain⟨g,hI,hS,hO,h⟩:=hR
 obtain⟨id,hl,⟨e1,o1,n1,c1,h1⟩,e2,o2,n2,c2,h2⟩:=hok
 have r1:=hS s
 have r2:=hS t
 rw[h1] at r1
 rw[h2] at r2
 simp only[Rep] at r1 r2
 obtain⟨b1,k1,p1,m1,v1,_⟩:=r1
 obtain⟨b2,k2,p2,m2,v2,_⟩:=r2
 have hV:=hO s _ hl
 simp only[z7c] at hV
 rw[m1] at m2
 cases m2
 refine⟨a.tmps.getD t undef,?_,g,hI,fun x=> ?_,fun x d hx=> ?_,h⟩
 ·rw[v2,←hV,v1];rfl
 ·have hg:(z4Ka s t (a.tmps.getD t undef) st).get x=st.get x:=by
   by_cases hs:x=s
   ·subst hs
    show(match lk ((x,st.get x)::_) x with|some d=>d|none=>_)=_
    simp[lk]
   ·by_cases ht:x=t
    ·subst ht
     show(match lk ((s,_)::(x,st.get x)::_) x with|some d=>d|none=>_)=_
     simp[lk,hs]
    ·have ho:lk ((t,z2a.lit (a.tmps.getD t undef))::st.org.filter fun p=>decide (p.1≠s)) x=lk st.org x:=by
      rw[lk,if_neg ht,z5H (fun k=>decide (k≠s))]
      simp[hs]
     show(match lk ((s,_)::(t,_)::st.env) x with|some d=>d|none=>dem ((lk ((t,z2a.lit (a.tmps.getD t undef))::st.org.filter fun p=>decide (p.1≠s)) x).getD .undef))=_
     rw[ho]
     simp only[lk,if_neg hs,if_neg ht]
     rfl
  rw[hg]
  exact hS x
 ·have hx':lk ((t,z2a.lit (a.tmps.getD t undef))::st.org.filter fun p=>decide (p.1≠s)) x=some d:=hx
  by_cases ht:x=t
  ·subst ht
   rw[lk,if_pos rfl] at hx'
   cases hx'
   simp[z7c]
  ·rw[lk,if_neg ht,z5H (fun k=>decide (k≠s))] at hx'
   split at hx'
   ·exact hO x d hx'
   ·cases hx'
theorem z7qb (b:Option Nat) (i id:Nat) (hF:z4ua K base) (hR:Rel K base n st a w) (hok:z8za b i id st):∃m,Rel K base n (z0ga b i id m st) a w:=by
 cases b with
 |none=>
  obtain⟨e,nl,k,cs,cap,hget,hle,hlen,H⟩:=z0Na i id hF hR hok
  refine⟨cap-k,?_⟩
  have hrun:z0ga none i id (cap-k) st={st with env:=(i,.bv id e 0 k (k+(cap-k)))::st.env,box:=(id,some (cs++List.replicate ((cap-k)*e) .undef))::st.box}:=by
   simp only[z0ga,hget]
  rw[hrun]
  exact H _ _ (.inr ⟨by omega,rfl⟩)
 |some b=>
  obtain⟨bs,e,nl,k,cs,cap,hgb,hget,hle,hlen,H⟩:=z0Aa b i id hF hR hok
  refine⟨cap-k,?_⟩
  have hrun:z0ga (some b) i id (cap-k) st={st with box:=(b,some (bs.set i (.bv id e 0 k (k+(cap-k)))))::(id,some (cs++List.replicate ((cap-k)*e) .undef))::st.box}:=by
   simp only[z0ga,hgb,hget]
  rw[hrun]
  exact H _ _ (.inr ⟨by omega,rfl⟩)
theorem z3mb (s:Nat) (hR:Rel K base n st a w):Rel K base n (z2b (.unorg s) st) a w:=by
 obtain⟨g,hI,hS,hO,h⟩:=hR
 have horg:∀t,lk (z2b (.unorg s) st).org t=if t=s then none else lk st.org t:=fun t=>by
  show lk (st.org.filter fun p=>decide (p.1≠s)) t=_
  rw[z5H (fun k=>decide (k≠s))]
  by_cases ht:t=s<;>simp[ht]
 refine⟨g,hI,fun t=> ?_,fun t d ht=> ?_,h⟩
 ·have:(z2b (.unorg s) st).get t=st.get t:=by
   by_cases ht:t=s
   ·subst ht
    show(match lk ((t,st.get t)::st.env) t with|some d=>d|none=>_)=_
    simp[lk]
   ·unfold ASt.get
    rw[horg,if_neg ht]
    show(match lk ((s,_)::st.env) t with|some d=>d|none=>_)=_
    simp only[lk,if_neg ht]
    cases lk st.env t<;>rfl
  rw[this]
  exact hS t
 ·rw[horg] at ht
  split at ht
  ·cases ht
  ·exact hO t d ht
theorem z9lb (b i:Nat) (hR:Rel K base n st a w) (hok:z8q (.hideB b i) st):Rel K base n (z2b (.hideB b i) st) a w:=by
 obtain⟨g,hI,hS,hO,h⟩:=hR
 have hlt:b<1000000:=hok
 cases hb:st.getB b with
 |none=>
  have:z2b (.hideB b i) st=st:=by simp only[z2b,hb]
  rw[this]
  exact⟨g,hI,hS,hO,h⟩
 |some bs=>
  have hrun:z2b (.hideB b i) st={st with box:=(b,some (bs.set i .undef))::st.box}:=by simp only[z2b,hb]
  rw[hrun]
  have hgetB:∀j,({st with box:=(b,some (bs.set i .undef))::st.box}:ASt).getB j=if j=b then some (bs.set i .undef) else st.getB j:=fun j=>by
   show(lk ((b,some (bs.set i .undef))::st.box) j).join=_
   by_cases hj:j=b
   ·simp[lk,hj]
   ·simp only[lk,if_neg hj];rfl
  refine⟨g,⟨hI.fr,hI.sS,hI.inj,fun id cs hc=> ?_,fun id hid=> ?_,hI.muW,hI.owW,hI.glob,hI.kp,fun id x cs ho hx hc hd=> ?_⟩,fun s=>hS s,hO,h⟩
  ·rw[hgetB] at hc
   split at hc
   ·rename_i hj
    cases hc
    subst hj
    obtain⟨k,k1,k2,k3⟩:=hI.bxok id bs hb
    refine⟨k,k1,k2,fun t d hd=> ?_⟩
    rw[List.getElem?_set] at hd
    split at hd
    ·split at hd
     ·rename_i hti hl
      cases hd
      subst hti
      obtain⟨⟨x,h4,_⟩,h6⟩:=k3 i _ (List.getElem?_eq_getElem hl)
      exact⟨⟨x,h4,by simp[Rep]⟩,h6⟩
     ·cases hd
    ·exact k3 t d hd
   ·exact hI.bxok id cs hc
  ·rw[hgetB] at hid
   split at hid
   ·cases hid
   ·exact hI.nobx id hid
  ·rw[hgetB,if_neg (by omega)] at hc
   exact hI.obok id x cs ho hx hc hd

theorem z97a {K:Con} {g:Gh} {w:World} {l:Option Loc} (o:Option Nat) {c:z2a} {v:Value} (h:Rep K g w l c v):Rep K g w l (z86 o c) v:=by
 cases o with
 |none=>exact Rep.dem l h
 |some e=>
  unfold z86
  simp only
  split
  ·simp only[Rep,z7c] at h⊢
   rcases h with⟨b,o,cap,_,_,_,h4,_⟩|⟨q,h1,_,_,_⟩
   ·exact absurd rfl h4
   ·exact⟨.inr ⟨q,h1,by simp⟩,fun l' _=> .inl (.inr ⟨⟨q,h1⟩,by simp⟩)⟩
  ·exact h
theorem z87b (b i:Nat) (o:Option Nat) (hR:Rel K base n st a w) (hok:z8q (.reB b i o) st):Rel K base n (z2b (.reB b i o) st) a w:=by
 obtain⟨g,hI,hS,hO,h⟩:=hR
 have hlt:b<1000000:=hok
 cases hb:st.getB b with
 |none=>
  have:z2b (.reB b i o) st=st:=by simp only[z2b,hb]
  rw[this]
  exact⟨g,hI,hS,hO,h⟩
 |some bs=>
  have hrun:z2b (.reB b i o) st={st with box:=(b,some (bs.set i (z86 o (bs.getD i .undef))))::st.box}:=by simp only[z2b,hb]
  rw[hrun]
  have hgetB:∀j,({st with box:=(b,some (bs.set i (z86 o (bs.getD i .undef))))::st.box}:ASt).getB j=if j=b then some (bs.set i (z86 o (bs.getD i .undef))) else st.getB j:=fun j=>by
   show(lk ((b,some (bs.set i (z86 o (bs.getD i .undef))))::st.box) j).join=_
   by_cases hj:j=b
   ·simp[lk,hj]
   ·simp only[lk,if_neg hj];rfl
  refine⟨g,⟨hI.fr,hI.sS,hI.inj,fun id cs hc=> ?_,fun id hid=> ?_,hI.muW,hI.owW,hI.glob,hI.kp,fun id x cs ho hx hc hd=> ?_⟩,fun s=>hS s,hO,h⟩
  ·rw[hgetB] at hc
   split at hc
   ·rename_i hj
    cases hc
    subst hj
    obtain⟨k,k1,k2,k3⟩:=hI.bxok id bs hb
    refine⟨k,k1,k2,fun t d hd=> ?_⟩
    rw[List.getElem?_set] at hd
    split at hd
    ·split at hd
     ·rename_i hti hl
      cases hd
      subst hti
      have hgi:bs.getD i .undef=bs[i]:=by simp[List.getD,List.getElem?_eq_getElem hl]
      rw[hgi]
      obtain⟨⟨x,h4,h5⟩,h6⟩:=k3 i _ (List.getElem?_eq_getElem hl)
      exact⟨⟨x,h4,z97a o h5⟩,h6⟩
     ·cases hd
    ·exact k3 t d hd
   ·exact hI.bxok id cs hc
  ·rw[hgetB] at hid
   split at hid
   ·cases hid
   ·exact hI.nobx id hid
  ·rw[hgetB,if_neg (by omega)] at hc
   exact hI.obok id x cs ho hx hc hd

theorem z0H (gh:z7I) (hF:gh.cold=true) (hR:Rel K base n st a w) (hok:z8q gh st):Rel K base n (z2b gh st) a w:=by
 cases gh with
 |thaw s id=>cases hF
 |thawB b i id=>cases hF
 |rebase ks=>cases hF
 |cool s id=>cases hF
 |coolB b i id=>cases hF
 |unorg s=>exact z3mb s hR
 |hideB b i=>exact z9lb b i hR hok
 |reB b i o=>exact z87b b i o hR hok
 |keep l=>exact z89 l hR
 |drop ids=>exact z0Hb ids hR hok
 |freeze ids=>exact z07a ids hR hok
 |norm ids=>
  obtain⟨g,hI,h⟩:=hR
  refine⟨g,?_,h⟩
  have:(z2b (.norm ids) st).getB=st.getB:=funext fun id=>by
   have e:(z2b (.norm ids) st).getB id=(lk (ids.map fun id=>(id,st.getB id)) id).join:=rfl
   rw[e]
   have:∀l:List Nat,lk (l.map fun id=>(id,st.getB id)) id=if id∈l then some (st.getB id) else none:=fun l=>by
    induction l with
    |nil=>simp[lk]
    |cons t l ih=>
     simp only[List.map_cons,lk,ih,List.mem_cons]
     by_cases h:id=t
     ·subst h;simp
     ·simp[h]
   rw[this]
   by_cases hi:id∈ids
   ·rw[if_pos hi];rfl
   ·rw[if_neg hi]
    have:lk st.box id=none:=z97 fun p hp e=>hi (e▸hok p hp)
    simp[ASt.getB,this]
  rw[this]
  exact hI

theorem z3ob:∀(gs:List z7I) {st:ASt},gs.all z7I.cold=true→Rel K base n st a w→z9qb gs st→Rel K base n (z7xa gs st) a w
 |[],_,_,hR,_=>hR
 |g::gs,_,hF,hR,hok=>z3ob gs (by simp only[List.all_cons,Bool.and_eq_true] at hF;exact hF.2) (z0H g (by simp only[List.all_cons,Bool.and_eq_true] at hF;exact hF.1) hR hok.1) hok.2

end
end Go.Abs
end

section
set_option linter.unusedVariables false
namespace Go.Abs

def mark (D:Nat):Deferred:={target:= .collected D,args:= #[]}
structure z36 (K:Cx) (base base':z1P):Prop where
 inv:∀g w bx,Inv K base' g w bx→Inv K base g w bx
 org:z9k base.S base.w0 base'.S base'.w0
 fr:Fr base.w0.heap.size base.W base.w0 base'.w0
 wr:∀b,base'.W b→b<base.w0.heap.size→base.W b
 marks:∃ms:List Nat,base'.dl=ms.map mark++base.dl∧ms.Nodup∧(∀D∈ms,base.w0.heap.size≤D∧D<base'.w0.heap.size)∧
  ∀g w bx,Inv K base' g w bx→∀D∈ms,(g.S D=0∧(∀id,g.mu id≠some D)∧g.ow D=none)∧D<w.heap.size∧w.heap[D]? =some (.deferred (some []))

theorem z36.refl (K:Cx) (base:z1P):z36 K base base:=
 ⟨fun _ _ _ h=>h,z9k.refl _ _,Fr.refl _ _ _,fun _ h _=>h,[],rfl,List.nodup_nil,by simp,fun _ _ _ _ D hD=>by cases hD⟩
theorem z36.trans {K:Cx} {a b c:z1P} (h:z36 K a b) (k:z36 K b c):z36 K a c:=by
 obtain⟨ms,e1,n1,h1,i1⟩:=h.marks
 obtain⟨ms',e2,n2,h2,i2⟩:=k.marks
 refine⟨fun g w bx hi=>h.inv g w bx (k.inv g w bx hi),h.org.trans k.org,h.fr.trans (k.fr.mono h.fr.size fun x hx hw=>h.wr x hw hx),fun x hw hx=>h.wr x (k.wr x hw (Nat.lt_of_lt_of_le hx h.fr.size)) hx,ms'++ms,?_,?_,?_,?_⟩
 ·rw[e2,e1,List.map_append,List.append_assoc]
 ·refine List.nodup_append.2 ⟨n2,n1,fun x hx y hy e=> ?_⟩
  subst e
  have:=(h2 x hx).1
  have:=(h1 x hy).2
  omega
 ·intro D hD
  rcases List.mem_append.1 hD with hD|hD
  ·exact⟨Nat.le_trans h.fr.size (h2 D hD).1,(h2 D hD).2⟩
  ·exact⟨(h1 D hD).1,Nat.lt_of_lt_of_le (h1 D hD).2 k.fr.size⟩
 ·intro g w bx hi D hD
  rcases List.mem_append.1 hD with hD|hD
  ·exact i2 g w bx hi D hD
  ·exact i1 g w bx (k.inv g w bx hi) D hD

def z1kc (K:Cx) (base:z1P) (n:Nat) (Q:z0n→ASt→Prop):Exit→Act→World→Prop
 | .normal,a,w=>∃base',z36 K base base'∧∃st,Rel K base' n st a w∧Q .normal st
 | .exit id,a,w=>∃base',z36 K base base'∧∃st,Rel K base' n st a w∧Q (.exit id) st
 | .ret,a,w=>∃base',z36 K base base'∧∃st,Rel K base' n st a w∧Q .ret st
 |_,_,_=>False
def z2Ua (g:Gh) (b:Nat):Prop:=g.S b=0∧(∀id,g.mu id≠some b)∧g.ow b=none
theorem z2Ua.wr {g:Gh} {b:Nat} (h:z2Ua g b):¬Wr g b:=by
 rintro(⟨id,hi⟩|ho)
 ·exact h.2.1 id hi
 ·exact ho h.2.2

section
variable {K : Cx} {base : z1P} {g g' : Gh} {A B : World} {bx bx' : Nat → Option (List z2a)} {O : Nat → Prop} {dl : List Deferred}

theorem z2Ya (hfr:Fr A.heap.size O A B) (h:∀b,O b→z2Ua g b):z9k g.S A g.S B:=fun b i x hi hc=>by
 have hb:b<A.heap.size:=World.block_lt_of_cell? A ⟨b,i,none⟩ hc
 have hO:¬O b:=fun ho=>by have:=(h b ho).1;omega
 refine⟨hi,?_⟩
 rw[World.cell?_of_block (w:=A) (a:=⟨b,i,none⟩) (hfr.block b hb hO)]
 exact hc
theorem z3pc (hfr:Fr A.heap.size O A B) (h:∀b,O b→z2Ua g b) (hlt:∀b l,g.ow b=some l→b<A.heap.size) (m:Loc):z7C g A g B m m:=fun b hb=>by
 refine⟨hb,rfl,fun o n ht=>z00 (hfr.block b (hlt b m hb) fun ho=> ?_) ht⟩
 have:=(h b ho).2.2
 rw[hb] at this;cases this
theorem z2Lb (hfr:Fr A.heap.size O A B) (h:∀b,O b→z2Ua g b) (hlt:∀b l,g.ow b=some l→b<A.heap.size) {d:z2a} {v:Value} {l:Option Loc} (hr:Rep K.toCon g A l d v):Rep K.toCon g B l d v:=
 Rep.mono (z2Ya hfr h) d v l l (fun _ _ _ hb=>hb) (fun m hm=>⟨m,hm,z3pc hfr h hlt m⟩) hr

theorem z8xc (hI:Inv K base g A bx) (hfr:Fr A.heap.size O A B) (h:∀b,O b→z2Ua g b∧(base.w0.heap.size≤b∨base.W b)):Inv K base g B bx:=by
 have h1:∀b,O b→z2Ua g b:=fun b hb=>(h b hb).1
 have hlt:∀b l,g.ow b=some l→b<A.heap.size:=fun b l hb=>(hI.owW b l hb).2
 have hk:=z2Ya hfr h1
 refine⟨hI.fr.trans (hfr.mono hI.fr.size fun k hk ho=> ?_),hI.sS,hI.inj,fun id cs hc=> ?_,hI.nobx,fun id b hb=> ?_,fun b l hl=> ?_,fun n hn=>z0f.mono hk _ _ _ (hI.glob n hn),hI.kp.trans hk,fun id b cs ho hb hc hd=>z2U.keep (hI.obok id b cs ho hb hc hd) (hfr.block b (hI.muW id b hb).2.1 fun hO=>(h1 b hO).2.1 id hb) fun k hk'=>⟨hk',hfr.block k (hlt k _ hk') fun hO=>by have:=(h1 k hO).2.2;rw[hk'] at this;cases this⟩⟩
 ·rcases(h k ho).2 with h2|h2
  ·omega
  ·exact h2
 ·obtain⟨b,k1,k2,k3⟩:=hI.bxok id cs hc
  have hbk:B.heap[b]? =A.heap[b]? :=hfr.block b (hI.muW id b k1).2.1 fun ho=>(h1 b ho).2.1 id k1
  refine⟨b,k1,k2,fun i d hi=> ?_⟩
  obtain⟨⟨x,hx,hr⟩,hz⟩:=k3 i d hi
  refine⟨⟨x,?_,z2Lb hfr h1 hlt hr⟩,?_⟩
  ·rw[World.cell?_of_block (w:=A) (a:=⟨b,i,none⟩) hbk];exact hx
  ·simp only[World.frozen?,hbk] at hz⊢;exact hz
 ·obtain⟨k1,k2,k3⟩:=hI.muW id b hb
  exact⟨k1,Nat.lt_of_lt_of_le k2 hfr.size,k3⟩
 ·obtain⟨k1,k2⟩:=hI.owW b l hl
  exact⟨k1,Nat.lt_of_lt_of_le k2 hfr.size⟩

theorem z0sa (hI:Inv K base g A bx) {b:Nat} (h:Wr g b):base.w0.heap.size≤b∨base.W b:=by
 rcases h with⟨id,hi⟩|ho
 ·exact(hI.muW id b hi).1
 ·cases hl:g.ow b with
  |none=>exact absurd hl ho
  |some l=>exact(hI.owW b l hl).1
theorem rebase (hI:Inv K base g A bx):Inv K ⟨A,Wr g,g.S,dl⟩ g A bx:=
 ⟨Fr.refl _ _ _,fun _ _ _=>rfl,hI.inj,hI.bxok,hI.nobx,fun id b hb=>⟨.inr (.inl ⟨id,hb⟩),(hI.muW id b hb).2⟩,fun b l hl=>⟨.inr (.inr (by rw[hl];simp)),(hI.owW b l hl).2⟩,hI.glob,z9k.refl _ _,hI.obok⟩
theorem z5Fc (hI:Inv K base g A bx) (h:Inv K ⟨A,Wr g,g.S,dl⟩ g' B bx'):Inv K base g' B bx':=by
 have hw:∀b,(A.heap.size≤b∨Wr g b)→base.w0.heap.size≤b∨base.W b:=fun b hb=>by
  rcases hb with hb|hb
  ·exact .inl (Nat.le_trans hI.fr.size hb)
  ·exact z0sa hI hb
 refine⟨hI.fr.trans (h.fr.mono hI.fr.size fun k hk hwk=> ?_),fun b hb hnw=> ?_,h.inj,h.bxok,h.nobx,fun id b hb=> ?_,fun b l hl=> ?_,h.glob,hI.kp.trans h.kp,h.obok⟩
 ·rcases z0sa hI hwk with hx|hx
  ·omega
  ·exact hx
 ·have h1:¬Wr g b:=fun hx=>by
   rcases z0sa hI hx with hy|hy
   ·omega
   ·exact hnw hy
  rw[h.sS b (Nat.lt_of_lt_of_le hb hI.fr.size) h1]
  exact hI.sS b hb hnw
 ·obtain⟨k1,k2⟩:=h.muW id b hb
  exact⟨hw b k1,k2⟩
 ·obtain⟨k1,k2⟩:=h.owW b l hl
  exact⟨hw b k1,k2⟩
theorem z1Ia (hI:Inv K base g A bx):z9k base.S base.w0 (z1P.S ⟨A,Wr g,g.S,dl⟩) A:=fun b i x hi hc=>by
 have hb:b<base.w0.heap.size:=World.block_lt_of_cell? base.w0 ⟨b,i,none⟩ hc
 unfold z1P.S at hi
 split at hi
 ·rename_i h
  have h1:¬Wr g b:=fun hx=>by
   rcases z0sa hI hx with hy|hy
   ·omega
   ·exact h.2 hy
  refine⟨?_,?_⟩
  ·unfold z1P.S
   rw[if_pos ⟨Nat.lt_of_lt_of_le hb hI.fr.size,h1⟩]
   show i<g.S b
   rw[hI.sS b h.1 h.2]
   exact hi
  ·rw[World.cell?_of_block (w:=base.w0) (a:=⟨b,i,none⟩) (hI.fr.block b h.1 h.2)]
   exact hc
 ·omega
end
end Go.Abs
end

section
set_option linter.unusedVariables false
namespace Go.Abs
section
variable {K : Cx} {base : z1P} {n : Nat} {st : ASt} {a : Act} {w : World}

theorem z28a {st:ASt} (h:∀p∈st.env,z1f p.2=false) (s:Nat):z1f (st.get s)=false:=by
 unfold ASt.get
 cases hl:lk st.env s with
 |some d=>exact h _ (z28 hl)
 |none=>exact z4R _
theorem z4pa {st:ASt} {id:Nat} {cs:List z2a} (h:st.getB id=some cs):(id,some cs)∈st.box:=by
 simp only[ASt.getB] at h
 cases hl:lk st.box id with
 |none=>rw[hl] at h;cases h
 |some o=>rw[hl] at h;simp only[Option.join_some] at h;subst h;exact z28 hl
theorem z76b {g:Gh} {bx:Nat→Option (List z2a)} (hI:Inv K base g w bx) {id b:Nat} (h:g.mu id=some b):g.S b=0:=by
 cases hb:bx id with
 |none=>rw[hI.nobx id hb] at h;cases h
 |some cs=>
  obtain⟨b',h1,h2,_⟩:=hI.bxok id cs hb
  rw[h] at h1;cases h1;exact h2
theorem z19a (ks:List Nat) (hR:Rel K base n st a w) (hok:z8q (.rebase ks) st):∃base',z36 K base base'∧z4ua K base'∧Rel K base' n (z2b (.rebase ks) st) a w:=by
 obtain⟨g,hI,hS,hO,hd,hn⟩:=hR
 obtain⟨hk,he,hbx⟩:=hok
 let g':Gh:={g with ow:=fun _=>none}
 have top:∀{d:z2a} {v:Value} {l l':Option Loc},z1f d=false→Rep K.toCon g w l d v→Rep K.toCon g' w l' d v:=fun {d v l l'} ho hr=>
  z5T l' ho (Rep.mono (g:=g) (g':=g') (z9k.refl _ _) d v none none (fun _ _ _ h=>h) (fun _ h=>by cases h) (z9aa hr))
 have hI':Inv K base g' w st.getB:=by
  refine⟨hI.fr,hI.sS,hI.inj,fun id cs hc=> ?_,hI.nobx,fun id b hb=> ?_,fun b l hb=>(by cases hb),hI.glob,hI.kp,fun id b cs ho hb hc hd'=> ?_⟩
  ·obtain⟨b,k1,k2,k3⟩:=hI.bxok id cs hc
   refine⟨b,k1,k2,fun i d hi=> ?_⟩
   obtain⟨⟨x,hx,hr⟩,hz⟩:=k3 i d hi
   exact⟨⟨x,hx,top ((hbx _ (z4pa hc)).2 cs rfl d (z3l hi)) hr⟩,hz⟩
  ·obtain⟨k1,k2,_⟩:=hI.muW id b hb
   exact⟨k1,k2,rfl⟩
  ·have:=(hbx _ (z4pa hc)).1
   simp only at this
   omega
 have hW:∀b,Wr g' b→g.S b=0:=fun b hb=>by
  rcases hb with⟨id,h⟩|h
  ·exact z76b hI h
  ·exact absurd rfl h
 have hkS:z9k g.S w (z1P.S ⟨w,Wr g',g'.S,base.dl⟩) w:=fun b i x hi hc=>by
  refine⟨?_,hc⟩
  unfold z1P.S
  rw[if_pos ⟨World.block_lt_of_cell? w ⟨b,i,none⟩ hc,fun h=>by have:=hW b h;omega⟩]
  exact hi
 have hB:=rebase (dl:=base.dl) hI'
 refine⟨⟨w,Wr g',g'.S,base.dl⟩,⟨fun g2 w2 bx h=>z5Fc hI' h,z1Ia hI',hI'.fr,fun b hb hlt=>(z0sa hI' hb).resolve_left (by omega),[],by simp,List.nodup_nil,by simp,fun _ _ _ _ D hD=>by cases hD⟩,⟨hW,hI.glob⟩,g',hB,fun s=> ?_,fun s d hs=> ?_,hd,hn⟩
 ·have hg:(z2b (.rebase ks) st).get s=if s∈ks then dem (st.get s) else st.get s:=by
   show(match lk (st.env.filter fun p=> !ks.contains p.1) s with|some d=>d|none=>dem ((lk ((ks.map fun s=>(s,st.get s))++st.org) s).getD .undef))=_
   rw[z5H (fun k=> !ks.contains k)]
   by_cases h:s∈ks
   ·have:lk ((ks.map fun s=>(s,st.get s))++st.org) s=some (st.get s):=by
     rw[z9p,z6R,if_pos h];rfl
    simp[h,this]
   ·have:lk ((ks.map fun s=>(s,st.get s))++st.org) s=lk st.org s:=by
     rw[z9p,z6R,if_neg h];rfl
    rw[if_pos (by simpa using h),this,if_neg h];rfl
  rw[hg]
  split
  ·exact top (z4R _) (Rep.dem none (hS s))
  ·exact top (z28a he s) (hS s)
 ·have hl:lk (z2b (.rebase ks) st).org s=if s∈ks then some (st.get s) else lk st.org s:=by
   show lk ((ks.map fun s=>(s,st.get s))++st.org) s=_
   rw[z9p,z6R]
   by_cases h:s∈ks
   ·rw[if_pos h,if_pos h];rfl
   ·rw[if_neg h,if_neg h];rfl
  rw[hl] at hs
  split at hs
  ·rename_i h
   cases hs
   exact z7c.mono hkS _ _ (Rep.pure _ _ _ (hk s h).1 (hS s))
  ·exact z7c.mono (z1Ia hI') d _ (hO s d hs)

structure z2pc (K:Cx) (base:z1P) (g g':Gh) (w:World) (id b:Nat) (L:Loc):Prop where
 keeps:z9k g.S w g'.S w
 rep:∀{d:z2a} {v:Value} {l:Loc},id∉z0r d→Rep K.toCon g w (some l) d v→Rep K.toCon g' w (some l) d v
theorem z0Ia {g:Gh} {bx:Nat→Option (List z2a)} (hI:Inv K base g w bx) {id:Nat} (h5:500000≤id) (h6:id<1000000) {e n c:Nat} {l:List z2a} (hl:bx id=some l) (hnc:n≤c) (hll:l.length=c*e) (hmf:z0c (l.take (n*e))=true) (L:Loc) {v:Value} {l0:Option Loc}
  (hrv:Rep K.toCon g w l0 (.bv id e 0 n c) v):∃(b:Nat) (g':Gh),g.mu id=some b∧g'={S:=fun x=>if x=b then n*e else g.S x,ow:=fun x=>if x=b then some L else g.ow x,mu:=fun j=>if j=id then none else g.mu j}∧z2pc K base g g' w id b L∧
   Rep K.toCon g' w (some L) (.sl (.own e) none n (l.take (n*e))) v∧
   ∀bx':Nat→Option (List z2a),(bx' id=none)→(∀j,1000000≤j→bx' j=bx j)→(∀j,j≠id→(bx' j).isSome=(bx j).isSome)→
    (∀j cs,bx' j=some cs→∃b',g.mu j=some b'∧g.S b'=0∧∀i d,cs[i]? =some d→(∃x,w.cell? ⟨b',i,none⟩=some x∧Rep K.toCon g' w (some (.cell j i)) d x)∧w.frozen? ⟨b',i,none⟩=false)→Inv K base g' w bx':=by
 obtain⟨b,k1,k2,k3⟩:=hI.bxok id l hl
 simp only[Rep] at hrv
 obtain⟨b',cap,o,hb',hv,hncap,hccap,ho,hex⟩:=hrv
 rw[k1] at hb';cases hb'
 have hcap:=hex h5
 subst hcap
 have howb:=(hI.muW id b k1).2.2
 obtain⟨hwb,hbsz,_⟩:=hI.muW id b k1
 let g':Gh:={S:=fun x=>if x=b then n*e else g.S x,ow:=fun x=>if x=b then some L else g.ow x,mu:=fun j=>if j=id then none else g.mu j}
 have hk:z9k g.S w g'.S w:=fun b'' i x hi hc=>by
  refine⟨?_,hc⟩
  have:b''≠b:=fun e=>by subst e;omega
  simp only[g',if_neg this];exact hi
 have rep:∀{d:z2a} {v:Value} {l:Loc},id∉z0r d→Rep K.toCon g w (some l) d v→Rep K.toCon g' w (some l) d v:=fun {d v l} hr h=>
  Rep.mono (g:=g) (g':=g') hk d v (some l) (some l) (fun j hj b'' hb''=>by have:j≠id:=fun e=>hr (e▸hj);simp only[g',if_neg this];exact hb'') (fun m hm=>⟨m,hm,fun b'' hb''=>by
   have:b''≠b:=fun e=>by rw[e,howb] at hb'';cases hb''
   exact⟨by simp only[g',if_neg this];exact hb'',by simp only[g',if_neg this],fun _ _ h=>h⟩⟩) h
 have hle:n*e≤c*e:=Nat.mul_le_mul_right _ hnc
 have hcells:z0f K.toCon g'.S w (l.take (n*e)) b 0:=z0f.mk fun i d hi=>by
  have hi':=hi
  rw[List.getElem?_take] at hi'
  split at hi'
  ·rename_i hlt
   obtain⟨⟨x,hx,hr⟩,_⟩:=k3 i d hi'
   rw[Nat.zero_add]
   refine⟨by simp only[g',if_true];exact hlt,x,hx,?_⟩
   have hmd:z2f d=true:=z2qa hmf (z3l hi)
   exact Rep.pure (g:=g') d x none (z3ra d hmd) (z5K (g':=g') (w':=w) d x _ none hmd hr)
  ·cases hi'
 have hth:w.there b 0 (c*e):=fun j hj=>by
  obtain⟨⟨x,hx,_⟩,hz⟩:=k3 j _ (List.getElem?_eq_getElem (by omega))
  rw[Nat.zero_add]
  exact⟨by rw[hx];rfl,hz⟩
 refine⟨b,g',k1,rfl,⟨hk,rep⟩,?_,fun bx' h1 h2 h3 h4=> ?_⟩
 ·simp only[Rep]
  by_cases hc0:n=0∧c=0
  ·obtain⟨rfl,rfl⟩:=hc0
   have hnil:l.take (0*e)=[]:=by rw[Nat.zero_mul];rfl
   rw[hnil]
   subst hv
   exact⟨by simp only[z7c];exact .inr ⟨_,rfl,trivial,trivial,by simp⟩,fun l' _=> .inl (.inr ⟨⟨_,rfl⟩,rfl⟩)⟩
  ·have ho0:o=0:=ho.resolve_right hc0
   subst ho0
   refine⟨by simp only[z7c];exact .inl ⟨b,0,c,hv,hncap,hcells,by simp,by simp⟩,fun l' hl'=> .inr ?_⟩
   cases hl'
   exact⟨b,c,hv,hncap,by rw[List.length_take,hll,Nat.min_eq_left hle],by simp only[g',if_true],by simp only[g',if_true],hth⟩
 ·refine⟨hI.fr,fun b'' hb'' hw=> ?_,fun i j x hi hj=> ?_,fun j cs hj=> ?_,fun j hj=> ?_,fun j x hx=> ?_,fun x L' hx=> ?_,fun m hm=>z0f.mono hk _ _ _ (hI.glob m hm),hI.kp.trans hk,fun j x cs ho' hb' hc hd=> ?_⟩
  ·have:b''≠b:=fun e=>by
    subst e
    rcases hwb with h|h
    ·omega
    ·exact hw h
   simp only[g',if_neg this]
   exact hI.sS b'' hb'' hw
  ·simp only[g'] at hi hj
   split at hi
   ·cases hi
   ·split at hj
    ·cases hj
    ·exact hI.inj i j x hi hj
  ·obtain⟨b2,q1,q2,q3⟩:=h4 j cs hj
   have hjid:j≠id:=fun e=>by rw[e,h1] at hj;cases hj
   have hbb:b2≠b:=fun e=>hjid (hI.inj _ _ _ (e▸q1) k1)
   exact⟨b2,by simp only[g',if_neg hjid];exact q1,by simp only[g',if_neg hbb];exact q2,q3⟩
  ·by_cases hjid:j=id
   ·simp only[g',if_pos hjid]
   ·simp only[g',if_neg hjid]
    refine hI.nobx j ?_
    have:=h3 j hjid
    rw[hj] at this
    cases hbj:bx j with
    |none=>rfl
    |some _=>rw[hbj] at this;cases this
  ·simp only[g'] at hx
   split at hx
   ·cases hx
   ·rename_i hjid
    obtain⟨q1,q2,q3⟩:=hI.muW j x hx
    have:x≠b:=fun e=>hjid (hI.inj _ _ _ (e▸hx) k1)
    exact⟨q1,q2,by simp only[g',if_neg this];exact q3⟩
  ·simp only[g'] at hx
   split at hx
   ·rename_i he;subst he;exact⟨hwb,hbsz⟩
   ·exact hI.owW x L' hx
  ·have hjid:j≠id:=fun e=>by omega
   rw[h2 j ho'] at hc
   simp only[g',if_neg hjid] at hb'
   refine z2U.keep (hI.obok j x cs ho' hb' hc hd) rfl fun q hq=>⟨?_,rfl⟩
   have hqb:q≠b:=fun e=>by rw[e,howb] at hq;cases hq
   simp only[g',if_neg hqb];exact hq

theorem z5ib {id:Nat} {cs:Option (List z2a)} {d:z2a} (h:z5Bc id cs d):∃e n c l,d= .bv id e 0 n c∧n≤c∧cs=some l∧l.length=c*e∧z0c (l.take (n*e))=true:=by
 unfold z5Bc at h
 split at h
 ·obtain⟨rfl,rfl,h1,l,h2,h3,h4⟩:=h
  exact⟨_,_,_,l,rfl,h1,h2,h3,h4⟩
 ·exact h.elim
theorem z2gb (b0 i0 id:Nat) (hR:Rel K base n st a w) (hok:z8q (.coolB b0 i0 id) st):Rel K base n (z2b (.coolB b0 i0 id) st) a w:=by
 obtain⟨g,hI,hS,hO,h⟩:=hR
 obtain⟨h5,h6,hb5,hmid,henv,hbox⟩:=hok
 cases hgb:st.getB b0 with
 |none=>rw[hgb] at hmid;exact hmid.elim
 |some bs=>
 rw[hgb] at hmid
 obtain⟨hilt,hbv,hnr⟩:=hmid
 obtain⟨e,m,c,l,hget,hnc,hl,hll,hmf⟩:=z5ib hbv
 have hgi:bs[i0]? =some (.bv id e 0 m c):=by
  rw[List.getElem?_eq_getElem hilt]
  rw[List.getD_eq_getElem?_getD,List.getElem?_eq_getElem hilt] at hget
  exact congrArg some hget
 obtain⟨bb,kb1,kb2,kb3⟩:=hI.bxok b0 bs hgb
 obtain⟨⟨v,hvc,hrv⟩,hfzv⟩:=kb3 i0 _ hgi
 obtain⟨b,g',hmu,hg',⟨hk,rep⟩,hown,mkI⟩:=z0Ia hI h5 h6 hl hnc hll hmf (.cell b0 i0) hrv
 have hrun:z2b (.coolB b0 i0 id) st={st with box:=(b0,some (bs.set i0 (.sl (.own e) none m (l.take (m*e)))))::(id,none)::st.box}:=by
  simp only[z2b,hgb,hget,hl,Option.getD_some]
 rw[hrun]
 have hne:b0≠id:=by omega
 have hgetB:∀j,({st with box:=(b0,some (bs.set i0 (.sl (.own e) none m (l.take (m*e)))))::(id,none)::st.box}:ASt).getB j=if j=b0 then some (bs.set i0 (.sl (.own e) none m (l.take (m*e)))) else if j=id then none else st.getB j:=fun j=>by
  simp only[ASt.getB,lk]
  split
  ·rfl
  ·split<;>rfl
 have hI':=mkI ({st with box:=(b0,some (bs.set i0 (.sl (.own e) none m (l.take (m*e)))))::(id,none)::st.box}:ASt).getB (by rw[hgetB,if_neg (by omega),if_pos rfl]) (fun j hj=>by rw[hgetB,if_neg (by omega),if_neg (by omega)])
  (fun j hj=>by
   rw[hgetB]
   by_cases hjb:j=b0
   ·subst hjb;rw[if_pos rfl,hgb];rfl
   ·rw[if_neg hjb,if_neg hj]) (fun j cs hj=>by
   rw[hgetB] at hj
   split at hj
   ·rename_i hjb
    subst hjb
    cases hj
    refine⟨bb,kb1,kb2,fun i d hi=> ?_⟩
    have hi0:=hi
    rw[List.getElem?_set] at hi
    split at hi
    ·rename_i he
     subst he
     first|(rw[if_pos hilt] at hi;cases hi)|cases hi
     exact⟨⟨v,hvc,hown⟩,hfzv⟩
    ·rename_i hne'
     obtain⟨⟨y,h4,h5'⟩,h6'⟩:=kb3 i d hi
     refine⟨⟨y,h4,rep (fun hr=>hnr (z10 (List.mem_of_getElem? (i:=i) (by rw[List.getElem?_set,if_neg hne'];exact hi)) hr)) h5'⟩,h6'⟩
   ·rename_i hjb
    split at hj
    ·cases hj
    ·rename_i hjid
     obtain⟨b2,q1,q2,q3⟩:=hI.bxok j cs hj
     refine⟨b2,q1,q2,fun i d hi=> ?_⟩
     obtain⟨⟨y,h4,h5'⟩,h6'⟩:=q3 i d hi
     refine⟨⟨y,h4,rep (fun hr=> ?_) h5'⟩,h6'⟩
     rcases hbox _ (z4pa hj) cs rfl with h|h|h
     ·exact hjid h
     ·exact hjb h
     ·exact h (z10 (z3l hi) hr))
 refine⟨g',hI',fun t=> ?_,hO,h⟩
 have hgt:({st with box:=(b0,some (bs.set i0 (.sl (.own e) none m (l.take (m*e)))))::(id,none)::st.box}:ASt).get t=st.get t:=rfl
 rw[hgt]
 cases hlt:lk st.env t with
 |some d=>
  have h1:=hS t
  have hd:st.get t=d:=by unfold ASt.get;rw[hlt]
  rw[hd] at h1⊢
  exact rep (henv _ (z28 hlt)) h1
 |none=>
  have hd:st.get t=dem ((lk st.org t).getD .undef):=by unfold ASt.get;rw[hlt]
  rw[hd]
  cases hs:lk st.org t with
  |none=>simp[Abs.dem,Rep]
  |some d=>exact z7c.dem (g:=g') _ (z7c.mono (z9J hI') d _ (hO t d hs))
theorem z5Hb (s id:Nat) (hR:Rel K base n st a w) (hok:z8q (.cool s id) st):Rel K base n (z2b (.cool s id) st) a w:=by
 obtain⟨g,hI,hS,hO,h⟩:=hR
 obtain⟨h5,h6,hbv,henv,hbox⟩:=hok
 obtain⟨e,m,c,l,hget,hnc,hl,hll,hmf⟩:=z5ib hbv
 have hrv:=hS s
 rw[hget] at hrv
 obtain⟨b,g',hmu,hg',⟨hk,rep⟩,hown,mkI⟩:=z0Ia hI h5 h6 hl hnc hll hmf (.slot s) hrv
 have hrun:z2b (.cool s id) st={st with env:=(s,.sl (.own e) none m (l.take (m*e)))::st.env,box:=(id,none)::st.box}:=by
  simp only[z2b,hget,hl,Option.getD_some]
 rw[hrun]
 have hgetB:∀j,({st with env:=(s,z2a.sl (.own e) none m (l.take (m*e)))::st.env,box:=(id,none)::st.box}:ASt).getB j=if j=id then none else st.getB j:=fun j=>by
  simp only[ASt.getB,lk]
  split<;>rfl
 have hI':=mkI ({st with env:=(s,z2a.sl (.own e) none m (l.take (m*e)))::st.env,box:=(id,none)::st.box}:ASt).getB (by rw[hgetB,if_pos rfl]) (fun j hj=>by rw[hgetB,if_neg (by omega)])
  (fun j hj=>by rw[hgetB,if_neg hj]) (fun j cs hj=>by
   rw[hgetB] at hj
   split at hj
   ·cases hj
   ·rename_i hjid
    obtain⟨b2,q1,q2,q3⟩:=hI.bxok j cs hj
    refine⟨b2,q1,q2,fun i d hi=> ?_⟩
    obtain⟨⟨y,h4,h5'⟩,h6'⟩:=q3 i d hi
    refine⟨⟨y,h4,rep (fun hr=> ?_) h5'⟩,h6'⟩
    rcases hbox _ (z4pa hj) cs rfl with h|h
    ·exact hjid h
    ·exact h (z10 (z3l hi) hr))
 refine⟨g',hI',fun t=> ?_,hO,h⟩
 by_cases ht:t=s
 ·subst ht
  have hgt:({st with env:=(t,z2a.sl (.own e) none m (l.take (m*e)))::st.env,box:=(id,none)::st.box}:ASt).get t= .sl (.own e) none m (l.take (m*e)):=by
   simp[ASt.get,lk]
  rw[hgt]
  exact hown
 ·have hgt:({st with env:=(s,z2a.sl (.own e) none m (l.take (m*e)))::st.env,box:=(id,none)::st.box}:ASt).get t=st.get t:=by
   simp only[ASt.get,lk,if_neg ht]
  rw[hgt]
  cases hlt:lk st.env t with
  |some d=>
   have h1:=hS t
   have hd:st.get t=d:=by unfold ASt.get;rw[hlt]
   rw[hd] at h1⊢
   exact rep ((henv _ (z28 hlt)).resolve_left ht) h1
  |none=>
   have hd:st.get t=dem ((lk st.org t).getD .undef):=by unfold ASt.get;rw[hlt]
   rw[hd]
   cases hs:lk st.org t with
   |none=>simp[Abs.dem,Rep]
   |some d=>exact z7c.dem (g:=g') _ (z7c.mono (z9J hI') d _ (hO t d hs))
theorem z7za (gh:z7I) (hF:z4ua K base) (hR:Rel K base n st a w) (hok:z8q gh st):∃base',z36 K base base'∧z4ua K base'∧Rel K base' n (z2b gh st) a w:=by
 cases gh with
 |thaw s id=>exact⟨base,z36.refl _ _,hF,z4ub s id hF hR hok⟩
 |thawB b i id=>exact⟨base,z36.refl _ _,hF,z6gb b i id hF hR hok⟩
 |rebase ks=>exact z19a ks hR hok
 |cool s id=>exact⟨base,z36.refl _ _,hF,z5Hb s id hR hok⟩
 |coolB b i id=>exact⟨base,z36.refl _ _,hF,z2gb b i id hR hok⟩
 |unorg s=>exact⟨base,z36.refl _ _,hF,z0H _ rfl hR hok⟩
 |hideB b i=>exact⟨base,z36.refl _ _,hF,z0H _ rfl hR hok⟩
 |reB b i o=>exact⟨base,z36.refl _ _,hF,z0H _ rfl hR hok⟩
 |keep l=>exact⟨base,z36.refl _ _,hF,z0H _ rfl hR hok⟩
 |drop ids=>exact⟨base,z36.refl _ _,hF,z0H _ rfl hR hok⟩
 |freeze ids=>exact⟨base,z36.refl _ _,hF,z0H _ rfl hR hok⟩
 |norm ids=>exact⟨base,z36.refl _ _,hF,z0H _ rfl hR hok⟩
theorem z7Xa:∀(gs:List z7I) {base:z1P} {st:ASt},z4ua K base→Rel K base n st a w→z9qb gs st→∃base',z36 K base base'∧z4ua K base'∧Rel K base' n (z7xa gs st) a w
 |[],base,_,hF,hR,_=>⟨base,z36.refl _ _,hF,hR⟩
 |g::gs,base,st,hF,hR,hok=>by
  obtain⟨b1,e1,f1,r1⟩:=z7za g hF hR hok.1
  obtain⟨b2,e2,f2,r2⟩:=z7Xa gs f1 r1 hok.2
  exact⟨b2,e1.trans e2,f2,r2⟩
end
end Go.Abs
end

section
set_option linter.unusedVariables false
namespace Go.Abs

mutual
def toV:z2a→Value
 | .lit v=>v
 | .agg cs=> .agg (z28c cs).toArray
 | .tup cs=> .tuple (z28c cs).toArray
 |_=>undef
def z28c:List z2a→List Value
 |[]=>[]
 |c::cs=>toV c::z28c cs
end
structure z4ad (K:Cx) (S:Nat→Nat) (w:World) (lv:List Nat) (B:Nat→Option Nat) (y:List z2a) (vy:List Value):Prop where
 len:y.length=vy.length
 at':∀(i:Nat) d v,y[i]? =some d→vy[i]? =some v→if i∈lv then∃b cs,B i=some b∧d= .ep cs∧v= .pointer (some ⟨b,0,none⟩)∧S b=0∧b<w.heap.size∧z0c cs=true∧∀(j:Nat) e,cs[j]? =some e→w.cell? ⟨b,j,none⟩=some (toV e)∧w.frozen? ⟨b,j,none⟩=false else z7c K.toCon S w d v
 inj:∀i j b,B i=some b→B j=some b→i=j
 dom:∀i b,B i=some b→i∈lv
 lt:∀i∈lv,i<y.length

section
variable {K : Cx} {base : z1P} {n : Nat} {st : ASt} {a : Act} {w : World}
theorem z3pb (A:World) (l:Nat) (o:Obj):Fr A.heap.size (fun b=>b=l) A (A.putObj l o):=by
 refine⟨rfl,rfl,rfl,by simp[World.putObj],fun k _ hk=> ?_⟩
 exact World.putObj_heap_other hk

theorem z4ad.keep {S S':Nat→Nat} {w':World} {lv:List Nat} {B:Nat→Option Nat} {y:List z2a} {vy:List Value} (hk:z9k S w S' w') (h0:∀i b,B i=some b→S' b=0) (hs:w.heap.size≤w'.heap.size) (hb:∀i b,B i=some b→w'.heap[b]? =w.heap[b]?) (h:z4ad K S w lv B y vy):z4ad K S' w' lv B y vy:=by
 refine⟨h.len,fun i d v hd hv=> ?_,h.inj,h.dom,h.lt⟩
 have:=h.at' i d v hd hv
 by_cases hi:i∈lv
 ·rw[if_pos hi] at this⊢
  obtain⟨b,cs,k1,k2,k3,_,k5,k6,k7⟩:=this
  refine⟨b,cs,k1,k2,k3,h0 i b k1,by omega,k6,fun j e he=> ?_⟩
  obtain⟨c1,c2⟩:=k7 j e he
  have hbk:=hb i b k1
  refine⟨?_,?_⟩
  ·rw[World.cell?_of_block (w:=w) (a:=⟨b,j,none⟩) hbk];exact c1
  ·simp only[World.frozen?,hbk] at c2⊢;exact c2
 ·rw[if_neg hi] at this⊢
  exact z7c.mono hk d v this

end
end Go.Abs
end

section
set_option linter.unusedVariables false
namespace Go.Abs
section
variable {K : Cx} {n : Nat}
theorem z5wa {F:Fence} {q:Nat} {P:Program} {fn:Func} {tmps:Array Value} {R:Ending→World→Prop}:∀(ms:List Nat) (w:World),(∀D∈ms,w.heap[D]? =some (.deferred (some [])))→ms.Nodup→
  (∀w',Fr w.heap.size (fun b=>b∈ms) w w'→∃v,(results fn tmps).run P w'= .ok v w'∧R (.returned v) w')→LeavesInM F q P fn tmps R (ms.map mark) .returning w
 |[],w,_,_,h=>h w (Fr.refl _ _ _)
 |D::ms,w,hD,hn,h=>by
  rw[List.nodup_cons] at hn
  refine⟨by simp,.inl ⟨D,w.putObj D (.deferred none),rfl,run_takeDeferred (hD D (by simp)),?_⟩⟩
  have hf:=z3pb w D (.deferred none)
  have hlt:∀x∈ms,x<w.heap.size:=fun x hx=>by
   have:=hD x (by simp[hx])
   exact(Array.getElem?_eq_some_iff.1 this).1
  refine z5wa ms _ (fun x hx=> ?_) hn.2 (fun w' hw'=>h w' ?_)
  ·rw[hf.block x (hlt x hx) (fun e=>hn.1 (e▸hx))]
   exact hD x (by simp[hx])
  ·exact(hf.mono (Nat.le_refl _) (fun k _ e=>by subst e;simp)).trans (hw'.mono (by simp[World.putObj]) (fun k _ e=>by simp[e]))

theorem z77a {base base':z1P} {st:ASt} {a:Act} {w:World} {q:Nat} {fn:Func} {R:Ending→World→Prop} (hE:z36 K base base') (hdl:base.dl=[]) (hR:Rel K base' n st a w)
  (h:∀g w',Inv K base g w' st.getB→z5e K g w' st.get a→z9vc K base' st a→∃v,(results fn a.tmps).run K.P w'= .ok v w'∧R (.returned v) w'):LeavesInM (WF none) q K.P fn a.tmps R a.defers .returning w:=by
 obtain⟨g,hI,hS,hO,hd,_⟩:=hR
 obtain⟨ms,e,hn,h1,h2⟩:=hE.marks
 have h3:=h2 g w _ hI
 rw[hd,e,hdl,List.append_nil]
 refine z5wa ms w (fun D hD=>(h3 D hD).2.2) hn fun w' hw'=>h g w' ?_ ?_ hO
 ·exact z8xc (hE.inv _ _ _ hI) hw' fun b hb=>⟨(h3 b hb).1,.inl (h1 b hb).1⟩
 ·exact fun s=>z2Lb hw' (fun b hb=>(h3 b hb).1) (fun b l hb=>(hI.owW b l hb).2) (hS s)
end
end Go.Abs
end

section
set_option linter.unusedVariables false
namespace Go.Abs
def z3oa (K:Cx) (Cd:Prop) (base:z1P) (n:Nat) (Q:z0n→ASt→Prop):Exit→Act→World→Prop
 | .normal,a,w=>∃base',(z36 K base base'∧(z4ua K base→z4ua K base')∧(Cd→base'=base))∧∃st,Rel K base' n st a w∧Q .normal st
 | .exit id,a,w=>∃base',(z36 K base base'∧(z4ua K base→z4ua K base')∧(Cd→base'=base))∧∃st,Rel K base' n st a w∧Q (.exit id) st
 | .ret,a,w=>∃base',(z36 K base base'∧(z4ua K base→z4ua K base')∧(Cd→base'=base))∧∃st,Rel K base' n st a w∧Q .ret st
 |_,_,_=>False
theorem z8la {K:Cx} {Cd:Prop} {base base':z1P} {n:Nat} {Q:z0n→ASt→Prop} (h:z36 K base base') (hf:z4ua K base→z4ua K base') (he:Cd→base'=base):∀e a w,z3oa K Cd base' n Q e a w→z3oa K Cd base n Q e a w:=by
 intro e a w hl
 cases e<;>simp only[z3oa] at hl⊢
 all_goals (obtain⟨b,⟨hb,hb',he'⟩,r⟩:=hl;exact⟨b,⟨h.trans hb,fun x=>hb' (hf x),fun hc=>(he' hc).trans (he hc)⟩,r⟩)
section
variable {K : Cx} {n : Nat} {Cd : Prop}
theorem z3Va {keep:List Nat} {gs:List z7I} {xs:List z1d} {x:Code} {Q:z0n→ASt→Prop} {base:z1P} {st:ASt} {a:Act} {w:World} {r:Option Nat} {m:Nat} (hc:z6j K n (.region keep gs xs) x=true)
  (hv:∀p∈z8a (.region keep gs xs),VB K p) (hcd:gs.all z7I.cold=true∨(z4ua K base∧¬Cd)) (h:awp K.E (.region keep gs xs) Q st) (hR:Rel K base n st a w):x.wpIn (WF r) m K.P (z3oa K Cd base n Q) a w:=by
 simp only[z6j] at hc
 simp only[awp] at h
 obtain⟨hok,hgs,hq⟩:=h
 split at hc
 ·rename_i id ops draw
  simp only[Bool.and_eq_true,Bool.or_eq_true,Bool.not_eq_true'] at hc
  obtain⟨hops,hdr⟩:=hc
  have hV':∀y∈xs,VOk K y.op:=fun y hy f hf=>hv f (by simp only[z8a,List.mem_flatMap];exact⟨y,hy,hf⟩)
  cases draw with
  |false=>
   refine wpIn_region ?_
   rw[List.range_eq_range']
   refine z11a (Q:=z3oa K Cd base n Q) hops hV' ops.size 0 st a w (by omega) hR (by simpa using hok) fun a' w' hR'=> ?_
   rcases hcd with hcd|hcd
   ·exact⟨base,⟨z36.refl _ _,fun x=>x,fun _=>rfl⟩,_,z3ob gs hcd (z89 keep hR') (by simpa using hgs),by simpa using hq⟩
   ·obtain⟨b',e1,e2,e3⟩:=z7Xa gs hcd.1 (z89 keep hR') (by simpa using hgs)
    exact⟨b',⟨e1,fun _=>e2,fun h=>absurd h hcd.2⟩,_,e3,by simpa using hq⟩
  |true=>
   rcases hdr with hdr|hdr
   ·cases hdr
   ·have hlen:=(z1Z hops).1
    have hmap:(List.range ops.size).map (xs.getD · default)=xs:=by
     apply List.ext_getElem?
     intro i
     rw[List.getElem?_map]
     by_cases hi:i<ops.size
     ·rw[List.getElem?_range hi]
      have hi':i<xs.length:=by rw[←hlen];simpa using hi
      simp[List.getD,List.getElem?_eq_getElem hi']
     ·have hi':¬i<xs.length:=by rw[←hlen];simpa using hi
      rw[List.getElem?_eq_none (by simpa using hi),List.getElem?_eq_none (by omega)]
      rfl
    refine wpIn_region_any hdr.2 ?_
    have hR1:Rel K base n st a {w with drawn:=w.drawn+1}:=by
     obtain⟨g,hI,hS,hO⟩:=hR
     exact⟨g,z6pa hI,z3fa.slots hS,hO⟩
    refine z5qb hops hV' hdr.1 ops.size (List.range ops.size) _ st a _ (by simp) (by simp) List.pairwise_lt_range (fun i=> ?_) hR1 (by rw[hmap];exact hok) (fun a' w' hR'=> ?_)
    ·simp only[List.mem_range]
     constructor
     ·intro hi
      refine⟨hi,?_⟩
      simp[Array.getD_eq_getD_getElem?,hi]
     ·exact fun h=>h.1
    ·rw[hmap] at hR'
     rcases hcd with hcd|hcd
     ·exact⟨base,⟨z36.refl _ _,fun x=>x,fun _=>rfl⟩,_,z3ob gs hcd (z89 keep hR') hgs,hq⟩
     ·obtain⟨b',e1,e2,e3⟩:=z7Xa gs hcd.1 (z89 keep hR') hgs
      exact⟨b',⟨e1,fun _=>e2,fun h=>absurd h hcd.2⟩,_,e3,hq⟩
 ·cases hc

theorem z4nb {a b:Bool} {p:Prop} (h:(a&&b)=true∨p):a=true∨p:=h.imp (fun h=>by simp only[Bool.and_eq_true] at h;exact h.1) id
theorem z6ob {a b:Bool} {p:Prop} (h:(a&&b)=true∨p):b=true∨p:=h.imp (fun h=>by simp only[Bool.and_eq_true] at h;exact h.2) id
theorem z3x:∀(c:z4a) (x:Code) (r:Option Nat) (m:Nat) (Q:z0n→ASt→Prop) (base:z1P) (st:ASt) (a:Act) (w:World),z6j K n c x=true→(∀p∈z8a c,VB K p)→z6H c=true→(z4U c=true∨(z4ua K base∧¬Cd))→awp K.E c Q st→Rel K base n st a w→x.wpIn (WF r) m K.P (z3oa K Cd base n Q) a w
 | .ghost g c,x,r,m,Q,base,st,a,w,hc,hv,hf,hcd,h,hR=>by
  simp only[z6j] at hc
  simp only[awp] at h
  have hf':z6H c=true:=by simpa only[z6H] using hf
  rcases hcd with hcd|hcd
  ·simp only[z4U,Bool.and_eq_true] at hcd
   exact z3x c x r m Q base _ a w hc hv hf' (.inl hcd.2) h.2 (z0H g hcd.1 hR h.1)
  ·obtain⟨b',e1,e2,e3⟩:=z7za g hcd.1 hR h.1
   exact wpIn_mono (z3x c x r m Q b' _ a w hc hv hf' (.inr ⟨e2,hcd.2⟩) h.2 e3) (z8la e1 (fun _=>e2) fun h=>absurd h hcd.2)
 | .holdc s t c,x,r,m,Q,base,st,a,w,hc,hv,hf,hcd,h,hR=>by
  simp only[z6j] at hc
  simp only[awp] at h
  obtain⟨V,h1,h2⟩:=h
  obtain⟨V',h3,h4⟩:=z1ib s t hR h1
  exact z3x c x r m Q base _ a w hc hv (by simpa only[z6H] using hf) (by simpa only[z4U] using hcd) (h2 V' h3) h4
 | .thawc b i id c,x,r,m,Q,base,st,a,w,hc,hv,hf,hcd,h,hR=>by
  simp only[z6j] at hc
  simp only[awp] at h
  simp only[z8a] at hv
  have hf':z6H c=true:=by simpa only[z6H] using hf
  rcases hcd with hcd|hcd
  ·simp[z4U] at hcd
  ·obtain⟨k,e3⟩:=z7qb b i id hcd.1 hR h.1
   exact z3x c x r m Q base _ a w hc hv hf' (.inr hcd) (h.2 k) e3
 | .skip,x,r,m,Q,base,st,a,w,hc,hv,hf,hcd,h,hR=>by
  simp only[z6j] at hc
  simp only[awp] at h
  split at hc
  ·exact wpIn_skip ⟨base,⟨z36.refl _ _,fun x=>x,fun _=>rfl⟩,st,hR,h⟩
  ·exact wpIn_label ⟨base,⟨z36.refl _ _,fun x=>x,fun _=>rfl⟩,st,hR,h⟩
  ·cases hc
 | .exit id,x,r,m,Q,base,st,a,w,hc,hv,hf,hcd,h,hR=>by
  simp only[z6j] at hc
  simp only[awp] at h
  split at hc
  ·simp only[beq_iff_eq] at hc
   subst hc
   exact wpIn_exit ⟨base,⟨z36.refl _ _,fun x=>x,fun _=>rfl⟩,st,hR,h⟩
  ·cases hc
 | .ret,x,r,m,Q,base,st,a,w,hc,hv,hf,hcd,h,hR=>by
  simp only[z6j] at hc
  simp only[awp] at h
  split at hc
  ·exact wpIn_ret ⟨base,⟨z36.refl _ _,fun x=>x,fun _=>rfl⟩,st,hR,h⟩
  ·cases hc
 | .bad,x,r,m,Q,base,st,a,w,hc,hv,hf,hcd,h,hR=>by
  simp only[awp] at h
 | .alt p q,x,r,m,Q,base,st,a,w,hc,hv,hf,hcd,h,hR=>by
  simp only[z6j,Bool.and_eq_true] at hc
  simp only[awp] at h
  simp only[z8a,List.mem_append] at hv
  simp only[z6H,Bool.and_eq_true] at hf
  rcases h with h|h
  ·exact z3x p x r m Q base st a w hc.1 (fun f hf=>hv f (.inl hf)) hf.1 (z4nb hcd) h hR
  ·exact z3x q x r m Q base st a w hc.2 (fun f hf=>hv f (.inr hf)) hf.2 (z6ob hcd) h hR
 | .region keep gs xs,x,r,m,Q,base,st,a,w,hc,hv,hf,hcd,h,hR=>z3Va hc hv hcd h hR
 | .seq p q,x,r,m,Q,base,st,a,w,hc,hv,hf,hcd,h,hR=>by
  simp only[z6j] at hc
  simp only[awp] at h
  simp only[z8a,List.mem_append] at hv
  simp only[z6H,Bool.and_eq_true] at hf
  split at hc
  ·rename_i y z
   simp only[Bool.and_eq_true] at hc
   refine wpIn_seq (wpIn_mono (z3x p y r m _ base st a w hc.1 (fun f hf=>hv f (.inl hf)) hf.1 (z4nb hcd) h hR) ?_)
   intro e a' w' hl
   cases e<;>simp only[z3oa] at hl<;>simp only[Exit.then]
   ·obtain⟨b',⟨hE,hE',hE2⟩,st',hR',hq⟩:=hl
    exact wpIn_mono (z3x q z r m Q b' st' a' w' hc.2 (fun f hf=>hv f (.inr hf)) hf.2 ((z6ob hcd).imp (fun h=>h) fun h=>⟨hE' h.1,h.2⟩) hq hR') (z8la hE hE' hE2)
   ·exact hl
   ·exact hl
  ·cases hc
 | .cond c p q,x,r,m,Q,base,st,a,w,hc,hv,hf,hcd,h,hR=>by
  simp only[z6j] at hc
  simp only[awp] at h
  simp only[z8a,List.mem_append] at hv
  simp only[z6H,Bool.and_eq_true] at hf
  split at hc
  ·rename_i c' y z
   simp only[Bool.and_eq_true] at hc
   obtain⟨⟨hcc,hy⟩,hz⟩:=hc
   obtain⟨hb,ht,hf'⟩:=h
   have hR':=hR
   obtain⟨g,hI,hS,_⟩:=hR'
   obtain⟨_,hval⟩:=z2ha (z8b hI hS hcc) hb
   refine wpIn_cond_split hval (fun e=> ?_) (fun e=> ?_)
   ·exact z3x p y r m Q base st a w hy (fun f hf=>hv f (.inl hf)) hf.1 (z4nb hcd) (ht e) hR
   ·exact z3x q z r m Q base st a w hz (fun f hf=>hv f (.inr hf)) hf.2 (z6ob hcd) (hf' e) hR
  ·cases hc
 | .scope b,x,r,m,Q,base,st,a,w,hc,hv,hf,hcd,h,hR=>by
  simp only[z6j] at hc
  simp only[awp] at h
  simp only[z6H] at hf
  split at hc
  ·rename_i p
   refine z56a (wpIn_mono (z3x b p r m Q base st a w hc hv hf hcd h hR) ?_)
   intro e a' w' hl
   cases e<;>simp only[z3oa] at hl<;>exact hl
  ·cases hc
 | .block id b,x,r,m,Q,base,st,a,w,hc,hv,hf,hcd,h,hR=>by
  simp only[z6j] at hc
  simp only[awp] at h
  simp only[z6H] at hf
  split at hc
  ·rename_i id' p
   simp only[Bool.and_eq_true,beq_iff_eq] at hc
   obtain⟨rfl,hp⟩:=hc
   refine wpIn_block (wpIn_mono (z3x b p r m _ base st a w hp hv hf hcd h hR) ?_)
   intro e a' w' hl
   cases e<;>simp only[z3oa] at hl<;>simp only[Exit.inBlock]
   ·exact hl
   ·rename_i id'
    obtain⟨b',hE,st',hR',hq⟩:=hl
    simp only[z94a] at hq
    split
    ·rename_i he
     rw[if_pos he] at hq
     exact⟨b',hE,st',hR',hq⟩
    ·rename_i he
     rw[if_neg he] at hq
     exact⟨b',hE,st',hR',hq⟩
   ·exact hl
  ·cases hc
 | .loop b,x,r,m,Q,base,st,a,w,hc,hv,hf,hcd,h,hR=>by
  simp only[z6j] at hc
  simp only[awp] at h
  simp only[z6H] at hf
  split at hc
  ·rename_i p
   obtain⟨I,⟨k,hm⟩,hround⟩:=h
   refine z5Ca (fun k a w=>∃b',(z36 K base b'∧(z4ua K base→z4ua K b')∧(Cd→b'=base))∧∃st,Rel K b' n st a w∧I k st) ⟨base,⟨z36.refl _ _,fun x=>x,fun _=>rfl⟩,st,hR,hm⟩ fun k a w hj=> ?_
   obtain⟨b',⟨hE,hE',hE2⟩,st',hR',hI⟩:=hj
   refine wpIn_mono (z3x b p r m _ b' st' a w hc hv hf (hcd.imp (fun h=>h) fun h=>⟨hE' h.1,h.2⟩) (hround _ st' hI) hR') ?_
   intro e a' w' hl
   have hl:=z8la hE hE' hE2 e a' w' hl
   cases e<;>simp only[z3oa] at hl<;>simp only[Exit.then]
   ·obtain⟨b2,hE2,st2,hR2,m',hlt,hI'⟩:=hl
    exact⟨m',hlt,b2,hE2,st2,hR2,hI'⟩
   ·exact hl
   ·exact hl
  ·cases hc
 | .range f t ks ps as bd,x,r,m,Q,base,st,a,w,hc,hv,hf,hcd,h,hR=>by
  simp[z6H] at hf
theorem z2hb {Cd:Prop} {base:z1P} {Q:z0n→ASt→Prop}:∀e a w,z3oa K Cd base n Q e a w→z1kc K base n Q e a w:=by
 intro e a w h
 cases e<;>simp only[z3oa] at h<;>simp only[z1kc]
 all_goals (obtain⟨b,⟨hb,_⟩,r⟩:=h;exact⟨b,hb,r⟩)
end
end Go.Abs
end

section
namespace Go.Abs

inductive z2bb where
 |t (s:Nat)
 |cell (s:Nat) (k:Option Nat) (id:Nat)
 |o (s:Nat)
 deriving Inhabited

structure z2t where
 n:Nat
 wr:List Nat:=[]
 body:z4a
 res:List z2bb

def z8z (i:Nat):List z2a→List (Nat×z2a)
 |[]=>[]
 |d::ds=>(i,d)::z8z (i+1) ds
def z9c (wr:List Nat) (ds:List z2a):ASt:=
 {org:=(z8z 0 ds).filter fun p=> !wr.contains p.1
  env:=((z8z 0 ds).filter fun p=>wr.contains p.1).map fun p=>(p.1,dem p.2)
  box:=[]}

def z9Za (st:ASt):z2bb→z2a
 | .t s=>dem (st.get s)
 | .o s=>dem (st.get s)
 | .cell s k id=>match k with
  |none=>dem (hdA (z0t st.getB (some id) (st.get s)))
  |some n=> .agg ((z0t st.getB (some id) (st.get s)).take n)
def z8Ta (st:ASt):z2bb→Prop
 | .t _=>True
 | .o _=>True
 | .cell s k id=>z3xa st.getB (some id) (k.getD 1) (st.get s)
def z6ia (st:ASt):List z2bb→z2a
 |[.t s]=>st.get s
 |[r]=>z9Za st r
 |rs=> .tup (rs.map (z9Za st))
def z3sb (d:z2a) (rest:List z2a):z2a:=match d with| .sl (.own e) nl n cs=> .otup e nl n cs rest|d=> .tup (dem d::rest)
def z4jc (st:ASt) (rs:List z2bb):z2a:=match rs with
 | .o s::r::rs=>z3sb (st.get s) ((r::rs).map (z9Za st))
 |rs=>z6ia st rs

def z1A (res:List z2bb) (v:z2a):z0n→ASt→Prop
 | .normal,st| .ret,st=>(∀r∈res,z8Ta st r)∧z4jc st res=v∧z6f v=true
 |_,_=>False

def z2T (K:Cx):List z2bb→List ResultVar→Bool
 |[],[]=>true
 | .t s::rs,.tmp t::vs=>(s==t)&&z2T K rs vs
 | .o s::rs,.tmp t::vs=>(s==t)&&z2T K rs vs
 | .cell s k _::rs,.cell t ty::vs=>(s==t)&&z7ab K.P ty k&&(match k with|some n=>n !=0|none=>true)&&z2T K rs vs
 |_,_=>false

def z5c (K:Cx) (f:z2t) (fn:Func):Bool:=
 !(fn.name== "runtime.NumGoroutine")&&(match fn.body with|some c=>z6j K fn.ntmps f.body c|none=>false)&&z2T K f.res fn.results.toList&&decide (f.n≤fn.ntmps)

section
variable {K : Cx} {base : z1P} {n : Nat} {st : ASt} {a : Act} {w : World}

theorem z6c.len {K:Con} {S:Nat→Nat} {w:World}:∀{ds:List z2a} {vs:List Value},z6c K S w ds vs→ds.length=vs.length
 |[],_,h=>by simp only[z6c] at h;subst h;rfl
 |_::_,_,h=>by
  simp only[z6c] at h
  obtain⟨x,xs,rfl,_,h2⟩:=h
  simp[z6c.len h2]
theorem z6c.get {K:Con} {S:Nat→Nat} {w:World}:∀{ds:List z2a} {vs:List Value},z6c K S w ds vs→∀(i:Nat) (d:z2a),ds[i]? =some d→∃v,vs[i]? =some v∧z7c K S w d v
 |[],_,h,i,d,hd=>by simp at hd
 |c::cs,l,h,i,d,hd=>by
  simp only[z6c] at h
  obtain⟨x,xs,rfl,h1,h2⟩:=h
  cases i with
  |zero=>simp at hd;subst hd;exact⟨x,by simp,h1⟩
  |succ i=>simp at hd;obtain⟨v,hv,hr⟩:=z6c.get h2 i d hd;exact⟨v,by simpa using hv,hr⟩

theorem z9Qa:∀(ds:List z2a) (i s:Nat),lk (z8z i ds) s=if i≤s then ds[s-i]? else none
 |[],i,s=>by simp[z8z,lk]
 |d::ds,i,s=>by
  simp only[z8z,lk]
  by_cases h:s=i
  ·subst h;simp
  ·rw[if_neg h,z9Qa ds (i+1) s]
   by_cases hi:i≤s
   ·rw[if_pos hi,if_pos (by omega),show s-i=(s-(i+1))+1 by omega]
    simp
   ·rw[if_neg hi,if_neg (by omega)]

theorem z23a (wr:List Nat) (ds:List z2a) (s:Nat):lk (z9c wr ds).org s=if s∈wr then none else ds[s]? :=by
 have:(z9c wr ds).org=(z8z 0 ds).filter fun p=>(fun k=> !wr.contains k) p.1:=rfl
 rw[this,z5H (fun k=> !wr.contains k),z9Qa]
 by_cases h:s∈wr<;>simp[h]
theorem z3zb (wr:List Nat) (ds:List z2a) (s:Nat):lk (z9c wr ds).env s=if s∈wr then(ds[s]?).map dem else none:=by
 have:(z9c wr ds).env=((z8z 0 ds).filter fun p=>(fun k=>wr.contains k) p.1).map fun p=>(p.1,dem p.2):=rfl
 rw[this,z50a dem,z5H (fun k=>wr.contains k),z9Qa]
 by_cases h:s∈wr<;>simp[h]

theorem z2wb (wr:List Nat) {S:Nat→Nat} {ds:List z2a} {vs:List Value} (hg:∀n∈K.N.gs,z0f K.toCon S w (K.E.T n) (K.N.gnum n) 0) (h:z6c K.toCon S w ds vs) (m:Nat) (hm:vs.length+m=n):
  Rel K ⟨w,fun _=>False,S,[]⟩ n (z9c wr ds) {tmps:=vs.toArray++Array.replicate m undef,defers:=[]} w:=by
 have hlen:=h.len
 have hget:∀s d,ds[s]? =some d→z7c K.toCon S w d ((vs.toArray++Array.replicate m undef).getD s undef):=fun s d hd=>by
  obtain⟨v,hv,hr⟩:=h.get s d hd
  have hs:s<vs.length:=(List.getElem?_eq_some_iff.1 hv).1
  rw[Array.getD_eq_getD_getElem?,Array.getElem?_append_left (by simpa using hs)]
  simpa[hv] using hr
 have hk:z9k S w (z1P.S ⟨w,fun _=>False,S,[]⟩) w:=fun b i x hi hc=>by
  refine⟨?_,hc⟩
  have hb:b<w.heap.size:=World.block_lt_of_cell? w ⟨b,i,none⟩ hc
  unfold z1P.S
  rw[if_pos ⟨hb,fun h=>h⟩]
  exact hi
 refine⟨{S:=S,ow:=fun _=>none,mu:=fun _=>none},{fr:=Fr.refl _ _ _,sS:=fun _ _ _=>rfl,inj:=fun _ _ _ h _=>(by cases h),bxok:=fun id cs h=>by simp[ASt.getB,z9c,lk] at h,nobx:=fun _ _=>rfl,muW:=fun _ _ h=>(by cases h),owW:=fun _ _ h=>(by cases h),glob:=hg,kp:=z9k.refl _ _,obok:=fun _ _ _ _ h=>(by cases h)},fun s=> ?_,fun s d hs=> ?_,rfl,by simp;exact hm⟩
 ·unfold ASt.get
  rw[z3zb,z23a]
  by_cases hs:s∈wr
  ·rw[if_pos hs]
   cases hd:ds[s]? with
   |none=>simp[hs,Abs.dem,Rep]
   |some d=>simp only[Option.map_some];exact z7c.dem (g:=⟨S,_,_⟩) _ (hget s d hd)
  ·rw[if_neg hs,if_neg hs]
   cases hd:ds[s]? with
   |none=>simp[Abs.dem,Rep]
   |some d=>exact z7c.dem (g:=⟨S,_,_⟩) _ (hget s d hd)
 ·rw[z23a] at hs
  split at hs
  ·cases hs
  ·exact z7c.mono hk d _ (hget s d hs)

theorem z2Da {P:Program} {t:TypeId} {k:Option Nat} (hk:z7ab P t k=true) {bk o:Nat} {vs:List Value} (hr:w.rangeAt bk o vs) (hn:k.getD 1≤vs.length):
  (loadVar t ⟨bk,o,none⟩).run P w= .ok (z3Ja k vs) w:=by
 unfold z3Ja
 cases k with
 |none=>
  simp only[z7ab,Bool.and_eq_true] at hk
  obtain⟨D,hu,hD⟩:=z7k hk.1
  cases vs with
  |nil=>simp at hn
  |cons v r=>
   have h0:=hr 0 v (by simp)
   simp only[Nat.add_zero] at h0
   cases D<;>simp[TypeDesc.isRow] at hD<;>simp[loadVar,isAgg,run_underlying hu,h0]
 |some n=>
  simp only[z7ab,Bool.and_eq_true] at hk
  obtain⟨D,hu,hD⟩:=z7k hk.1
  simp only[Option.getD_some] at hn
  exact run_loadVar_mid w bk o t (vs.take n) D (fun j v hv=>by
   rw[List.getElem?_take] at hv
   split at hv
   ·exact hr j v hv
   ·cases hv) hu hD (by rw[List.length_take,Nat.min_eq_left hn];exact z8va hk.2)

def z11 (tmps:Array Value):ResultVar→Sem Value
 | .tmp t=>pure (tmps.getD t undef)
 | .cell a t=>do loadVar t (←asAddr (tmps.getD a undef))

theorem z2ka {g:Gh} (hI:Inv K base g w st.getB) (hS:z5e K g w st.get a):∀{rs:List z2bb} {vs:List ResultVar},z2T K rs vs=true→(∀r∈rs,z8Ta st r)→
  ∃xs,(List.mapM (z11 a.tmps) vs).run K.P w= .ok xs w∧z1e K.toCon g w (rs.map (z9Za st)) xs∧(∀s,rs=[.t s]→xs=[a.tmps.getD s undef])∧(∀s r',rs= .o s::r'→∃ys,xs=a.tmps.getD s undef::ys)
 |[],[],_,_=>⟨[],by simp,by simp[z1e],by simp,by simp⟩
 |[],_::_,h,_=>by simp[z2T] at h
 | .t _::_,[],h,_=>by simp[z2T] at h
 | .o _::_,[],h,_=>by simp[z2T] at h
 | .o _::rs,.cell _ _::vs,h,_=>by simp[z2T] at h
 | .cell _ _ _::_,[],h,_=>by simp[z2T] at h
 | .t s::rs,.cell _ _::vs,h,_=>by simp[z2T] at h
 | .cell _ _ _::rs,.tmp _::vs,h,_=>by simp[z2T] at h
 | .t s::rs,.tmp t::vs,h,hok=>by
  simp only[z2T,Bool.and_eq_true,beq_iff_eq] at h
  obtain⟨rfl,h⟩:=h
  obtain⟨xs,h1,h2,h3⟩:=z2ka hI hS h (fun r hr=>hok r (by simp[hr]))
  refine⟨a.tmps.getD s undef::xs,?_,?_,fun s' hs'=> ?_,fun s' r' hs'=>by simp at hs'⟩
  ·simp only[List.mapM_cons,z11,Sem.run_bind,Sem.run_pure,Result.andThen_ok,h1]
  ·simp only[List.map_cons,z1e,z9Za]
   exact⟨_,_,rfl,Rep.dem _ (hS s),h2⟩
  ·simp only[List.cons.injEq,z2bb.t.injEq] at hs'
   obtain⟨rfl,rfl⟩:=hs'
   have:=h2.len
   simp at this
   rw[List.length_eq_zero_iff.1 this.symm]
 | .o s::rs,.tmp t::vs,h,hok=>by
  simp only[z2T,Bool.and_eq_true,beq_iff_eq] at h
  obtain⟨rfl,h⟩:=h
  obtain⟨xs,h1,h2,h3⟩:=z2ka hI hS h (fun r hr=>hok r (by simp[hr]))
  refine⟨a.tmps.getD s undef::xs,?_,?_,fun s' hs'=>by simp at hs',fun s' r' hs'=> ?_⟩
  ·simp only[List.mapM_cons,z11,Sem.run_bind,Sem.run_pure,Result.andThen_ok,h1]
  ·simp only[List.map_cons,z1e,z9Za]
   exact⟨_,_,rfl,Rep.dem _ (hS s),h2⟩
  ·simp only[List.cons.injEq,z2bb.o.injEq] at hs'
   obtain⟨rfl,rfl⟩:=hs'
   exact⟨xs,rfl⟩
 | .cell s k id::rs,.cell t ty::vs,h,hok=>by
  simp only[z2T,Bool.and_eq_true,beq_iff_eq] at h
  obtain⟨⟨⟨rfl,hk⟩,hn0⟩,h⟩:=h
  obtain⟨xs,h1,h2,h3⟩:=z2ka hI hS h (fun r hr=>hok r (by simp[hr]))
  have hpos:0<k.getD 1:=by
   cases k with
   |none=>simp
   |some n=>simp at hn0⊢;omega
  have hok1:=hok (.cell s k id) (by simp)
  simp only[z8Ta] at hok1
  obtain⟨bk,off,ws,hv,hr,hrl,hn⟩:=z8Ya hI hok1 hpos (z9aa (hS s))
  refine⟨z3Ja k ws::xs,?_,?_,fun s' hs'=>by simp at hs',fun s' r' hs'=>by simp at hs'⟩
  ·simp only[List.mapM_cons,z11,Sem.run_bind,hv,asAddr,Sem.run_pure,Result.andThen_ok,z2Da hk hr hn,h1]
  ·simp only[List.map_cons,z1e,z9Za]
   refine⟨_,_,rfl,?_,h2⟩
   cases k with
   |some n=>simp only[Rep,z3Ja];exact⟨_,rfl,by simpa using hrl.take n⟩
   |none=>
    simp only[z3Ja]
    cases hcs:z0t st.getB (some id) (st.get s) with
    |nil=>have:=hrl.len;rw[hcs] at this;simp at this hn;omega
    |cons c cs=>
     rw[hcs] at hrl
     simp only[z1e] at hrl
     obtain⟨v,r,rfl,h1,_⟩:=hrl
     exact Rep.dem _ h1

def z6Eb (K:Cx) (b:z4a):Prop:=∀(n:Nat) (x:Code) (Q:z0n→ASt→Prop) (base:z1P) (st:ASt) (a:Act) (w:World),z6j K n b x=true→(z4U b=true∨z4ua K base)→awp K.E b Q st→Rel K base n st a w→x.wpIn (WF none) 0 K.P (z1kc K base n Q) a w
theorem z2ja {b:z4a} (hv:∀p∈z8a b,VB K p) (hf:z6H b=true):z6Eb K b:=fun n x Q base st a w hc ht h hR=>wpIn_mono (z3x (Cd:=False) b x none 0 Q base st a w hc hv hf (ht.imp (fun h=>h) fun h=>⟨h,fun h=>h⟩) h hR) z2hb
theorem z98a {f:Nat} {fn:Func} {F:z2t} {c:z5a} (hf:K.P.funcs[K.nu f]? =some fn) (hc:z5c K F fn=true) (hs:z6Eb K F.body)
  (h:∀ds,c.pre ds→ds.length=F.n∧awp K.E F.body (z1A F.res (c.post ds)) (z9c F.wr ds)):z7h K f c:=by
 simp only[z5c,Bool.and_eq_true,Bool.not_eq_true',decide_eq_true_eq] at hc
 obtain⟨⟨⟨hname,hbody⟩,hres⟩,hsz⟩:=hc
 cases hb:fn.body with
 |none=>rw[hb] at hbody;cases hbody
 |some code=>
  rw[hb] at hbody
  simp only at hbody
  refine⟨⟨fn,hf,by rw[hb];rfl,hname⟩,fun S w ds vs hg hds hpre=> ?_⟩
  obtain⟨hlen,hw⟩:=h ds hpre
  have hl2:=hds.len
  refine callsIn_wide.1 (callsIn_of_wp_marks (F:=WF none) (n:=0) hf hb (z4jb none _) ?_)
  have hR:=z2wb (n:=fn.ntmps) F.wr hg hds (fn.ntmps-vs.length) (by omega)
  have hwp:=hs fn.ntmps code _ _ _ _ w hbody (.inr ⟨fun _ h=>False.elim h,hg⟩) hw hR
  simp only[List.size_toArray]
  refine wpIn_mono hwp fun e a' w' hl=> ?_
  have fin:∀st g w',Inv K ⟨w,fun _=>False,S,[]⟩ g w' st.getB→z5e K g w' st.get a'→((∀r∈F.res,z8Ta st r)∧z4jc st F.res=c.post ds∧z6f (c.post ds)=true)→
    ∃v,(results fn a'.tmps).run K.P w'= .ok v w'∧∃v' g',Ending.returned v= .returned v'∧Fr w.heap.size (fun _=>False) w w'∧Rep K.toCon g' w' (some .ret) (c.post ds) v'∧
     (∀b l,g'.ow b=some l→w.heap.size≤b∧b<w'.heap.size)∧∀b,b<w.heap.size→g'.S b=S b:=fun st g w' hI hS hq=>by
   obtain⟨hok,hval,hpure⟩:=hq
   obtain⟨xs,h1,h2,h3,h3o⟩:=z2ka hI hS hres hok
   have hmap:fn.results.mapM (z11 a'.tmps)=Functor.map List.toArray (fn.results.toList.mapM (z11 a'.tmps)):=by
    exact Array.mapM_eq_mapM_toList
   have hrun:(results fn a'.tmps).run K.P w'= .ok (if h:xs.toArray.size=1 then xs.toArray[0] else .tuple xs.toArray) w':=by
    have:results fn a'.tmps=(do
     let vs←fn.results.mapM (z11 a'.tmps)
     pure (if h:vs.size=1 then vs[0] else .tuple vs)):=rfl
    rw[this,hmap]
    simp only[map_eq_pure_bind,Sem.run_bind,h1,Result.andThen_ok,Sem.run_pure]
   refine⟨_,hrun,?_⟩
   have how:∀b l,g.ow b=some l→w.heap.size≤b∧b<w'.heap.size:=fun b l hb=>by
    obtain⟨k1,k2⟩:=hI.owW b l hb
    exact⟨k1.resolve_right (fun h=>h),k2⟩
   have hSb:∀b,b<w.heap.size→g.S b=S b:=fun b hb=>hI.sS b hb (fun h=>h)
   by_cases hone:∃s,F.res=[.t s]
   ·obtain⟨s,hs⟩:=hone
    have hx:=h3 s hs
    subst hx
    rw[hs] at hval
    simp only[z4jc,z6ia] at hval
    refine⟨a'.tmps.getD s undef,z7G g (.slot s) .ret,by simp,hI.fr,?_,fun b l hb=> ?_,hSb⟩
    ·rw[←hval];exact z3q (hS s)
    ·simp only[z7G] at hb
     split at hb
     ·rename_i he;exact how b _ he
     ·exact how b l hb
   ·have hl3:=h2.len
    simp only[List.length_map] at hl3
    have rest:∀{d:z2a} {v:Value},Rep K.toCon g w' none d v→z1f d=false→d=c.post ds→Rep K.toCon g w' (some .ret) (c.post ds) v:=fun {d v} hr ho he=>by
     rw[←he];exact z5T _ ho hr
    have hdem:∀d:z2a,z1f (dem d)=false:=z4R
    cases hF:F.res with
    |nil=>
     rw[hF] at h2 hval hl3
     simp only[List.map_nil,z1e] at h2
     subst h2
     refine⟨_,g,rfl,hI.fr,?_,how,hSb⟩
     refine rest (d:= .tup []) ?_ rfl (by rw[←hval];rfl)
     simp[Rep,z1e]
    |cons r rs=>
     rw[hF] at h2 hval hl3 hone
     cases rs with
     |nil=>
      simp only[List.map_cons,List.map_nil,z1e] at h2
      obtain⟨x,ys,rfl,h4,rfl⟩:=h2
      refine⟨x,g,by simp,hI.fr,?_,how,hSb⟩
      cases r with
      |t s=>exact absurd ⟨s,rfl⟩ hone
      |o s=>
       simp only[z4jc,z6ia] at hval
       exact rest h4 (hdem _) hval
      |cell s k id=>
       simp only[z4jc,z6ia] at hval
       refine rest h4 ?_ hval
       cases k with
       |none=>exact hdem _
       |some n=>rfl
     |cons r2 rs=>
      have h5:¬(xs.toArray.size=1):=by simp only[List.size_toArray,←hl3,List.length_cons];omega
      have dflt:c.post ds= .tup ((r::r2::rs).map (z9Za st))→∃v' g',(.returned (if h:xs.toArray.size=1 then xs.toArray[0] else .tuple xs.toArray):Ending)= .returned v'∧Fr w.heap.size (fun _=>False) w w'∧Rep K.toCon g' w' (some .ret) (c.post ds) v'∧
        (∀b l,g'.ow b=some l→w.heap.size≤b∧b<w'.heap.size)∧∀b,b<w.heap.size→g'.S b=S b:=fun he=>by
       refine⟨.tuple xs.toArray,g,by rw[dif_neg h5],hI.fr,?_,how,hSb⟩
       refine rest (d:= .tup ((r::r2::rs).map (z9Za st))) ?_ rfl he.symm
       simp only[Rep]
       exact⟨_,rfl,by simpa using h2⟩
      cases r with
      |t s=>exact dflt (by rw[←hval];rfl)
      |cell s k id=>exact dflt (by rw[←hval];rfl)
      |o s=>
       have hval':z3sb (st.get s) ((r2::rs).map (z9Za st))=c.post ds:=hval
       unfold z3sb at hval'
       split at hval'
       ·rename_i e nl n cs hget
        obtain⟨ys,hys⟩:=h3o s _ hF
        have hm:=z3q (l1:= .ret) (z5ga hS s)
        rw[hget] at hm
        simp only[Rep] at hm
        simp only[List.map_cons,z1e] at h2
        obtain⟨x,zs,hx,_,h6⟩:=h2
        rw[hys] at hx
        simp only[List.cons.injEq] at hx
        obtain⟨rfl,rfl⟩:=hx
        refine⟨.tuple xs.toArray,z7G g (.slot s) .ret,by rw[dif_neg h5],hI.fr,?_,fun b l hb=> ?_,hSb⟩
        ·rw[←hval']
         simp only[Rep]
         refine⟨xs.toArray,_,ys,rfl,hys,hm,?_⟩
         exact z1e.mono (g:=g) (g':=z7G g (.slot s) .ret) (z9k.refl g.S w') ((r2::rs).map (z9Za st)) ys (fun _ _ _ h=>h) (by simpa[z1e] using h6)
        ·simp only[z7G] at hb
         split at hb
         ·rename_i he;exact how b _ he
         ·exact how b l hb
       ·rename_i d hd
        exact dflt (by rw[←hval'];rfl)
  cases e<;>simp only[z1kc] at hl<;>simp only[bodyPostM]
  ·obtain⟨b',hE,st,hR',hq⟩:=hl
   exact z77a hE rfl hR' fun g w' hI hS hO=>fin st g w' hI hS hq
  ·obtain⟨b',hE,st,_,hq⟩:=hl
   exact hq
  ·obtain⟨b',hE,st,hR',hq⟩:=hl
   exact z77a hE rfl hR' fun g w' hI hS hO=>fin st g w' hI hS hq

theorem z6a {f:Nat} {fn:Func} {F:z2t} {c:z5a} (hf:K.P.funcs[K.nu f]? =some fn) (hc:z5c K F fn=true) (hv:∀p∈z8a F.body,VB K p)
  (h:∀ds,c.pre ds→ds.length=F.n∧awp K.E F.body (z1A F.res (c.post ds)) (z9c F.wr ds)) (hfl:z6H F.body=true):z7h K f c:=z98a hf hc (z2ja hv hfl) h
end
end Go.Abs
end

section
namespace Go.Abs

def z6Xb (bx:List Nat):Nat→List z2a→List (Nat×z2a)
 |_,[]=>[]
 |i,d::ds=>(i,if bx.contains i then .bp i 0 else dem d)::z6Xb bx (i+1) ds
def z4da (bx:List Nat) (p:Nat→Value) (ds:List z2a):ASt:=
 {org:=bx.map fun j=>(j,.lit (p j)),env:=z6Xb bx 0 ds,box:=bx.map fun j=>(j,some (z2la (ds.getD j .undef)))}

def z9Va (res:List z2bb) (c:CM) (p:Nat→Value) (ds:List z2a):z0n→ASt→Prop
 | .normal,st| .ret,st=>(∀r∈res,z8Ta st r)∧z6ia st res=c.post ds∧(∀j∈c.bx,lk st.org j=some (.lit (p j))∧st.get j= .bp j 0)∧(∀j∈c.bx++c.nb,st.getB j=some (c.out ds j))∧
  (∀id∈z0r (c.post ds),id∈c.bx++c.nb)∧(∀j∈c.bx++c.nb,∀id∈z7g (c.out ds j),id∈c.bx++c.nb)
 |_,_=>False

section
variable {K : Cx} {base : z1P} {n : Nat} {st : ASt} {a : Act} {w : World}

theorem z5ob (bx:List Nat):∀(ds:List z2a) (i s:Nat),lk (z6Xb bx i ds) s=if i≤s then(ds[s-i]?).map fun d=>if bx.contains s then z2a.bp s 0 else dem d else none
 |[],i,s=>by simp[z6Xb,lk]
 |d::ds,i,s=>by
  simp only[z6Xb,lk]
  by_cases h:s=i
  ·subst h;simp
  ·rw[if_neg h,z5ob bx ds (i+1) s]
   by_cases hi:i≤s
   ·rw[if_pos hi,if_pos (by omega),show s-i=(s-(i+1))+1 by omega]
    simp
   ·rw[if_neg hi,if_neg (by omega)]
theorem z3va {α:Type} (f:Nat→α) (s:Nat):∀l:List Nat,lk (l.map fun s=>(s,f s)) s=if s∈l then some (f s) else none
 |[]=>by simp[lk]
 |t::l=>by
  simp only[List.map_cons,lk,List.mem_cons]
  by_cases h:s=t
  ·subst h;simp
  ·rw[if_neg h,z3va f s l]
   simp only[h,false_or]

theorem z4bb {g:Gh} {c:CM} {ds:List z2a} {vs:List Value} (hI:Inv K ⟨w,Wr g,g.S,[]⟩ g w (c.ins ds)) (hA:z1Wb K c g w ds vs) (hb:∀j∈c.bx,j<ds.length) (m:Nat) (hm:vs.length+m=n):
  Rel K ⟨w,Wr g,g.S,[]⟩ n (z4da c.bx (fun j=> .pointer (some ⟨(g.mu j).getD 0,0,none⟩)) ds) {tmps:=vs.toArray++Array.replicate m undef,defers:=[]} w:=by
 obtain⟨hlen,hA⟩:=hA
 have hget:∀s v,vs[s]? =some v→(vs.toArray++Array.replicate m undef).getD s undef=v:=fun s v hv=>by
  have hs:s<vs.length:=(List.getElem?_eq_some_iff.1 hv).1
  rw[Array.getD_eq_getD_getElem?,Array.getElem?_append_left (by simpa using hs)]
  simp[hv]
 have harg:∀s d,ds[s]? =some d→∃v,vs[s]? =some v∧if s∈c.bx then∃b,g.mu s=some b∧v= .pointer (some ⟨b,0,none⟩) else z7c K.toCon g.S w d v:=fun s d hd=>by
  have hs:s<vs.length:=by have:=(List.getElem?_eq_some_iff.1 hd).1;omega
  exact⟨vs[s],List.getElem?_eq_getElem hs,hA s d _ hd (List.getElem?_eq_getElem hs)⟩
 have hgb:(z4da c.bx (fun j=> .pointer (some ⟨(g.mu j).getD 0,0,none⟩)) ds).getB=c.ins ds:=funext fun j=>by
  simp only[ASt.getB,z4da,z3va fun j=>some (z2la (ds.getD j .undef)),CM.ins]
  split<;>rfl
 have horg:∀s,lk (z4da c.bx (fun j=> .pointer (some ⟨(g.mu j).getD 0,0,none⟩)) ds).org s=if s∈c.bx then some (.lit (.pointer (some ⟨(g.mu s).getD 0,0,none⟩))) else none:=fun s=>
  z3va (fun j=>z2a.lit (.pointer (some ⟨(g.mu j).getD 0,0,none⟩))) s c.bx
 refine⟨g,by rw[hgb];exact hI,fun s=> ?_,fun s d hs=> ?_,rfl,by simp;exact hm⟩
 ·unfold ASt.get
  rw[horg]
  show Rep K.toCon g w (some (.slot s)) (match lk (z6Xb c.bx 0 ds) s with|some d=>d|none=>_) _
  rw[z5ob,if_pos (Nat.zero_le _),Nat.sub_zero]
  cases hd:ds[s]? with
  |none=>
   have hns:s∉c.bx:=fun h=>by have:=hb s h;rw[List.getElem?_eq_none_iff] at hd;omega
   simp[hns,Abs.dem,Rep]
  |some d=>
   obtain⟨v,hv,hr⟩:=harg s d hd
   rw[hget s v hv]
   simp only[Option.map_some,List.contains_iff_mem]
   by_cases hs:s∈c.bx
   ·rw[if_pos hs] at hr⊢
    obtain⟨b,hb,rfl⟩:=hr
    simp only[Rep]
    exact⟨b,hb,rfl⟩
   ·rw[if_neg hs] at hr⊢
    exact z7c.dem (g:=g) _ hr
 ·rw[horg] at hs
  split at hs
  ·rename_i hm
   cases hs
   obtain⟨v,hv,hr⟩:=harg s _ (List.getElem?_eq_getElem (hb s hm))
   rw[if_pos hm] at hr
   obtain⟨b,hb,rfl⟩:=hr
   show z7c _ _ _ _ _
   rw[hget s _ hv]
   simp[z7c,hb]
  ·cases hs

theorem z43a {g:Gh} {getB:Nat→Option (List z2a)} (hI:Inv K base g w getB) (js:List Nat) {out:Nat→List z2a} (h1:∀j∈js,getB j=some (out j)) (h2:∀j∈js,∀id∈z7g (out j),id∈js):
  Inv K base {g with mu:=fun j=>if j∈js then g.mu j else none} w (fun j=>if j∈js then some (out j) else none):=by
 refine⟨hI.fr,hI.sS,fun i j b hi hj=> ?_,fun id cs hc=> ?_,fun id hid=> ?_,fun id b hb=> ?_,hI.owW,hI.glob,hI.kp,fun id b cs ho hb hc hd=> ?_⟩
 ·replace hi:(if i∈js then g.mu i else none)=some b:=hi
  replace hj:(if j∈js then g.mu j else none)=some b:=hj
  split at hi
  ·split at hj
   ·exact hI.inj i j b hi hj
   ·cases hj
  ·cases hi
 ·split at hc
  ·rename_i hm
   cases hc
   obtain⟨b,k1,k2,k3⟩:=hI.bxok id _ (h1 id hm)
   refine⟨b,by simp only[if_pos hm];exact k1,k2,fun i d hi=> ?_⟩
   obtain⟨⟨x,h4,h5⟩,h6⟩:=k3 i d hi
   exact⟨⟨x,h4,Rep.mono (g:=g) (g':={g with mu:=fun j=>if j∈js then g.mu j else none}) (z9k.refl g.S w) d x (some (.cell id i)) (some (.cell id i)) (fun id' hid' b' hb'=>by show(if id'∈js then g.mu id' else none)=some b';rw[if_pos (h2 id hm id' (z10 (z3l hi) hid'))];exact hb') (fun m hm=>⟨m,hm,fun b hb=>⟨hb,rfl,fun _ _ h=>h⟩⟩) h5⟩,h6⟩
  ·cases hc
 ·show(if id∈js then g.mu id else none)=none
  replace hid:(if id∈js then some (out id) else none)=none:=hid
  split at hid
  ·cases hid
  ·rename_i hm;rw[if_neg hm]
 ·replace hb:(if id∈js then g.mu id else none)=some b:=hb
  split at hb
  ·exact hI.muW id b hb
  ·cases hb
 ·replace hb:(if id∈js then g.mu id else none)=some b:=hb
  split at hb
  ·rename_i hm
   rw[if_pos hm] at hc
   cases hc
   exact hI.obok id b _ ho hb (h1 id hm) hd
  ·cases hb

theorem z6Sa {f:Nat} {fn:Func} {F:z2t} {c:CM} (hf:K.P.funcs[K.nu f]? =some fn) (hc:z5c K F fn=true) (hs:z6Eb K F.body) (hb:∀j∈c.bx,j<F.n)
  (h:∀ds p,c.pre ds→ds.length=F.n∧awp K.E F.body (z9Va F.res c p ds) (z4da c.bx p ds)) (ht:z4U F.body=true):z33 K f c:=by
 simp only[z5c,Bool.and_eq_true,Bool.not_eq_true',decide_eq_true_eq] at hc
 obtain⟨⟨⟨hname,hbody⟩,hres⟩,hsz⟩:=hc
 cases hbd:fn.body with
 |none=>rw[hbd] at hbody;cases hbody
 |some code=>
  rw[hbd] at hbody
  simp only at hbody
  refine⟨⟨fn,hf,by rw[hbd];rfl,hname⟩,fun g0 w ds vs hI0 hA hpre=> ?_⟩
  obtain⟨hlen,hw⟩:=h ds (fun j=> .pointer (some ⟨(g0.mu j).getD 0,0,none⟩)) hpre
  have hl2:=hA.1
  refine callsIn_wide.1 (callsIn_of_wp_marks (F:=WF none) (n:=0) hf hbd (z4jb none _) ?_)
  have hR:=z4bb (n:=fn.ntmps) hI0 hA (fun j hj=>by rw[hlen];exact hb j hj) (fn.ntmps-vs.length) (by omega)
  have hwp:=hs fn.ntmps code _ _ _ _ w hbody (.inl ht) hw hR
  simp only[List.size_toArray]
  refine wpIn_mono hwp fun e a' w' hl=> ?_
  have fin:∀st g w',Inv K ⟨w,Wr g0,g0.S,[]⟩ g w' st.getB→z5e K g w' st.get a'→(∀j∈c.bx,lk st.org j=some (.lit (.pointer (some ⟨(g0.mu j).getD 0,0,none⟩)))→a'.tmps.getD j undef= .pointer (some ⟨(g0.mu j).getD 0,0,none⟩))→z9Va F.res c (fun j=> .pointer (some ⟨(g0.mu j).getD 0,0,none⟩)) ds .ret st→
    ∃v,(results fn a'.tmps).run K.P w'= .ok v w'∧∃v' g',Ending.returned v= .returned v'∧Inv K ⟨w,Wr g0,g0.S,[]⟩ g' w' (c.outs ds)∧(∀j∈c.bx,g'.mu j=g0.mu j)∧Rep K.toCon g' w' (some .ret) (c.post ds) v':=fun st g w' hI hS hO hq=>by
   obtain⟨hok,hval,hbx,hout,hr1,hr2⟩:=hq
   obtain⟨xs,h1,h2,h3,_⟩:=z2ka hI hS hres hok
   have hmap:fn.results.mapM (z11 a'.tmps)=Functor.map List.toArray (fn.results.toList.mapM (z11 a'.tmps)):=by
    exact Array.mapM_eq_mapM_toList
   have hrun:(results fn a'.tmps).run K.P w'= .ok (if h:xs.toArray.size=1 then xs.toArray[0] else .tuple xs.toArray) w':=by
    have:results fn a'.tmps=(do
     let vs←fn.results.mapM (z11 a'.tmps)
     pure (if h:vs.size=1 then vs[0] else .tuple vs)):=rfl
    rw[this,hmap]
    simp only[map_eq_pure_bind,Sem.run_bind,h1,Result.andThen_ok,Sem.run_pure]
   refine⟨_,hrun,?_⟩
   let g':Gh:={g with mu:=fun j=>if j∈c.bx++c.nb then g.mu j else none}
   have hI':Inv K ⟨w,Wr g0,g0.S,[]⟩ g' w' (c.outs ds):=z43a hI (c.bx++c.nb) hout hr2
   have hmu:∀j∈c.bx,g'.mu j=g0.mu j:=fun j hj=>by
    obtain⟨k1,k2⟩:=hbx j hj
    have e1:=hO j hj k1
    have e2:=hS j
    rw[k2] at e2
    simp only[Rep] at e2
    obtain⟨b,hb1,hb2⟩:=e2
    rw[hb2] at e1
    simp only[Value.pointer.injEq,Option.some.injEq,Addr.mk.injEq,and_true] at e1
    obtain⟨d,hd⟩:∃d,ds[j]? =some d:=⟨_,List.getElem?_eq_getElem (by rw[hlen];exact hb j hj)⟩
    have:=hA.2 j d (vs[j]'(by rw[←hl2,hlen];exact hb j hj)) hd (List.getElem?_eq_getElem _)
    rw[if_pos hj] at this
    obtain⟨b',hb',_⟩:=this
    rw[hb'] at e1
    simp only[Option.getD_some] at e1
    simp only[g',if_pos (List.mem_append_left c.nb hj)]
    rw[hb1,hb',e1]
   have cut:∀{d:z2a} {v:Value} {l:Option Loc},(∀id∈z0r d,id∈c.bx++c.nb)→Rep K.toCon g w' l d v→Rep K.toCon g' w' l d v:=fun {d v l} hd hr=>
    Rep.mono (g:=g) (g':=g') (z9k.refl g.S w') d v l l (fun id hid b hb=>by simp only[g',if_pos (hd id hid)];exact hb) (fun m hm=>⟨m,hm,fun b hb=>⟨hb,rfl,fun _ _ h=>h⟩⟩) hr
   by_cases hone:∃s,F.res=[.t s]
   ·obtain⟨s,hs⟩:=hone
    have hx:=h3 s hs
    subst hx
    rw[hs] at hval
    simp only[z6ia] at hval
    refine⟨a'.tmps.getD s undef,z7G g' (.slot s) .ret,by simp,z8Y hI' s .ret,hmu,?_⟩
    rw[←hval] at hr1⊢
    exact z3q (cut hr1 (hS s))
   ·have hl3:=h2.len
    simp only[List.length_map] at hl3
    have rest:∀{d:z2a} {v:Value},Rep K.toCon g w' none d v→z1f d=false→d=c.post ds→Rep K.toCon g' w' (some .ret) (c.post ds) v:=fun {d v} hr ho he=>by
     subst he;exact z5T _ ho (cut hr1 hr)
    have hdem:∀d:z2a,z1f (dem d)=false:=z4R
    cases hF:F.res with
    |nil=>
     rw[hF] at h2 hval hl3
     simp only[List.map_nil,z1e] at h2
     subst h2
     refine⟨_,g',rfl,hI',hmu,?_⟩
     refine rest (d:= .tup []) ?_ rfl (by rw[←hval];rfl)
     simp[Rep,z1e]
    |cons r rs=>
     rw[hF] at h2 hval hl3 hone
     cases rs with
     |nil=>
      simp only[List.map_cons,List.map_nil,z1e] at h2
      obtain⟨x,ys,rfl,h4,rfl⟩:=h2
      refine⟨x,g',by simp,hI',hmu,?_⟩
      cases r with
      |t s=>exact absurd ⟨s,rfl⟩ hone
      |o s=>
       simp only[z6ia] at hval
       exact rest h4 (hdem _) hval
      |cell s k id=>
       simp only[z6ia] at hval
       refine rest h4 ?_ hval
       cases k with
       |none=>exact hdem _
       |some n=>rfl
     |cons r2 rs=>
      have h5:¬(xs.toArray.size=1):=by simp only[List.size_toArray,←hl3,List.length_cons];omega
      refine⟨.tuple xs.toArray,g',by rw[dif_neg h5],hI',hmu,?_⟩
      refine rest (d:= .tup ((r::r2::rs).map (z9Za st))) ?_ rfl (by rw[←hval];cases r<;>rfl)
      simp only[Rep]
      exact⟨_,rfl,by simpa using h2⟩
  cases e<;>simp only[z1kc] at hl<;>simp only[bodyPostM]
  ·obtain⟨b',hE,st,hR',hq⟩:=hl
   exact z77a hE rfl hR' fun g w' hI hS hO=>fin st g w' hI hS (fun j _ hj=>by have:=hO j _ hj;simpa[z7c] using this) hq
  ·obtain⟨b',hE,st,_,hq⟩:=hl
   exact hq
  ·obtain⟨b',hE,st,hR',hq⟩:=hl
   exact z77a hE rfl hR' fun g w' hI hS hO=>fin st g w' hI hS (fun j _ hj=>by have:=hO j _ hj;simpa[z7c] using this) hq

theorem z7x {f:Nat} {fn:Func} {F:z2t} {c:CM} (hf:K.P.funcs[K.nu f]? =some fn) (hc:z5c K F fn=true) (hv:∀p∈z8a F.body,VB K p) (hb:∀j∈c.bx,j<F.n)
  (h:∀ds p,c.pre ds→ds.length=F.n∧awp K.E F.body (z9Va F.res c p ds) (z4da c.bx p ds)) (hfl:z6H F.body=true) (ht:z4U F.body=true):z33 K f c:=z6Sa hf hc (z2ja hv hfl) hb h ht
end
end Go.Abs
end

section
namespace Go.Abs

def z47b:Nat→List z2a→List (Nat×z2a)
 |_,[]=>[]
 |i,d::ds=>(i,dem d)::z47b (i+1) ds
def z2Ma (c:CW) (p:Nat→Value) (ds:List z2a) (bs:Nat→List z2a):ASt:=
 {org:=c.hold.map fun j=>(j,.lit (p j)),env:=z47b 0 ds,box:=c.bx.map fun j=>(j,some (bs j))}
def held (st:ASt) (p:Value) (d:z2a):Prop:=∃t V id e o n c e' o' n' c',lk st.org t=some (.lit V)∧z6Fb V=z6Fb p∧st.get t= .bv id e o n c∧d= .bv id e' o' n' c'
def z0Wc (res:List z2bb) (c:CW) (p:Nat→Value) (ds:List z2a) (bs:Nat→List z2a):z0n→ASt→Prop
 | .normal,st| .ret,st=>(∀r∈res,z8Ta st r)∧z6ia st res=c.post ds bs∧(∀j∈c.hold,(lk st.org j=some (.lit (p j))∧st.get j=dem (ds.getD j .undef))∨held st (p j) (ds.getD j .undef))∧(∀j∈c.bx++c.nb,st.getB j=some (c.out ds bs j))∧
  (∀id∈z0r (c.post ds bs),id∈c.bx++c.nb)∧(∀j∈c.bx++c.nb,∀id∈z7g (c.out ds bs j),id∈c.bx++c.nb)
 |_,_=>False

section
variable {K : Cx} {base : z1P} {n : Nat} {st : ASt} {a : Act} {w : World}
theorem z4Db (d:z2a):z0r (Abs.dem d)=z0r d:=by
 cases d with
 |sl m nl n cs=>cases m<;>rfl
 |oagg=>simp only[Abs.dem,z0r,z2E,z7g,List.nil_append]
 |_=>rfl
mutual
theorem z7Lb {K:Con} {g g':Gh} {w w':World}:∀(d:z2a) (v:Value) (l l':Option Loc),Rep K g w l d v→Rep K g' w' l' d v→∀id∈z0r d,g.mu id=g'.mu id
 | .bp id off,v,_,_,h,h',i,hi=>by
  simp only[z0r,List.mem_singleton] at hi
  subst hi
  simp only[Rep] at h h'
  obtain⟨b,hb,rfl⟩:=h
  obtain⟨b',hb',e⟩:=h'
  simp only[Value.pointer.injEq,Option.some.injEq,Addr.mk.injEq,and_true] at e
  rw[hb,hb',e]
 | .bv id e off n c,v,_,_,h,h',i,hi=>by
  simp only[z0r,List.mem_singleton] at hi
  subst hi
  simp only[Rep] at h h'
  obtain⟨b,cap,o,hb,rfl,_⟩:=h
  obtain⟨b',cap',o',hb',e,_⟩:=h'
  simp only[Value.slice.injEq,Option.some.injEq,Addr.mk.injEq,and_true] at e
  rw[hb,hb',e.1.1]
 | .agg cs,v,_,_,h,h',i,hi=>by
  simp only[Rep] at h h'
  obtain⟨a,rfl,h⟩:=h
  obtain⟨a',e,h'⟩:=h'
  cases e
  exact z09 cs _ h h' i (by simpa[z0r] using hi)
 | .tup cs,v,_,_,h,h',i,hi=>by
  simp only[Rep] at h h'
  obtain⟨a,rfl,h⟩:=h
  obtain⟨a',e,h'⟩:=h'
  cases e
  exact z09 cs _ h h' i (by simpa[z0r] using hi)
 | .fn f x y,v,_,_,h,h',i,hi=>by
  simp only[Rep] at h h'
  obtain⟨a,c,rfl,h1,h2⟩:=h
  obtain⟨a',c',e,h1',h2'⟩:=h'
  simp only[Value.func.injEq] at e
  obtain⟨_,rfl,rfl⟩:=e
  simp only[z0r,List.mem_append] at hi
  rcases hi with hi|hi
  ·exact z09 x _ h1 h1' i hi
  ·exact z09 y _ h2 h2' i hi
 | .undef,_,_,_,_,_,i,hi=>by simp[z0r] at hi
 | .lit _,_,_,_,_,_,i,hi=>by simp[z0r] at hi
 | .sl _ _ _ _,_,_,_,_,_,i,hi=>by simp[z0r] at hi
 | .ep _,_,_,_,_,_,i,hi=>by simp[z0r] at hi
 | .otup _ _ _ _ rest,v,_,_,h,h',i,hi=>by
  simp only[Rep] at h h'
  obtain⟨a,x,xs,rfl,h0,_,h⟩:=h
  obtain⟨a',x',xs',e,h0',_,h'⟩:=h'
  cases e
  rw[h0] at h0'
  cases h0'
  exact z09 rest _ h h' i (by simpa[z0r] using hi)
 | .oagg pre _ _ _ _ rest,v,_,_,h,h',i,hi=>by
  simp only[Rep] at h h'
  obtain⟨a,ps,x,xs,rfl,h0,h1,_,h⟩:=h
  obtain⟨a',ps',x',xs',e,h0',h1',_,h'⟩:=h'
  cases e
  rw[h0] at h0'
  obtain⟨e1,e2⟩:=List.append_inj h0' (by rw[←h1.len,←h1'.len])
  subst e1
  cases e2
  simp only[z0r,List.mem_append] at hi
  rcases hi with hi|hi
  ·exact z09 pre _ h1 h1' i hi
  ·exact z09 rest _ h h' i hi
theorem z09 {K:Con} {g g':Gh} {w w':World}:∀(ds:List z2a) (vs:List Value),z1e K g w ds vs→z1e K g' w' ds vs→∀id∈z7g ds,g.mu id=g'.mu id
 |[],_,_,_,i,hi=>by simp[z7g] at hi
 |c::cs,l,h,h',i,hi=>by
  simp only[z1e] at h h'
  obtain⟨x,xs,rfl,h1,h2⟩:=h
  obtain⟨x',xs',e,h1',h2'⟩:=h'
  cases e
  simp only[z7g,List.mem_append] at hi
  rcases hi with hi|hi
  ·exact z7Lb c x none none h1 h1' i hi
  ·exact z09 cs xs h2 h2' i hi
end
theorem z5hb:∀(ds:List z2a) (i s:Nat),lk (z47b i ds) s=if i≤s then(ds[s-i]?).map Abs.dem else none
 |[],i,s=>by simp[z47b,lk]
 |d::ds,i,s=>by
  simp only[z47b,lk]
  by_cases h:s=i
  ·subst h;simp
  ·rw[if_neg h,z5hb ds (i+1) s]
   by_cases hi:i≤s
   ·rw[if_pos hi,if_pos (by omega),show s-i=(s-(i+1))+1 by omega]
    simp
   ·rw[if_neg hi,if_neg (by omega)]

theorem z1qb {g:Gh} {c:CW} {ds:List z2a} {bs:Nat→List z2a} {vs:List Value} (hI:Inv K ⟨w,Wr g,g.S,[]⟩ g w (c.ins bs)) (hA:z1e K.toCon g w ds vs) (m:Nat) (hm:vs.length+m=n):
  Rel K ⟨w,Wr g,g.S,[]⟩ n (z2Ma c (fun j=>vs.getD j undef) ds bs) {tmps:=vs.toArray++Array.replicate m undef,defers:=[]} w:=by
 have hget:∀s v,vs[s]? =some v→(vs.toArray++Array.replicate m undef).getD s undef=v:=fun s v hv=>by
  have hs:s<vs.length:=(List.getElem?_eq_some_iff.1 hv).1
  rw[Array.getD_eq_getD_getElem?,Array.getElem?_append_left (by simpa using hs)]
  simp[hv]
 have hgb:(z2Ma c (fun j=>vs.getD j undef) ds bs).getB=c.ins bs:=funext fun j=>by
  simp only[ASt.getB,z2Ma,z3va fun j=>some (bs j),CW.ins]
  split<;>rfl
 have horg:∀s,lk (z2Ma c (fun j=>vs.getD j undef) ds bs).org s=if s∈c.hold then some (.lit (vs.getD s undef)) else none:=fun s=>
  z3va (fun j=>z2a.lit (vs.getD j undef)) s c.hold
 have hall:∀s,(vs.toArray++Array.replicate m undef).getD s undef=vs.getD s undef:=fun s=>by
  cases hv:vs[s]? with
  |some v=>rw[hget s v hv,List.getD_eq_getElem?_getD,hv];rfl
  |none=>
   rw[List.getD_eq_getElem?_getD,hv]
   have hs:vs.length≤s:=List.getElem?_eq_none_iff.1 hv
   rw[Array.getD_eq_getD_getElem?,Array.getElem?_append_right (by simpa using hs)]
   simp only[Array.getElem?_replicate,Option.getD_none]
   split<;>rfl
 refine⟨g,by rw[hgb];exact hI,fun s=> ?_,fun s d hs=> ?_,rfl,by simp;exact hm⟩
 ·unfold ASt.get
  rw[horg]
  show Rep K.toCon g w (some (.slot s)) (match lk (z47b 0 ds) s with|some d=>d|none=>_) _
  rw[z5hb,if_pos (Nat.zero_le _),Nat.sub_zero]
  cases hd:ds[s]? with
  |none=>
   simp only[Option.map_none]
   by_cases hh:s∈c.hold
   ·rw[if_pos hh]
    simp only[Option.getD_some,Abs.dem,Rep]
    exact hall s
   ·rw[if_neg hh]
    simp[Abs.dem,Rep]
  |some d=>
   obtain⟨v,hv,hr⟩:=hA.get s d hd
   rw[hget s v hv]
   simp only[Option.map_some]
   exact Rep.dem _ hr
 ·rw[horg] at hs
  split at hs
  ·cases hs
   show z7c _ _ _ _ _
   rw[hall s]
   simp[z7c]
  ·cases hs

theorem z2Xa {f:Nat} {fn:Func} {F:z2t} {c:CW} (hf:K.P.funcs[K.nu f]? =some fn) (hc:z5c K F fn=true) (hs:z6Eb K F.body)
  (h:∀ds bs p,c.pre ds bs→ds.length=F.n∧awp K.E F.body (z0Wc F.res c p ds bs) (z2Ma c p ds bs)) (ht:z4U F.body=true):z5za K f c:=by
 simp only[z5c,Bool.and_eq_true,Bool.not_eq_true',decide_eq_true_eq] at hc
 obtain⟨⟨⟨hname,hbody⟩,hres⟩,hsz⟩:=hc
 cases hbd:fn.body with
 |none=>rw[hbd] at hbody;cases hbody
 |some code=>
  rw[hbd] at hbody
  simp only at hbody
  refine⟨⟨fn,hf,by rw[hbd];rfl,hname⟩,fun g0 w ds bs vs hI0 hA hcov hpre=> ?_⟩
  obtain⟨hlen,hw⟩:=h ds bs (fun j=>vs.getD j undef) hpre
  have hl2:=hA.len
  refine callsIn_wide.1 (callsIn_of_wp_marks (F:=WF none) (n:=0) hf hbd (z4jb none _) ?_)
  have hR:=z1qb (n:=fn.ntmps) hI0 hA (fn.ntmps-vs.length) (by omega)
  have hwp:=hs fn.ntmps code _ _ _ _ w hbody (.inl ht) hw hR
  simp only[List.size_toArray]
  refine wpIn_mono hwp fun e a' w' hl=> ?_
  have fin:∀st g w',Inv K ⟨w,Wr g0,g0.S,[]⟩ g w' st.getB→z5e K g w' st.get a'→(∀j V,lk st.org j=some (.lit V)→a'.tmps.getD j undef=V)→z0Wc F.res c (fun j=>vs.getD j undef) ds bs .ret st→
    ∃v,(results fn a'.tmps).run K.P w'= .ok v w'∧∃v' g',Ending.returned v= .returned v'∧Inv K ⟨w,Wr g0,g0.S,[]⟩ g' w' (c.outs ds bs)∧(∀j∈c.bx,g'.mu j=g0.mu j)∧Rep K.toCon g' w' (some .ret) (c.post ds bs) v':=fun st g w' hI hS hO hq=>by
   obtain⟨hok,hval,hbx,hout,hr1,hr2⟩:=hq
   obtain⟨xs,h1,h2,h3,_⟩:=z2ka hI hS hres hok
   have hmap:fn.results.mapM (z11 a'.tmps)=Functor.map List.toArray (fn.results.toList.mapM (z11 a'.tmps)):=by
    exact Array.mapM_eq_mapM_toList
   have hrun:(results fn a'.tmps).run K.P w'= .ok (if h:xs.toArray.size=1 then xs.toArray[0] else .tuple xs.toArray) w':=by
    have:results fn a'.tmps=(do
     let vs←fn.results.mapM (z11 a'.tmps)
     pure (if h:vs.size=1 then vs[0] else .tuple vs)):=rfl
    rw[this,hmap]
    simp only[map_eq_pure_bind,Sem.run_bind,h1,Result.andThen_ok,Sem.run_pure]
   refine⟨_,hrun,?_⟩
   let g':Gh:={g with mu:=fun j=>if j∈c.bx++c.nb then g.mu j else none}
   have hI':Inv K ⟨w,Wr g0,g0.S,[]⟩ g' w' (c.outs ds bs):=z43a hI (c.bx++c.nb) hout hr2
   have hmu:∀j∈c.bx,g'.mu j=g0.mu j:=fun j hj=>by
    obtain⟨i,hi,d,hd,hjd⟩:=hcov j hj
    obtain⟨v0,hv0,hr0⟩:=hA.get i d hd
    have hv0':vs.getD i undef=v0:=by rw[List.getD_eq_getElem?_getD,hv0];rfl
    have hdd:ds.getD i .undef=d:=by rw[List.getD_eq_getElem?_getD,hd];rfl
    rcases hbx i hi with⟨k1,k2⟩|⟨t,V,id,e,o,n,c',e',o',n',c'',k1,kb,k2,k3⟩
    rotate_left
    ·have e1:=hO t V k1
     have e2:=hS t
     rw[k2,e1] at e2
     rw[hdd] at k3
     subst k3
     simp only[Rep] at e2 hr0
     obtain⟨b2,_,_,m2,v2,_⟩:=e2
     obtain⟨b1,_,_,m1,v1,_⟩:=hr0
     simp only[hv0',v1,v2,z6Fb,Option.some.injEq] at kb
     subst kb
     simp only[z0r,List.mem_singleton] at hjd
     subst hjd
     simp only[g',if_pos (List.mem_append_left c.nb hj),m2,m1]
    have e1:a'.tmps.getD i undef=vs.getD i undef:=hO i _ k1
    have e2:=hS i
    rw[k2,e1] at e2
    rw[hv0',hdd] at e2
    have hdj:j∈z0r (Abs.dem d):=by rw[z4Db];exact hjd
    have:=z7Lb (Abs.dem d) v0 _ _ e2 (Rep.dem (some (.slot i)) hr0) j hdj
    simp only[g',if_pos (List.mem_append_left c.nb hj)]
    exact this
   have cut:∀{d:z2a} {v:Value} {l:Option Loc},(∀id∈z0r d,id∈c.bx++c.nb)→Rep K.toCon g w' l d v→Rep K.toCon g' w' l d v:=fun {d v l} hd hr=>
    Rep.mono (g:=g) (g':=g') (z9k.refl g.S w') d v l l (fun id hid b hb=>by simp only[g',if_pos (hd id hid)];exact hb) (fun m hm=>⟨m,hm,fun b hb=>⟨hb,rfl,fun _ _ h=>h⟩⟩) hr
   by_cases hone:∃s,F.res=[.t s]
   ·obtain⟨s,hs⟩:=hone
    have hx:=h3 s hs
    subst hx
    rw[hs] at hval
    simp only[z6ia] at hval
    refine⟨a'.tmps.getD s undef,z7G g' (.slot s) .ret,by simp,z8Y hI' s .ret,hmu,?_⟩
    rw[←hval] at hr1⊢
    exact z3q (cut hr1 (hS s))
   ·have hl3:=h2.len
    simp only[List.length_map] at hl3
    have rest:∀{d:z2a} {v:Value},Rep K.toCon g w' none d v→z1f d=false→d=c.post ds bs→Rep K.toCon g' w' (some .ret) (c.post ds bs) v:=fun {d v} hr ho he=>by
     subst he;exact z5T _ ho (cut hr1 hr)
    have hdem:∀d:z2a,z1f (dem d)=false:=z4R
    cases hF:F.res with
    |nil=>
     rw[hF] at h2 hval hl3
     simp only[List.map_nil,z1e] at h2
     subst h2
     refine⟨_,g',rfl,hI',hmu,?_⟩
     refine rest (d:= .tup []) ?_ rfl (by rw[←hval];rfl)
     simp[Rep,z1e]
    |cons r rs=>
     rw[hF] at h2 hval hl3 hone
     cases rs with
     |nil=>
      simp only[List.map_cons,List.map_nil,z1e] at h2
      obtain⟨x,ys,rfl,h4,rfl⟩:=h2
      refine⟨x,g',by simp,hI',hmu,?_⟩
      cases r with
      |t s=>exact absurd ⟨s,rfl⟩ hone
      |o s=>
       simp only[z6ia] at hval
       exact rest h4 (hdem _) hval
      |cell s k id=>
       simp only[z6ia] at hval
       refine rest h4 ?_ hval
       cases k with
       |none=>exact hdem _
       |some n=>rfl
     |cons r2 rs=>
      have h5:¬(xs.toArray.size=1):=by simp only[List.size_toArray,←hl3,List.length_cons];omega
      refine⟨.tuple xs.toArray,g',by rw[dif_neg h5],hI',hmu,?_⟩
      refine rest (d:= .tup ((r::r2::rs).map (z9Za st))) ?_ rfl (by rw[←hval];cases r<;>rfl)
      simp only[Rep]
      exact⟨_,rfl,by simpa using h2⟩
  cases e<;>simp only[z1kc] at hl<;>simp only[bodyPostM]
  ·obtain⟨b',hE,st,hR',hq⟩:=hl
   exact z77a hE rfl hR' fun g w' hI hS hO=>fin st g w' hI hS (fun j _ hj=>by have:=hO j _ hj;simpa[z7c] using this) hq
  ·obtain⟨b',hE,st,_,hq⟩:=hl
   exact hq
  ·obtain⟨b',hE,st,hR',hq⟩:=hl
   exact z77a hE rfl hR' fun g w' hI hS hO=>fin st g w' hI hS (fun j _ hj=>by have:=hO j _ hj;simpa[z7c] using this) hq

theorem z5Ua {f:Nat} {fn:Func} {F:z2t} {c:CW} (hf:K.P.funcs[K.nu f]? =some fn) (hc:z5c K F fn=true) (hv:∀p∈z8a F.body,VB K p)
  (h:∀ds bs p,c.pre ds bs→ds.length=F.n∧awp K.E F.body (z0Wc F.res c p ds bs) (z2Ma c p ds bs)) (hfl:z6H F.body=true) (ht:z4U F.body=true):z5za K f c:=z2Xa hf hc (z2ja hv hfl) h ht
end
end Go.Abs
end

section
set_option linter.unusedVariables false
namespace Go.Abs

inductive z8La where
 |plain (c:z4a)
 |seq (a b:z8La)
 |cond (c:Arg) (a b:z8La)
 |block (id:Nat) (b:z8La)
 |loop (b:z8La)
 |yield (keep:List Nat) (gs:List z7I) (xs:List z1d) (d:Option Nat) (y:Nat) (as:List Arg) (zs:List z1d) (gd:Option (Nat×Bool):=none)
 deriving Inhabited

abbrev IQ:=z0n→Nat×Bool→ASt→Prop
def z17a (f:Nat×Bool→ASt→Prop) (Q:IQ):IQ
 | .normal,p,st=>f p st
 |e,p,st=>Q e p st
def z4Ma (id:Nat) (Q:IQ):IQ
 | .exit id',p,st=>if id'=id then Q .normal p st else Q (.exit id') p st
 |e,p,st=>Q e p st

def yOk:z2a→Bool
 | .undef=>true
 | .bp _ _=>true
 |c=>z2f c
def z41b (st:ASt):ASt:={st with env:=st.env.map fun q=>(q.1,if yOk q.2 then q.2 else .undef)}
def z1dc (d:Option Nat) (b:Bool) (st:ASt):ASt:={st with env:=d.toList.map (fun s=>(s,bo' b))++st.env}
where bo' (b : Bool) : z2a := .lit (.bool b)

def z92c (d:Option Nat) (st:ASt):ASt:={st with env:=d.toList.map (fun s=>(s,z47))++st.env}
def ifG (gd:Option (Nat×Bool)) (st:ASt) (Y N:Prop):Prop:=match gd with
 |none=>Y
 |some (s,want)=>isB (st.get s)∧(asB (st.get s)=want→Y)∧(asB (st.get s)=(!want)→N)

def z3La (E:Env) (l:Nat) (el:Nat→Option (List z2a)):z8La→IQ→Nat×Bool→ASt→Prop
 | .plain c,Q,p,st=>awp E c (fun e st'=>Q e p st') st
 | .seq a b,Q,p,st=>z3La E l el a (z17a (fun p st=>z3La E l el b Q p st) Q) p st
 | .cond c a b,Q,p,st=>isB (arg E st.get c)∧(asB (arg E st.get c)=true→z3La E l el a Q p st)∧(asB (arg E st.get c)=false→z3La E l el b Q p st)
 | .block id b,Q,p,st=>z3La E l el b (z4Ma id Q) p st
 | .loop b,Q,p,st=>∃I:Nat×Bool→ASt→Prop,I p st∧∀p st,I p st→z3La E l el b (z17a (fun p' st'=>I p' st'∧p.2=false∧(p'=(p.1+1,false)∨p'=(p.1,true))) Q) p st
 | .yield keep gs xs d y as zs gd,Q,p,st=>
  z73 E xs st∧(∀s∈d.toList,lk st.org s=none)∧
  (let st1:=z41b (z7ma E xs st)
   ifG gd st1 (p.2=false∧el p.1=some (as.map (arg E st1.get))∧z0c (as.map (arg E st1.get))=true∧st1.get y= .lit (.func (.yield l) #[] #[])∧(∀q∈st1.box,∀cs,q.2=some cs→cs.all yOk=true∧q.1<1000000)∧
   ∀b:Bool,z73 E zs (z1dc d b st1)∧z9qb gs (z19 keep (z7ma E zs (z1dc d b st1)))∧Q .normal (if b then(p.1+1,false) else(p.1,true)) (z7xa gs (z19 keep (z7ma E zs (z1dc d b st1))))) (z73 E zs (z92c d st1)∧z9qb gs (z19 keep (z7ma E zs (z92c d st1)))∧Q .normal p (z7xa gs (z19 keep (z7ma E zs (z92c d st1))))))

section
variable {K : Cx} {S : Nat → Nat} {w0 : World} {n : Nat} {el : Nat → Option (List z2a)} {l : Nat} {J : Nat → (Nat → Prop) → World → Prop} {Jx : (Nat → Prop) → World → Prop} {N : Nat} {O0 : Nat → Prop}
def lvS (lv:List Nat) (x:List z2a):List Nat:=lv.map (· +(x.length+1))
def itSt (l:Nat) (lv:List Nat) (x y:List z2a):ASt:=
 {org:=(z8z 0 (x++ .lit (.func (.yield l) #[] #[])::y)).filter fun p=> !(lvS lv x).contains p.1
  env:=(lvS lv x).map fun s=>(s,.bp s 0)
  box:=(lvS lv x).map fun s=>(s,some (z2la ((x++ .lit (.func (.yield l) #[] #[])::y).getD s .undef)))}
end
end Go.Abs
end

section
namespace Go.Abs
section
variable {K : Cx}
def z2Ea:z2a→Prop
 | .sl _ none _ _=>False
 | .sl _ (some true) n cs=>n=0∧cs=[]
 |_=>True
def z3Ha (b:Bool):z2a→z2a
 | .sl m none n cs=> .sl m (some b) n cs
 |d=>d
theorem z9ub {S:Nat→Nat} {w:World} {d:z2a} {v:Value} (h:z7c K.toCon S w d v):∃b,z2Ea (z3Ha b d)∧z7c K.toCon S w (z3Ha b d) v:=by
 cases d with
 |sl m nl n cs=>
  cases nl with
  |none=>
   simp only[z7c] at h
   rcases h with⟨b,o,cap,h1,h2,h3,h4,h5⟩|⟨q,h1,h2,h3,h4⟩
   ·exact⟨false,by simp[z3Ha,z2Ea],by simp only[z3Ha,z7c];exact .inl ⟨b,o,cap,h1,h2,h3,by simp,h5⟩⟩
   ·cases q with
    |none=>exact⟨true,by simp[z3Ha,z2Ea,h2,h3],by simp only[z3Ha,z7c];exact .inr ⟨none,h1,h2,h3,by simp⟩⟩
    |some q=>exact⟨false,by simp[z3Ha,z2Ea],by simp only[z3Ha,z7c];exact .inr ⟨some q,h1,h2,h3,by simp⟩⟩
  |some b=>
   cases b with
   |false=>exact⟨false,by simp[z3Ha,z2Ea],h⟩
   |true=>
    refine⟨true,?_,h⟩
    simp only[z7c] at h
    rcases h with⟨_,_,_,_,_,_,h4,_⟩|⟨_,_,h2,h3,_⟩
    ·exact absurd rfl h4
    ·exact⟨h2,h3⟩
 |_=>exact⟨true,by simp[z3Ha,z2Ea],h⟩
theorem z5Ja {S:Nat→Nat} {w:World}:∀{ds:List z2a} {vs:List Value} {i:Nat} {d d':z2a},z6c K.toCon S w ds vs→ds[i]? =some d→(∀v,z7c K.toCon S w d v→vs[i]? =some v→z7c K.toCon S w d' v)→z6c K.toCon S w (ds.set i d') vs
 |[],_,_,_,_,_,h,_=>by simp at h
 |c::cs,vs,0,d,d',hr,h,hd=>by
  simp only[List.getElem?_cons_zero,Option.some.injEq] at h
  subst h
  simp only[z6c,List.set_cons_zero] at hr⊢
  obtain⟨x,xs,rfl,h1,h2⟩:=hr
  exact⟨x,xs,rfl,hd x h1 rfl,h2⟩
 |c::cs,vs,i+1,d,d',hr,h,hd=>by
  simp only[z6c,List.set_cons_succ] at hr⊢
  obtain⟨x,xs,rfl,h1,h2⟩:=hr
  exact⟨x,xs,rfl,h1,z5Ja h2 (by simpa using h) (fun v hv hx=>hd v hv (by simpa using hx))⟩
theorem z7Ya {S:Nat→Nat} {w:World} {d:z2a}:∀{ds:List z2a} {vs:List Value} {i:Nat},z6c K.toCon S w ds vs→ds[i]? =some d→∃v,vs[i]? =some v∧z7c K.toCon S w d v
 |[],_,_,_,h=>by simp at h
 |c::cs,vs,0,hr,h=>by
  simp only[z6c] at hr
  obtain⟨x,xs,rfl,h1,h2⟩:=hr
  simp only[List.getElem?_cons_zero,Option.some.injEq] at h
  subst h
  exact⟨x,rfl,h1⟩
 |c::cs,vs,i+1,hr,h=>by
  simp only[z6c] at hr
  obtain⟨x,xs,rfl,h1,h2⟩:=hr
  obtain⟨v,k1,k2⟩:=z7Ya h2 (by simpa using h)
  exact⟨v,by simpa using k1,k2⟩
theorem z0Ja {f:Nat} {c:z5a} (i:Nat) (h:z7h K f ⟨fun ds=>c.pre ds∧∀d,ds[i]? =some d→z2Ea d,c.post⟩) (hc:∀ds d b,c.pre ds→ds[i]? =some d→c.pre (ds.set i (z3Ha b d))∧c.post (ds.set i (z3Ha b d))=c.post ds):z7h K f c:=by
 refine⟨h.1,fun S w ds vs hg hr hp=> ?_⟩
 cases hd:ds[i]? with
 |none=>exact h.2 S w ds vs hg hr ⟨hp,fun d hd'=>by rw[hd] at hd';cases hd'⟩
 |some d=>
  obtain⟨v,hv⟩:=z7Ya hr hd
  obtain⟨b,h1,h2⟩:=z9ub hv.2
  obtain⟨k1,k2⟩:=hc ds d b hp hd
  have hr':z6c K.toCon S w (ds.set i (z3Ha b d)) vs:=z5Ja hr hd fun v' _ hv'=>by
   rw[hv.1] at hv';cases hv';exact h2
  have:=h.2 S w (ds.set i (z3Ha b d)) vs hg hr' ⟨k1,fun d' hd'=>by
   have hlt:=(List.getElem?_eq_some_iff.1 hd).1
   rw[List.getElem?_set_self hlt] at hd'
   cases hd'
   exact h1⟩
  simp only[k2] at this
  exact this
end
end Go.Abs
end
