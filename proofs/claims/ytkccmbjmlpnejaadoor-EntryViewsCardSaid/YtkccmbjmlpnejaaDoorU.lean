/- Lemmas: an abstract interpreter, and what the functions compute. -/
import Derived.Test.YtkccmbjmlpnejaaDoorS
import Derived.Test.YtkccmbjmlpnejaaDoorP
import Derived.Test.YtkccmbjmlpnejaaDoorQ
import Derived.Test.YtkccmbjmlpnejaaDoorR
import Derived.Test.YtkccmbjmlpnejaaDoorD
import Derived.Test.YtkccmbjmlpnejaaDoorE
import Derived.Test.YtkccmbjmlpnejaaDoorW
import Derived.Test.YtkccmbjmlpnejaaDoorX
set_option linter.unusedSimpArgs false
set_option linter.unusedVariables false
set_option linter.unusedSectionVars false
section
namespace Go.Abs
set_option maxRecDepth 100000
end Go.Abs
end

section
namespace Go.Abs
set_option maxRecDepth 100000
end Go.Abs
end

section
namespace Go.Abs
set_option maxRecDepth 100000
end Go.Abs
end

section
namespace Go.Abs
theorem z9fa {α:Type} {e:GT} {enc:α→List z2a} {P:α→Prop} (he:∀cs,e.has cs→∃a,P a∧cs=enc a) {cs:List z2a} (h:(GT.sl e).has cs):∃l:List α,(∀a∈l,P a)∧cs=[.sl .plain none l.length (l.flatMap enc)]:=by
 obtain⟨ess,h1,rfl,h3⟩:=h
 suffices H:∃l:List α,(∀x∈l,P x)∧l.length=ess.length∧ess.flatten=l.flatMap enc by
  obtain⟨l,k1,k2,k3⟩:=H
  exact⟨l,k1,by rw[k2,k3]⟩
 clear h3
 induction ess with
 |nil=>exact⟨[],by simp,rfl,rfl⟩
 |cons c ess ih=>
  obtain⟨l,k1,k2,k3⟩:=ih fun c hc=>h1 c (by simp[hc])
  obtain⟨x,a0,rfl⟩:=he c (h1 c (by simp))
  refine⟨x::l,fun y hy=> ?_,by simp[k2],by simp[k3]⟩
  rcases List.mem_cons.1 hy with rfl|hy
  ·exact a0
  ·exact k1 y hy
theorem z6Ha (l:List Int):(l.flatMap fun x:Int=>[i64 x])=z4j l:=by
 induction l with
 |nil=>rfl
 |cons a l ih=>rw[List.flatMap_cons,ih];rfl
theorem z9Gb {cs:List z2a} (h:(GT.st [.int .i64,.int .i64,.int .i64,.int .i64,.int .i64,.int .i64,.str,.sl (.int .i64)]).has cs):∃c:Cmd,c.ok∧cs=z1q c none:=by
 simp only[GT.has,GT.hasL] at h
 obtain⟨a1,r1,rfl,h1,a2,r2,rfl,h2,a3,r3,rfl,h3,a4,r4,rfl,h4,a5,r5,rfl,h5,a6,r6,rfl,h6,a7,r7,rfl,h7,a8,r8,rfl,h8,rfl⟩:=h
 obtain⟨k1,x1,y1,rfl⟩:=z7s (by simpa only[GT.has] using h1)
 obtain⟨k2,x2,y2,rfl⟩:=z7s (by simpa only[GT.has] using h2)
 obtain⟨k3,x3,y3,rfl⟩:=z7s (by simpa only[GT.has] using h3)
 obtain⟨k4,x4,y4,rfl⟩:=z7s (by simpa only[GT.has] using h4)
 obtain⟨k5,x5,y5,rfl⟩:=z7s (by simpa only[GT.has] using h5)
 obtain⟨k6,x6,y6,rfl⟩:=z7s (by simpa only[GT.has] using h6)
 obtain⟨s,rfl⟩:=z15b (by simpa only[GT.has] using h7)
 obtain⟨l,hl,e8⟩:=z9fa (enc:=fun x:Int=>[i64 x]) (P:=z2l) (fun cs hc=>by
  obtain⟨x,x0,x1,rfl⟩:=z7s hc
  exact⟨x,⟨x0,x1⟩,rfl⟩) (by simpa only[GT.has] using h8)
 subst e8
 have:(l.flatMap fun x:Int=>[i64 x])=z4j l:=z6Ha l
 rw[this]
 exact⟨⟨k1,k2,k3,k4,k5,k6,s,l⟩,⟨⟨x1,y1⟩,⟨x2,y2⟩,⟨x3,y3⟩,⟨x4,y4⟩,⟨x5,y5⟩,⟨x6,y6⟩,hl⟩,rfl⟩
def z9uc:GT:= .st [.int .i64,.int .i64,.int .i64,.int .i64,.int .i64,.int .i64,.str,.sl (.int .i64)]
def z76c:GT:= .st [.int .i64,.int .i64,.int .i64,.int .i64,.int .i64,.int .i64,.int .i64,.bool,.arr 16 (.int .u8)]
theorem z7Vb (cs:List z2a) (h:z76c.has cs):∃m:z3e,m.ok∧cs=z2n m:=by
 simp only[z76c,GT.has,GT.hasL] at h
 obtain⟨a1,r1,rfl,h1,a2,r2,rfl,h2,a3,r3,rfl,h3,a4,r4,rfl,h4,a5,r5,rfl,h5,a6,r6,rfl,h6,a7,r7,rfl,h7,a8,r8,rfl,h8,a9,r9,rfl,h9,rfl⟩:=h
 obtain⟨k1,x1,y1,rfl⟩:=z7s (by simpa only[GT.has] using h1)
 obtain⟨k2,x2,y2,rfl⟩:=z7s (by simpa only[GT.has] using h2)
 obtain⟨k3,x3,y3,rfl⟩:=z7s (by simpa only[GT.has] using h3)
 obtain⟨k4,x4,y4,rfl⟩:=z7s (by simpa only[GT.has] using h4)
 obtain⟨k5,x5,y5,rfl⟩:=z7s (by simpa only[GT.has] using h5)
 obtain⟨k6,x6,y6,rfl⟩:=z7s (by simpa only[GT.has] using h6)
 obtain⟨k7,x7,y7,rfl⟩:=z7s (by simpa only[GT.has] using h7)
 obtain⟨b,rfl⟩:=z4Gb (by simpa only[GT.has] using h8)
 obtain⟨d,hd,rfl⟩:=z3Za (n:=16) (by simpa only[GT.has] using h9)
 exact⟨⟨k1,k2,k3,k4,k5,k6,k7,b,d⟩,⟨⟨x1,y1⟩,⟨x2,y2⟩,⟨x3,y3⟩,⟨x4,y4⟩,⟨x5,y5⟩,⟨x6,y6⟩,⟨x7,y7⟩,hd⟩,by simp[z2n]⟩
def z3Rc:GT:= .st [.int .i64,.int .i64,.int .i64,.int .i64,z9uc,.arr 16 (.int .u8),.sl z76c,.sl (.int .i64)]
theorem z7kb {cs:List z2a} (h:(GT.sl (.int .i64)).has cs):∃l:List Int,(∀x∈l,z2l x)∧cs=[.sl .plain none l.length (z4j l)]:=by
 obtain⟨l,hl,e8⟩:=z9fa (enc:=fun x:Int=>[i64 x]) (P:=z2l) (fun cs hc=>by
  obtain⟨x,x0,x1,rfl⟩:=z7s hc
  exact⟨x,⟨x0,x1⟩,rfl⟩) h
 subst e8
 have:(l.flatMap fun x:Int=>[i64 x])=z4j l:=z6Ha l
 rw[this]
 exact⟨l,hl,rfl⟩
theorem z0Wb {cs:List z2a} (h:z3Rc.has cs):∃x:z9o,x.ok∧cs=z5l none none none x:=by
 rw[z3Rc,GT.has] at h
 simp only[GT.hasL] at h
 obtain⟨a1,r1,rfl,h1,a2,r2,rfl,h2,a3,r3,rfl,h3,a4,r4,rfl,h4,a5,r5,rfl,h5,a6,r6,rfl,h6,a7,r7,rfl,h7,a8,r8,rfl,h8,rfl⟩:=h
 obtain⟨k1,x1,y1,rfl⟩:=z7s h1
 obtain⟨k2,x2,y2,rfl⟩:=z7s h2
 obtain⟨k3,x3,y3,rfl⟩:=z7s h3
 obtain⟨k4,x4,y4,rfl⟩:=z7s h4
 obtain⟨c,hc,rfl⟩:=z9Gb h5
 obtain⟨d,hd,rfl⟩:=z3Za (n:=16) h6
 obtain⟨m,hm,rfl⟩:=z9fa (enc:=z2n) z7Vb h7
 obtain⟨g,hg,rfl⟩:=z7kb h8
 exact⟨⟨k1,k2,k3,k4,c,d,m,g⟩,⟨⟨x1,y1⟩,⟨x2,y2⟩,⟨x3,y3⟩,⟨x4,y4⟩,hc,hd,hm,hg⟩,by simp[z5l,z6b]⟩
end Go.Abs
end

section
namespace Go.Abs
def z3ia (x:z9o) (m:z3e):z3e:=if x.kind=13∧m.id=x.cmd.key then z0Jb m else m
theorem z5Cb {x:z9o} {l l':List z3e} (hi:z0Kb l) (h:z0qa x l=some l'):∀m∈l',∃o∈l,z3ia x o=m:=by
 intro m hm
 unfold z0qa at h
 by_cases hk:x.kind=13
 ·rw[if_pos hk] at h
  by_cases hp:z93 l x.cmd.key<l.length
  ·rw[if_pos hp] at h
   have ha:=z2cb hp
   have hg:l.getD (z93 l x.cmd.key) z7sc=l[z93 l x.cmd.key]:=by rw[List.getD,List.getElem?_eq_getElem hp];rfl
   rw[hg] at h ha
   rw[←Option.some.inj h] at hm
   obtain⟨j,hj,rfl⟩:=List.getElem_of_mem hm
   rw[List.length_set] at hj
   rw[List.getElem_set]
   by_cases he:z93 l x.cmd.key=j
   ·subst he
    rw[if_pos rfl]
    exact⟨_,List.getElem_mem hj,by rw[z3ia,if_pos ⟨hk,ha⟩]⟩
   ·rw[if_neg he]
    refine⟨_,List.getElem_mem hj,?_⟩
    have hne:¬(l[j]).id=x.cmd.key:=fun hc=>by
     have hpw:=List.pairwise_iff_getElem.1 hi
     rcases Nat.lt_or_gt_of_ne he with h1|h1
     ·have:=hpw _ _ hp hj h1;omega
     ·have:=hpw _ _ hj hp h1;omega
    rw[z3ia,if_neg (fun hc=>hne hc.2)]
  ·rw[if_neg hp] at h;cases h
 ·rw[if_neg hk] at h
  rw[←Option.some.inj h] at hm
  exact⟨m,hm,by rw[z3ia,if_neg (fun hc=>hk hc.1)]⟩
theorem z2fb {v:z7i} {x:z9o} (hv:z5Xa v) (h:(z7ea v x).e=0):∀m∈(z7ea v x).v.keys,(∃o∈v.keys,z3ia x o=m)∨m∈x.made:=by
 unfold z7ea at h⊢
 by_cases h1:okE x=true
 ·rw[if_pos h1] at h⊢
  by_cases h2:x.time<v.time
  ·rw[if_pos h2] at h;cases h
  ·rw[if_neg h2] at h⊢
   cases hg:z6U x.gone v.keys with
   |none=>rw[hg] at h;cases h
   |some l=>
    cases hr:z0qa x l with
    |none=>rw[hg] at h;simp only[Option.bind_some,hr] at h;cases h
    |some l2=>
     rw[hg] at h
     simp only[Option.bind_some,hr] at h⊢
     by_cases h3:z0Za x.made v.next=true
     ·rw[if_pos h3] at h⊢
      by_cases h4:z0na<v.next+x.made.length
      ·rw[if_pos h4] at h;cases h
      ·rw[if_neg h4]
       have hsub:=z8ga hg
       intro m hm
       rcases List.mem_append.1 hm with hm|hm
       ·obtain⟨o,ho,e⟩:=z5Cb (List.Pairwise.sublist hsub hv.inc) hr m hm
        exact .inl ⟨o,hsub.subset ho,e⟩
       ·exact .inr hm
     ·rw[if_neg h3] at h;cases h
 ·rw[if_neg h1] at h;cases h
def z6rb (x:z9o) (ks:List z3e) (m:z3e) (i:Nat):Bool:=(ks.take i).any fun o=>decide (z3ia x o=m)
def z5fb (b:Bool) (ks:List z3e) (m:z3e) (i:Nat):Bool:=b||(ks.take i).any fun o=>decide (o=m)
theorem z3nc (x:z9o) {ks:List z3e} (m:z3e) {i:Nat} (h:i<ks.length):z6rb x ks m (i+1)=(z6rb x ks m i||decide (z3ia x (atD ks i)=m)):=by
 rw[z6rb,z6rb,List.take_succ_eq_append_getElem h,List.any_append,←z6T h]
 simp
theorem z2lc (b:Bool) (ks:List z3e) (m:z3e):z5fb b ks m 0=b:=by simp[z5fb]
theorem z7Dc (b:Bool) {ks:List z3e} (m:z3e) {i:Nat} (h:i<ks.length):z5fb b ks m (i+1)=(z5fb b ks m i||decide (atD ks i=m)):=by
 rw[z5fb,z5fb,List.take_succ_eq_append_getElem h,List.any_append,←z6T h,Bool.or_assoc]
 simp
theorem z23b {v:z7i} {x:z9o} (hv:z5Xa v) (h:(z7ea v x).e=0) {m:z3e} (hm:m∈(z7ea v x).v.keys):z5fb (z6rb x v.keys m v.keys.length) x.made m x.made.length=true:=by
 rw[z5fb,z6rb,List.take_length,List.take_length]
 rcases z2fb hv h m hm with⟨o,ho,e⟩|hm
 ·rw[show(v.keys.any fun o=>decide (z3ia x o=m))=true from List.any_eq_true.2 ⟨o,ho,by simpa using e⟩,Bool.true_or]
 ·rw[show(x.made.any fun o=>decide (o=m))=true from List.any_eq_true.2 ⟨m,hm,by simp⟩,Bool.or_true]
theorem z88b:z5Xa z4xa:=⟨List.Pairwise.nil,fun m h=>(by cases h),fun m h=>(by cases h),by decide⟩
end Go.Abs
end

section
namespace Go.Abs
set_option maxRecDepth 100000
def z8Q (l:List z9o):List z2a:=l.flatMap (z5l none none none)
def z6Cc (x:z9o):Prop:=x.dig.length=16
theorem z59 {l:List z9o} (h:∀x∈l,x.ok):(z8Q l).length=l.length*30:=by
 induction l with
 |nil=>rfl
 |cons a l ih=>
  have:=ih fun m hm=>h m (by simp[hm])
  rw[z8Q] at this⊢
  rw[List.flatMap_cons,List.length_append,this,z8d (h a (by simp)).2.2.2.2.2.1,List.length_cons];omega
theorem z05a {l:List z9o} (h:∀x∈l,x.ok) {i:Nat} (hi:i<l.length):((z8Q l).drop (i*30)).take 30=z5l none none none l[i]:=by
 have e1:=z5aa (enc:=z5l none none none) (P:=z6Cc) (w:=30) (fun a ha=>z8d ha) l i (fun a ha=>(h a ha).2.2.2.2.2.1)
 rw[show z8Q l=l.flatMap (z5l none none none) from rfl,e1,List.drop_eq_getElem_cons hi,List.flatMap_cons,List.take_left' (z8d (h _ (List.getElem_mem hi)).2.2.2.2.2.1)]
@[simp] theorem z2jc (l:List z9o):z2h (z8Q l)=true:=by
 refine(z5m _).2 fun c hc=> ?_
 obtain⟨m,_,h⟩:=List.mem_flatMap.1 hc
 exact(z5m _).1 (z9Ka none none none m) c h
structure vwI (i:Nat) (v:z7i):Prop where
 k:z5d v.keys
 n:v.keys.length≤i*40
 t:z2l v.time
 e:0≤v.ents∧v.ents≤i
 x:0≤v.next∧v.next≤z0na
theorem z2uc {i:Nat} {v:z7i} (h:vwI i v) (hi:i≤30):vOk v:=by
 obtain⟨h1,h2,h3,⟨h4,h5⟩,h6⟩:=h
 exact⟨h1,by omega,h3,⟨h4,by omega⟩,h6⟩
theorem z9rb {i:Nat} {v:z7i} (h:vwI i v):vwI (i+1) v:=by
 obtain⟨h1,h2,h3,⟨h4,h5⟩,h6⟩:=h
 exact⟨h1,by omega,h3,⟨h4,by omega⟩,h6⟩
theorem z98b {m:z3e} (h:m.ok):(z0Jb m).ok:=by
 obtain⟨h1,h2,h3,h4⟩:=h
 exact⟨h1,h2,z10a _ _,h4⟩
theorem z3Kb {v:z7i} {x:z9o} (hv:z5d v.keys) (hx:z5d x.made):z5d (z7ea v x).v.keys∧(z7ea v x).v.keys.length≤v.keys.length+x.made.length:=by
 unfold z7ea
 split
 rotate_left
 ·exact⟨fun m hm=>(by cases hm),by simp[z1O]⟩
 split
 ·exact⟨fun m hm=>(by cases hm),by simp[z1O]⟩
 cases hg:z6U x.gone v.keys with
 |none=>exact⟨fun m hm=>(by cases hm),by simp[z1O]⟩
 |some l=>
  have hsub:=z8ga hg
  cases hr:z0qa x l with
  |none=>simp only[Option.bind_some,hr];exact⟨fun m hm=>(by cases hm),by simp[z1O]⟩
  |some l2=>
   simp only[Option.bind_some,hr]
   have hlen:l2.length=l.length:=by have:=congrArg List.length (z2eb hr);simpa using this
   split
   ·split
    ·exact⟨fun m hm=>(by cases hm),by simp[z1O]⟩
    ·refine⟨fun m hm=> ?_,?_⟩
     ·rcases List.mem_append.1 hm with hm|hm
      ·rcases z4pb hr hm with hm|⟨_,o,ho,_,rfl⟩
       ·exact hv m (hsub.subset hm)
       ·exact z98b (hv o (hsub.subset ho))
      ·exact hx m hm
     ·have:=hsub.length_le
      simp only[List.length_append];omega
   ·exact⟨fun m hm=>(by cases hm),by simp[z1O]⟩
theorem z7xb {i:Nat} {v:z7i} {x:z9o} (h:vwI i v) (hx:x.ok) (hf:z7Ta x=true) (he:(z7ea v x).e=0):vwI (i+1) (z7ea v x).v:=by
 obtain⟨k1,k2⟩:=z3Kb h.k hx.2.2.2.2.2.2.1
 have hm:x.made.length≤40:=by simp only[z7Ta,Bool.and_eq_true,decide_eq_true_eq] at hf;exact hf.1.1.1
 obtain⟨h1,h2,h3,⟨h4,h5⟩,h6⟩:=h
 refine⟨k1,by omega,?_,?_,?_⟩
 all_goals
  unfold z7ea at he⊢
  by_cases c1:okE x=true
  ·rw[if_pos c1] at he⊢
   by_cases c2:x.time<v.time
   ·rw[if_pos c2] at he;cases he
   ·rw[if_neg c2] at he⊢
    cases hg:(z6U x.gone v.keys).bind (z0qa x) with
    |none=>rw[hg] at he;cases he
    |some l2=>
     rw[hg] at he
     simp only at he⊢
     by_cases c3:z0Za x.made v.next=true
     ·rw[if_pos c3] at he⊢
      by_cases c4:z0na<v.next+x.made.length
      ·rw[if_pos c4] at he;cases he
      ·rw[if_neg c4]
       first
       |exact hx.1
       |exact⟨by show 0≤v.ents+1;omega,by show v.ents+1≤_;omega⟩
       |exact⟨by show 0≤v.next+_;omega,by show v.next+_≤_;omega⟩
     ·rw[if_neg c3] at he;cases he
  ·rw[if_neg c1] at he;cases he
theorem z3Xc:vwI 0 z4xa:=⟨fun m hm=>(by cases hm),by simp[z4xa],⟨by decide,by decide⟩,by decide,by decide⟩
end Go.Abs
end

section
namespace Go.Abs
set_option maxRecDepth 100000
theorem z3ya {l:List z9o} (h:∀x∈l,x.ok) {i:Nat} (hi:i<l.length) {k:Nat} (hk:k<30):hdA ((z8Q l).drop (i*30+k))=hdA ((z5l none none none l[i]).drop k):=by
 rw[←List.drop_drop,←z94b hk,z05a h hi]
set_option maxHeartbeats 16000000 in
theorem z7yc (E:Env) {Q:z0n→ASt→Prop} {l:List z9o} {i:Nat} {v w:z7i} {m:z3e} {t kk:Int} (hl:∀x∈l,x.ok) (h30:l.length≤30) (h1:i<l.length) (k16:z5d v.keys) (kl:v.keys.length≤1000000) (hm:m.ok)
  (h:Q (.exit 4) ⟨[(0,.sl .plain none l.length (z8Q l))],[(3,.bp 3 0),(4,i64 i),(5,.bp 5 0),(7,i64 t),(8,i64 kk),(9,.bp 9 0),(10,bo (z6rb l[i] v.keys m v.keys.length))],[(3,some (z3d none v)),(5,some (z3d none w)),(9,some (z2n m))]⟩):
  awp E (.loop z3c) Q ⟨[(0,.sl .plain none l.length (z8Q l))],[(3,.bp 3 0),(4,i64 i),(5,.bp 5 0),(7,i64 t),(8,i64 kk),(9,.bp 9 0),(10,bo false),(11,i64 0)],[(3,some (z3d none v)),(5,some (z3d none w)),(9,some (z2n m))]⟩:=by
 have hlen:=z59 hl
 have hkl:=z9d (z2c k16)
 have e1:=z3ya hl h1 (k:=1) (by omega)
 have e5:=z3ya hl h1 (k:=5) (by omega)
 have f1:hdA ((z5l none none none l[i]).drop 1)=i64 l[i].kind:=rfl
 have f5:hdA ((z5l none none none l[i]).drop 5)=i64 l[i].cmd.key:=rfl
 rw[f1] at e1
 rw[f5] at e5
 have lf (nk:Option Bool) (v:z7i):(z3d nk v).length=5:=rfl
 have v4 (nk:Option Bool) (v:z7i):hdA ((z3d nk v).drop 4)= .sl .plain nk v.keys.length (z6b v.keys):=rfl
 have g1:1≤l.length*30-i*30:=by omega
 have g2:i*30≤l.length*30:=by omega
 have g3:1≤l.length*30-(i*30+1):=by omega
 have g5:1≤l.length*30-(i*30+5):=by omega
 have g4:4≤l.length*30-i*30:=by omega
 have g6:1≤l.length*30-(i*30+4):=by omega
 have vr (nk:Option Bool) (v:z7i):z7g (z3d nk v)=[]:=rfl
 generalize hx:l[i]=x at*
 have hdm:=hm.2.2.2.2.2.2.2
 have hmm:=z8k hdm
 have hmt:=z98 hdm
 generalize hz:z6rb x v.keys m=F at h
 have hF0:F 0=false:=by rw[←hz];rfl
 refine z3a fun Q0 hQ0=> ?_
 refine z4d (fun j:Nat=>⟨[(0,.sl .plain none l.length (z8Q l))],[(3,.bp 3 0),(4,i64 i),(5,.bp 5 0),(7,i64 t),(8,i64 kk),(9,.bp 9 0),(10,bo (F j)),(11,i64 j)],[(3,some (z3d none v)),(5,some (z3d none w)),(9,some (z2n m))]⟩)
  (fun j=>v.keys.length-j) (fun j=>j≤v.keys.length) 0 (by simp[hF0]) (by simp) fun j hj=> ?_
 refine z3a fun Q1 hQ1=> ?_
 by_cases h2:j<v.keys.length
 ·have ho:=k16 _ (z9T h2)
  have hdo:=ho.2.2.2.2.2.2.2
  have ha:=z4wa k16 h2
  have hs:=z3nc x m h2
  rw[hz] at hs
  have hle:24≤v.keys.length*24-j*24:=by omega
  have hle2:j*24≤v.keys.length*24:=by omega
  generalize hX:atD v.keys j=o at*
  have hol:=z8k hdo
  have hot:=z98 hdo
  have sp':splice [i64 0,i64 0,i64 0,i64 0,i64 0,i64 0,i64 0,bo false,u8 0,u8 0,u8 0,u8 0,u8 0,u8 0,u8 0,u8 0,u8 0,u8 0,u8 0,u8 0,u8 0,u8 0,u8 0,u8 0] 0 (z2n o)=z2n o:=z08 hdo rfl
  have sp:splice (i64 0::i64 0::i64 0::i64 0::i64 0::i64 0::i64 0::bo false::bys (z4c 16)) 0 (z2n o)=z2n o:=z08 hdo rfl
  have hud:(z0Jb o).dig.length=16:=hdo
  have hul:=z8k hud
  have hut:=z98 hud
  have o0:hdA (z2n o)=i64 o.id:=rfl
  have o2:hdA ((z2n o).drop 2)=i64 o.uses:=rfl
  have os:splice (z2n o) 2 [i64 (z6Kb o.uses 176)]=z2n (z0Jb o):=rfl
  have hq1:=eqM hdo hdm
  have hq2:=eqM hud hdm
  have ho1:=z34b hdo
  have ho2:=z34b hdm
  have ho3:=z34b hud
  by_cases hk:x.kind=13
  ·by_cases hk2:o.id=x.cmd.key
   ·have hmk:z3ia x o=z0Jb o:=by rw[z3ia,if_pos ⟨hk,hk2⟩]
    rw[hmk] at hs
    cases hF:F j
    ·simp(maxSteps:=1000000) (disch:=first|omega|(simp;done)|(simp;omega)) [z9a,z1a,z0a,z3c,z7d,z6d,h2,lf,v4,hkl,hlen,ha,hle,hle2,hol,hot,sp,sp',hul,hut,o0,o2,os,hmm,hmt,z7n,z3r,e1,e5,g1,g2,g3,g5,hk,hk2,hF,h1,g4,g6,vr,ho1,ho2,ho3,hq1,hq2,kT,kF,dT,dF,hQ1]
     exact⟨j+1,by omega,by omega,by rw[hs,hF];rfl,by omega⟩
    ·simp(maxSteps:=1000000) (disch:=first|omega|(simp;done)|(simp;omega)) [z9a,z1a,z0a,z3c,z7d,z6d,h2,lf,v4,hkl,hlen,ha,hle,hle2,hol,hot,sp,sp',hul,hut,o0,o2,os,hmm,hmt,z7n,z3r,e1,e5,g1,g2,g3,g5,hk,hk2,hF,h1,g4,g6,vr,ho1,ho2,ho3,hq1,hq2,kT,kF,dT,dF,hQ1]
     exact⟨j+1,by omega,by omega,by rw[hs,hF];rfl,by omega⟩
   ·have hmk:z3ia x o=o:=by rw[z3ia,if_neg (fun hc=>hk2 hc.2)]
    rw[hmk] at hs
    cases hF:F j
    ·simp(maxSteps:=1000000) (disch:=first|omega|(simp;done)|(simp;omega)) [z9a,z1a,z0a,z3c,z7d,z6d,h2,lf,v4,hkl,hlen,ha,hle,hle2,hol,hot,sp,sp',hul,hut,o0,o2,os,hmm,hmt,z7n,z3r,e1,e5,g1,g2,g3,g5,hk,hk2,hF,h1,g4,g6,vr,ho1,ho2,ho3,hq1,hq2,kT,kF,dT,dF,hQ1]
     exact⟨j+1,by omega,by omega,by rw[hs,hF];rfl,by omega⟩
    ·simp(maxSteps:=1000000) (disch:=first|omega|(simp;done)|(simp;omega)) [z9a,z1a,z0a,z3c,z7d,z6d,h2,lf,v4,hkl,hlen,ha,hle,hle2,hol,hot,sp,sp',hul,hut,o0,o2,os,hmm,hmt,z7n,z3r,e1,e5,g1,g2,g3,g5,hk,hk2,hF,h1,g4,g6,vr,ho1,ho2,ho3,hq1,hq2,kT,kF,dT,dF,hQ1]
     exact⟨j+1,by omega,by omega,by rw[hs,hF];rfl,by omega⟩
  ·have hb:=beq_false_of_ne hk
   have hmk:z3ia x o=o:=by rw[z3ia,if_neg (fun hc=>hk hc.1)]
   rw[hmk] at hs
   cases hF:F j
   ·simp(maxSteps:=1000000) (disch:=first|omega|(simp;done)|(simp;omega)) [z9a,z1a,z0a,z3c,z7d,z6d,h2,lf,v4,hkl,hlen,ha,hle,hle2,hol,hot,sp,sp',hul,hut,o0,o2,os,hmm,hmt,z7n,z3r,e1,e5,g1,g2,g3,g5,hb,hF,h1,g4,g6,vr,ho1,ho2,ho3,hq1,hq2,kT,kF,dT,dF,hQ1]
    exact⟨j+1,by omega,by omega,by rw[hs,hF];rfl,by omega⟩
   ·simp(maxSteps:=1000000) (disch:=first|omega|(simp;done)|(simp;omega)) [z9a,z1a,z0a,z3c,z7d,z6d,h2,lf,v4,hkl,hlen,ha,hle,hle2,hol,hot,sp,sp',hul,hut,o0,o2,os,hmm,hmt,z7n,z3r,e1,e5,g1,g2,g3,g5,hb,hF,h1,g4,g6,vr,ho1,ho2,ho3,hq1,hq2,kT,kF,dT,dF,hQ1]
    exact⟨j+1,by omega,by omega,by rw[hs,hF];rfl,by omega⟩
 ·obtain rfl:j=v.keys.length:=by omega
  simp(maxSteps:=1000000) (disch:=first|omega|(simp;done)|(simp;omega)) [z9a,z1a,z0a,z3c,h2,lf,v4,kT,kF,dT,dF,hQ1,hQ0]
  exact h
end Go.Abs
end

section
namespace Go.Abs
set_option maxRecDepth 100000
set_option maxHeartbeats 16000000 in
theorem z4Gc (E:Env) {Q:z0n→ASt→Prop} {l:List z9o} {i:Nat} {v w:z7i} {m:z3e} {t kk:Int} {b0:Bool} (hl:∀x∈l,x.ok) (h30:l.length≤30) (h1:i<l.length) (hml:l[i].made.length≤1000000) (hm:m.ok)
  (h:Q (.exit 6) ⟨[(0,.sl .plain none l.length (z8Q l))],[(3,.bp 3 0),(4,i64 i),(5,.bp 5 0),(7,i64 t),(8,i64 kk),(9,.bp 9 0),(10,bo (z5fb b0 l[i].made m l[i].made.length))],[(3,some (z3d none v)),(5,some (z3d none w)),(9,some (z2n m)),(12,none)]⟩):
  awp E (.loop z8c) Q ⟨[(0,.sl .plain none l.length (z8Q l))],[(3,.bp 3 0),(4,i64 i),(5,.bp 5 0),(7,i64 t),(8,i64 kk),(9,.bp 9 0),(10,bo b0),(13,i64 0)],[(3,some (z3d none v)),(5,some (z3d none w)),(9,some (z2n m))]⟩:=by
 have hlen:=z59 hl
 have hxo:=hl _ (List.getElem_mem h1)
 have k16:=hxo.2.2.2.2.2.2.1
 have hdx:=hxo.2.2.2.2.2.1
 have e28:=z3ya hl h1 (k:=28) (by omega)
 rw[z1ma (nc:=none) (nm:=none) (ng:=none) hdx] at e28
 have g1:1≤l.length*30-(i*30+28):=by omega
 have g2:28≤l.length*30-i*30:=by omega
 have g3:i*30≤l.length*30:=by omega
 generalize hx:l[i]=x at*
 have hkl:=z9d (z2c k16)
 have hdm:=hm.2.2.2.2.2.2.2
 have hmm:=z8k hdm
 have hmt:=z98 hdm
 have vr (nk:Option Bool) (v:z7i):z7g (z3d nk v)=[]:=rfl
 generalize hz:z5fb b0 x.made m=F at h
 have hF0:F 0=b0:=by rw[←hz];exact z2lc b0 x.made m
 refine z3a fun Q0 hQ0=> ?_
 refine z4d (fun a:Nat×List (Nat×Option (List z2a))=>⟨[(0,.sl .plain none l.length (z8Q l))],[(3,.bp 3 0),(4,i64 i),(5,.bp 5 0),(7,i64 t),(8,i64 kk),(9,.bp 9 0),(10,bo (F a.1)),(13,i64 a.1)],(3,some (z3d none v))::(5,some (z3d none w))::(9,some (z2n m))::a.2⟩)
  (fun a=>x.made.length-a.1) (fun a=>a.1≤x.made.length∧(a.2=[]∨a.2=[(12,none)])) (0,[]) (by simp[hF0]) (by simp) fun⟨j,bx⟩ hj=> ?_
 obtain⟨hj,hbx⟩:=hj
 simp only at hj hbx⊢
 refine z3a fun Q1 hQ1=> ?_
 by_cases h2:j<x.made.length
 ·have ho:=k16 _ (z9T h2)
  have hdo:=ho.2.2.2.2.2.2.2
  have ha:=z4wa k16 h2
  have hs:=z7Dc b0 m h2
  rw[hz] at hs
  have hle:24≤x.made.length*24-j*24:=by omega
  have hle2:j*24≤x.made.length*24:=by omega
  generalize hX:atD x.made j=o at*
  have hol:=z8k hdo
  have hot:=z98 hdo
  have hq1:=eqM hdo hdm
  have ho1:=z34b hdo
  have ho2:=z34b hdm
  rcases hbx with rfl|rfl
  ·cases hF:F j
   ·simp(maxSteps:=1000000) (disch:=first|omega|(simp;done)|(simp;omega)) [z9a,z1a,z0a,z8c,z5h,h2,hkl,hlen,e28,g1,g2,g3,h1,ha,hle,hle2,hol,hot,hmm,hmt,z7n,z3r,vr,ho1,ho2,hF,hq1,kT,kF,dT,dF,hQ1]
    exact⟨j+1,by omega,by omega,by rw[hs,hF];rfl,by omega⟩
   ·simp(maxSteps:=1000000) (disch:=first|omega|(simp;done)|(simp;omega)) [z9a,z1a,z0a,z8c,z5h,h2,hkl,hlen,e28,g1,g2,g3,h1,ha,hle,hle2,hol,hot,hmm,hmt,z7n,z3r,vr,ho1,ho2,hF,hq1,kT,kF,dT,dF,hQ1]
    exact⟨j+1,by omega,by omega,by rw[hs,hF];rfl,by omega⟩
  ·cases hF:F j
   ·simp(maxSteps:=1000000) (disch:=first|omega|(simp;done)|(simp;omega)) [z9a,z1a,z0a,z8c,z5h,h2,hkl,hlen,e28,g1,g2,g3,h1,ha,hle,hle2,hol,hot,hmm,hmt,z7n,z3r,vr,ho1,ho2,hF,hq1,kT,kF,dT,dF,hQ1]
    exact⟨j+1,by omega,by omega,by rw[hs,hF];rfl,by omega⟩
   ·simp(maxSteps:=1000000) (disch:=first|omega|(simp;done)|(simp;omega)) [z9a,z1a,z0a,z8c,z5h,h2,hkl,hlen,e28,g1,g2,g3,h1,ha,hle,hle2,hol,hot,hmm,hmt,z7n,z3r,vr,ho1,ho2,hF,hq1,kT,kF,dT,dF,hQ1]
    exact⟨j+1,by omega,by omega,by rw[hs,hF];rfl,by omega⟩
 ·obtain rfl:j=x.made.length:=by omega
  rcases hbx with rfl|rfl
  ·simp(maxSteps:=1000000) (disch:=first|omega|(simp;done)|(simp;omega)) [z9a,z1a,z0a,z8c,h2,hlen,e28,g1,g2,g3,h1,kT,kF,dT,dF,hQ1,hQ0]
   exact h
  ·simp(maxSteps:=1000000) (disch:=first|omega|(simp;done)|(simp;omega)) [z9a,z1a,z0a,z8c,h2,hlen,e28,g1,g2,g3,h1,kT,kF,dT,dF,hQ1,hQ0]
   exact h
end Go.Abs
end

section
namespace Go.Abs
set_option maxRecDepth 100000
set_option maxHeartbeats 16000000 in
theorem z1pc (E:Env) {Q:z0n→ASt→Prop} {l:List z9o} {i g:Nat} {v w:z7i} (hl:∀x∈l,x.ok) (h30:l.length≤30) (h1:i<l.length) (hg:g<l[i].gone.length) (k16:z5d w.keys) (kl:w.keys.length≤1000000)
  (hno:∀m∈w.keys,m.id=l[i].gone.getD g 0→v.next≤m.id)
  (h:Q (.exit 10) ⟨[(0,.sl .plain none l.length (z8Q l))],[(3,.bp 3 0),(4,i64 i),(5,.bp 5 0),(14,i64 g)],[(3,some (z3d none v)),(5,some (z3d none w)),(9,none),(12,none)]⟩):
  awp E (.loop z3h) Q ⟨[(0,.sl .plain none l.length (z8Q l))],[(3,.bp 3 0),(4,i64 i),(5,.bp 5 0),(14,i64 g),(15,i64 0)],[(3,some (z3d none v)),(5,some (z3d none w)),(9,none),(12,none)]⟩:=by
 have hlen:=z59 hl
 have hxo:=hl _ (List.getElem_mem h1)
 have hdx:=hxo.2.2.2.2.2.1
 have e29:=z3ya hl h1 (k:=29) (by omega)
 rw[z1na (nc:=none) (nm:=none) (ng:=none) hdx] at e29
 have g1:1≤l.length*30-(i*30+29):=by omega
 have g2:29≤l.length*30-i*30:=by omega
 have g3:i*30≤l.length*30:=by omega
 generalize hx:l[i]=x at*
 have hkl:=z9d (z2c k16)
 have ha:=z9Ea hg
 have ha':=z30a hg
 have hil:=z5qa x.gone
 generalize x.gone.getD g 0=k at*
 have lf (nk:Option Bool) (v:z7i):(z3d nk v).length=5:=rfl
 have v4 (nk:Option Bool) (v:z7i):hdA ((z3d nk v).drop 4)= .sl .plain nk v.keys.length (z6b v.keys):=rfl
 have v3 (nk:Option Bool) (v:z7i):hdA ((z3d nk v).drop 3)=i64 v.next:=rfl
 refine z3a fun Q0 hQ0=> ?_
 refine z4d (fun j:Nat=>⟨[(0,.sl .plain none l.length (z8Q l))],[(3,.bp 3 0),(4,i64 i),(5,.bp 5 0),(14,i64 g),(15,i64 j)],[(3,some (z3d none v)),(5,some (z3d none w)),(9,none),(12,none)]⟩)
  (fun j=>w.keys.length-j) (fun j=>j≤w.keys.length) 0 (by simp) (by simp) fun j hj=> ?_
 refine z3a fun Q1 hQ1=> ?_
 by_cases h2:j<w.keys.length
 ·have hmem:=z9T h2
  have hn:=hno _ hmem
  have hd:=z5tb k16 h2
  have hle:1≤w.keys.length*24-j*24:=by omega
  have hle2:j*24≤w.keys.length*24:=by omega
  generalize hX:atD w.keys j=o at*
  by_cases h3:o.id=k
  ·have h4:¬o.id<v.next:=by have:=hn h3;omega
   have h4':¬k<v.next:=by rw[←h3];exact h4
   simp(maxSteps:=1000000) (disch:=first|omega|(simp;done)|(simp;omega)) [z9a,z1a,z0a,z3h,z3n,h2,hkl,hlen,e29,g1,g2,g3,h1,ha,ha',hil,hg,hle,hle2,lf,v4,v3,hd,h3,h4,h4',kT,kF,dT,dF,hQ1]
   exact⟨by omega,j+1,by omega,by omega,by omega⟩
  ·have hb:=beq_false_of_ne h3
   simp(maxSteps:=1000000) (disch:=first|omega|(simp;done)|(simp;omega)) [z9a,z1a,z0a,z3h,z3n,h2,hkl,hlen,e29,g1,g2,g3,h1,ha,ha',hil,hg,hle,hle2,lf,v4,v3,hd,hb,h3,kT,kF,dT,dF,hQ1]
   exact⟨by omega,j+1,by omega,by omega,by omega⟩
 ·obtain rfl:j=w.keys.length:=by omega
  simp(maxSteps:=1000000) (disch:=first|omega|(simp;done)|(simp;omega)) [z9a,z1a,z0a,z3h,h2,lf,v4,kT,kF,dT,dF,hQ1,hQ0]
  exact h
set_option maxHeartbeats 16000000 in
theorem z0Cc (E:Env) {Q:z0n→ASt→Prop} {l:List z9o} {i:Nat} {v w:z7i} (hl:∀x∈l,x.ok) (h30:l.length≤30) (h1:i<l.length) (hgl:l[i].gone.length≤1000000) (k16:z5d w.keys) (kl:w.keys.length≤1000000)
  (hno:∀n∈l[i].gone,∀m∈w.keys,m.id=n→v.next≤m.id)
  (h:Q (.exit 8) ⟨[(0,.sl .plain none l.length (z8Q l))],[(3,.bp 3 0),(4,i64 i),(5,.bp 5 0)],[(3,some (z3d none v)),(5,some (z3d none w)),(9,none),(12,none)]⟩):
  awp E (.loop z5f) Q ⟨[(0,.sl .plain none l.length (z8Q l))],[(3,.bp 3 0),(4,i64 i),(5,.bp 5 0),(14,i64 0)],[(3,some (z3d none v)),(5,some (z3d none w))]⟩:=by
 have hlen:=z59 hl
 have hxo:=hl _ (List.getElem_mem h1)
 have hdx:=hxo.2.2.2.2.2.1
 have e29:=z3ya hl h1 (k:=29) (by omega)
 rw[z1na (nc:=none) (nm:=none) (ng:=none) hdx] at e29
 have g1:1≤l.length*30-(i*30+29):=by omega
 have g2:29≤l.length*30-i*30:=by omega
 have g3:i*30≤l.length*30:=by omega
 have hil:=z5qa l[i].gone
 refine z3a fun Q0 hQ0=> ?_
 refine z4d (fun a:Nat×List (Nat×Option (List z2a))=>⟨[(0,.sl .plain none l.length (z8Q l))],[(3,.bp 3 0),(4,i64 i),(5,.bp 5 0),(14,i64 a.1)],(3,some (z3d none v))::(5,some (z3d none w))::a.2⟩)
  (fun a=>l[i].gone.length-a.1) (fun a=>a.1≤l[i].gone.length∧(a.2=[]∨a.2=[(9,none),(12,none)])) (0,[]) (by simp) (by simp) fun⟨g,bx⟩ hg=> ?_
 obtain⟨hg,hbx⟩:=hg
 simp only at hg hbx⊢
 refine z3a fun Q1 hQ1=> ?_
 by_cases h2:g<l[i].gone.length
 ·have hm:l[i].gone.getD g 0∈l[i].gone:=by
   rw[List.getD,List.getElem?_eq_getElem h2];exact List.getElem_mem h2
  have key:=fun Q' (hq:Q' (.exit 10) _)=>z1pc E (Q:=Q') (v:=v) (w:=w) hl h30 h1 h2 k16 kl (fun m hm' he=>hno _ hm m hm' he) hq
  rcases hbx with rfl|rfl
  ·simp(maxSteps:=1000000) (disch:=first|omega|(simp;done)|(simp;omega)) [z9a,z1a,z0a,z5f,z5n,h2,hlen,e29,g1,g2,g3,h1,kT,kF,dT,dF]
   refine key _ ?_
   simp(maxSteps:=1000000) (disch:=first|omega|(simp;done)|(simp;omega)) [z9a,z1a,z0a,hQ1]
   exact⟨g+1,by omega,by omega,by omega⟩
  ·simp(maxSteps:=1000000) (disch:=first|omega|(simp;done)|(simp;omega)) [z9a,z1a,z0a,z5f,z5n,h2,hlen,e29,g1,g2,g3,h1,kT,kF,dT,dF]
   refine key _ ?_
   simp(maxSteps:=1000000) (disch:=first|omega|(simp;done)|(simp;omega)) [z9a,z1a,z0a,hQ1]
   exact⟨g+1,by omega,by omega,by omega⟩
 ·obtain rfl:g=l[i].gone.length:=by omega
  rcases hbx with rfl|rfl
  ·simp(maxSteps:=1000000) (disch:=first|omega|(simp;done)|(simp;omega)) [z9a,z1a,z0a,z5f,h2,hlen,e29,g1,g2,g3,h1,kT,kF,dT,dF,hQ1,hQ0]
   exact h
  ·simp(maxSteps:=1000000) (disch:=first|omega|(simp;done)|(simp;omega)) [z9a,z1a,z0a,z5f,h2,hlen,e29,g1,g2,g3,h1,kT,kF,dT,dF,hQ1,hQ0]
   exact h
end Go.Abs
end

section
namespace Go.Abs
set_option maxRecDepth 100000
theorem z0wc {l:List z3e} (h:z0Kb l) {i j:Nat} (hij:i<j) (hj:j<l.length):(atD l i).id<(atD l j).id:=by
 have:=List.pairwise_iff_getElem.1 h i j (by omega) hj hij
 rw[z6T hj,z6T (by omega:i<l.length)]
 exact this
set_option maxHeartbeats 16000000 in
theorem z5pc (E:Env) {Q:z0n→ASt→Prop} {l:List z9o} {i:Nat} {v w:z7i} (hl:∀x∈l,x.ok) (h30:l.length≤30) (h1:i<l.length) (hml:l[i].made.length≤1000000) (k16:z5d v.keys) (kl:v.keys.length≤1000000) (w16:z5d w.keys) (wl:w.keys.length≤1000000)
  (hw:z5Xa w) (hf:∀m∈w.keys,z5fb (z6rb l[i] v.keys m v.keys.length) l[i].made m l[i].made.length=true)
  (h:Q (.exit 2) ⟨[(0,.sl .plain none l.length (z8Q l))],[(3,.bp 3 0),(4,i64 i),(5,.bp 5 0)],[(3,some (z3d none v)),(5,some (z3d none w))]⟩):
  awp E (.loop z1k) Q ⟨[(0,.sl .plain none l.length (z8Q l))],[(3,.bp 3 0),(4,i64 i),(5,.bp 5 0),(7,i64 0),(8,i64 0)],[(3,some (z3d none v)),(5,some (z3d none w))]⟩:=by
 have hkl:=z9d (z2c w16)
 have lf (nk:Option Bool) (v:z7i):(z3d nk v).length=5:=rfl
 have v4 (nk:Option Bool) (v:z7i):hdA ((z3d nk v).drop 4)= .sl .plain nk v.keys.length (z6b v.keys):=rfl
 have v3 (nk:Option Bool) (v:z7i):hdA ((z3d nk v).drop 3)=i64 v.next:=rfl
 have vr (nk:Option Bool) (v:z7i):z7g (z3d nk v)=[]:=rfl
 refine z3a fun Q0 hQ0=> ?_
 refine z4d (fun a:Nat×Int=>⟨[(0,.sl .plain none l.length (z8Q l))],[(3,.bp 3 0),(4,i64 i),(5,.bp 5 0),(7,i64 a.2),(8,i64 a.1)],[(3,some (z3d none v)),(5,some (z3d none w))]⟩)
  (fun a=>w.keys.length-a.1) (fun a=>a.1≤w.keys.length∧∀j,a.1≤j→j<w.keys.length→a.2<(atD w.keys j).id) (0,0) (by simp) (by simp;exact fun j hj=>hw.pos _ (z9T hj)) fun⟨k,la⟩ hk=> ?_
 obtain⟨hk,hla⟩:=hk
 simp only at hk hla⊢
 refine z3a fun Q1 hQ1=> ?_
 by_cases h2:k<w.keys.length
 ·have ho:=w16 _ (z9T h2)
  have hdo:=ho.2.2.2.2.2.2.2
  have ha:=z4wa w16 h2
  have hle:24≤w.keys.length*24-k*24:=by omega
  have hle2:k*24≤w.keys.length*24:=by omega
  have c1:la<(atD w.keys k).id:=hla k (Nat.le_refl _) h2
  have c2:=hw.lt _ (z9T h2)
  have cf:=hf _ (z9T h2)
  have cn:∀j,k+1≤j→j<w.keys.length→(atD w.keys k).id<(atD w.keys j).id:=fun j hj hj2=>z0wc hw.inc (by omega) hj2
  generalize hX:atD w.keys k=o at*
  have hol:=z8k hdo
  have hot:=z98 hdo
  have sp:splice (i64 0::i64 0::i64 0::i64 0::i64 0::i64 0::i64 0::bo false::bys (z4c 16)) 0 (z2n o)=z2n o:=z08 hdo rfl
  have o0:hdA (z2n o)=i64 o.id:=rfl
  have c1':¬o.id≤la:=by omega
  have c2':¬w.next≤o.id:=by omega
  have key2:=fun Q' (hq:Q' (.exit 4) _)=>z7yc E (Q:=Q') (v:=v) (w:=w) (m:=o) (t:=la) (kk:=k) hl h30 h1 k16 kl ho hq
  have key3:=fun Q' (hq:Q' (.exit 6) _)=>z4Gc E (Q:=Q') (v:=v) (w:=w) (m:=o) (t:=la) (kk:=k) (b0:=z6rb l[i] v.keys o v.keys.length) hl h30 h1 hml ho hq
  simp(maxSteps:=1000000) (disch:=first|omega|(simp;done)|(simp;omega)) [z9a,z1a,z0a,z1k,z9v,h2,lf,v4,hkl,ha,hle,hle2,hol,hot,sp,z7n,z3r,kT,kF,dT,dF]
  refine key2 _ ?_
  simp(maxSteps:=1000000) (disch:=first|omega|(simp;done)|(simp;omega)) [z9a,z1a,z0a,z2w]
  refine key3 _ ?_
  rw[cf]
  simp(maxSteps:=1000000) (disch:=first|omega|(simp;done)|(simp;omega)) [z9a,z1a,z0a,z3u,lf,v4,v3,o0,hol,c1',c2',vr,kT,kF,dT,dF,hQ1]
  exact⟨k+1,by omega,o.id,⟨by omega,cn⟩,rfl,by omega⟩
 ·obtain rfl:k=w.keys.length:=by omega
  simp(maxSteps:=1000000) (disch:=first|omega|(simp;done)|(simp;omega)) [z9a,z1a,z0a,z1k,h2,lf,v4,kT,kF,dT,dF,hQ1,hQ0]
  exact h
end Go.Abs
end

section
namespace Go.Abs
set_option maxRecDepth 100000
def z6db:z5a:=⟨fun ds=>∃l:List z9o,(∀x∈l,x.ok)∧ds=[.sl .plain none l.length (z8Q l)],fun _=>bo true⟩
set_option maxHeartbeats 16000000 in
theorem z1Db (E:Env) (h342:E.G 342=z68b) (h341:E.G 341=z3Ra) (h304:E.G 304=z9Kb) (h310:E.G 310=z4Nb):∀ds,z6db.pre ds→ds.length=z0d.n∧awp E z0d.body (z1A z0d.res (z6db.post ds)) (z9c z0d.wr ds):=by
 rintro _ ⟨l,hl,rfl⟩
 show _∧awp E _ (z1A _ (bo true)) _
 have hlen:=z59 hl
 by_cases h30:l.length≤30
 rotate_left
 ·have i30:30<(l.length:Int):=by omega
  simp(maxSteps:=1000000) (disch:=first|omega|(simp;done)|(simp;omega)) [z9a,z1a,z0a,z0d,h342,i30,kT,kF,dT,dF]
  skip
 have i30:¬30<(l.length:Int):=by omega
 have vs (nk:Option Bool) (v:z7i) (a b c d e:z2a):splice [a,b,c,d,e] 0 (z3d nk v)=z3d nk v:=rfl
 have vp (nk:Option Bool) (v:z7i):z2h (z3d nk v)=true:=by simp[z3d]
 have vl (nk:Option Bool) (v:z7i):(z3d nk v).length=5:=rfl
 have vtk (nk:Option Bool) (v:z7i):(z3d nk v).take 5=z3d nk v:=rfl
 have vc (nk:Option Bool) (v:z7i):(∀c∈z3d nk v,z2d c)=True:=eq_true (by intro c hc;simp only[z3d,List.mem_cons,List.not_mem_nil,or_false] at hc;rcases hc with rfl|rfl|rfl|rfl|rfl<;>trivial)
 have vt (nk:Option Bool) (v:z7i):(∀c∈z3d nk v,z1f c=false)=True:=eq_true (by intro c hc;simp only[z3d,List.mem_cons,List.not_mem_nil,or_false] at hc;rcases hc with rfl|rfl|rfl|rfl|rfl<;>rfl)
 have vss (nk nk':Option Bool) (v v':z7i):splice (z3d nk v) 0 (z3d nk' v')=z3d nk' v':=rfl
 have vr (nk:Option Bool) (v:z7i):z7g (z3d nk v)=[]:=rfl
 have v0 (nk:Option Bool) (v:z7i):hdA (z3d nk v)=i64 v.time:=rfl
 have v1 (nk:Option Bool) (v:z7i):hdA ((z3d nk v).drop 1)=i64 v.mode:=rfl
 have v1t (nk:Option Bool) (v:z7i):hdA (z3d nk v).tail=i64 v.mode:=rfl
 have v2 (nk:Option Bool) (v:z7i):hdA ((z3d nk v).drop 2)=i64 v.ents:=rfl
 have v3 (nk:Option Bool) (v:z7i):hdA ((z3d nk v).drop 3)=i64 v.next:=rfl
 simp(maxSteps:=1000000) (disch:=first|omega|(simp;done)|(simp;omega)) [z9a,z1a,z0a,z0d,z7w,i30,h304,vs,vp,vl,vtk,vc,vt,kT,kF,dT,dF]
 refine z3a fun Q0 hQ0=> ?_
 refine z4d (fun a:Nat×z7i=>⟨[(0,.sl .plain none l.length (z8Q l))],[(3,.bp 3 0),(4,i64 a.1)],[(3,some (z3d none a.2))]⟩)
  (fun a=>l.length-a.1) (fun a=>a.1≤l.length∧vwI a.1 a.2∧z5Xa a.2) (0,z4xa) (by simp) ⟨by simp,z3Xc,z88b⟩ fun⟨i,v⟩ hi=> ?_
 obtain⟨hi,hv,hvi⟩:=hi
 simp only at hi hv hvi⊢
 refine z3a fun Q1 hQ1=> ?_
 by_cases h1:i<l.length
 ·have hx:=hl _ (List.getElem_mem h1)
  have hat:=z05a hl h1
  have e3:=z3ya hl h1 (k:=3) (by omega)
  have f3:hdA ((z5l none none none l[i]).drop 3)=i64 l[i].mode:=rfl
  rw[f3] at e3
  have hk1:=fun(Q:z0n→ASt→Prop) (w:z7i)=>z5pc E (Q:=Q) (l:=l) (i:=i) (v:=v) (w:=w) hl h30 h1
  have hk4:=fun(Q:z0n→ASt→Prop) (w:z7i)=>z0Cc E (Q:=Q) (l:=l) (i:=i) (v:=v) (w:=w) hl h30 h1
  generalize l[i]=x at*
  have hdx:=hx.2.2.2.2.2.1
  have hex:=z8d (nc:=none) (nm:=none) (ng:=none) hdx
  have htx:=z1r (nc:=none) (nm:=none) (ng:=none) hdx
  have le1:30≤l.length*30-i*30:=by omega
  have le2:i*30≤l.length*30:=by omega
  have le3:1≤l.length*30-(i*30+3):=by omega
  have le4:3≤l.length*30-i*30:=by omega
  have fx:=z2zb (nc:=none) (nm:=none) (ng:=none) hx
  have gx:=z1Na (nc:=none) (nm:=none) (ng:=none) hx
  cases e1:z7Ta x with
  |false=>
   rw[e1] at gx
   simp(maxSteps:=1000000) (disch:=first|omega|(simp;done)|(simp;omega)) [z9a,z1a,z0a,z4h,z2k,h1,hlen,hat,hex,htx,le1,le2,h342,h341,fx,gx,kT,kF,dT,dF,hQ1,hQ0]
   skip
  |true=>
   rw[e1] at gx
   have hs:=z06a hx e1
   have hvo:=z2uc hv (by omega)
   have p:=z9ra (nk:=none) (nc:=none) (nm:=none) (ng:=none) hvo hs
   have q:=z7aa (nk:=none) (nc:=none) (nm:=none) (ng:=none) hvo hs
   obtain⟨k1,k2⟩:=z3Kb hv.k hx.2.2.2.2.2.2.1
   have hml:x.made.length≤40:=by simp only[z7Ta,Bool.and_eq_true,decide_eq_true_eq] at e1;exact e1.1.1.1
   have hgl:x.gone.length≤40:=by simp only[z7Ta,Bool.and_eq_true,decide_eq_true_eq] at e1;exact e1.1.1.2
   have hvn:=hv.n
   have hnx:=fun he=>z7xb hv hx e1 he
   have hap:=fun he=>(appP (x:=x) hvi he).2
   have hfa:=fun he (m:z3e) (hm:m∈(z7ea v x).v.keys)=>z23b hvi he hm
   generalize z7ea v x=A at*
   obtain⟨av,ae⟩:=A
   simp only at k1 k2 hnx p q hap hfa
   by_cases he:ae=0
   ·obtain⟨p1,p2,p3,p4,p5,_,p7⟩:=hap he
    have d1:¬av.next<v.next:=by omega
    have d2:¬av.time<v.time:=by omega
    have hve:=hv.e
    have d3:W (v.ents+1)=v.ents+1:=z9a (by omega) (by omega)
    have kk1:=fun Q' hq=>hk1 Q' av (by omega) hv.k (by omega) k1 (by omega) p5 (hfa he) hq
    have kk4:=fun Q' hq=>hk4 Q' av (by omega) k1 (by omega) p7 hq
    simp(maxSteps:=1000000) (disch:=first|omega|(simp;done)|(simp;omega)) [z9a,z1a,z0a,z4h,z2k,z8n,z4x,z2x,h1,hlen,hat,hex,htx,le1,le2,le3,le4,e3,h341,fx,gx,h310,p,q,he,v0,v1,v1t,v2,v3,d1,d2,d3,p3,p4,vs,vp,vl,vtk,vc,vt,vss,vr,kT,kF,dT,dF]
    refine kk1 _ ?_
    simp(maxSteps:=1000000) (disch:=first|omega|(simp;done)|(simp;omega)) [z9a,z1a,z0a,z6u]
    refine kk4 _ ?_
    simp(maxSteps:=1000000) (disch:=first|omega|(simp;done)|(simp;omega)) [z9a,z1a,z0a,vs,vp,vl,vtk,vc,vt,vss,vr,hQ1]
    exact⟨i+1,by omega,av,⟨by omega,hnx he,p5⟩,by omega,rfl⟩
   ·simp(maxSteps:=1000000) (disch:=first|omega|(simp;done)|(simp;omega)) [z9a,z1a,z0a,z4h,z2k,z8n,h1,hlen,hat,hex,htx,le1,le2,h341,fx,gx,h310,p,q,he,vs,vp,vl,vtk,vc,vt,vss,vr,kT,kF,dT,dF,hQ1]
    exact⟨i+1,by omega,v,⟨by omega,z9rb hv,hvi⟩,by omega,rfl⟩
 ·simp(maxSteps:=1000000) (disch:=first|omega|(simp;done)|(simp;omega)) [z9a,z1a,z0a,z4h,z9t,h1,h342,kT,kF,dT,dF,hQ1,hQ0]
  skip
end Go.Abs
end

section
namespace Go.Abs
theorem z7rb {cs:List z2a} (h:(GT.sl z3Rc).has cs):∃l:List z9o,(∀x∈l,x.ok)∧cs=[.sl .plain none l.length (z8Q l)]:=
 z9fa (enc:=z5l none none none) (fun _ hc=>z0Wb hc) h
theorem z5gb (as:List z2a) (h:z0gc [.sl z3Rc] as):z6db.pre as:=by
 simp only[z0gc] at h
 obtain⟨c0,_,rfl,h0,rfl⟩:=h
 obtain⟨l,hl,rfl⟩:=z7rb h0
 exact⟨l,hl,rfl⟩
end Go.Abs
end
