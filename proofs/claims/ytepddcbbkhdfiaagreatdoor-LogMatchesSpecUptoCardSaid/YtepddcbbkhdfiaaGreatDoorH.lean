/- Lemmas: an abstract interpreter, and what the functions compute. -/
import Derived.Test.YtepddcbbkhdfiaaGreatDoorG
import Derived.Test.YtepddcbbkhdfiaaGreatDoorF
set_option linter.unusedSimpArgs false
set_option linter.unusedVariables false
set_option linter.unusedSectionVars false
section
namespace Go.Abs

def z1w (x:UInt32) (n:Nat):UInt32:=z9q x n|||z8A x (32-n)
def z4wc (x:UInt32) (k:Int):UInt32:=z8A x (UInt64.ofInt k&&&31).toNat|||z9q x (32-(UInt64.ofInt k&&&31)).toNat
theorem z4Rd (x:UInt32):z4wc x (-7)=z1w x 7:=UInt32.or_comm _ _
theorem z0sd (x:UInt32):z4wc x (-18)=z1w x 18:=UInt32.or_comm _ _
theorem z8Cd (x:UInt32):z4wc x (-17)=z1w x 17:=UInt32.or_comm _ _
theorem z5xd (x:UInt32):z4wc x (-19)=z1w x 19:=UInt32.or_comm _ _
theorem z02d (x:UInt32):z4wc x (-6)=z1w x 6:=UInt32.or_comm _ _
theorem z7td (x:UInt32):z4wc x (-11)=z1w x 11:=UInt32.or_comm _ _
theorem z9Ad (x:UInt32):z4wc x (-25)=z1w x 25:=UInt32.or_comm _ _
theorem z12d (x:UInt32):z4wc x (-2)=z1w x 2:=UInt32.or_comm _ _
theorem z9td (x:UInt32):z4wc x (-13)=z1w x 13:=UInt32.or_comm _ _
theorem z3td (x:UInt32):z4wc x (-22)=z1w x 22:=UInt32.or_comm _ _

structure H8 where
 a:UInt32
 b:UInt32
 c:UInt32
 d:UInt32
 e:UInt32
 f:UInt32
 g:UInt32
 h:UInt32
def H8.l (s:H8):List UInt32:=[s.a,s.b,s.c,s.d,s.e,s.f,s.g,s.h]
def H8.of (l:List UInt32):H8:=⟨z8i l 0,z8i l 1,z8i l 2,z8i l 3,z8i l 4,z8i l 5,z8i l 6,z8i l 7⟩
@[simp] theorem H8.of_l (s:H8):H8.of s.l=s:=rfl
@[simp] theorem H8.len (s:H8):s.l.length=8:=rfl
def iv:H8:=⟨1779033703,3144134277,1013904242,2773480762,1359893119,2600822924,528734635,1541459225⟩
def kc:List UInt32:=[1116352408,1899447441,3049323471,3921009573,961987163,1508970993,2453635748,2870763221,3624381080,310598401,607225278,1426881987,1925078388,2162078206,2614888103,3248222580,3835390401,4022224774,264347078,604807628,770255983,1249150122,1555081692,1996064986,2554220882,2821834349,2952996808,3210313671,3336571891,3584528711,113926993,338241895,666307205,773529912,1294757372,1396182291,1695183700,1986661051,2177026350,2456956037,2730485921,2820302411,3259730800,3345764771,3516065817,3600352804,4094571909,275423344,430227734,506948616,659060556,883997877,958139571,1322822218,1537002063,1747873779,1955562222,2024104815,2227730452,2361852424,2428436474,2756734187,3204031479,3329325298]

def z96c:z1f:=⟨fun ds=>∃x k,ds=[u32 x,i64 k],fun ds=>u32 (z4wc (z3ka (nth ds 0)) (asI (nth ds 1)))⟩
def z9md:z1f:=⟨fun ds=>∃x i j k,ds=[u32 x,i64 i,i64 j,i64 k],fun ds=>u32 (z4wc (z3ka (nth ds 0)) (W (-asI (nth ds 1)))^^^z4wc (z3ka (nth ds 0)) (W (-asI (nth ds 2)))^^^z4wc (z3ka (nth ds 0)) (W (-asI (nth ds 3))))⟩

def ldw (b:List UInt8) (t:Nat):Nat→UInt32
 |0=>0
 |j+1=>z8A (ldw b t j) 8|||(at8 b (4*t+j)).toUInt32
def sg0 (p:UInt32):UInt32:=z1w p 7^^^z1w p 18^^^z9q p 3
def sg1 (q:UInt32):UInt32:=z1w q 17^^^z1w q 19^^^z9q q 10
def z8ha (b:List UInt8) (t:Nat) (w:List UInt32):UInt32:=
 if t<16 then ldw b t 4 else z8i w (t-16)+sg0 (z8i w (t-15))+z8i w (t-7)+sg1 (z8i w (t-2))
def z4N (b:List UInt8):Nat→List UInt32
 |0=>[]
 |t+1=>z4N b t++[z8ha b t (z4N b t)]
theorem z6Ea (b:List UInt8):∀t,(z4N b t).length=t
 |0=>rfl
 |t+1=>by simp[z4N,z6Ea b t]
def z9fb:z1f:=⟨fun ds=>∃nl b,b.length=64∧ds=[.sl .plain nl 64 (bys b)],fun ds=> .agg (z7g (z4N (gBs (gCs (nth ds 0))) 64))⟩

def rnd (k w:UInt32) (s:H8):H8:=
 let x:=s.h+(z1w s.e 6^^^z1w s.e 11^^^z1w s.e 25)+((s.e&&&s.f)^^^(~~~s.e&&&s.g))+k+w
 let y:=(z1w s.a 2^^^z1w s.a 13^^^z1w s.a 22)+((s.a&&&s.b)^^^(s.a&&&s.c)^^^(s.b&&&s.c))
 ⟨x+y,s.a,s.b,s.c,s.d+x,s.e,s.f,s.g⟩
def z24b (w:List UInt32) (s:H8):Nat→H8
 |0=>s
 |t+1=>rnd (z8i kc t) (z8i w t) (z24b w s t)
def H8.add (s v:H8):H8:=⟨s.a+v.a,s.b+v.b,s.c+v.c,s.d+v.d,s.e+v.e,s.f+v.f,s.g+v.g,s.h+v.h⟩
def z5ia (s:H8) (b:List UInt8):H8:=s.add (z24b (z4N b 64) s 64)
def z3Sb:z1f:=⟨fun ds=>∃(s:H8) (nl:Option Bool) (b:List UInt8),b.length=64∧ds=[.agg (z7g s.l),.sl .plain nl 64 (bys b)],fun ds=> .agg (z7g (z5ia (H8.of (gWs (gCs (nth ds 0)))) (gBs (gCs (nth ds 1)))).l)⟩

theorem z2Ab {t:Nat} (h:t<64):z8wa (64-t)=0::z8wa (63-t):=by
 rw[show 64-t=(63-t)+1 by omega];rfl
theorem z1Wb {α:Type} {a c:List α} {i:Nat} {x y:α} (h:i=a.length):(a++x::c).set i y=a++y::c:=by
 subst h;simp
end Go.Abs
namespace Go.Abs
structure z3j where
 h:H8
 b:List UInt8
 n:UInt64
def scs (s:z3j):List z0a:=z7g s.h.l++(bys s.b++[u64 s.n])
def z3j.v (s:z3j):z0a:= .agg (scs s)
def z3j.of (l:List z0a):z3j:=⟨H8.of (gWs (l.take 8)),gBs ((l.drop 8).take 64),z2ha (nth l 72)⟩
section cells
variable {s : z3j}
theorem z71a (h:s.b.length=64):(scs s).length=73:=by simp[scs,h]
theorem z8hd (h:s.b.length=64):hdA ((scs s).drop 72)=u64 s.n:=by
 rw[z2cd]
 simp[scs,List.getD,List.getElem?_append,h]
theorem z5Ld (s:z3j):(scs s).take 8=z7g s.h.l:=by simp[scs]
theorem z7Ad (h:s.b.length=64):((scs s).drop 8).take 64=bys s.b:=by
 rw[scs,List.drop_left' (by simp),List.take_left' (by simp[h])]
theorem z8Nc (h:s.b.length=64):(scs s).take 73=scs s:=List.take_of_length_le (by rw[z71a h];decide)
@[simp] theorem z47 (s:z3j):(∀c∈scs s,z8a c)↔True:=by simp[scs,or_imp,forall_and]
@[simp] theorem z4ka (s:z3j):(∀c∈scs s,z5b c=false)↔True:=by simp[scs,or_imp,forall_and]
@[simp] theorem z3t (s:z3j):z8b (scs s)=true:=by simp[scs]
@[simp] theorem z3aa (s:z3j):(∀c∈scs s,z0b c=true)↔True:=iff_true_intro ((z4i _).1 (z3t s))
@[simp] theorem z9oa (s:z3j):z7a (scs s)=true:=by simp[scs]
@[simp] theorem z86 (s:z3j):z6b (scs s)=[]:=by simp[scs]
theorem z4kc {x:H8}:splice (scs s) 0 (z7g x.l)=scs {s with h:=x}:=by
 rw[scs,z5Eb (by simp),z9pa (by simp)];rfl
theorem z5Rc {n:UInt64} (h:s.b.length=64):splice (scs s) 72 [u64 n]=scs {s with n:=n}:=by
 rw[scs,z1yb (by simp),z1yb (by simp[h])]
 simp[h,scs]
theorem z80c {i:Nat} {xs:List UInt8} (h:s.b.length=64) (hi:i+xs.length≤64):splice (scs s) (8+i) (bys xs)=scs {s with b:=s.b.take i++xs++s.b.drop (i+xs.length)}:=by
 rw[scs,z1yb (by simp),z5Eb (by simp[h];omega)]
 simp only[H8.len,z5O,Nat.add_sub_cancel_left,scs]
 rw[splice,z1Q,z3Oa,z3Oa,z0ea,z5ea]
theorem z4ac {l:List z0a} (h:s.b.length=64) (hl:l.length=73):splice l 0 (scs s)=scs s:=z9pa (by rw[hl,z71a h])
end cells
theorem z0Fc:(z7g (z8wa 8)++(bys (z5j 64)++[u64 0])).length=73:=by simp
def z0Pd (s:z3j) (x:UInt8):z3j:=
 let b':=s.b.set (s.n.toNat% 64) x
 ⟨if s.n.toNat% 64=63 then z5ia s.h b' else s.h,b',s.n+1⟩
def z3j.add (s:z3j) (m:List UInt8):z3j:=m.foldl z0Pd s
theorem z2ad (s:z3j) (x:UInt8):(z0Pd s x).b.length=s.b.length:=by simp[z0Pd]
theorem z7Mb (m:List UInt8):∀s:z3j,(s.add m).b.length=s.b.length:=by
 induction m with
 |nil=>intro s;rfl
 |cons x m ih=>intro s;rw[z3j.add,List.foldl_cons];exact(ih _).trans (z2ad s x)
theorem z8pb (s:z3j) (m k:List UInt8):s.add (m++k)=(s.add m).add k:=by simp[z3j.add]
theorem z3j.of_scs (s:z3j) (hb:s.b.length=64):z3j.of (scs s)=s:=by
 have h3:nth (scs s) 72=u64 s.n:=by
  rw[nth,←z2cd,z8hd hb]
 rw[z3j.of,z5Ld,z7Ad hb,h3]
 simp
def z3j.init:z3j:=⟨iv,z5j 64,0⟩
def z2yb:z1f:=⟨fun ds=>ds=[],fun _=>z3j.init.v⟩
def z5zc:z1f:=⟨fun ds=>∃(s:z3j) (m:List UInt8),s.b.length=64∧ds=[s.v,st m],fun ds=>((z3j.of (gCs (nth ds 0))).add (gS (nth ds 1))).v⟩

theorem z4Xb (s:z3j) (hb:s.b.length=64):∀(j:Nat) (m:List UInt8),m.length=j→s.n.toNat% 64+j≤64→
  s.add m=⟨if s.n.toNat% 64+j=64 then z5ia s.h (s.b.take (s.n.toNat% 64)++(m++s.b.drop (s.n.toNat% 64+j))) else s.h,
   s.b.take (s.n.toNat% 64)++(m++s.b.drop (s.n.toNat% 64+j)),s.n+UInt64.ofNat j⟩
 |0,m,hm,h=>by
  have hm':=List.length_eq_zero_iff.1 hm
  subst hm'
  have h1:s.n.toNat% 64<64:=Nat.mod_lt _ (by decide)
  rw[if_neg (by omega)]
  simp[z3j.add]
 |j+1,m,hm,h=>by
  have hne:m≠[]:=fun e=>by rw[e] at hm;simp at hm
  obtain⟨k,x,rfl⟩:∃k x,m=k++[x]:=⟨m.dropLast,m.getLast hne,(List.dropLast_concat_getLast hne).symm⟩
  have hk:k.length=j:=by simp at hm;exact hm
  rw[z8pb,z4Xb s hb j k hk (by omega),if_neg (by omega)]
  have hn:(s.n+UInt64.ofNat j).toNat% 64=s.n.toNat% 64+j:=by
   rw[UInt64.toNat_add,UInt64.toNat_ofNat']
   omega
  have hset:(s.b.take (s.n.toNat% 64)++(k++s.b.drop (s.n.toNat% 64+j))).set (s.n.toNat% 64+j) x=s.b.take (s.n.toNat% 64)++((k++[x])++s.b.drop (s.n.toNat% 64+(j+1))):=by
   rw[List.drop_eq_getElem_cons (show s.n.toNat% 64+j<s.b.length by omega),←List.append_assoc,z1Wb (by simp[hk];omega)]
   simp[Nat.add_assoc]
  simp only[z3j.add,List.foldl_cons,List.foldl_nil,z0Pd,hn,hset]
  congr 1
  ·by_cases h63:s.n.toNat% 64+j=63
   ·rw[if_pos h63,if_pos (by omega)]
   ·rw[if_neg h63,if_neg (by omega)]
  ·rw[UInt64.add_assoc]
   congr 1
   apply UInt64.toNat_inj.1
   simp
end Go.Abs
end

section
namespace Go.Abs
def z84b (n:Nat):Nat:=(119-n% 64)% 64
def be8 (n:UInt64):Nat→List UInt8
 |0=>[]
 |i+1=>be8 n i++[(z5n n (56-8*i)).toUInt8]
theorem z0Rb (n:UInt64):∀i,(be8 n i).length=i
 |0=>rfl
 |i+1=>by simp[be8,z0Rb n i]
def z2la (n:UInt64):List UInt8:=(128::z5j (z84b n.toNat))++be8 (8*n) 8
def z6ba (h:H8):Nat→List UInt8
 |0=>[]
 |i+1=>z6ba h i++[(z9q (z8i h.l (i/4)) (24-8*(i% 4))).toUInt8]
theorem z1p (h:H8):∀i,(z6ba h i).length=i
 |0=>rfl
 |i+1=>by simp[z6ba,z1p h i]
def z3j.sum (s:z3j):List UInt8:=z6ba (s.add (z2la s.n)).h 32
def z8Rc:z1f:=⟨fun ds=>∃s:z3j,s.b.length=64∧s.n.toNat<1099511627776∧ds=[s.v],fun ds=> .agg (bys (z3j.of (gCs (nth ds 0))).sum)⟩
theorem z3Wd {s:z3j} {j:Nat} (h:j<8):hdA ((scs s).drop j)=u32 (z8i s.h.l j):=by
 rw[scs,List.drop_append_of_le_length (by simp;omega),z90,hdA]
 rw[show(z7g (s.h.l.drop j)++(bys s.b++[u64 s.n])).headD .undef=hdA (z7g (s.h.l.drop j)) by
  rw[List.drop_eq_getElem_cons (show j<s.h.l.length from h)];rfl]
 exact z3cb h
theorem z3rc (n:Nat):z84b n<64:=Nat.mod_lt _ (by decide)
theorem z0sc (n:Nat):(n+(z84b n+1))% 64=56:=by unfold z84b;omega
theorem z14b (k:Nat):z5j k++[0]=z5j (k+1):=by
 simp[z5j,List.replicate_succ']
theorem z3bc {t n:Nat} (h:t<n):z5j (n-t)=0::z5j (n-1-t):=by
 rw[show n-t=(n-1-t)+1 by omega];rfl
end Go.Abs
namespace Go.Abs
theorem z0Wd (m:List UInt8):∀s:z3j,(s.add m).n=s.n+UInt64.ofNat m.length:=by
 induction m with
 |nil=>intro s;simp[z3j.add]
 |cons x m ih=>
  intro s
  have:s.add (x::m)=(z0Pd s x).add m:=rfl
  rw[this,ih]
  simp only[z0Pd,List.length_cons]
  rw[UInt64.add_assoc]
  congr 1
  apply UInt64.toNat_inj.1
  simp
  omega
theorem z8Xb (m:List UInt8) (s:z3j) (h:s.n.toNat+m.length<18446744073709551616):(s.add m).n.toNat=s.n.toNat+m.length:=by
 rw[z0Wd,UInt64.toNat_add,UInt64.toNat_ofNat']
 omega
def sha (l:List UInt8):List UInt8:=(z3j.init.add l).sum
theorem z4o (l:List UInt8):(sha l).length=32:=z1p _ 32
theorem z4Vb:z3j.init.b.length=64:=by simp[z3j.init]
def z7ac:z1f:=⟨fun ds=>∃(nl:Option Bool) (l:List UInt8),l.length<1099511627776∧ds=[.sl .plain nl l.length (bys l)],fun ds=> .agg (bys (sha (gBs (gCs (nth ds 0)))))⟩
end Go.Abs
end

section
namespace Go.Abs
def z6ca (k:List UInt8) (w:UInt8):List UInt8:=(k.take 64++z5j (64-k.length)).map (· ^^^w)
theorem z2A (k:List UInt8) (w:UInt8):(z6ca k w).length=64:=by simp[z6ca];omega
def z23 (key:List UInt8):List UInt8:=if 64<key.length then sha key else key
def mac (key text:List UInt8):List UInt8:=sha (z6ca (z23 key) 92++sha (z6ca (z23 key) 54++text))
def sts (l:List (List UInt8)):List z0a:=l.map st
@[simp] theorem z5V (l:List (List UInt8)):(sts l).length=l.length:=by simp[sts]
@[simp] theorem z1ia:sts []=[]:=rfl
theorem z8bd (x:List UInt8) (l:List (List UInt8)):sts (x::l)=st x::sts l:=rfl
@[simp] theorem z6fa (l:List (List UInt8)) (n:Nat):(sts l).take n=sts (l.take n):=by simp[sts]
@[simp] theorem z87 (l:List (List UInt8)) (n:Nat):(sts l).drop n=sts (l.drop n):=by simp[sts]
def atS (l:List (List UInt8)) (i:Nat):List UInt8:=l.getD i []
theorem z6pd {l:List (List UInt8)} {n:Nat} (h:n<l.length):hdA (sts (l.drop n))=st (atS l n):=by
 rw[List.drop_eq_getElem_cons h,z8bd]
 simp[atS,List.getD,List.getElem?_eq_getElem h]
def gSs (l:List z0a):List (List UInt8):=l.map gS
@[simp] theorem z9fa (l:List (List UInt8)):gSs (sts l)=l:=by simp[gSs,sts,Function.comp_def]
@[simp] theorem z3la:gSs []=[]:=rfl
theorem z2i {P:z0a→Prop} {l:List (List UInt8)} (h:∀x,P (st x)):∀c∈sts l,P c:=fun c hc=>by
 simp only[sts,List.mem_map] at hc
 obtain⟨x,_,rfl⟩:=hc
 exact h x
@[simp] theorem z07 (l:List (List UInt8)):(∀c∈sts l,z0b c=true)↔True:=iff_true_intro (z2i (by simp))
@[simp] theorem z36 (l:List (List UInt8)):z8b (sts l)=true:=z2j (z2i (by simp))
@[simp] theorem z09 (l:List (List UInt8)):(∀c∈sts l,z8a c)↔True:=iff_true_intro (z2i (by simp))
@[simp] theorem z2pa (l:List (List UInt8)):(∀c∈sts l,z5b c=false)↔True:=iff_true_intro (z2i (by simp))
@[simp] theorem z5z (l:List (List UInt8)):(∀c∈sts l,z0b c=true∧z8a c)↔True:=iff_true_intro (z2i (by simp))
@[simp] theorem z55 (l:List (List UInt8)):z6b (sts l)=[]:=by induction l<;>simp_all [sts]
def z4ga (tag:Int) (parts:List (List UInt8)):List UInt8:=UInt8.ofInt tag::parts.flatMap z2X
def z0f (tag:Int) (parts:List (List UInt8)):List UInt8:=(sha (z4ga tag parts)).take 16
def z9rb (parts:List (List UInt8)):Nat:=(parts.map fun p=>p.length+9).sum
theorem z6Fc {s:List UInt8} (h:s.length<1099511627776):(z2X s).length≤s.length+9:=by
 have:=z7Aa (n:=s.length) ⟨by omega,by omega⟩
 simp[z2X];omega
def ofC:z1f:=⟨fun ds=>∃(tag:Int) (nl:Option Bool) (parts:List (List UInt8)),z9rb parts<1099511000000∧ds=[i64 tag,.sl .plain nl parts.length (sts parts)],fun ds=> .agg (bys (z0f (asI (nth ds 0)) (gSs (gCs (nth ds 1)))))⟩
theorem z0e (tag:Int) (parts:List (List UInt8)):(z0f tag parts).length=16:=by simp[z0f,z4o]

def svc (l:List UInt8):List z0a:=scs (z3j.init.add l)
theorem z4Mc (l:List UInt8):(z3j.init.add l).b.length=64:=by rw[z7Mb,z4Vb]
@[simp] theorem z00c (l:List UInt8):(svc l).length=73:=z71a (z4Mc l)
@[simp] theorem z0de (l:List UInt8):(∀c∈svc l,z8a c)↔True:=z47 _
@[simp] theorem z2me (l:List UInt8):(∀c∈svc l,z5b c=false)↔True:=z4ka _
@[simp] theorem z8Td (l:List UInt8):z8b (svc l)=true:=z3t _
@[simp] theorem z3fe (l:List UInt8):(∀c∈svc l,z0b c=true)↔True:=z3aa _
@[simp] theorem z8le (l:List UInt8):z7a (svc l)=true:=z9oa _
@[simp] theorem z6be (l:List UInt8):z6b (svc l)=[]:=z86 _
@[simp] theorem z9de (l:List UInt8):(svc l).take 73=svc l:=List.take_of_length_le (by rw[z00c];decide)
@[simp] theorem z5Nd {zs:List z0a} (l:List UInt8) (h:zs.length=73):splice zs 0 (svc l)=svc l:=z9pa (by rw[z00c,h])
@[simp] theorem z6Pd:(z7g (z8wa 8)++(bys (z5j 64)++[u64 0])).length=73:=z0Fc
@[simp] theorem z0Rd:z2yb.pre []=True:=by simp[z2yb]
@[simp] theorem z0Od:z2yb.post []= .agg (svc []):=rfl
@[simp] theorem z1he (l m:List UInt8):z5zc.pre [.agg (svc l),st m]=True:=eq_true ⟨_,m,z4Mc l,rfl⟩
@[simp] theorem z0be (l m:List UInt8):z5zc.post [.agg (svc l),st m]= .agg (svc (l++m)):=by
 simp[z5zc,svc,z3j.v,z3j.of_scs _ (z4Mc l),z8pb]
theorem z7ld {l:List UInt8} {nl:Option Bool} {n:Nat} (hn:n=l.length) (h:l.length<1099511627776):z7ac.pre [.sl .plain nl n (bys l)]=True:=eq_true ⟨nl,l,h,by rw[hn]⟩
@[simp] theorem z7Xd (l:List UInt8) (nl:Option Bool) (n:Nat):z7ac.post [.sl .plain nl n (bys l)]= .agg (bys (sha l)):=by simp[z7ac]
theorem z4Gd {l:List UInt8} (h:l.length<1099511627776):z8Rc.pre [.agg (svc l)]=True:=
 eq_true ⟨_,z4Mc l,by rw[z8Xb _ _ (by show 0+l.length<_;omega)];show 0+l.length<_;omega,rfl⟩
@[simp] theorem z0ee (l:List UInt8):z8Rc.post [.agg (svc l)]= .agg (bys (sha l)):=by simp[z8Rc,svc,z3j.of_scs _ (z4Mc l),sha]
theorem z9Gb {s:List UInt8} (h:s.length≤1099511000000):z4tb.pre [st s]=True:=eq_true ⟨s,h,rfl⟩
@[simp] theorem z2Od (s:List UInt8):z4tb.post [st s]= .sl (.own 1) (some false) (z2X s).length (bys (z2X s)):=by simp[z4tb]
theorem z92d {tag:Int} {nl:Option Bool} {n:Nat} {l:List (List UInt8)} (hn:n=l.length) (h:z9rb l<1099511000000):ofC.pre [i64 tag,.sl .plain nl n (sts l)]=True:=eq_true ⟨tag,nl,l,h,by rw[hn]⟩
@[simp] theorem z7I (tag:Int) (nl:Option Bool) (n:Nat) (l:List (List UInt8)):ofC.post [i64 tag,.sl .plain nl n (sts l)]= .agg (bys (z0f tag l)):=by simp[ofC]
attribute [simp] z2A z4o z0e
theorem z9ua {zs:List z0a} {l:List UInt8} (h:l.length=zs.length):splice zs 0 (bys l)=bys l:=z9pa (by simpa using h)
theorem z2Qa:∀{l:List (List UInt8)},z9rb l<1099511000000→(l.flatMap z2X).length≤z9rb l
 |[],_=>by simp
 |x::l,h=>by
  simp only[z9rb,List.map_cons,List.sum_cons] at h
  have h1:=z6Fc (s:=x) (by omega)
  have h2:=z2Qa (l:=l) (by simp only[z9rb];omega)
  simp only[z9rb] at h2
  simp only[List.flatMap_cons,List.length_append,z9rb,List.map_cons,List.sum_cons]
  omega
theorem z70b {l:List (List UInt8)} {i:Nat} (hi:i<l.length):(atS l i).length+9≤z9rb l:=by
 induction l generalizing i with
 |nil=>simp at hi
 |cons x l ih=>
  simp only[z9rb,List.map_cons,List.sum_cons]
  cases i with
  |zero=>simp[atS]
  |succ i=>
   have:=ih (i:=i) (by simpa using hi)
   simp only[z9rb] at this
   simp only[atS,List.getD_cons_succ] at this⊢
   omega
theorem z7za {α β:Type} (l:List α) (f:α→List β) (d:α) {i:Nat} (hi:i<l.length):(l.take (i+1)).flatMap f=(l.take i).flatMap f++f (l.getD i d):=by
 rw[List.take_succ_eq_append_getElem hi,List.getD,List.getElem?_eq_getElem hi]
 simp only[List.flatMap_append,List.flatMap_cons,List.flatMap_nil,List.append_nil,Option.getD_some]
theorem z2Td {l:List UInt8} {i:Nat} (h:i<l.length):l.take (i+1)=l.take i++[at8 l i]:=by
 rw[List.take_succ_eq_append_getElem h,at8,List.getD,List.getElem?_eq_getElem h];rfl
theorem z1Gb:∀l:List (List UInt8),l.length≤z9rb l
 |[]=>by simp
 |x::l=>by
  have:=z1Gb l
  simp only[z9rb,List.map_cons,List.sum_cons,List.length_cons] at this⊢
  omega
theorem z3ic (l:List (List UInt8)) (i:Nat):z9rb (l.take i)≤z9rb l:=by
 have:z9rb l=z9rb (l.take i)+z9rb (l.drop i):=by
  simp only[z9rb]
  rw[←List.sum_append,←List.map_append,List.take_append_drop]
 omega
end Go.Abs
end

section
namespace Go.Abs
def z6da (b:List UInt8) (s:Nat):Nat:=if(z6m b).2.2≠0 then(z6m b).2.2 else if(z6m b).1<0 then 6 else if(b.length-(z6m b).2.1)/s<(z6m b).1.toNat then 5 else 0
def z6fe (b:List UInt8):List UInt8×Nat×Nat:=if z6da b 1=0 then((b.drop (z6m b).2.1).take (z6m b).1.toNat,(z6m b).2.1+(z6m b).1.toNat,0) else([],0,z6da b 1)
def z46 {α:Type} (f:List UInt8→α×Nat×Nat):Nat→List UInt8→Nat→List α×Nat×Nat
 |0,_,at'=>([],at',0)
 |n+1,b,at'=>if(f (b.drop at')).2.2≠0 then([],0,(f (b.drop at')).2.2)
  else if(z46 f n b (at'+(f (b.drop at')).2.1)).2.2≠0 then([],0,(z46 f n b (at'+(f (b.drop at')).2.1)).2.2)
  else((f (b.drop at')).1::(z46 f n b (at'+(f (b.drop at')).2.1)).1,(z46 f n b (at'+(f (b.drop at')).2.1)).2.1,0)
def z0oa {α:Type} (f:List UInt8→α×Nat×Nat) (s:Nat) (b:List UInt8):List α×Nat×Nat:=if z6da b s=0 then z46 f (z6m b).1.toNat b (z6m b).2.1 else([],0,z6da b s)

/-! ### Lists of whole numbers as cells -/
def z1Aa (l:List Int):List z0a:=l.map i64
def atI (l:List Int) (i:Nat):Int:=l.getD i 0
def gIs (l:List z0a):List Int:=l.map asI
@[simp] theorem z6xd (l:List Int):(z1Aa l).length=l.length:=by simp[z1Aa]
@[simp] theorem z9ae:z1Aa []=[]:=rfl
theorem z3Tc (x:Int) (l:List Int):z1Aa (x::l)=i64 x::z1Aa l:=rfl
@[simp] theorem z31d (l:List Int) (n:Nat):(z1Aa l).take n=z1Aa (l.take n):=by simp[z1Aa]
@[simp] theorem z42d (l:List Int) (n:Nat):(z1Aa l).drop n=z1Aa (l.drop n):=by simp[z1Aa]
@[simp] theorem z8de (l:List Int):gIs (z1Aa l)=l:=by simp[gIs,z1Aa,Function.comp_def]
theorem z3lb {l:List Int} {n:Nat} (h:n<l.length):hdA (z1Aa (l.drop n))=i64 (atI l n):=by
 rw[List.drop_eq_getElem_cons h,z3Tc]
 simp[atI,List.getD,List.getElem?_eq_getElem h]
theorem z5Kb {P:z0a→Prop} {l:List Int} (h:∀x,P (i64 x)):∀c∈z1Aa l,P c:=fun c hc=>by
 simp only[z1Aa,List.mem_map] at hc
 obtain⟨x,_,rfl⟩:=hc
 exact h x
@[simp] theorem z88d (l:List Int):(∀c∈z1Aa l,z0b c=true)↔True:=iff_true_intro (z5Kb (by simp))
@[simp] theorem z7Pd (l:List Int):z8b (z1Aa l)=true:=z2j (z5Kb (by simp))
@[simp] theorem z76d (l:List Int):(∀c∈z1Aa l,z8a c)↔True:=iff_true_intro (z5Kb (by simp))
@[simp] theorem z5ee (l:List Int):(∀c∈z1Aa l,z5b c=false)↔True:=iff_true_intro (z5Kb (by simp))
@[simp] theorem z07c (l:List Int):(∀c∈z1Aa l,z0b c=true∧z8a c)↔True:=iff_true_intro (z5Kb (by simp))
@[simp] theorem z5Pd (l:List Int):z6b (z1Aa l)=[]:=by induction l<;>simp_all [z1Aa]

def pre {α:Type} (out:List α) (r:List α×Nat×Nat):List α×Nat×Nat:=if r.2.2≠0 then([],0,r.2.2) else(out++r.1,r.2.1,0)
@[simp] theorem z6D (l:List (List UInt8)):z7a (sts l)=true:=by induction l<;>simp_all [sts,z7a,z6c,st]
def z39d (b:List UInt8):List UInt8×Nat×Nat:=if z6da b 16=0 then((b.drop (z6m b).2.1).take ((z6m b).1.toNat*16),(z6m b).2.1+(z6m b).1.toNat*16,0) else([],0,z6da b 16)
end Go.Abs
end

section
namespace Go.Abs
def z17a (b:List UInt8):List UInt8:=b++z2la (UInt64.ofNat b.length)
theorem z51c (n:UInt64):(z2la n).length=z84b n.toNat+9:=by simp[z2la,z0Rb]
theorem z5Pb {b:List UInt8} (h:b.length<1099511627776):(z17a b).length% 64=0∧b.length<(z17a b).length∧(z17a b).length≤b.length+128:=by
 have hn:(UInt64.ofNat b.length).toNat=b.length:=by rw[UInt64.toNat_ofNat'];omega
 have h1:=z0sc b.length
 have h2:=z3rc b.length
 simp only[z17a,List.length_append,z51c,hn]
 omega
def blk (m:List UInt8) (s:H8):Nat→H8
 |0=>s
 |k+1=>z5ia (blk m s k) ((m.drop (64*k)).take 64)
theorem z28b (m:List UInt8):∀k,64*k≤m.length→64*k<1099511627776→(z3j.init.add (m.take (64*k))).h=blk m iv k
 |0,_,_=>by simp[z3j.add,blk,z3j.init]
 |k+1,h,h'=>by
  have ih:=z28b m k (by omega) (by omega)
  have hb:=z4Mc (m.take (64*k))
  have hn:(z3j.init.add (m.take (64*k))).n.toNat=64*k:=by
   have e:z3j.init.n.toNat=0:=rfl
   rw[z8Xb _ _ (by rw[e];simp;omega),e,List.length_take]
   omega
  have h64:(z3j.init.add (m.take (64*k))).n.toNat% 64=0:=by rw[hn];omega
  rw[show 64*(k+1)=64*k+64 by omega,List.take_add,z8pb,z4Xb _ hb 64 _ (by simp;omega) (by omega)]
  simp only[h64,Nat.zero_add,if_true,List.take_zero,List.nil_append,ih,blk]
  have hd:List.drop 64 (z3j.init.add (m.take (64*k))).b=[]:=List.drop_of_length_le (by omega)
  rw[hd,List.append_nil]
theorem z1Oc {b:List UInt8} (h:b.length<1099511000000):sha b=z6ba (blk (z17a b) iv ((z17a b).length/64)) 32:=by
 obtain⟨h1,h2,h3⟩:=z5Pb (b:=b) (by omega)
 have e:=z28b (z17a b) ((z17a b).length/64) (by omega) (by omega)
 rw[show 64*((z17a b).length/64)=(z17a b).length by omega,List.take_length] at e
 have hn:(z3j.init.add b).n=UInt64.ofNat b.length:=by rw[z0Wd];exact UInt64.zero_add _
 rw[←e,sha,z3j.sum,z17a,z8pb,hn]
def few (l:List (List UInt8)):Bool:=decide (l.length≤12)&&l.all fun s=>decide (s.length≤400)
def z7bc:z1f:=⟨fun ds=>∃x n,0≤n∧n≤32∧ds=[u32 x,i64 n],fun ds=>u32 (z1w (z3ka (nth ds 0)) (asI (nth ds 1)).toNat)⟩
def z8vb:z1f:=⟨fun ds=>∃(nl:Option Bool) (b:List UInt8),b.length<1099511000000∧ds=[.sl .plain nl b.length (bys b)],fun ds=> .sl (.own 1) (some false) (z17a (gBs (gCs (nth ds 0)))).length (bys (z17a (gBs (gCs (nth ds 0)))))⟩
def z7fb:z1f:=⟨fun ds=>∃h:List UInt8,h.length=16∧ds=[.agg (bys h)],fun ds=>st (gBs (gCs (nth ds 0)))⟩
def z8pc:z1f:=⟨fun ds=>∃(nl:Option Bool) (l:List UInt8),l.length<1099511000000∧ds=[.sl .plain nl l.length (bys l)],fun ds=> .agg (bys (sha (gBs (gCs (nth ds 0)))))⟩
def z1Sb:z1f:=⟨fun ds=>∃(nl:Option Bool) (l:List UInt8),l.length<1099511000000∧ds=[.sl .plain nl l.length (bys l)],fun ds=> .agg (bys ((sha (gBs (gCs (nth ds 0)))).take 16))⟩
def z9Rb:z1f:=⟨fun ds=>∃(tag:Int) (nl:Option Bool) (l:List (List UInt8)),z9rb l<1099510000000∧ds=[i64 tag,.sl .plain nl l.length (sts l)],
 fun ds=> .sl (.own 1) (some false) (z4ga (asI (nth ds 0)) (gSs (gCs (nth ds 1)))).length (bys (z4ga (asI (nth ds 0)) (gSs (gCs (nth ds 1)))))⟩
def z8Rb:z1f:=⟨fun ds=>∃(tag:Int) (nl:Option Bool) (l:List (List UInt8)),z9rb l<1099510000000∧ds=[i64 tag,.sl .plain nl l.length (sts l)],fun ds=> .agg (bys (z0f (asI (nth ds 0)) (gSs (gCs (nth ds 1)))))⟩
def z72b:z1f:=⟨fun ds=>∃n,z2e n∧ds=[i64 n],fun ds=> .sl (.own 1) none (z4r (asI (nth ds 0))).length (bys (z4r (asI (nth ds 0))))⟩
def z4kb:z1f:=⟨fun ds=>∃s:List UInt8,s.length≤1099511000000∧ds=[st s],fun ds=> .sl (.own 1) none (z2X (gS (nth ds 0))).length (bys (z2X (gS (nth ds 0))))⟩
theorem z6Dc {x:UInt32} {n:Int} (h0:0≤n) (h1:n≤32):z7bc.pre [u32 x,i64 n]=True:=eq_true ⟨x,n,h0,h1,rfl⟩
@[simp] theorem z3Td (x:UInt32) (n:Int):z7bc.post [u32 x,i64 n]=u32 (z1w x n.toNat):=by simp[z7bc]
theorem z1Tc {b:List UInt8} {nl:Option Bool} {n:Nat} (hn:n=64) (h:b.length=64):z9fb.pre [.sl .plain nl n (bys b)]=True:=eq_true ⟨nl,b,h,by rw[hn]⟩
@[simp] theorem z1Pd (b:List UInt8) (nl:Option Bool) (n:Nat):z9fb.post [.sl .plain nl n (bys b)]= .agg (z7g (z4N b 64)):=by simp[z9fb]
theorem z6Lc {b:List UInt8} {nl:Option Bool} {n:Nat} (hn:n=b.length) (h:b.length<1099511000000):z8vb.pre [.sl .plain nl n (bys b)]=True:=eq_true ⟨nl,b,h,by rw[hn]⟩
@[simp] theorem z6sd (b:List UInt8) (nl:Option Bool) (n:Nat):z8vb.post [.sl .plain nl n (bys b)]= .sl (.own 1) (some false) (z17a b).length (bys (z17a b)):=by simp[z8vb]
theorem z0rb {h:List UInt8} (hl:h.length=16):z7fb.pre [.agg (bys h)]=True:=eq_true ⟨h,hl,rfl⟩
@[simp] theorem z9ud (h:List UInt8):z7fb.post [.agg (bys h)]=st h:=by simp[z7fb]
theorem z1kd {l:List UInt8} {nl:Option Bool} {n:Nat} (hn:n=l.length) (h:l.length<1099511000000):z8pc.pre [.sl .plain nl n (bys l)]=True:=eq_true ⟨nl,l,h,by rw[hn]⟩
@[simp] theorem z0Qd (l:List UInt8) (nl:Option Bool) (n:Nat):z8pc.post [.sl .plain nl n (bys l)]= .agg (bys (sha l)):=by simp[z8pc]
theorem z8Oc {l:List UInt8} {nl:Option Bool} {n:Nat} (hn:n=l.length) (h:l.length<1099511000000):z1Sb.pre [.sl .plain nl n (bys l)]=True:=eq_true ⟨nl,l,h,by rw[hn]⟩
@[simp] theorem z1Od (l:List UInt8) (nl:Option Bool) (n:Nat):z1Sb.post [.sl .plain nl n (bys l)]= .agg (bys ((sha l).take 16)):=by simp[z1Sb]
theorem z0Zc {tag:Int} {nl:Option Bool} {n:Nat} {l:List (List UInt8)} (hn:n=l.length) (h:z9rb l<1099510000000):z9Rb.pre [i64 tag,.sl .plain nl n (sts l)]=True:=eq_true ⟨tag,nl,l,h,by rw[hn]⟩
@[simp] theorem z9Nd (tag:Int) (nl:Option Bool) (n:Nat) (l:List (List UInt8)):z9Rb.post [i64 tag,.sl .plain nl n (sts l)]= .sl (.own 1) (some false) (z4ga tag l).length (bys (z4ga tag l)):=by simp[z9Rb]
theorem z4vc {tag:Int} {nl:Option Bool} {n:Nat} {l:List (List UInt8)} (hn:n=l.length) (h:z9rb l<1099510000000):z8Rb.pre [i64 tag,.sl .plain nl n (sts l)]=True:=eq_true ⟨tag,nl,l,h,by rw[hn]⟩
@[simp] theorem z1C (tag:Int) (nl:Option Bool) (n:Nat) (l:List (List UInt8)):z8Rb.post [i64 tag,.sl .plain nl n (sts l)]= .agg (bys (z0f tag l)):=by simp[z8Rb]
theorem z5Jb {n:Int} (h0: -9223372036854775808≤n) (h1:n≤9223372036854775807):z72b.pre [i64 n]=True:=eq_true ⟨n,⟨h0,h1⟩,rfl⟩
@[simp] theorem z1Ud (n:Int):z72b.post [i64 n]= .sl (.own 1) none (z4r n).length (bys (z4r n)):=by simp[z72b]
theorem z4Pb {s:List UInt8} (h:s.length≤1099511000000):z4kb.pre [st s]=True:=eq_true ⟨s,h,rfl⟩
@[simp] theorem z1ud (s:List UInt8):z4kb.post [st s]= .sl (.own 1) none (z2X s).length (bys (z2X s)):=by simp[z4kb]
theorem z1bc {n:Int} (h0: -9223372036854775808≤n) (h1:n≤9223372036854775807):z2L.pre [i64 n]=True:=eq_true ⟨n,⟨h0,h1⟩,rfl⟩
@[simp] theorem z96 (n:Int):z2L.post [i64 n]= .sl (.own 1) (some false) (z4r n).length (bys (z4r n)):=by simp[z2L]
end Go.Abs
end

section
namespace Go.Abs
def z6y (l:List Int):List UInt8:=z4r l.length++l.flatMap z4r
def z8Wd (l:List (List UInt8)):List UInt8:=z4r l.length++l.flatMap z2X
def z22d (n:Nat) (d:List UInt8):List UInt8:=z4r n++d
theorem z9jc {n:Nat} (h:n≤9223372036854775807):z2e (n:Int):=⟨by omega,by omega⟩
theorem z2ta:∀{l:List Int},(∀x∈l,z2e x)→(l.flatMap z4r).length≤9*l.length
 |[],_=>by simp
 |x::l,h=>by
  have h1:=z7Aa (h x (by simp))
  have h2:=z2ta (l:=l) fun y hy=>h y (by simp[hy])
  simp only[List.flatMap_cons,List.length_append,List.length_cons]
  omega
theorem z2Ob {l:List Int} {i:Nat} (h:i<l.length):atI l i∈l:=by simp[atI,List.getD,List.getElem?_eq_getElem h]
def z3be (nf:Option Bool) (l:List UInt8):z0a:= .sl (.own 1) nf l.length (bys l)
def z00d (f:List Int→z0a):z1f:=⟨fun ds=>∃nl l,l.length≤100000000∧(∀x∈l,z2e x)∧ds=[.sl .plain nl l.length (z1Aa l)],fun ds=>f (gIs (gCs (nth ds 0)))⟩
theorem z8Vb {f:List Int→z0a} {nl:Option Bool} {n:Nat} {l:List Int} (h:l.length≤100000000) (hl:∀x∈l,z2e x) (hn:n=l.length):(z00d f).pre [.sl .plain nl n (z1Aa l)]=True:=by
 subst hn;exact eq_true ⟨nl,l,h,hl,rfl⟩
@[simp] theorem z1qb (f:List Int→z0a) (m:z5r) (nl:Option Bool) (n:Nat) (l:List Int):(z00d f).post [.sl m nl n (z1Aa l)]=f l:=by simp[z00d]
def z1Xa:z1f:=z00d fun l=>z3be (some false) (z6y l)
def z4Xa:z1f:=z00d fun l=>z3be none (z6y l)
def z9Ta:z1f:=⟨fun ds=>∃nl nl' a b,a.length≤1000000000∧ds=[.sl .plain nl a.length (z1Aa a),.sl .plain nl' b.length (z1Aa b)],fun ds=>bo (gIs (gCs (nth ds 0))==gIs (gCs (nth ds 1)))⟩
theorem z02b {nl nl':Option Bool} {n m:Nat} {a b:List Int} (h:a.length≤1000000000) (hn:n=a.length) (hm:m=b.length):z9Ta.pre [.sl .plain nl n (z1Aa a),.sl .plain nl' m (z1Aa b)]=True:=by
 subst hn;subst hm;exact eq_true ⟨nl,nl',a,b,h,rfl⟩
@[simp] theorem z4Od (m m':z5r) (nl nl':Option Bool) (n k:Nat) (a b:List Int):z9Ta.post [.sl m nl n (z1Aa a),.sl m' nl' k (z1Aa b)]=bo (a==b):=by simp[z9Ta]
def z3qb:z1f:=⟨fun ds=>∃nl nl' n m a b,n≤10000000∧a.length=n*16∧b.length=m*16∧ds=[.sl .plain nl n (bys a),.sl .plain nl' m (bys b)],fun ds=>bo (gBs (gCs (nth ds 0))==gBs (gCs (nth ds 1)))⟩
@[simp] theorem z8Nd (m m':z5r) (nl nl':Option Bool) (n k:Nat) (a b:List UInt8):z3qb.post [.sl m nl n (bys a),.sl m' nl' k (bys b)]=bo (a==b):=by simp[z3qb]
end Go.Abs
end

section
namespace Go.Abs
structure Cmd where
 kind:Int
 key:Int
 other:Int
 type:Int
 uses:Int
 life:Int
 data:List UInt8
 list:List Int
def Cmd.ok (c:Cmd):Prop:=z2e c.kind∧z2e c.key∧z2e c.other∧z2e c.type∧z2e c.uses∧z2e c.life∧∀x∈c.list,z2e x
def z49a (c:Cmd) (nl:Option Bool):List z0a:=[i64 c.kind,i64 c.key,i64 c.other,i64 c.type,i64 c.uses,i64 c.life,st c.data,.sl .plain nl c.list.length (z1Aa c.list)]
def z3Jc (l:List z0a):Cmd:=⟨asI (nth l 0),asI (nth l 1),asI (nth l 2),asI (nth l 3),asI (nth l 4),asI (nth l 5),gS (nth l 6),gIs (gCs (nth l 7))⟩
@[simp] theorem z1nc (c:Cmd) (nl:Option Bool):z3Jc (z49a c nl)=c:=by simp[z3Jc,z49a,nth]
def z9u:Cmd:=⟨0,0,0,0,0,0,[],[]⟩

/-! ### Kinds -/
def z8J (x y:Int):Int:=IntKind.i64.wrap (BitVec.ofInt 64 x&&& ~~~BitVec.ofInt 64 y).toNat
@[simp] theorem z2w (x y:Int):z9c .andNot (i64 x) (i64 y)=i64 (z8J x y):=rfl
@[simp] theorem z8F (x y:Int):z3a .andNot (i64 x) (i64 y)=True:=by simp[z3a,i64,-z9s]
@[simp] theorem z7O (x y:Int):z3a .and (i64 x) (i64 y)=True:=by simp[z3a,i64,-z9s]
def z2Zb (n:Int):Bool:=z8J n 956==0
def six (c:Cmd):List Int:=[c.kind,c.key,c.other,c.type,c.uses,c.life]
def z38b (c:Cmd):List UInt8:=(six c).flatMap z4r++(z2X c.data++z6y c.list)
def z0ka:Nat→List UInt8→List Int×List UInt8×Nat
 |0,b=>([],b,0)
 |n+1,b=>if(z6m b).2.2≠0 then([],b,(z6m b).2.2) else((z6m b).1::(z0ka n (b.drop (z6m b).2.1)).1,(z0ka n (b.drop (z6m b).2.1)).2)
def aft (b:List UInt8) (n e:Nat):List UInt8:=if e=0 then b.drop n else b
end Go.Abs
end

section
set_option linter.unusedVariables false
namespace Go.Abs

inductive z66a where
 |plain (c:z1c)
 |seq (a b:z66a)
 |cond (c:Arg) (a b:z66a)
 |block (id:Nat) (b:z66a)
 |loop (b:z66a)
 |yield (keep:List Nat) (gs:List z0h) (xs:List z6a) (d:Option Nat) (y:Nat) (as:List Arg) (zs:List z6a) (gd:Option (Nat×Bool):=none)
 |lean (s t:Nat) (keep:List Nat) (gs:List z0h) (zs:List z6a)
 deriving Inhabited

abbrev IQ:=z5c→Nat×Bool→ASt→Prop
def z5mc (f:Nat×Bool→ASt→Prop) (Q:IQ):IQ
 | .normal,p,st=>f p st
 |e,p,st=>Q e p st
def z56b (id:Nat) (Q:IQ):IQ
 | .exit id',p,st=>if id'=id then Q .normal p st else Q (.exit id') p st
 |e,p,st=>Q e p st

def yOk:z0a→Bool
 | .undef=>true
 | .bp _ _=>true
 |c=>z6c c
def z6Hb (cs:List z0a):List z0a:=if cs.all yOk=true then cs else cs.map fun c=>if yOk c then c else .undef
@[simp] theorem z8ce {cs:List z0a} (h:cs.all yOk=true):z6Hb cs=cs:=if_pos h
theorem z5hc {cs:List z0a} {i:Nat} {d:z0a} (h:(z6Hb cs)[i]? =some d):∃c,cs[i]? =some c∧(d=c∨d= .undef):=by
 unfold z6Hb at h
 split at h
 ·exact⟨d,h,.inl rfl⟩
 ·rw[List.getElem?_map] at h
  cases hc:cs[i]? with
  |none=>rw[hc] at h;cases h
  |some c=>
   rw[hc] at h
   simp only[Option.map_some,Option.some.injEq] at h
   refine⟨c,rfl,?_⟩
   split at h
   ·exact .inl h.symm
   ·exact .inr h.symm
@[simp] theorem z15d (cs:List z0a):(∀x∈z6Hb cs,yOk x=true)=True:=eq_true fun x hx=>by
 unfold z6Hb at hx
 split at hx
 ·rename_i h;exact List.all_eq_true.1 h x hx
 ·obtain⟨c,_,rfl⟩:=List.mem_map.1 hx
  split
  ·assumption
  ·rfl
theorem z2le (l:List z0a):hdA (l.drop 1)=(l[1]?).getD .undef:=by
 match l with
 |[]=>rfl
 |[_]=>rfl
 |_::_::_=>rfl
def z4oc (st:ASt):ASt:={st with env:=st.env.map fun q=>(q.1,if yOk q.2 then q.2 else .undef),box:=st.box.map fun q=>(q.1,q.2.map z6Hb)}
theorem z0Md (st:ASt):∀q∈(z4oc st).env,yOk q.2=true:=fun q hq=>by
 obtain⟨r,_,rfl⟩:=List.mem_map.1 hq
 show yOk (if yOk r.2 then r.2 else .undef)=true
 split
 ·assumption
 ·rfl
theorem z0Uc (s:Nat):∀e:List (Nat×z0a),lk (e.map fun q=>(q.1,if yOk q.2 then q.2 else .undef)) s=(lk e s).map fun d=>if yOk d then d else .undef
 |[]=>rfl
 |(k,d)::e=>by
  simp only[List.map_cons,lk]
  split
  ·rfl
  ·exact z0Uc s e
theorem z8ed {K:Cx} {base:z4f} {n:Nat} {st:ASt} {a:Act} {w:World} (hR:Rel K base n st a w):Rel K base n (z4oc st) a w:=by
 obtain⟨g,hI,hS,hO,h⟩:=hR
 have hlk:∀(b:List (Nat×Option (List z0a))) (id:Nat),lk (b.map fun q=>(q.1,q.2.map z6Hb)) id=(lk b id).map fun o=>o.map z6Hb:=fun b id=>by
  induction b with
  |nil=>rfl
  |cons q b ih=>
   obtain⟨k,o⟩:=q
   simp only[List.map_cons,lk]
   split
   ·rfl
   ·exact ih
 have hB:∀id,(z4oc st).getB id=(st.getB id).map z6Hb:=fun id=>by
  show(lk (st.box.map fun q=>(q.1,q.2.map z6Hb)) id).join=((lk st.box id).join).map z6Hb
  rw[hlk]
  cases lk st.box id with
  |none=>rfl
  |some o=>rfl
 have hsome:∀id cs',(z4oc st).getB id=some cs'→∃cs,st.getB id=some cs∧cs'=z6Hb cs:=fun id cs' h=>by
  rw[hB] at h
  cases hc:st.getB id with
  |none=>rw[hc] at h;cases h
  |some cs=>rw[hc] at h;cases h;exact⟨cs,rfl,rfl⟩
 refine⟨g,{hI with bxok:=fun id cs' hc=> ?_,nobx:=fun id hn=> ?_,obok:=fun id b cs' h1 h2 hc hne=> ?_},fun s=> ?_,hO,h⟩
 ·obtain⟨cs,hcs,rfl⟩:=hsome id cs' hc
  obtain⟨b,k1,k2,k3⟩:=hI.bxok id cs hcs
  refine⟨b,k1,k2,fun i d hd=> ?_⟩
  obtain⟨c,hci,hdc⟩:=z5hc hd
  obtain⟨⟨x,hx,hr⟩,hf⟩:=k3 i c hci
  refine⟨⟨x,hx,?_⟩,hf⟩
  rcases hdc with rfl|rfl
  ·exact hr
  ·simp[Rep]
 ·rw[hB] at hn
  refine hI.nobx id ?_
  cases hc:st.getB id with
  |none=>rfl
  |some cs=>rw[hc] at hn;cases hn
 ·obtain⟨cs,hcs,rfl⟩:=hsome id cs' hc
  refine hI.obok id b cs h1 h2 hcs fun e=>hne ?_
  rw[z2le] at e⊢
  cases h9:(z6Hb cs)[1]? with
  |none=>rfl
  |some d=>
   obtain⟨c,hc1,hd⟩:=z5hc h9
   rw[hc1] at e
   rcases hd with rfl|rfl
   ·exact e
   ·rfl
 have hs:=hS s
 unfold ASt.get at hs⊢
 rw[show lk (z4oc st).env s=(lk st.env s).map fun d=>if yOk d then d else .undef from z0Uc s st.env,show(z4oc st).org=st.org from rfl]
 cases he:lk st.env s with
 |none=>rw[he] at hs;exact hs
 |some d=>
  rw[he] at hs
  simp only[Option.map_some]
  split
  ·exact hs
  ·simp[Rep]
def z36c (d:Option Nat) (b:Bool) (st:ASt):ASt:={st with env:=d.toList.map (fun s=>(s,bo' b))++st.env}
where bo' (b : Bool) : z0a := .lit (.bool b)

theorem z1Hc {v:z0a} {want:Bool} (h:isB v):z4G v want=(asB v==want):=by
 unfold isB at h
 split at h
 ·rfl
 ·exact h.elim
def z1Sd (d:Option Nat) (st:ASt):ASt:={st with env:=d.toList.map (fun s=>(s,z7j))++st.env}
def ifG (gd:Option (Nat×Bool)) (st:ASt) (Y N:Prop):Prop:=match gd with
 |none=>Y
 |some (s,want)=>isB (st.get s)∧(asB (st.get s)=want→Y)∧(asB (st.get s)=(!want)→N)

theorem z6td {gd:Option (Nat×Bool)} {st:ASt} {Y N:Prop} (h:ifG gd st Y N) (hw:∀s want,gd=some (s,want)→isB (st.get s)→asB (st.get s)=want):Y:=by
 cases gd with
 |none=>exact h
 |some sw=>
  obtain⟨s,want⟩:=sw
  exact h.2.1 (hw s want rfl h.1)

def z9Zb (s:Nat) (d:z0a) (st:ASt):ASt:={st with org:=(s,d)::st.org,env:=st.env.filter fun p=>decide (p.1≠s)}
def z0sb (E:Env) (l:Nat) (el:Nat→Option (List z0a)):z66a→IQ→Nat×Bool→ASt→Prop
 | .plain c,Q,p,st=>awp E c (fun e st'=>Q e p st') st
 | .seq a b,Q,p,st=>z0sb E l el a (z5mc (fun p st=>z0sb E l el b Q p st) Q) p st
 | .cond c a b,Q,p,st=>isB (arg E st.get c)∧(asB (arg E st.get c)=true→z0sb E l el a Q p st)∧(asB (arg E st.get c)=false→z0sb E l el b Q p st)
 | .block id b,Q,p,st=>z0sb E l el b (z56b id Q) p st
 | .loop b,Q,p,st=>∃I:Nat×Bool→ASt→Prop,I p st∧∀p st,I p st→z0sb E l el b (z5mc (fun p' st'=>I p' st'∧p.2=false∧(p'=(p.1+1,false)∨p'=(p.1,true))) Q) p st
 | .yield keep gs xs d y as zs gd,Q,p,st=>
  z5t E xs st∧(∀s∈d.toList,lk st.org s=none)∧
  (let st1:=z4oc (z8I E xs st)
   ifG gd st1 (p.2=false∧el p.1=some (as.map (arg E st1.get))∧z7a (as.map (arg E st1.get))=true∧st1.get y= .lit (.func (.yield l) #[] #[])∧(∀q∈st1.box,∀cs,q.2=some cs→cs.all yOk=true∧q.1<1000000)∧
   ∀b:Bool,z5t E zs (z36c d b st1)∧z6S gs (z2o keep (z8I E zs (z36c d b st1)))∧Q .normal (if b then(p.1+1,false) else(p.1,true)) (z7q gs (z2o keep (z8I E zs (z36c d b st1))))) (z5t E zs (z1Sd d st1)∧z6S gs (z2o keep (z8I E zs (z1Sd d st1)))∧Q .normal p (z7q gs (z2o keep (z8I E zs (z1Sd d st1))))))
 | .lean s t keep gs zs,Q,p,st=>∃d ds,lk st.org t=some (.ep (d::ds))∧z5t E zs (z9Zb s d st)∧z6S gs (z2o keep (z8I E zs (z9Zb s d st)))∧Q .normal p (z7q gs (z2o keep (z8I E zs (z9Zb s d st))))

def z5zb (K:Cx) (n:Nat) (ops:Array Oper) (o:Oper) (d:Option Nat) (y:Nat) (as:List Arg) (gd:Option (Nat×Bool)):Bool:=
 (o.dst==d)&&d.toList.all (· <n)&&z8sb ops o.guard gd&&(match o.op with| .call c=>(match c.callee with| .value (.tmp t)=>t==y|_=>false)&&argsL K c.args.toList as|_=>false)
where argsL (K : Cx) : List Operand → List Arg → Bool
 |[],[]=>true
 |x::xs,y::ys=>z7wa K x y&&argsL K xs ys
 |_,_=>false
def z3uc (K:Cx) (n:Nat):z66a→Code→Bool
 | .plain c,x=>z9Aa c&&z2Ga c&&z8ra K n c x
 | .seq a b,x=>match x with| .seq p q=>z3uc K n a p&&z3uc K n b q|_=>false
 | .cond c a b,x=>match x with| .cond c' p q=>z7wa K c' c&&z3uc K n a p&&z3uc K n b q|_=>false
 | .block id b,x=>match x with| .block id' p=>(id==id')&&z3uc K n b p|_=>false
 | .loop b,x=>match x with| .loop p=>z3uc K n b p|_=>false
 | .yield _ gs xs d y as zs gd,x=>match x with
  | .region _ ops draw=> !draw&&(ops.size==xs.length+1+zs.length)&&z39a K n ops (ops.toList.take xs.length) xs&&
   (match ops[xs.length]? with|some o=>z5zb K n ops o d y as gd|none=>false)&&z39a K n ops (ops.toList.drop (xs.length+1)) zs&&gs.all z0h.cold
  |_=>false
 | .lean s t _ gs zs,x=>match x with
  | .region _ ops draw=> !draw&&(ops.size==zs.length+1)&&(match ops[0]? with|some o=>z0Fb K n ops o ⟨some s,none,.load none none false (.s t)⟩|none=>false)&&z39a K n ops (ops.toList.drop 1) zs&&gs.all z0h.cold
  |_=>false
def z5Ga:z66a→List (Nat×Bool)
 | .plain c=>z4a c
 | .seq a b=>z5Ga a++z5Ga b
 | .cond _ a b=>z5Ga a++z5Ga b
 | .block _ b=>z5Ga b
 | .loop b=>z5Ga b
 | .yield _ _ xs _ _ _ zs _=>(xs++zs).flatMap fun x=>z1A x.op
 | .lean _ _ _ _ zs=>zs.flatMap fun x=>z1A x.op

section
variable {K : Cx} {S : Nat → Nat} {w0 : World} {n : Nat} {el : Nat → Option (List z0a)} {l : Nat} {J : Nat → (Nat → Prop) → World → Prop} {Jx : (Nat → Prop) → World → Prop} {N : Nat} {O0 : Nat → Prop}

structure Zi (S:Nat→Nat) (w0:World) (base:z4f):Prop where
 own:∀b,base.W b→w0.heap.size≤b∨S b=0
 size:w0.heap.size≤base.w0.heap.size
 kp:z9d S w0 base.S base.w0
 le:∀b,base.S b≤S b
 dl:base.dl=[]
def HyI (O0:Nat→Prop) (J:Nat→(Nat→Prop)→World→Prop) (Jx:(Nat→Prop)→World→Prop) (base:z4f) (p:Nat×Bool):Prop:=
 ∃O:Nat→Prop,(∀b,base.W b→b<base.w0.heap.size→O b)∧(∀b,O0 b→O b∧b<base.w0.heap.size)∧(match p.2 with|false=>J p.1 O base.w0|true=>Jx O base.w0)
def z7rc (K:Cx) (S:Nat→Nat) (w0:World) (O0:Nat→Prop) (J:Nat→(Nat→Prop)→World→Prop) (Jx:(Nat→Prop)→World→Prop) (n:Nat) (Q:IQ):Exit→Act→World→Prop
 | .normal,a,w=>∃base p st,Zi S w0 base∧HyI O0 J Jx base p∧Rel K base n st a w∧Q .normal p st
 | .exit id,a,w=>∃base p st,Zi S w0 base∧HyI O0 J Jx base p∧Rel K base n st a w∧Q (.exit id) p st
 | .ret,a,w=>∃base p st,Zi S w0 base∧HyI O0 J Jx base p∧Rel K base n st a w∧Q .ret p st
 |_,_,_=>False

theorem z6pc {base:z4f} {g:Gh} {w:World} {a:Act} {get:Nat→z0a} {getB:Nat→Option (List z0a)} (hI:Inv K base g w getB) (hS:z3v K g w get a):∀{xs:List Operand} {ys:List Arg},z5zb.argsL K xs ys=true→z2b K.toCon g w (ys.map (arg K.E get)) (xs.map a.eval)
 |[],[],_=>by simp[z2b]
 |[],_::_,h=>by simp[z5zb.argsL] at h
 |_::_,[],h=>by simp[z5zb.argsL] at h
 |x::xs,y::ys,h=>by
  simp only[z5zb.argsL,Bool.and_eq_true] at h
  simp only[List.map_cons,z2b]
  exact⟨_,_,rfl,z3qa hI hS h.1,z6pc hI hS h.2⟩

def WO (g:Gh) (O0:Nat→Prop) (b:Nat):Prop:=Wr g b∨O0 b
theorem z2pd (hr:z6ic K S el l J Jx N O0 w0) {base:z4f} {p:Nat×Bool} {g:Gh} {w:World} {bx:Nat→Option (List z0a)} (hh:HyI O0 J Jx base p) (hI:Inv K base g w bx):(∀b,O0 b→b<w.heap.size)∧match p.2 with|false=>J p.1 (WO g O0) w|true=>Jx (WO g O0) w:=by
 obtain⟨O,hO,hO0,hj⟩:=hh
 have hf:Fr base.w0.heap.size O base.w0 w:=hI.fr.mono (Nat.le_refl _) fun k hk hw=>hO k hw hk
 have hw:∀b,WO g O0 b→(O b∨base.w0.heap.size≤b)∧b<w.heap.size:=fun b hb=>by
  rcases hb with hb|hb
  case inr=>exact⟨.inl (hO0 b hb).1,Nat.lt_of_lt_of_le (hO0 b hb).2 hI.fr.size⟩
  refine⟨?_,?_⟩
  ·rcases Nat.lt_or_ge b base.w0.heap.size with hlt|hge
   ·rcases z8yb hI hb with h1|h1
    ·omega
    ·exact .inl (hO b h1 hlt)
   ·exact .inr hge
  ·rcases hb with⟨id,hi⟩|ho
   ·exact(hI.muW id b hi).2.1
   ·cases hl:g.ow b with
    |none=>exact absurd hl ho
    |some lo=>exact(hI.owW b lo hl).2
 obtain⟨i,s⟩:=p
 cases s with
 |false=>exact⟨fun b hb=>(hw b (.inr hb)).2,hr.stab i O (WO g O0) base.w0 w hj hf hw⟩
 |true=>exact⟨fun b hb=>(hw b (.inr hb)).2,hr.stabx O (WO g O0) base.w0 w hj hf hw⟩

theorem z8Tc {K:Con} {g g':Gh} {w w':World} (hm:g'.mu=g.mu) {d:z0a} {v:Value} {l l':Option Loc} (hy:yOk d=true) (h:Rep K g w l d v):Rep K g' w' l' d v:=by
 cases d with
 |undef=>simp[Rep]
 |bp id off=>simp only[Rep,hm] at h⊢;exact h
 |lit x=>simp only[Rep] at h⊢;exact h
 |agg cs=>rw[z1Bb _ _ _ hy h];exact z81b _ _ hy
 |tup cs=>rw[z1Bb _ _ _ hy h];exact z81b _ _ hy
 |sl _ _ _ _=>simp[yOk,z6c] at hy
 |bv _ _ _ _ _=>simp[yOk,z6c] at hy
 |ep _=>simp[yOk,z6c] at hy
 |otup _ _ _ _ _=>simp[yOk,z6c] at hy
 |oagg _ _ _ _ _ _=>simp[yOk,z6c] at hy
 |fn _ _ _=>simp[yOk,z6c] at hy

theorem z0vc (hSx:∀b i,i<S b→∃x,w0.cell? ⟨b,i,none⟩=some x) (hg:∀m∈K.N.gs,z4b K.toCon S w0 (K.E.T m) (K.N.gnum m) 0) {base:z4f} (hz:Zi S w0 base) {st:ASt} {a:Act} {w B:World} {g:Gh}
  (hI:Inv K base g w st.getB) (hS:z3v K g w st.get a) (hO:z65 K base st a) (hd:a.defers=base.dl) (hsz:a.tmps.size=n) (he:∀q∈st.env,yOk q.2=true) (hb:∀q∈st.box,∀cs,q.2=some cs→cs.all yOk=true∧q.1<1000000)
  (hk:z9d S w0 S B) (hown:∀b,Wr g b→B.heap[b]? =w.heap[b]?) (hsize:w.heap.size≤B.heap.size) {p:Nat×Bool} (h0:∀b,O0 b→b<w.heap.size) (hj:match p.2 with|false=>J p.1 (WO g O0) B|true=>Jx (WO g O0) B)
  {d:Option Nat} {v:Bool} (hdl:∀s∈d.toList,s<n) (hdo:∀s∈d.toList,lk st.org s=none):
  ∃base',Zi S w0 base'∧HyI O0 J Jx base' p∧Rel K base' n (z36c d v st) (a.put d (.bool v)) B:=by
 let g':Gh:={S:=fun b=>if b<w0.heap.size then S b else 0,ow:=fun _=>none,mu:=g.mu}
 have hw:∀b,Wr g' b→Wr g b:=fun b hb=>by
  rcases hb with hb|hb
  ·exact .inl hb
  ·exact absurd rfl hb
 have hge:∀b,Wr g b→w0.heap.size≤b∨S b=0:=fun b hb=>by
  rcases z8yb hI hb with h1|h1
  ·exact .inl (Nat.le_trans hz.size h1)
  ·exact hz.own b h1
 have hB0:w0.heap.size≤B.heap.size:=Nat.le_trans hz.size (Nat.le_trans hI.fr.size hsize)
 have hkp:z9d S w0 (z4f.S ⟨B,Wr g',g'.S,[],g'.mu⟩) B:=fun b i x hi hc=>by
  have hlt:b<w0.heap.size:=World.block_lt_of_cell? w0 ⟨b,i,none⟩ hc
  refine⟨?_,(hk b i x hi hc).2⟩
  unfold z4f.S
  rw[if_pos ⟨Nat.lt_of_lt_of_le hlt hB0,fun h=>by rcases hge b (hw b h) with h9|h9<;>omega⟩]
  show i<if b<w0.heap.size then S b else 0
  rw[if_pos hlt];exact hi
 have hk':z9d S w0 g'.S B:=fun b i x hi hc=>by
  have hlt:b<w0.heap.size:=World.block_lt_of_cell? w0 ⟨b,i,none⟩ hc
  exact⟨by show i<if b<w0.heap.size then S b else 0;rw[if_pos hlt];exact hi,(hk b i x hi hc).2⟩
 have horg:z9d base.S base.w0 (z4f.S ⟨B,Wr g',g'.S,[],g'.mu⟩) B:=fun b i x hi hc=>by
  have hi':i<S b:=Nat.lt_of_lt_of_le hi (hz.le b)
  obtain⟨x',hx'⟩:=hSx b i hi'
  have h1:=(hz.kp b i x' hi' hx').2
  rw[hc] at h1
  cases h1
  exact hkp b i x hi' hx'
 refine⟨⟨B,Wr g',g'.S,[],g'.mu⟩,⟨fun b hb=>hge b (hw b hb),hB0,hkp,fun b=> ?_,rfl⟩,⟨WO g O0,fun b hb _=> .inl (hw b hb),fun b hb=>⟨.inr hb,Nat.lt_of_lt_of_le (h0 b hb) hsize⟩,hj⟩,g',⟨Fr.refl _ _ _,fun _ _ _=>rfl,hI.inj,fun id cs hc=> ?_,hI.nobx,fun id b hb=> ?_,fun b lo hb=> ?_,fun m hm=>z4b.mono hk' _ _ _ (hg m hm),z9d.refl _ _,fun id b cs ho hmu hc _=> ?_,fun _ _ _ _ h=>h⟩,fun s=> ?_,fun s d' hs=> ?_,?_,?_⟩
 ·unfold z4f.S
  split
  ·show(if b<w0.heap.size then S b else 0)≤S b
   split<;>omega
  ·omega
 ·obtain⟨b,k1,k2,k3⟩:=hI.bxok id cs hc
  have hbk:=hown b (.inl ⟨id,k1⟩)
  have hb0:=hge b (.inl ⟨id,k1⟩)
  have hbox:(id,some cs)∈st.box:=by
   have hc':(lk st.box id).join=some cs:=hc
   cases hl:lk st.box id with
   |none=>rw[hl] at hc';cases hc'
   |some o=>rw[hl] at hc';simp only[Option.join_some] at hc';rw[←hc'];exact z7db hl
  have hall:=(hb _ hbox cs rfl).1
  refine⟨b,k1,by show(if b<w0.heap.size then S b else 0)=0;rcases hb0 with h9|h9<;>split<;>omega,fun i e hi=> ?_⟩
  obtain⟨⟨x,hx,hr⟩,hfz⟩:=k3 i e hi
  refine⟨⟨x,?_,z8Tc (g:=g) (g':=g') rfl (List.all_eq_true.1 hall e (z3ya hi)) hr⟩,?_⟩
  ·rw[World.cell?_of_block (w:=w) (a:=⟨b,i,none⟩) hbk];exact hx
  ·simp only[World.frozen?,hbk] at hfz⊢;exact hfz
 ·exact⟨.inr (.inl ⟨id,hb⟩),Nat.lt_of_lt_of_le (hI.muW id b hb).2.1 hsize,rfl⟩
 ·cases hb
 ·have hbox:(id,some cs)∈st.box:=by
   have hc':(lk st.box id).join=some cs:=hc
   cases hl:lk st.box id with
   |none=>rw[hl] at hc';cases hc'
   |some o=>rw[hl] at hc';simp only[Option.join_some] at hc';rw[←hc'];exact z7db hl
  have:=(hb _ hbox cs rfl).2
  simp only at this
  omega
 ·rw[z4zb (by rw[hsz];exact hdl)]
  have hget:(z36c d v st).get s=if d=some s then .lit (.bool v) else st.get s:=by
   show(match lk (d.toList.map (fun s=>(s,z36c.bo' v))++st.env) s with|some d=>d|none=>dem ((lk st.org s).getD .undef))=_
   rw[z4d]
   cases d with
   |none=>simp[lk];rfl
   |some t=>
    simp only[Option.toList_some,List.map_cons,List.map_nil,lk,Option.some.injEq]
    by_cases h:s=t
    ·simp[h,z36c.bo']
    ·rw[if_neg h,if_neg (fun e=>h e.symm)];simp;rfl
  rw[hget]
  by_cases h:d=some s
  ·rw[if_pos h,if_pos h];simp[Rep]
  ·rw[if_neg h,if_neg h]
   have hs:=hS s
   unfold ASt.get at hs⊢
   cases hl:lk st.env s with
   |some e=>
    rw[hl] at hs
    exact z8Tc (g:=g) (g':=g') rfl (he _ (z7db hl)) hs
   |none=>
    cases ho:lk st.org s with
    |none=>simp[Abs.dem,Rep]
    |some e=>
     refine z9b.dem (g:=g') _ (z9b.mono ?_ e _ (z9b.mono horg e _ (hO s e ho)))
     intro b i x hi hc
     refine⟨?_,hc⟩
     unfold z4f.S at hi
     split at hi
     ·exact hi
     ·omega
 ·rw[z4zb (by rw[hsz];exact hdl)]
  have hs':lk st.org s=some d':=hs
  have hne:d≠some s:=fun e=>by
   have:=hdo s (by simp[e])
   rw[hs'] at this;cases this
  rw[if_neg hne]
  exact z9b.mono horg d' _ (hO s d' hs')
 ·cases d<;>simp[Act.put,hd,hz.dl]
 ·cases d<;>simp[Act.put,hsz]

theorem z7fd {E:Env} (o:z6a) (st:ASt):(z9a E o st).org=st.org:=by
 unfold z9a
 split
 ·rfl
 ·split<;>rfl
theorem z8tc {E:Env}:∀(xs:List z6a) (st:ASt),z5t E xs st→(z8I E xs st).org=st.org
 |[],st,_=>rfl
 |x::xs,st,h=>by
  show(z8I E xs (z9a E x st)).org=_
  rw[z8tc xs _ h.2,z7fd]
theorem z8uc {P:Program} {o:Oper} {a:Act} {w:World} {c:Call} {t:Tmp} {l:Nat} {r:Result Next} (ho:o.op= .call c) (hc:c.callee= .value (.tmp t)) (hv:a.eval (.tmp t)= .func (.yield l) #[] #[])
  (h:(Instr.yield l (c.args.map a.eval)).run P w=r):(execOp a.eval o).run P w=r:=by
 rw[←h]
 simp only[execOp,ho,resolve,hc,hv,Deferred.ofValue,invoke]
 simp[go_sem]

theorem z21c {base:z4f} {ops:Array Oper} {oper:Oper} {s t:Nat} {d:z0a} {ds:List z0a} {st:ASt} {a:Act} {w:World} (hR:Rel K base n st a w) {i:Nat} (hi:ops[i]? =some oper) (hm:z0Fb K n ops oper ⟨some s,none,.load none none false (.s t)⟩=true)
  (ht:lk st.org t=some (.ep (d::ds))) {Kn:Act→World→Prop} {Q:Exit→Act→World→Prop} (hn:∀a' w',Rel K base n (z9Zb s d st) a' w'→Kn a' w') {r:Option Nat} {m:Nat}:wpOpIn (WF r) m K.P ops Q i Kn a w:=by
 simp only[z0Fb,Bool.and_eq_true,beq_iff_eq,List.all_eq_true,decide_eq_true_eq] at hm
 obtain⟨⟨⟨hdst,hlt⟩,hgd⟩,hch⟩:=hm
 have hR':=hR
 obtain⟨g,hI,hS,hO,hdf,hsz⟩:=hR'
 have hp:=hO t _ ht
 simp only[z9b,z4b] at hp
 obtain⟨b,o,hv,hb,⟨x,hx,hpx⟩,_⟩:=hp
 have hw:=(z3Ea hI) b o x hb hx
 have hl:z23b K oper.op none (.s t)=true:=hch
 have hwant:Region.wanted oper (yielded ops a.tmps)=true:=by
  unfold z8sb at hgd
  split at hgd
  ·rename_i h1 _;unfold Region.wanted;rw[h1]
  ·rename_i h1 h2;cases h2
  ·cases hgd
 unfold z23b at hl
 split at hl
 ·rename_i ty x' ho
  simp only[Bool.and_eq_true] at hl
  obtain⟨⟨hk,_⟩,hx'⟩:=hl
  have hrun:(execOp a.eval oper).run K.P w= .ok (.value x) w:=by
   cases x' with
   |tmp t'=>
    simp only[z7wa,beq_iff_eq] at hx'
    subst hx'
    have hev:a.eval (.tmp t')= .pointer (some ⟨b,o,none⟩):=hv
    have hr:=z95b (P:=K.P) (w:=w) (bk:=b) (o:=o) (vs:=[x]) hk (fun j v hj=>by
     cases j with
     |zero=>simp at hj;subst hj;exact hw.2
     |succ j=>simp at hj) (by simp)
    simp only[execOp,ho,hev,Sem.run_bind,hr,Result.andThen_ok,Sem.run_pure]
    rfl
   |_=>simp[z7wa] at hx'
  unfold wpOpIn
  simp only[hi]
  rw[if_pos hwant]
  refine z2Rc (fun c hc=>by rw[ho] at hc;cases hc) ?_
  unfold Oper.wp
  rw[hrun]
  refine hn _ _ ⟨g,hI,fun s'=> ?_,fun s' d' hs'=> ?_,?_,?_⟩
  ·rw[z4zb (by rw[hsz];intro s hs;exact hlt s (by rw[hdst] at hs;exact hs)),hdst]
   have hget:(z9Zb s d st).get s'=if some s=some s' then dem d else st.get s':=by
    have h1:lk (st.env.filter fun p=>decide (p.1≠s)) s'=if s'≠s then lk st.env s' else none:=by
     have:=z9Ba (fun k=>decide (k≠s)) st.env s'
     simpa using this
    show(match lk (st.env.filter fun p=>decide (p.1≠s)) s' with|some d=>d|none=>dem ((lk ((s,d)::st.org) s').getD .undef))=_
    rw[h1]
    by_cases h:s'=s
    ·subst h;simp[lk]
    ·rw[if_pos h,if_neg (fun e=>h (by cases e;rfl))]
     simp only[lk,if_neg h]
     rfl
   rw[hget]
   by_cases h:some s=some s'
   ·rw[if_pos h,if_pos h]
    exact z9b.dem _ (z9b.mono (z3Ea hI) d _ hpx)
   ·rw[if_neg h,if_neg h];exact hS s'
  ·rw[z4zb (by rw[hsz];intro s hs;exact hlt s (by rw[hdst] at hs;exact hs)),hdst]
   have hs':(if s'=s then some d else lk st.org s')=some d':=hs'
   by_cases h:s'=s
   ·rw[if_pos h] at hs';cases hs';rw[if_pos (by rw[h])];exact hpx
   ·rw[if_neg h] at hs';rw[if_neg (fun e=>h (by cases e;rfl))];exact hO s' d' hs'
  ·rw[hdst];simp[Act.put,hdf]
  ·rw[hdst];simp[Act.put,hsz]
 ·cases hl
theorem z9cb {q:Nat} (hr:z6ic K S el l J Jx N O0 w0) (hSx:∀b i,i<S b→∃x,w0.cell? ⟨b,i,none⟩=some x) (hg:∀m∈K.N.gs,z4b K.toCon S w0 (K.E.T m) (K.N.gnum m) 0):
  ∀(c:z66a) (x:Code) (Q:IQ) (base:z4f) (p:Nat×Bool) (st:ASt) (a:Act) (w:World),z3uc K n c x=true→(∀p∈z5Ga c,VB K p)→z0sb K.E l el c Q p st→Zi S w0 base→HyI O0 J Jx base p→Rel K base n st a w→x.wpIn (WF none) q K.P (z7rc K S w0 O0 J Jx n Q) a w
 | .plain c,x,Q,base,p,st,a,w,hc,hv,h,hz,hh,hR=>by
  simp only[z3uc,Bool.and_eq_true] at hc
  simp only[z0sb] at h
  refine wpIn_mono (z5Ja (Cd:=True) c x none q _ base st a w hc.2 hv hc.1.1 (.inl hc.1.2) h hR) ?_
  intro e a' w' hl
  cases e<;>simp only[z8Pb] at hl<;>simp only[z7rc]
  all_goals (obtain⟨b',⟨_,_,he⟩,st',hR',hq⟩:=hl;have he:=he trivial;subst he;exact⟨_,p,st',hz,hh,hR',hq⟩)
 | .seq u v,x,Q,base,p,st,a,w,hc,hv,h,hz,hh,hR=>by
  simp only[z3uc] at hc
  simp only[z0sb] at h
  simp only[z5Ga,List.mem_append] at hv
  split at hc
  ·rename_i y z
   simp only[Bool.and_eq_true] at hc
   refine wpIn_seq (wpIn_mono (z9cb hr hSx hg u y _ base p st a w hc.1 (fun f hf=>hv f (.inl hf)) h hz hh hR) ?_)
   intro e a' w' hl
   cases e<;>simp only[z7rc] at hl<;>simp only[Exit.then]
   ·obtain⟨b',p',st',hz',hh',hR',hq⟩:=hl
    exact z9cb hr hSx hg v z Q b' p' st' a' w' hc.2 (fun f hf=>hv f (.inr hf)) hq hz' hh' hR'
   ·exact hl
   ·exact hl
  ·cases hc
 | .cond c u v,x,Q,base,p,st,a,w,hc,hv,h,hz,hh,hR=>by
  simp only[z3uc] at hc
  simp only[z0sb] at h
  simp only[z5Ga,List.mem_append] at hv
  split at hc
  ·rename_i c' y z
   simp only[Bool.and_eq_true] at hc
   obtain⟨⟨hcc,hy⟩,hzz⟩:=hc
   obtain⟨hb,ht,hf⟩:=h
   have hR':=hR
   obtain⟨g,hI,hS,_⟩:=hR'
   obtain⟨_,hval⟩:=z7sb (z3qa hI hS hcc) hb
   refine wpIn_cond_split hval (fun e=> ?_) (fun e=> ?_)
   ·exact z9cb hr hSx hg u y Q base p st a w hy (fun f hf=>hv f (.inl hf)) (ht e) hz hh hR
   ·exact z9cb hr hSx hg v z Q base p st a w hzz (fun f hf=>hv f (.inr hf)) (hf e) hz hh hR
  ·cases hc
 | .block id b,x,Q,base,p,st,a,w,hc,hv,h,hz,hh,hR=>by
  simp only[z3uc] at hc
  simp only[z0sb] at h
  split at hc
  ·rename_i id' y
   simp only[Bool.and_eq_true,beq_iff_eq] at hc
   obtain⟨rfl,hp⟩:=hc
   refine wpIn_block (wpIn_mono (z9cb hr hSx hg b y _ base p st a w hp hv h hz hh hR) ?_)
   intro e a' w' hl
   cases e<;>simp only[z7rc] at hl<;>simp only[Exit.inBlock]
   ·exact hl
   ·rename_i id'
    obtain⟨b',p',st',hz',hh',hR',hq⟩:=hl
    simp only[z56b] at hq
    split
    ·rename_i he
     rw[if_pos he] at hq
     exact⟨b',p',st',hz',hh',hR',hq⟩
    ·rename_i he
     rw[if_neg he] at hq
     exact⟨b',p',st',hz',hh',hR',hq⟩
   ·exact hl
  ·cases hc
 | .loop b,x,Q,base,p,st,a,w,hc,hv,h,hz,hh,hR=>by
  simp only[z3uc] at hc
  simp only[z0sb] at h
  split at hc
  ·rename_i y
   obtain⟨I,hI0,hround⟩:=h
   have hbd:∀(base:z4f) (p:Nat×Bool),HyI O0 J Jx base p→p.2=false→p.1≤N:=fun base p ⟨O,_,_,hj⟩ hp=>by
    rw[hp] at hj;exact hr.bound _ _ _ hj
   refine z2tb (fun k a w=>∃base p st,Zi S w0 base∧HyI O0 J Jx base p∧Rel K base n st a w∧I p st∧k=(match p.2 with|true=>0|false=>N+1-p.1)) ⟨base,p,st,hz,hh,hR,hI0,rfl⟩ fun k a w hj=> ?_
   obtain⟨base',p',st',hz',hh',hR',hI',hk⟩:=hj
   refine wpIn_mono (z9cb hr hSx hg b y _ base' p' st' a w hc hv (hround p' st' hI') hz' hh' hR') ?_
   intro e a' w' hl
   cases e<;>simp only[z7rc] at hl<;>simp only[Exit.then]
   ·obtain⟨b2,p2,st2,hz2,hh2,hR2,hI2,hp,hp2⟩:=hl
    have hle:=hbd base' p' hh' hp
    rw[hp] at hk
    simp only at hk
    refine⟨match p2.2 with|true=>0|false=>N+1-p2.1,?_,b2,p2,st2,hz2,hh2,hR2,hI2,rfl⟩
    rcases hp2 with rfl|rfl
    ·simp only;omega
    ·simp only;omega
   ·exact hl
   ·exact hl
  ·cases hc
 | .yield keep gs xs d y as zs gd,x,Q,base,p,st,a,w,hc,hv,h,hz,hh,hR=>by
  simp only[z3uc] at hc
  simp only[z0sb] at h
  obtain⟨hokx,hdo,hifg⟩:=h
  have hye:=z0Md (z8I K.E xs st)
  split at hc
  ·rename_i id ops draw
   simp only[Bool.and_eq_true,Bool.not_eq_true',beq_iff_eq] at hc
   obtain⟨⟨⟨⟨⟨hdraw,hsz⟩,hcx⟩,hco⟩,hcz⟩,hcold⟩:=hc
   subst hdraw
   have hVx:∀z∈xs,VOk K z.op:=fun z hz f hf=>hv f (by simp only[z5Ga,List.mem_flatMap];exact⟨z,by simp[hz],hf⟩)
   have hVz:∀z∈zs,VOk K z.op:=fun z hz f hf=>hv f (by simp only[z5Ga,List.mem_flatMap];exact⟨z,by simp[hz],hf⟩)
   refine wpIn_region ?_
   have hrange:List.range ops.size=List.range' 0 xs.length++(xs.length::(List.range' (xs.length+1) zs.length)):=by
    rw[hsz,List.range_eq_range',show xs.length+1+zs.length=xs.length+(1+zs.length) by omega,←List.range'_append_1,Nat.zero_add,Nat.add_comm 1,List.range'_succ]
   rw[hrange]
   refine z6Yb xs 0 st a w (by simpa using hcx) hVx hR hokx fun a1 w1 hR1=> ?_
   replace hR1:=z8ed hR1
   rw[wpOpsIn_cons]
   split at hco
   ·rename_i o ho
    unfold wpOpIn
    simp only[ho]
    simp only[z5zb,Bool.and_eq_true,beq_iff_eq,List.all_eq_true,decide_eq_true_eq,Option.isNone_iff_eq_none] at hco
    obtain⟨⟨⟨hdst,hdl⟩,hgd⟩,hop⟩:=hco
    have hcz':z39a K n ops ((ops.toList.drop (xs.length+1)).take zs.length) zs=true:=by
     rw[List.take_of_length_le]
     ·exact hcz
     ·simp only[List.length_drop,Array.length_toList,hsz];omega
    have er:List.range' (xs.length+1) zs.length=List.range' (xs.length+1) zs.length++[]:=by simp
    by_cases hwant:Region.wanted o (yielded ops a1.tmps)=true
    case neg=>
     rw[if_neg hwant]
     refine⟨fun f _=>z9dc _ f,?_⟩
     cases gd with
     |none=>
      refine absurd ?_ hwant
      unfold z8sb at hgd
      split at hgd
      ·rename_i h1 _;unfold Region.wanted;rw[h1]
      ·rename_i h1 h2;cases h2
      ·cases hgd
     |some sw=>
      obtain⟨s,want⟩:=sw
      obtain⟨hb,_,hno⟩:=hifg
      have hw:=z6xb (o:=⟨none,some (s,want),.unsup⟩) hR1 hgd rfl (.inl hb)
      rw[hw,z1Hc hb] at hwant
      have hx:∀a b:Bool,¬((a==b)=true)→a=(!b):=by decide
      have hno:=hno (hx _ _ hwant)
      obtain⟨hokz,hokg,hq⟩:=hno
      have hR1':=hR1
      obtain⟨g,hI,hS,_,_,_⟩:=hR1'
      have hput:=z6rc (e:={val:=z7j}) (v:=undef) (w':=w1) hR1 (o:=⟨d,none,.unsup⟩) hdl (fun s hs=>by rw[show(z4oc (z8I K.E xs st)).org=(z8I K.E xs st).org from rfl,z8tc xs st hokx];exact hdo s hs) (by simp) ⟨g,hI,hS,by simp[Rep,z7j]⟩
      rw[er,hdst]
      exact z6Yb zs (xs.length+1) (z1Sd d (z4oc (z8I K.E xs st))) _ w1 hcz' hVz (by simpa[z1Sd] using hput) hokz fun a' w' hR'=>⟨base,p,_,hz,hh,z0Sb gs hcold (z6Pa keep hR') hokg,hq⟩
    have hpos:=z6td hifg fun s want e hb=>by
     subst e
     have hw:=z6xb (o:=⟨none,some (s,want),.unsup⟩) hR1 hgd rfl (.inl hb)
     rw[hw,z1Hc hb] at hwant
     simpa using hwant
    obtain⟨hp,hel,hmf,hly,hyb,hrest⟩:=hpos
    rw[if_pos hwant]
    split at hop
    ·rename_i c hoc
     simp only[Bool.and_eq_true] at hop
     obtain⟨hcal,hargs⟩:=hop
     split at hcal
     ·rename_i t hct
      simp only[beq_iff_eq] at hcal
      subst hcal
      obtain⟨g,hI,hS,hO,hdf,hsz1⟩:=hR1
      have hyv:a1.eval (.tmp t)= .func (.yield l) #[] #[]:=by
       have:=hS t
       rw[hly] at this
       simpa[Rep,Act.eval] using this
      have hvs:=z3sb _ _ hmf (z6pc hI hS hargs)
      have hargs':c.args.map a1.eval=(z8ja (as.map (arg K.E (z4oc (z8I K.E xs st)).get))).toArray:=by
       apply Array.toList_inj.1
       rw[Array.toList_map,hvs]
      obtain⟨h0,hnow⟩:=z2pd hr hh hI
      rw[hp] at hnow
      simp only at hnow
      obtain⟨fn,tm,asg,bdy,hyr,hround⟩:=hr.round p.1 (WO g O0) w1 _ (q-1) hnow hel
      refine⟨fun f _=>z9dc _ f,?_⟩
      rw[Oper.semAt_plain (WF none) _ _ (by rw[hoc];intro c' hc';cases hc'),z8uc hoc hct hyv rfl,hargs',hyr,Oper.uponIn_round]
      refine⟨fun h=>by simp[z1gc] at h,hround.mono fun e B hB=> ?_⟩
      obtain⟨k1,k2,k3,_,_,_,k4⟩:=hB
      have goOn:∀b:Bool,(match(if b then(p.1+1,false) else(p.1,true):Nat×Bool).2 with|false=>J (if b then(p.1+1,false) else(p.1,true):Nat×Bool).1 (WO g O0) B|true=>Jx (WO g O0) B)→
        wpOpsIn (WF none) q K.P ops (z7rc K S w0 O0 J Jx n Q) (List.range' (xs.length+1) zs.length) (a1.put o.dst (.bool b)) B:=fun b hj=>by
       obtain⟨base2,hz2,hh2,hR2⟩:=z0vc (p:=if b then(p.1+1,false) else(p.1,true)) hSx hg hz hI hS hO hdf hsz1 hye hyb k1 (fun b hb=>k2 b (.inl hb)) k3 h0 hj hdl (fun s hs=>by rw[show(z4oc (z8I K.E xs st)).org=(z8I K.E xs st).org from rfl,z8tc xs st hokx];exact hdo s hs) (v:=b)
       obtain⟨hokz,hokg,hq⟩:=hrest b
       rw[hdst]
       rw[er]
       exact z6Yb zs (xs.length+1) _ _ B hcz' hVz hR2 hokz fun a' w' hR'=>⟨base2,_,_,hz2,hh2,z0Sb gs hcold (z6Pa keep hR') hokg,hq⟩
      rcases k4 with⟨rfl,hj⟩|⟨rfl,hj⟩
      ·exact goOn true hj
      ·exact goOn false hj
     ·cases hcal
    ·cases hop
   ·cases hco
  ·cases hc
 | .lean s t keep gs zs,x,Q,base,p,st,a,w,hc,hv,h,hz,hh,hR=>by
  simp only[z3uc] at hc
  simp only[z0sb] at h
  obtain⟨d,ds,ht,hokz,hokg,hq⟩:=h
  split at hc
  ·rename_i id ops draw
   simp only[Bool.and_eq_true,Bool.not_eq_true',beq_iff_eq] at hc
   obtain⟨⟨⟨⟨hdraw,hsz⟩,hco⟩,hcz⟩,hcold⟩:=hc
   subst hdraw
   have hVz:∀z∈zs,VOk K z.op:=fun z hz f hf=>hv f (by simp only[z5Ga,List.mem_flatMap];exact⟨z,hz,hf⟩)
   refine wpIn_region ?_
   have hrange:List.range ops.size=0::(List.range' 1 zs.length++[]):=by
    rw[hsz,List.range_eq_range',List.range'_succ,List.append_nil]
   rw[hrange,wpOpsIn_cons]
   split at hco
   ·rename_i o ho
    refine z21c hR ho hco ht fun a' w' hR'=> ?_
    have hcz':z39a K n ops ((ops.toList.drop 1).take zs.length) zs=true:=by
     rw[List.take_of_length_le]
     ·exact hcz
     ·simp only[List.length_drop,Array.length_toList,hsz];omega
    exact z6Yb zs 1 _ _ _ hcz' hVz hR' hokz fun a2 w2 hR2=>⟨base,p,_,hz,hh,z0Sb gs hcold (z6Pa keep hR2) hokg,hq⟩
   ·cases hco
  ·cases hc

def z9Xc (w:World) (b:Nat):Nat:=match w.heap[b]? with|some (.cells c _ _)=>c.size|_=>0
theorem z2Mc {w:World} {b i:Nat} (h:i<z9Xc w b):∃x,w.cell? ⟨b,i,none⟩=some x:=by
 unfold z9Xc at h
 unfold World.cell?
 split at h
 ·rename_i c e fr hb
  simp only[hb]
  exact⟨c[i],by simp[h]⟩
 ·omega
theorem z18c {w:World} {b i:Nat} {x:Value} (h:w.cell? ⟨b,i,none⟩=some x):i<z9Xc w b:=by
 unfold World.cell? at h
 unfold z9Xc
 cases hb:w.heap[b]? with
 |none=>simp[hb] at h
 |some q=>
  cases q with
  |cells c e fr=>
   simp[hb] at h
   exact(Array.getElem?_eq_some_iff.1 h).1
  |_=>simp[hb] at h

structure z1de where
 nx:Nat
 ny:Nat
 body:z66a
def lvS (lv:List Nat) (x:List z0a):List Nat:=lv.map (· +(x.length+1))
def z13c (l:Nat) (lv:List Nat) (x y:List z0a):ASt:=
 {org:=(z4e 0 (x++ .lit (.func (.yield l) #[] #[])::y)).filter fun p=> !(lvS lv x).contains p.1
  env:=(lvS lv x).map fun s=>(s,.bp s 0)
  box:=(lvS lv x).map fun s=>(s,some (z4s ((x++ .lit (.func (.yield l) #[] #[])::y).getD s .undef)))}
def z6ce (lv:List Nat) (x:List z0a) (B:Nat→Option Nat) (s:Nat):Option Nat:=if s∈lvS lv x then B (s-(x.length+1)) else none
theorem z9Vd {K:Cx} {S:Nat→Nat} {w:World} {n l m:Nat} {lv:List Nat} {B:Nat→Option Nat} {x y:List z0a} {vx vy:List Value} (hg:∀n∈K.N.gs,z4b K.toCon S w (K.E.T n) (K.N.gnum n) 0) (hx:z5a K.toCon S w x vx) (hy:z1ma K S w lv B y vy) (hn:x.length+1+y.length≤1000000) (hm:(vx++Value.func (.yield l) #[] #[]::vy).length+m=n):
  Rel K ⟨w,fun b=>∃i,B i=some b,S,[],z6ce lv x B⟩ n (z13c l lv x y) {tmps:=(vx++Value.func (.yield l) #[] #[]::vy).toArray++Array.replicate m undef,defers:=[]} w:=by
 have hlx:=hx.len
 have hly:=hy.len
 obtain⟨ds,hds⟩:∃ds,ds=x++z0a.lit (.func (.yield l) #[] #[])::y:=⟨_,rfl⟩
 obtain⟨vs,hvs⟩:∃vs,vs=vx++Value.func (.yield l) #[] #[]::vy:=⟨_,rfl⟩
 have hdl:ds.length=vs.length:=by rw[hds,hvs];simp[hlx,hly]
 have hmem:∀s,s∈lvS lv x↔∃i∈lv,s=i+(x.length+1):=fun s=>by simp[lvS,eq_comm]
 have key:∀s d,ds[s]? =some d→∃v,vs[s]? =some v∧if s∈lvS lv x then∃b cs,B (s-(x.length+1))=some b∧d= .ep cs∧v= .pointer (some ⟨b,0,none⟩)∧S b=0∧b<w.heap.size∧z7a cs=true∧∀(j:Nat) e,cs[j]? =some e→w.cell? ⟨b,j,none⟩=some (toV e)∧w.frozen? ⟨b,j,none⟩=false else z9b K.toCon S w d v:=fun s d hd=>by
  rw[hds] at hd
  rcases Nat.lt_trichotomy s x.length with h|h|h
  ·rw[List.getElem?_append_left h] at hd
   obtain⟨v,hv,hr⟩:=hx.get s d hd
   refine⟨v,by rw[hvs,List.getElem?_append_left (by omega)];exact hv,?_⟩
   rw[if_neg (fun hc=>by obtain⟨i,_,e⟩:=(hmem s).1 hc;omega)]
   exact hr
  ·rw[List.getElem?_append_right (by omega),show s-x.length=0 by omega] at hd
   simp only[List.getElem?_cons_zero,Option.some.injEq] at hd
   subst hd
   refine⟨.func (.yield l) #[] #[],by rw[hvs,List.getElem?_append_right (by omega),show s-vx.length=0 by omega];rfl,?_⟩
   rw[if_neg (fun hc=>by obtain⟨i,_,e⟩:=(hmem s).1 hc;omega)]
   simp[z9b]
  ·rw[List.getElem?_append_right (by omega),show s-x.length=(s-(x.length+1))+1 by omega,List.getElem?_cons_succ] at hd
   have hi:s-(x.length+1)<y.length:=(List.getElem?_eq_some_iff.1 hd).1
   have hv:vy[s-(x.length+1)]? =some (vy[s-(x.length+1)]'(by omega)):=List.getElem?_eq_getElem _
   have ha:=hy.at' _ _ _ hd hv
   refine⟨_,by rw[hvs,List.getElem?_append_right (by omega),show s-vx.length=(s-(x.length+1))+1 by omega,List.getElem?_cons_succ];exact hv,?_⟩
   have hiff:s∈lvS lv x↔s-(x.length+1)∈lv:=by
    rw[hmem]
    constructor
    ·rintro⟨i,h1,h2⟩
     rw[show s-(x.length+1)=i by omega];exact h1
    ·intro h1
     exact⟨_,h1,by omega⟩
   by_cases hs:s∈lvS lv x
   ·rw[if_pos hs];rw[if_pos (hiff.1 hs)] at ha;exact ha
   ·rw[if_neg hs];rw[if_neg (fun h=>hs (hiff.2 h))] at ha;exact ha
 have hlvd:∀s,s∈lvS lv x→∃d,ds[s]? =some d:=fun s hs=>by
  obtain⟨i,hi,e⟩:=(hmem s).1 hs
  have:=hy.lt i hi
  exact⟨_,List.getElem?_eq_getElem (by rw[hds];simp;omega)⟩
 have hget:∀s v,vs[s]? =some v→(vs.toArray++Array.replicate m undef).getD s undef=v:=fun s v hv=>by
  have hs:s<vs.length:=(List.getElem?_eq_some_iff.1 hv).1
  rw[Array.getD_eq_getD_getElem?,Array.getElem?_append_left (by simpa using hs)]
  simp[hv]
 have hBx:∀i b,B i=some b→S b=0∧b<w.heap.size:=fun i b hb=>by
  have hi:=hy.dom i b hb
  have hs:i+(x.length+1)∈lvS lv x:=(hmem _).2 ⟨i,hi,rfl⟩
  obtain⟨d,hd⟩:=hlvd _ hs
  obtain⟨v,_,h2⟩:=key _ d hd
  rw[if_pos hs,show i+(x.length+1)-(x.length+1)=i by omega] at h2
  obtain⟨b',cs,k1,_,_,k4,k5,_⟩:=h2
  rw[hb] at k1;cases k1
  exact⟨k4,k5⟩
 have hW:∀b,(∃i,B i=some b)→S b=0:=fun b ⟨i,hi⟩=>(hBx i b hi).1
 have hk:z9d S w (z4f.S ⟨w,fun b=>∃i,B i=some b,S,[],z6ce lv x B⟩) w:=fun b i z hi hc=>by
  refine⟨?_,hc⟩
  have hb:b<w.heap.size:=World.block_lt_of_cell? w ⟨b,i,none⟩ hc
  unfold z4f.S
  rw[if_pos ⟨hb,fun h=>by have:=hW b h;omega⟩]
  exact hi
 have hst:z13c l lv x y={org:=(z4e 0 ds).filter fun p=> !(lvS lv x).contains p.1,env:=(lvS lv x).map fun s=>(s,.bp s 0),box:=(lvS lv x).map fun s=>(s,some (z4s (ds.getD s .undef)))}:=by rw[hds];rfl
 have horg:∀s,lk (z13c l lv x y).org s=if s∈lvS lv x then none else ds[s]? :=fun s=>by
  rw[hst]
  show lk ((z4e 0 ds).filter fun p=>(fun k=> !(lvS lv x).contains k) p.1) s=_
  rw[z9Ba (fun k=> !(lvS lv x).contains k),z39b]
  by_cases h:s∈lvS lv x<;>simp[h]
 have henv:∀s,lk (z13c l lv x y).env s=if s∈lvS lv x then some (.bp s 0) else none:=fun s=>by
  rw[hst];exact z9Fb (fun s=>z0a.bp s 0) s _
 have hbox:∀s,(z13c l lv x y).getB s=if s∈lvS lv x then some (z4s (ds.getD s .undef)) else none:=fun s=>by
  rw[hst]
  show(lk ((lvS lv x).map fun s=>(s,some (z4s (ds.getD s .undef)))) s).join=_
  rw[z9Fb fun s=>some (z4s (ds.getD s .undef))]
  split<;>rfl
 rw[←hvs]
 have live:∀s,s∈lvS lv x→∃b cs,B (s-(x.length+1))=some b∧ds.getD s .undef= .ep cs∧vs[s]? =some (.pointer (some ⟨b,0,none⟩))∧S b=0∧b<w.heap.size∧z7a cs=true∧∀(j:Nat) e,cs[j]? =some e→w.cell? ⟨b,j,none⟩=some (toV e)∧w.frozen? ⟨b,j,none⟩=false:=fun s hs=>by
  obtain⟨d,hd⟩:=hlvd s hs
  obtain⟨v,hv,h2⟩:=key s d hd
  rw[if_pos hs] at h2
  obtain⟨b,cs,k1,k2,k3,k4,k5,k6,k7⟩:=h2
  exact⟨b,cs,k1,by rw[List.getD_eq_getElem?_getD,hd,k2];rfl,by rw[hv,k3],k4,k5,k6,k7⟩
 refine⟨⟨S,fun _=>none,fun s=>if s∈lvS lv x then B (s-(x.length+1)) else none⟩,⟨Fr.refl _ _ _,fun _ _ _=>rfl,fun i j b hi hj=> ?_,fun id cs hc=> ?_,fun id hid=> ?_,fun id b hb=> ?_,fun _ _ h=>(by cases h),hg,z9d.refl _ _,fun id b cs ho hb _ _=> ?_,fun _ _ _ _ h=>h⟩,fun s=> ?_,fun s d hs=> ?_,rfl,by rw[hvs];simp only[List.size_toArray,Array.size_append,Array.size_replicate];exact hm⟩
 ·simp only at hi hj
  split at hi
  ·rename_i h1
   split at hj
   ·rename_i h2
    have:=hy.inj _ _ b hi hj
    obtain⟨i',_,e1⟩:=(hmem i).1 h1
    obtain⟨j',_,e2⟩:=(hmem j).1 h2
    omega
   ·cases hj
  ·cases hi
 ·rw[hbox] at hc
  split at hc
  ·rename_i hs
   obtain⟨b,cs',k1,k2,_,k4,_,k6,k7⟩:=live id hs
   rw[k2] at hc
   simp only[z4s,Option.some.injEq] at hc
   subst hc
   refine⟨b,by simp only[if_pos hs];exact k1,k4,fun j e he=> ?_⟩
   obtain⟨c1,c2⟩:=k7 j e he
   have hme:z6c e=true:=by
    have:∀(cs:List z0a) (j:Nat),z7a cs=true→cs[j]? =some e→z6c e=true:=fun cs=>by
     induction cs with
     |nil=>intro j _ h;simp at h
     |cons c cs ih=>
      intro j hm hd
      simp only[z7a,Bool.and_eq_true] at hm
      cases j with
      |zero=>simp at hd;subst hd;exact hm.1
      |succ j=>exact ih j hm.2 (by simpa using hd)
    exact this _ j k6 he
   exact⟨⟨_,c1,z81b e _ hme⟩,c2⟩
  ·cases hc
 ·rw[hbox] at hid
  split at hid
  ·cases hid
  ·rename_i hs;simp only[if_neg hs]
 ·simp only at hb
  split at hb
  ·exact⟨.inr ⟨_,hb⟩,(hBx _ b hb).2,rfl⟩
  ·cases hb
 ·simp only at hb
  split at hb
  ·rename_i hs
   obtain⟨d,hd⟩:=hlvd id hs
   have:=(List.getElem?_eq_some_iff.1 hd).1
   rw[hds] at this
   simp at this
   omega
  ·cases hb
 ·unfold ASt.get
  rw[henv,horg]
  by_cases hs:s∈lvS lv x
  ·rw[if_pos hs]
   obtain⟨b,cs,k1,_,k3,_⟩:=live s hs
   simp only[Rep,if_pos hs]
   exact⟨b,k1,hget s _ k3⟩
  ·rw[if_neg hs,if_neg hs]
   cases hd:ds[s]? with
   |none=>simp[Abs.dem,Rep]
   |some d=>
    obtain⟨v,hv,h2⟩:=key s d hd
    rw[if_neg hs] at h2
    rw[hget s v hv]
    exact z9b.dem (g:=⟨S,_,_⟩) _ h2
 ·rw[horg] at hs
  split at hs
  ·cases hs
  ·rename_i hn'
   obtain⟨v,hv,h2⟩:=key s d hs
   rw[if_neg hn'] at h2
   rw[hget s v hv]
   exact z9b.mono hk d v h2
def itQ (el:Nat→Option (List z0a)):IQ
 | .normal,p,_| .ret,p,_=>p.2=true∨el p.1=none
 |_,_,_=>False
def z63c (K:Cx) (F:z1de) (fn:Func):Bool:=
 !(fn.name== "runtime.NumGoroutine")&&(match fn.body with|some c=>z3uc K fn.ntmps F.body c|none=>false)&&(fn.results.size==0)&&decide (F.nx+1+F.ny≤fn.ntmps∧F.nx+1+F.ny≤1000000)

theorem z9bc {f:Nat} {fn:Func} {F:z1de} {c:ItC} (hf:K.P.funcs[K.nu f]? =some fn) (hc:z63c K F fn=true) (hv:∀p∈z5Ga F.body,VB K p)
  (h:∀x y l,c.pre x y→x.length=F.nx∧y.length=F.ny∧z0sb K.E l (c.el x y) F.body (itQ (c.el x y)) (0,false) (z13c l c.lv x y)):z3La K f c:=by
 simp only[z63c,Bool.and_eq_true,Bool.not_eq_true',decide_eq_true_eq,beq_iff_eq] at hc
 obtain⟨⟨⟨hname,hbody⟩,hres⟩,hsz⟩:=hc
 cases hb:fn.body with
 |none=>rw[hb] at hbody;cases hbody
 |some code=>
  rw[hb] at hbody
  simp only at hbody
  refine⟨⟨fn,hf,by rw[hb];rfl,hname⟩,fun S w x y vx vy B hg hx hy hpre l J Jx N hr=> ?_⟩
  obtain⟨hlx,hly,hw⟩:=h x y l hpre
  obtain⟨S1,hS1⟩:∃S1:Nat→Nat,S1=fun b=>min (S b) (z9Xc w b):=⟨_,rfl⟩
  have hk1:z9d S w S1 w:=fun b i v hi hcell=>⟨by rw[hS1];exact Nat.lt_min.2 ⟨hi,z18c hcell⟩,hcell⟩
  have hle:∀b,S1 b≤S b:=fun b=>by rw[hS1];exact Nat.min_le_left _ _
  have hSx:∀b i,i<S1 b→∃x,w.cell? ⟨b,i,none⟩=some x:=fun b i hi=>by
   rw[hS1] at hi
   exact z2Mc (Nat.lt_min.1 hi).2
  have hr1:z6ic K S1 (c.el x y) l J Jx N (fun b=>∃i,B i=some b) w:=by
   refine⟨hr.start,hr.bound,hr.stab,hr.stabx,fun i O A xs q hj hel=> ?_⟩
   obtain⟨fn',tm,asg,bdy,h1,h2⟩:=hr.round i O A xs q hj hel
   exact⟨fn',tm,asg,bdy,h1,h2.mono fun e B ⟨k1,k2⟩=>⟨fun b i v hi hcell=>⟨hi,(k1 b i v (Nat.lt_of_lt_of_le hi (hle b)) hcell).2⟩,k2⟩⟩
  have hg1:∀m∈K.N.gs,z4b K.toCon S1 w (K.E.T m) (K.N.gnum m) 0:=fun m hm=>z4b.mono hk1 _ _ _ (hg m hm)
  have hz0:∀i b,B i=some b→S1 b=0:=fun i b hb=>by
   have hi:=hy.dom i b hb
   have hil:=hy.lt i hi
   have:=hy.at' i y[i] (vy[i]'(by rw[←hy.len];exact hil)) (List.getElem?_eq_getElem hil) (List.getElem?_eq_getElem _)
   rw[if_pos hi] at this
   obtain⟨b',_,k1,_,_,k4,_⟩:=this
   rw[hb] at k1;cases k1
   have:=hle b
   omega
  have hy1:z1ma K S1 w c.lv B y vy:=hy.keep hk1 hz0 (Nat.le_refl _) (fun _ _ _=>rfl)
  have hx1:=z5a.mono hk1 _ _ hx
  have hlen1:=hx1.len
  have hlen2:=hy1.len
  refine callsIn_wide.1 (callsIn_of_wp_marks (F:=WF none) (n:=0) hf hb (z9dc none _) ?_)
  have hR:=z9Vd (n:=fn.ntmps) (l:=l) (m:=fn.ntmps-(vx++Value.func (.yield l) #[] #[]::vy).length) hg1 hx1 hy1 (by omega) (by simp only[List.length_append,List.length_cons];omega)
  simp only[List.size_toArray]
  have hz:Zi S1 w ⟨w,fun b=>∃i,B i=some b,S1,[],z6ce c.lv x B⟩:=by
   refine⟨fun b h=> .inr (by obtain⟨i,hi⟩:=h;exact hz0 i b hi),Nat.le_refl _,fun b i v hi hcell=>⟨?_,hcell⟩,fun b=> ?_,rfl⟩
   ·unfold z4f.S
    rw[if_pos ⟨World.block_lt_of_cell? w ⟨b,i,none⟩ hcell,fun h=>by obtain⟨j,hj⟩:=h;have:=hz0 j b hj;omega⟩]
    exact hi
   ·unfold z4f.S
    split
    ·exact Nat.le_refl _
    ·omega
  have hh:HyI (fun b=>∃i,B i=some b) J Jx ⟨w,fun b=>∃i,B i=some b,S1,[],z6ce c.lv x B⟩ (0,false):=⟨fun b=>∃i,B i=some b,fun _ h _=>h,fun b hb=>⟨hb,by
   obtain⟨i,hi⟩:=hb
   have hm:=hy.dom i b hi
   have hil:=hy.lt i hm
   have:=hy.at' i y[i] (vy[i]'(by rw[←hy.len];exact hil)) (List.getElem?_eq_getElem hil) (List.getElem?_eq_getElem _)
   rw[if_pos hm] at this
   obtain⟨b',_,k1,_,_,_,k5,_⟩:=this
   rw[hi] at k1;cases k1
   exact k5⟩,hr.start⟩
  have hwp:=z9cb (q:=0) hr1 hSx hg1 F.body code _ _ _ _ _ w hbody hv hw hz hh hR
  refine wpIn_mono hwp fun e a' w' hl=> ?_
  have fin:∀(base:z4f) (p:Nat×Bool) (st:ASt),Zi S1 w base→HyI (fun b=>∃i,B i=some b) J Jx base p→Rel K base fn.ntmps st a' w'→(p.2=true∨c.el x y p.1=none)→
    LeavesInM (WF none) 0 K.P fn a'.tmps (fun e B'=>∃v,e=Ending.returned v∧∃O,(∀b,(∃i,B i=some b)→O b)∧((∃i,c.el x y i=none∧J i O B')∨Jx O B')) a'.defers .returning w':=fun base p st hz' hh' hR' hq=>by
   obtain⟨g,hI,_,_,hd,_⟩:=hR'
   obtain⟨_,hnow⟩:=z2pd hr1 hh' hI
   rw[hd,hz'.dl]
   have hre:fn.results= #[]:=Array.eq_empty_of_size_eq_zero hres
   refine⟨.tuple #[],?_,_,rfl,WO g (fun b=>∃i,B i=some b),fun b hb=> .inr hb,?_⟩
   ·have:results fn a'.tmps=(do
     let vs←fn.results.mapM (z0ib a'.tmps)
     pure (if h:vs.size=1 then vs[0] else .tuple vs)):=rfl
    rw[this,hre]
    simp[Sem.run_bind,Sem.run_pure]
   ·obtain⟨i,s⟩:=p
    cases s with
    |true=>exact .inr hnow
    |false=>exact .inl ⟨i,hq.resolve_left (by simp),hnow⟩
  cases e<;>simp only[z7rc] at hl<;>simp only[bodyPostM]
  ·obtain⟨b',p',st',hz',hh',hR',hq⟩:=hl
   exact fin b' p' st' hz' hh' hR' hq
  ·obtain⟨b',p',st',hz',hh',hR',hq⟩:=hl
   exact hq
  ·obtain⟨b',p',st',hz',hh',hR',hq⟩:=hl
   exact fin b' p' st' hz' hh' hR' hq
end
end Go.Abs
end
