/- Lemmas. -/
import Derived.Test.YtiehmnjjlbndlaaGreatDoorG
set_option linter.all false
namespace Go.Abs
def mg(k:List UInt8)(w:UInt8):List UInt8:=(k.take 64++bF (64-k.length)).map (· ^^^w)
theorem z7g(k:List UInt8)(w:UInt8):(mg k w).length=64:=by simp[mg];omega
def keyOf(key:List UInt8):List UInt8:=if 64<key.length then sha key else key
def mac(key text:List UInt8):List UInt8:=sha (mg (keyOf key) 92++sha (mg (keyOf key) 54++text))
def sts(l:List (List UInt8)):List oH:=l.map st
@[simp] theorem z5R(l:List (List UInt8)):(sts l).length=l.length:=by simp[sts]
@[simp] theorem nk:sts []=[]:=rfl
theorem Zq(x:List UInt8)(l:List (List UInt8)):sts (x::l)=st x::sts l:=rfl
@[simp] theorem mQ(l:List (List UInt8))(n:Nat):(sts l).take n=sts (l.take n):=by simp[sts]
@[simp] theorem lq(l:List (List UInt8))(n:Nat):(sts l).drop n=sts (l.drop n):=by simp[sts]
def atS(l:List (List UInt8))(i:Nat):List UInt8:=l.getD i []
theorem z0p{l:List (List UInt8)}{n:Nat}(h:n<l.length):hdA (sts (l.drop n))=st (atS l n):=by rw[List.drop_eq_getElem_cons h,Zq];simp[atS,List.getD,List.getElem?_eq_getElem h]
def gSs(l:List oH):List (List UInt8):=l.map gS
@[simp] theorem mT(l:List (List UInt8)):gSs (sts l)=l:=by simp[gSs,sts,Function.comp_def]
@[simp] theorem nR:gSs []=[]:=rfl
theorem bD{P:oH->Prop}{l:List (List UInt8)}(h:∀x,P (st x)):∀c∈sts l,P c:=λc hc=>by simp only[sts,List.mem_map] at hc;obtain⟨x,_,rfl⟩:=hc;exact h x
@[simp] theorem lg(l:List (List UInt8)):(∀c∈sts l,ak c=true)↔True:=iff_true_intro (bD (by simp))
@[simp] theorem kZ(l:List (List UInt8)):au (sts l)=true:=bN (bD (by simp))
@[simp] theorem lG(l:List (List UInt8)):(∀c∈sts l,ah c)↔True:=iff_true_intro (bD (by simp))
@[simp] theorem oA(l:List (List UInt8)):(∀c∈sts l,ao c=false)↔True:=iff_true_intro (bD (by simp))
@[simp] theorem z6a(l:List (List UInt8)):(∀c∈sts l,ak c=true∧ah c)↔True:=iff_true_intro (bD (by simp))
@[simp] theorem kQ(l:List (List UInt8)):pT (sts l)=[]:=by induction l<;>simp_all [sts]
def mY(tag:Int)(parts:List (List UInt8)):List UInt8:=UInt8.ofInt tag::parts.flatMap mX
def bh(tag:Int)(parts:List (List UInt8)):List UInt8:=(sha (mY tag parts)).take 16
def Co(parts:List (List UInt8)):Nat:=(parts.map λp=>p.length+9).sum
theorem MK{s:List UInt8}(h:s.length<1099511627776):(mX s).length<=s.length+9:=by have:=rJ (n:=s.length) ⟨by omega,by omega⟩;simp[mX];omega
def ofC:aW:=⟨λds=>∃(tag:Int) (nl:Option Bool) (parts:List (List UInt8)),Co parts<1099511000000∧ds=[i64 tag,.sl .plain nl parts.length (sts parts)],λds=> .agg (bys (bh (asI (nth ds 0)) (gSs (gCs (nth ds 1)))))⟩
theorem pG(tag:Int)(parts:List (List UInt8)):(bh tag parts).length=16:=by simp[bh,J4]
def svc(l:List UInt8):List oH:=scs (bP.init.add l)
theorem Tv(l:List UInt8):(bP.init.add l).b.length=64:=by rw[Hk,IJ]
@[simp] theorem VU(l:List UInt8):(svc l).length=73:=yo (Tv l)
@[simp] theorem z4oa(l:List UInt8):(∀c∈svc l,ah c)↔True:=ll _
@[simp] theorem z6Aa(l:List UInt8):(∀c∈svc l,ao c=false)↔True:=nJ _
@[simp] theorem z8Z(l:List UInt8):au (svc l)=true:=dr _
@[simp] theorem z8qa(l:List UInt8):(∀c∈svc l,ak c=true)↔True:=z4a _
@[simp] theorem z8za(l:List UInt8):aj (svc l)=true:=ox _
@[simp] theorem z4ma(l:List UInt8):pT (svc l)=[]:=ZM _
@[simp] theorem z4pa(l:List UInt8):(svc l).take 73=svc l:=List.take_of_length_le (by rw[VU];decide)
@[simp] theorem z2R{zs:List oH}(l:List UInt8)(h:zs.length=73):splice zs 0 (svc l)=svc l:=oJ (by rw[VU,h])
@[simp] theorem z3U:(bg (qG 8)++(bys (bF 64)++[u64 0])).length=73:=R9
@[simp] theorem z3W:Er.pre []=True:=by simp[Er]
@[simp] theorem z7R:Er.post []= .agg (svc []):=rfl
@[simp] theorem z2ta(l m:List UInt8):QS.pre [.agg (svc l),st m]=True:=eq_true ⟨_,m,Tv l,rfl⟩
@[simp] theorem z4la(l m:List UInt8):QS.post [.agg (svc l),st m]= .agg (svc (l++m)):=by simp[QS,svc,bP.v,bP.of_scs _ (Tv l),CK]
theorem z8i{l:List UInt8}{nl:Option Bool}{n:Nat}(hn:n=l.length)(h:l.length<1099511627776):LT.pre [.sl .plain nl n (bys l)]=True:=eq_true ⟨nl,l,h,by rw[hn]⟩
@[simp] theorem z34(l:List UInt8)(nl:Option Bool)(n:Nat):LT.post [.sl .plain nl n (bys l)]= .agg (bys (sha l)):=by simp[LT]
theorem z1I{l:List UInt8}(h:l.length<1099511627776):Us.pre [.agg (svc l)]=True:=
 eq_true ⟨_,Tv l,by rw[Ja _ _ (by show 0+l.length<_;omega)];show 0+l.length<_;omega,rfl⟩
@[simp] theorem z5pa(l:List UInt8):Us.post [.agg (svc l)]= .agg (bys (sha l)):=by simp[Us,svc,bP.of_scs _ (Tv l),sha]
theorem Gc{s:List UInt8}(h:s.length<=1099511000000):Dy.pre [st s]=True:=eq_true ⟨s,h,rfl⟩
@[simp] theorem z8R(s:List UInt8):Dy.post [st s]= .sl (.own 1) (some false) (mX s).length (bys (mX s)):=by simp[Dy]
theorem z3ba{tag:Int}{nl:Option Bool}{n:Nat}{l:List (List UInt8)}(hn:n=l.length)(h:Co l<1099511000000):ofC.pre [i64 tag,.sl .plain nl n (sts l)]=True:=eq_true ⟨tag,nl,l,h,by rw[hn]⟩
@[simp] theorem z2F(tag:Int)(nl:Option Bool)(n:Nat)(l:List (List UInt8)):ofC.post [i64 tag,.sl .plain nl n (sts l)]= .agg (bys (bh tag l)):=by simp[ofC]
attribute [simp] z7g J4 pG
theorem pB{zs:List oH}{l:List UInt8}(h:l.length=zs.length):splice zs 0 (bys l)=bys l:=oJ (by simpa using h)
theorem vD:∀{l:List (List UInt8)},Co l<1099511000000->(l.flatMap mX).length<=Co l
 |[],_=>by simp
 |x::l,h=>by simp only[Co,List.map_cons,List.sum_cons] at h;have h1:=MK (s:=x) (by omega);have h2:=vD (l:=l) (by simp only[Co];omega);simp only[Co] at h2;simp only[List.flatMap_cons,List.length_append,Co,List.map_cons,List.sum_cons];omega
theorem JO{l:List (List UInt8)}{i:Nat}(hi:i<l.length):(atS l i).length+9<=Co l:=by
 induction l generalizing i with
 |nil=>simp at hi
 |cons x l ih=>
  simp only[Co,List.map_cons,List.sum_cons];cases i with
  |zero=>simp[atS]
  |succ i=>have:=ih (i:=i) (by simpa using hi);simp only[Co] at this;simp only[atS,List.getD_cons_succ] at this⊢;omega
theorem rz{α β:Type}(l:List α)(f:α->List β)(d:α){i:Nat}(hi:i<l.length):(l.take (i+1)).flatMap f=(l.take i).flatMap f++f (l.getD i d):=by rw[List.take_succ_eq_append_getElem hi,List.getD,List.getElem?_eq_getElem hi];simp only[List.flatMap_append,List.flatMap_cons,List.flatMap_nil,List.append_nil,Option.getD_some]
theorem z0Z{l:List UInt8}{i:Nat}(h:i<l.length):l.take (i+1)=l.take i++[at8 l i]:=by rw[List.take_succ_eq_append_getElem h,at8,List.getD,List.getElem?_eq_getElem h];rfl
theorem FY:∀l:List (List UInt8),l.length<=Co l
 |[]=>by simp
 |x::l=>by have:=FY l;simp only[Co,List.map_cons,List.sum_cons,List.length_cons] at this⊢;omega
theorem Nv(l:List (List UInt8))(i:Nat):Co (l.take i)<=Co l:=by
 have:Co l=Co (l.take i)+Co (l.drop i):=by simp only[Co];rw[<-List.sum_append,<-List.map_append,List.take_append_drop]
 omega
end Go.Abs
namespace Go.Abs
def zw(b:List UInt8):List UInt8:=b++nQ (UInt64.ofNat b.length)
theorem We(n:UInt64):(nQ n).length=KC n.toNat+9:=by simp[nQ,HX]
theorem HK{b:List UInt8}(h:b.length<1099511627776):(zw b).length% 64=0∧b.length<(zw b).length∧(zw b).length<=b.length+128:=by
 have hn:(UInt64.ofNat b.length).toNat=b.length:=by rw[UInt64.toNat_ofNat'];omega
 have h1:=Ps b.length;have h2:=Pk b.length;simp only[zw,List.length_append,We,hn];omega
def blk(m:List UInt8)(s:H8):Nat->H8
 |0=>s
 |k+1=>Ni (blk m s k) ((m.drop (64*k)).take 64)
theorem Ls(m:List UInt8):∀k,64*k<=m.length->64*k<1099511627776->(bP.init.add (m.take (64*k))).h=blk m iv k
 |0,_,_=>by simp[bP.add,blk,bP.init]
 |k+1,h,h'=>by
  have ih:=Ls m k (by omega) (by omega);have hb:=Tv (m.take (64*k));have hn:(bP.init.add (m.take (64*k))).n.toNat=64*k:=by have e:bP.init.n.toNat=0:=rfl;rw[Ja _ _ (by rw[e];simp;omega),e,List.length_take];omega
  have h64:(bP.init.add (m.take (64*k))).n.toNat% 64=0:=by rw[hn];omega
  rw[show 64*(k+1)=64*k+64 by omega,List.take_add,CK,I4 _ hb 64 _ (by simp;omega) (by omega)];simp only[h64,Nat.zero_add,if_true,List.take_zero,List.nil_append,ih,blk];have hd:List.drop 64 (bP.init.add (m.take (64*k))).b=[]:=List.drop_of_length_le (by omega);rw[hd,List.append_nil]
theorem TP{b:List UInt8}(h:b.length<1099511000000):sha b=SK (blk (zw b) iv ((zw b).length/64)) 32:=by
 obtain⟨h1,h2,h3⟩:=HK (b:=b) (by omega);have e:=Ls (zw b) ((zw b).length/64) (by omega) (by omega);rw[show 64*((zw b).length/64)=(zw b).length by omega,List.take_length] at e;have hn:(bP.init.add b).n=UInt64.ofNat b.length:=by rw[z22];exact UInt64.zero_add _
 rw[<-e,sha,bP.sum,zw,CK,hn]
def few(l:List (List UInt8)):Bool:=decide (l.length<=12)&&l.all λs=>decide (s.length<=400)
def L6:aW:=⟨λds=>∃x n,0<=n∧n<=32∧ds=[u32 x,i64 n],λds=>u32 (dN (nI (nth ds 0)) (asI (nth ds 1)).toNat)⟩
def D2:aW:=⟨λds=>∃(nl:Option Bool) (b:List UInt8),b.length<1099511000000∧ds=[.sl .plain nl b.length (bys b)],λds=> .sl (.own 1) (some false) (zw (gBs (gCs (nth ds 0)))).length (bys (zw (gBs (gCs (nth ds 0)))))⟩
def yy:aW:=⟨λds=>∃h:List UInt8,h.length=16∧ds=[.agg (bys h)],λds=>st (gBs (gCs (nth ds 0)))⟩
def O5:aW:=⟨λds=>∃(nl:Option Bool) (l:List UInt8),l.length<1099511000000∧ds=[.sl .plain nl l.length (bys l)],λds=> .agg (bys (sha (gBs (gCs (nth ds 0)))))⟩
def zZ:aW:=⟨λds=>∃(nl:Option Bool) (l:List UInt8),l.length<1099511000000∧ds=[.sl .plain nl l.length (bys l)],λds=> .agg (bys ((sha (gBs (gCs (nth ds 0)))).take 16))⟩
def v7:aW:=⟨λds=>∃(tag:Int) (nl:Option Bool) (l:List (List UInt8)),Co l<1099510000000∧ds=[i64 tag,.sl .plain nl l.length (sts l)],
 λds=> .sl (.own 1) (some false) (mY (asI (nth ds 0)) (gSs (gCs (nth ds 1)))).length (bys (mY (asI (nth ds 0)) (gSs (gCs (nth ds 1)))))⟩
def Kq:aW:=⟨λds=>∃(tag:Int) (nl:Option Bool) (l:List (List UInt8)),Co l<1099510000000∧ds=[i64 tag,.sl .plain nl l.length (sts l)],λds=> .agg (bys (bh (asI (nth ds 0)) (gSs (gCs (nth ds 1)))))⟩
def Kd:aW:=⟨λds=>∃n,aO n∧ds=[i64 n],λds=> .sl (.own 1) none (eU (asI (nth ds 0))).length (bys (eU (asI (nth ds 0))))⟩
def BY:aW:=⟨λds=>∃s:List UInt8,s.length<=1099511000000∧ds=[st s],λds=> .sl (.own 1) none (mX (gS (nth ds 0))).length (bys (mX (gS (nth ds 0))))⟩
theorem RI{x:UInt32}{n:Int}(h0:0<=n)(h1:n<=32):L6.pre [u32 x,i64 n]=True:=eq_true ⟨x,n,h0,h1,rfl⟩
@[simp] theorem z2Z(x:UInt32)(n:Int):L6.post [u32 x,i64 n]=u32 (dN x n.toNat):=by simp[L6]
theorem UE{b:List UInt8}{nl:Option Bool}{n:Nat}(hn:n=64)(h:b.length=64):Be.pre [.sl .plain nl n (bys b)]=True:=eq_true ⟨nl,b,h,by rw[hn]⟩
@[simp] theorem z9S(b:List UInt8)(nl:Option Bool)(n:Nat):Be.post [.sl .plain nl n (bys b)]= .agg (bg (qX b 64)):=by simp[Be]
theorem Tm{b:List UInt8}{nl:Option Bool}{n:Nat}(hn:n=b.length)(h:b.length<1099511000000):D2.pre [.sl .plain nl n (bys b)]=True:=eq_true ⟨nl,b,h,by rw[hn]⟩
@[simp] theorem z9r(b:List UInt8)(nl:Option Bool)(n:Nat):D2.post [.sl .plain nl n (bys b)]= .sl (.own 1) (some false) (zw b).length (bys (zw b)):=by simp[D2]
theorem wB{h:List UInt8}(hl:h.length=16):yy.pre [.agg (bys h)]=True:=eq_true ⟨h,hl,rfl⟩
@[simp] theorem z3u(h:List UInt8):yy.post [.agg (bys h)]=st h:=by simp[yy]
theorem z3g{l:List UInt8}{nl:Option Bool}{n:Nat}(hn:n=l.length)(h:l.length<1099511000000):O5.pre [.sl .plain nl n (bys l)]=True:=eq_true ⟨nl,l,h,by rw[hn]⟩
@[simp] theorem z1V(l:List UInt8)(nl:Option Bool)(n:Nat):O5.post [.sl .plain nl n (bys l)]= .agg (bys (sha l)):=by simp[O5]
theorem D1{l:List UInt8}{nl:Option Bool}{n:Nat}(hn:n=l.length)(h:l.length<1099511000000):zZ.pre [.sl .plain nl n (bys l)]=True:=eq_true ⟨nl,l,h,by rw[hn]⟩
@[simp] theorem ES(l:List UInt8)(nl:Option Bool)(n:Nat):zZ.post [.sl .plain nl n (bys l)]= .agg (bys ((sha l).take 16)):=by simp[zZ]
theorem Eh{tag:Int}{nl:Option Bool}{n:Nat}{l:List (List UInt8)}(hn:n=l.length)(h:Co l<1099510000000):v7.pre [i64 tag,.sl .plain nl n (sts l)]=True:=eq_true ⟨tag,nl,l,h,by rw[hn]⟩
@[simp] theorem Hq(tag:Int)(nl:Option Bool)(n:Nat)(l:List (List UInt8)):v7.post [i64 tag,.sl .plain nl n (sts l)]= .sl (.own 1) (some false) (mY tag l).length (bys (mY tag l)):=by simp[v7]
theorem Vv{tag:Int}{nl:Option Bool}{n:Nat}{l:List (List UInt8)}(hn:n=l.length)(h:Co l<1099510000000):Kq.pre [i64 tag,.sl .plain nl n (sts l)]=True:=eq_true ⟨tag,nl,l,h,by rw[hn]⟩
@[simp] theorem eR(tag:Int)(nl:Option Bool)(n:Nat)(l:List (List UInt8)):Kq.post [i64 tag,.sl .plain nl n (sts l)]= .agg (bys (bh tag l)):=by simp[Kq]
theorem GJ{n:Int}(h0: -9223372036854775808<=n)(h1:n<=9223372036854775807):Kd.pre [i64 n]=True:=eq_true ⟨n,⟨h0,h1⟩,rfl⟩
@[simp] theorem z10(n:Int):Kd.post [i64 n]= .sl (.own 1) none (eU n).length (bys (eU n)):=by simp[Kd]
theorem HJ{s:List UInt8}(h:s.length<=1099511000000):BY.pre [st s]=True:=eq_true ⟨s,h,rfl⟩
@[simp] theorem z5t(s:List UInt8):BY.post [st s]= .sl (.own 1) none (mX s).length (bys (mX s)):=by simp[BY]
theorem LW{n:Int}(h0: -9223372036854775808<=n)(h1:n<=9223372036854775807):gx.pre [i64 n]=True:=eq_true ⟨n,⟨h0,h1⟩,rfl⟩
@[simp] theorem lc(n:Int):gx.post [i64 n]= .sl (.own 1) (some false) (eU n).length (bys (eU n)):=by simp[gx]
def z9T:List UInt8->Nat
 |[]=>0
 |d::l=>d.toNat+256*z9T l
theorem Mc(n:Nat):z9T (bW n)=n:=by
 induction n using Nat.strongRecOn with
 |_ n ih=>
  by_cases h:n=0
  ·subst h;simp[ue,z9T]
  rw[bu h,z9T,ih _ (by omega),UInt8.toNat_ofNat'];omega
theorem ZS{m n:Nat}(h:bW m=bW n):m=n:=by rw[<-Mc m,h,Mc]
theorem Lz(n:Int)(c:UInt8):flp n (flp n c)=c:=by
 unfold flp;split
 ·apply UInt8.toNat_inj.1;have:=c.toNat_lt;have h:(255:UInt8).toNat=255:=rfl;rw[UInt8.toNat_sub,UInt8.toNat_sub,h];omega
 rfl
theorem z6P{n:Int}{c d:UInt8}(h:flp n c=flp n d):c=d:=by rw[<-Lz n c,h,Lz]
theorem I9{n:Int}:∀{a b:List UInt8},a.map (flp n)=b.map (flp n)->a=b
 |[],[],_=>rfl
 |[],_::_,h=>by simp at h
 |_::_,[],h=>by simp at h
 |x::a,y::b,h=>by simp only[List.map_cons,List.cons.injEq] at h;rw[z6P h.1,I9 h.2]
theorem Xr{m n:Int}(h:m<0↔n<0)(c:UInt8):flp m c=flp n c:=by
 unfold flp;by_cases hm:m<0
 ·rw[if_pos hm,if_pos (h.1 hm)]
 rw[if_neg hm,if_neg (λe=>hm (h.2 e))]
theorem z3F{m n:Int}(hs:m<0↔n<0)(h:mag m=mag n):m=n:=by unfold mag at h;split at h<;>split at h<;>omega
theorem ID{n:Int}{k:Nat}(hk:k<=8):(flp n (UInt8.ofNat (128+k))).toNat=if n<0 then 127-k else 128+k:=by
 have h:(UInt8.ofNat (128+k)).toNat=128+k:=by rw[UInt8.toNat_ofNat'];omega
 unfold flp;split
 ·rw[UInt8.toNat_sub,h,show(255:UInt8).toNat=255 from rfl];omega
 exact h
theorem BA{m n:Int}(hm:aO m)(hn:aO n){r r':List UInt8}(h:eU m++r=eU n++r'):m=n∧r=r':=by
 have h8:=Ga hm;have h8':=Ga hn;simp only[eU,List.cons_append,List.cons.injEq] at h;obtain⟨h1,h2⟩:=h;have e:=congrArg UInt8.toNat h1;rw[ID h8,ID h8'] at e;have hs:m<0↔n<0:=by split at e<;>split at e<;>omega
 have hl:(bW (mag m)).length=(bW (mag n)).length:=by split at e<;>split at e<;>omega
 obtain⟨h3,h4⟩:=List.append_inj h2 (by simp[hl]);rw[show(flp n)=flp m from funext λc=>(Xr hs c).symm] at h3;have h5:=List.reverse_inj.1 (I9 h3);exact⟨z3F hs (ZS h5),h4⟩
theorem If{s t:List UInt8}(hs:s.length<1099511627776)(ht:t.length<1099511627776){r r':List UInt8}(h:mX s++r=mX t++r'):s=t∧r=r':=by simp only[mX,List.append_assoc] at h;obtain⟨h1,h2⟩:=BA (m:=s.length) (n:=t.length) ⟨by omega,by omega⟩ ⟨by omega,by omega⟩ h;exact List.append_inj h2 (by omega)
theorem VL(s:List UInt8):mX s≠[]:=by simp[mX,eU]
theorem vE:∀{a b:List (List UInt8)},(∀s∈a,s.length<1099511627776)->(∀s∈b,s.length<1099511627776)->a.flatMap mX=b.flatMap mX->a=b
 |[],[],_,_,_=>rfl
 |[],y::b,_,_,h=>by simp only[List.flatMap_nil,List.flatMap_cons] at h;exact absurd (List.append_eq_nil_iff.1 h.symm).1 (VL y)
 |x::a,[],_,_,h=>by simp only[List.flatMap_nil,List.flatMap_cons] at h;exact absurd (List.append_eq_nil_iff.1 h).1 (VL x)
 |x::a,y::b,ha,hb,h=>by simp only[List.flatMap_cons] at h;obtain⟨h1,h2⟩:=If (ha x (by simp)) (hb y (by simp)) h;rw[h1,vE (λs hs=>ha s (by simp[hs])) (λs hs=>hb s (by simp[hs])) h2]
def fl(h c:UInt8):UInt8:=if h<128 then 255-c else c
def kOf(h:UInt8):Nat:=(fl h h).toNat-128
def nX(l:List UInt8):Nat:=l.foldl (λa c=>256*a+c.toNat) 0
def co:List UInt8->Int×Nat×Nat
 |[]=>(0,0,5)
 |h::t=>
  if 8<kOf h then(0,0,6) else if t.length<kOf h then(0,0,5)
  else if 0<kOf h∧fl h (at8 t 0)=0 then(0,0,6)
  else if 2^63<=nX ((t.take (kOf h)).map (fl h)) then(0,0,6)
  else(if h<128 then-1-(nX ((t.take (kOf h)).map (fl h)):Int) else nX ((t.take (kOf h)).map (fl h)),kOf h+1,0)
theorem z8h(h:UInt8):h<128↔h.toNat<128:=UInt8.lt_iff_toNat_lt
theorem z11(c:UInt8):(255-c).toNat=255-c.toNat:=by have:=c.toNat_lt;have h:(255:UInt8).toNat=255:=rfl;rw[UInt8.toNat_sub,h];omega
theorem z8D(h:UInt8):kOf h=if h.toNat<128 then 127-h.toNat else h.toNat-128:=by
 unfold kOf fl;by_cases hh:h<128
 ·rw[if_pos hh,if_pos ((z8h h).1 hh),z11];have:=(z8h h).1 hh;omega
 rw[if_neg hh,if_neg (λe=>hh ((z8h h).2 e))]
theorem UJ(l:List UInt8)(c:UInt8):nX (l++[c])=256*nX l+c.toNat:=by simp[nX]
theorem QZ:∀l:List UInt8,nX l.reverse=z9T l
 |[]=>rfl
 |x::l=>by rw[List.reverse_cons,UJ,QZ l,z9T];omega
theorem VF(n:Nat):∀c,(bW n).getLast? =some c->c≠0:=by
 induction n using Nat.strongRecOn with
 |_ n ih=>
  intro c hc;by_cases h:n=0
  ·subst h;simp[ue] at hc
  rw[bu h] at hc;by_cases h2:n/256=0
  ·rw[h2,ue] at hc;simp only[List.getLast?_singleton,Option.some.injEq] at hc;subst hc;intro e;have:=congrArg UInt8.toNat e;rw[UInt8.toNat_ofNat'] at this;have h0:(0:UInt8).toNat=0:=rfl;omega
  have:=ih (n/256) (by omega) c;rw[bu h2] at this hc;rw[List.getLast?_cons_cons] at hc;exact this hc
theorem WI{n:Nat}(h:n≠0):at8 (bW n).reverse 0≠0:=by
 have hl:=VF n;cases hr:(bW n).reverse with
 |nil=>rw[List.reverse_eq_nil_iff,bu h] at hr;cases hr
 |cons x l=>refine hl x ?_;rw[<-List.head?_reverse,hr];rfl
theorem Ua(n:Nat):nX (bW n).reverse=n:=by rw[QZ,Mc]
theorem z2fa{n:Int}(h:aO n):mag n<2^63:=by obtain⟨h1,h2⟩:=h;unfold mag;split<;>omega
theorem Mq{n:Int}{k:Nat}(hk:k<=8):flp n (UInt8.ofNat (128+k))<128↔n<0:=by rw[z8h,ID hk];split<;>omega
theorem z4aa{n:Int}{k:Nat}(hk:k<=8):kOf (flp n (UInt8.ofNat (128+k)))=k:=by rw[z8D,ID hk];split<;>split<;>omega
theorem z9k{n:Int}{k:Nat}(hk:k<=8)(c:UInt8):fl (flp n (UInt8.ofNat (128+k))) c=flp n c:=by
 unfold fl;by_cases h:n<0
 ·rw[if_pos ((Mq hk).2 h)];simp[flp,h]
 rw[if_neg (λe=>h ((Mq hk).1 e))];simp[flp,h]
theorem PR(n:Int):(eU n).length=(bW (mag n)).length+1:=by simp[eU]
theorem ML{n:Int}(h:aO n)(r:List UInt8):co (eU n++r)=(n,(eU n).length,0):=by
 have h8:=Ga h;have hm:=z2fa h;rw[PR];rw[eU,List.cons_append,co,z4aa h8];have hl:((bW (mag n)).reverse.map (flp n)).length=(bW (mag n)).length:=by simp
 have ht:(((bW (mag n)).reverse.map (flp n)++r).take (bW (mag n)).length).map (fl (flp n (UInt8.ofNat (128+(bW (mag n)).length))))=(bW (mag n)).reverse:=by rw[List.take_append_of_le_length (by omega),List.take_of_length_le (by omega),List.map_map];rw[show(fl (flp n (UInt8.ofNat (128+(bW (mag n)).length)))∘flp n)=id from funext λc=>by show fl _ (flp n c)=c;rw[z9k h8,Lz]];simp
 rw[ht,Ua,if_neg (by omega),if_neg (by simp),if_neg,if_neg (by omega)]
 ·congr 1;by_cases hn:n<0
  ·rw[if_pos ((Mq h8).2 hn)];simp only[mag,if_pos hn];omega
  rw[if_neg (λe=>hn ((Mq h8).1 e))];simp only[mag,if_neg hn];omega
 rintro⟨hp,h0⟩;have hne:mag n≠0:=λe=>by rw[e,ue] at hp;simp at hp
 rw[z9B (by omega),z9k h8] at h0;have:=WI hne;apply this;have e:at8 ((bW (mag n)).reverse.map (flp n)) 0=flp n (at8 (bW (mag n)).reverse 0):=by
  cases hr:(bW (mag n)).reverse with
  |nil=>rw[List.reverse_eq_nil_iff,bu hne] at hr;cases hr
  |cons x l=>rfl
 rw[e,Lz] at h0;exact h0
def z6k(b:List UInt8)(s:Nat):Nat:=if(co b).2.2≠0 then(co b).2.2 else if(co b).1<0 then 6 else if(b.length-(co b).2.1)/s<(co b).1.toNat then 5 else 0
def z4W(b:List UInt8):List UInt8×Nat×Nat:=if z6k b 1=0 then((b.drop (co b).2.1).take (co b).1.toNat,(co b).2.1+(co b).1.toNat,0) else([],0,z6k b 1)
def z1l{α:Type}(f:List UInt8->α×Nat×Nat):Nat->List UInt8->Nat->List α×Nat×Nat
 |0,_,at'=>([],at',0)
 |n+1,b,at'=>if(f (b.drop at')).2.2≠0 then([],0,(f (b.drop at')).2.2)
  else if(z1l f n b (at'+(f (b.drop at')).2.1)).2.2≠0 then([],0,(z1l f n b (at'+(f (b.drop at')).2.1)).2.2)
  else((f (b.drop at')).1::(z1l f n b (at'+(f (b.drop at')).2.1)).1,(z1l f n b (at'+(f (b.drop at')).2.1)).2.1,0)
def ol{α:Type}(f:List UInt8->α×Nat×Nat)(s:Nat)(b:List UInt8):List α×Nat×Nat:=if z6k b s=0 then z1l f (co b).1.toNat b (co b).2.1 else([],0,z6k b s)
def rD(l:List Int):List oH:=l.map i64
def atI(l:List Int)(i:Nat):Int:=l.getD i 0
def gIs(l:List oH):List Int:=l.map asI
@[simp] theorem z6x(l:List Int):(rD l).length=l.length:=by simp[rD]
@[simp] theorem z2la:rD []=[]:=rfl
theorem UH(x:Int)(l:List Int):rD (x::l)=i64 x::rD l:=rfl
@[simp] theorem z59(l:List Int)(n:Nat):(rD l).take n=rD (l.take n):=by simp[rD]
@[simp] theorem z8aa(l:List Int)(n:Nat):(rD l).drop n=rD (l.drop n):=by simp[rD]
@[simp] theorem z3pa(l:List Int):gIs (rD l)=l:=by simp[gIs,rD,Function.comp_def]
theorem B6{l:List Int}{n:Nat}(h:n<l.length):hdA (rD (l.drop n))=i64 (atI l n):=by rw[List.drop_eq_getElem_cons h,UH];simp[atI,List.getD,List.getElem?_eq_getElem h]
theorem GX{P:oH->Prop}{l:List Int}(h:∀x,P (i64 x)):∀c∈rD l,P c:=λc hc=>by simp only[rD,List.mem_map] at hc;obtain⟨x,_,rfl⟩:=hc;exact h x
@[simp] theorem z8ia(l:List Int):(∀c∈rD l,ak c=true)↔True:=iff_true_intro (GX (by simp))
@[simp] theorem z7U(l:List Int):au (rD l)=true:=bN (GX (by simp))
@[simp] theorem z1ga(l:List Int):(∀c∈rD l,ah c)↔True:=iff_true_intro (GX (by simp))
@[simp] theorem z1qa(l:List Int):(∀c∈rD l,ao c=false)↔True:=iff_true_intro (GX (by simp))
@[simp] theorem Xl(l:List Int):(∀c∈rD l,ak c=true∧ah c)↔True:=iff_true_intro (GX (by simp))
@[simp] theorem z2U(l:List Int):pT (rD l)=[]:=by induction l<;>simp_all [rD]
def pre{α:Type}(out:List α)(r:List α×Nat×Nat):List α×Nat×Nat:=if r.2.2≠0 then([],0,r.2.2) else(out++r.1,r.2.1,0)
@[simp] theorem e9(l:List (List UInt8)):aj (sts l)=true:=by induction l<;>simp_all [sts,aj,aC,st]
def z4ja(b:List UInt8):List UInt8×Nat×Nat:=if z6k b 16=0 then((b.drop (co b).2.1).take ((co b).1.toNat*16),(co b).2.1+(co b).1.toNat*16,0) else([],0,z6k b 16)
def qF(l:List Int):List UInt8:=eU l.length++l.flatMap eU
def z23(l:List (List UInt8)):List UInt8:=eU l.length++l.flatMap mX
def z6aa(n:Nat)(d:List UInt8):List UInt8:=eU n++d
theorem Jp{n:Nat}(h:n<=9223372036854775807):aO (n:Int):=⟨by omega,by omega⟩
theorem pM:∀{l:List Int},(∀x∈l,aO x)->(l.flatMap eU).length<=9*l.length
 |[],_=>by simp
 |x::l,h=>by have h1:=rJ (h x (by simp));have h2:=pM (l:=l) λy hy=>h y (by simp[hy]);simp only[List.flatMap_cons,List.length_append,List.length_cons];omega
theorem Hy{l:List Int}{i:Nat}(h:i<l.length):atI l i∈l:=by simp[atI,List.getD,List.getElem?_eq_getElem h]
def z9la(nf:Option Bool)(l:List UInt8):oH:= .sl (.own 1) nf l.length (bys l)
def z87(f:List Int->oH):aW:=⟨λds=>∃nl l,l.length<=100000000∧(∀x∈l,aO x)∧ds=[.sl .plain nl l.length (rD l)],λds=>f (gIs (gCs (nth ds 0)))⟩
theorem IN{f:List Int->oH}{nl:Option Bool}{n:Nat}{l:List Int}(h:l.length<=100000000)(hl:∀x∈l,aO x)(hn:n=l.length):(z87 f).pre [.sl .plain nl n (rD l)]=True:=by subst hn;exact eq_true ⟨nl,l,h,hl,rfl⟩
@[simp] theorem CO(f:List Int->oH)(m:cH)(nl:Option Bool)(n:Nat)(l:List Int):(z87 f).post [.sl m nl n (rD l)]=f l:=by simp[z87]
def xu:aW:=z87 λl=>z9la (some false) (qF l)
def xw:aW:=z87 λl=>z9la none (qF l)
def wF:aW:=⟨λds=>∃nl nl' a b,a.length<=1000000000∧ds=[.sl .plain nl a.length (rD a),.sl .plain nl' b.length (rD b)],λds=>bo (gIs (gCs (nth ds 0))==gIs (gCs (nth ds 1)))⟩
theorem J5{nl nl':Option Bool}{n m:Nat}{a b:List Int}(h:a.length<=1000000000)(hn:n=a.length)(hm:m=b.length):wF.pre [.sl .plain nl n (rD a),.sl .plain nl' m (rD b)]=True:=by subst hn;subst hm;exact eq_true ⟨nl,nl',a,b,h,rfl⟩
@[simp] theorem z0S(m m':cH)(nl nl':Option Bool)(n k:Nat)(a b:List Int):wF.post [.sl m nl n (rD a),.sl m' nl' k (rD b)]=bo (a==b):=by simp[wF]
def qm(l:List (List UInt8)):Prop:=∀d∈l,d.length=16
def dgs(l:List (List UInt8)):List UInt8:=l.flatten
@[simp] theorem JV:dgs []=[]:=rfl
@[simp] theorem wV(d:List UInt8)(l:List (List UInt8)):dgs (d::l)=d++dgs l:=rfl
@[simp] theorem Ct(a b:List (List UInt8)):dgs (a++b)=dgs a++dgs b:=by simp[dgs]
theorem tg:qm []:=λ_ h=>by cases h
theorem pN{d:List UInt8}{l:List (List UInt8)}:qm (d::l)↔d.length=16∧qm l:=by simp[qm]
theorem Mw{a b:List (List UInt8)}:qm (a++b)↔qm a∧qm b:=by simp only[qm,List.mem_append];exact⟨λh=>⟨λd hd=>h d (.inl hd),λd hd=>h d (.inr hd)⟩,λh d hd=>hd.elim (h.1 d) (h.2 d)⟩
theorem sD{l:List (List UInt8)}(h:qm l)(n:Nat):qm (l.take n):=λd hd=>h d (List.mem_of_mem_take hd)
theorem Nn{l:List (List UInt8)}(h:qm l)(n:Nat):qm (l.drop n):=λd hd=>h d (List.mem_of_mem_drop hd)
theorem E1{l:List (List UInt8)}(h:qm l):qm l.reverse:=λd hd=>h d (List.mem_reverse.1 hd)
theorem qL:∀{l:List (List UInt8)},qm l->(dgs l).length=l.length*16
 |[],_=>rfl
 |d::l,h=>by obtain⟨h1,h2⟩:=pN.1 h;rw[wV,List.length_append,h1,qL h2,List.length_cons];omega
theorem IK:∀{l:List (List UInt8)},qm l->∀n,(dgs l).drop (n*16)=dgs (l.drop n)
 |[],_,n=>by simp
 |d::l,h,0=>by simp
 |d::l,h,n+1=>by obtain⟨h1,h2⟩:=pN.1 h;rw[wV,List.drop_succ_cons,<-IK h2 n,List.drop_append,List.drop_of_length_le (by omega),List.nil_append];congr 1;omega
theorem xt:∀{l:List (List UInt8)},qm l->∀n,(dgs l).take (n*16)=dgs (l.take n)
 |[],_,n=>by simp
 |d::l,h,0=>by simp
 |d::l,h,n+1=>by obtain⟨h1,h2⟩:=pN.1 h;rw[wV,List.take_succ_cons,wV,<-xt h2 n,List.take_append,List.take_of_length_le (by omega)];congr 2;omega
def QM:Nat->List UInt8->List (List UInt8)
 |0,_=>[]
 |n+1,b=>b.take 16::QM n (b.drop 16)
theorem O8:∀{l:List (List UInt8)},qm l->QM l.length (dgs l)=l
 |[],_=>rfl
 |d::l,h=>by obtain⟨h1,h2⟩:=pN.1 h;rw[List.length_cons,QM,wV,<-h1,List.take_left,List.drop_left,O8 h2]
def gDs(d:oH):List (List UInt8):=match d with| .sl _ _ n cs=>QM n (gBs cs)|_=>[]
theorem uv{m:cH}{nl:Option Bool}{l:List (List UInt8)}(h:qm l):gDs (.sl m nl l.length (bys (dgs l)))=l:=by simp only[gDs];rw[show gBs (bys (dgs l))=dgs l by simp];exact O8 h
def ul(l:List (List UInt8))(i:Nat):List UInt8:=l.getD i []
theorem sG{l:List (List UInt8)}(h:qm l){i:Nat}(hi:i<l.length):(ul l i).length=16:=by simp only[ul,List.getD,List.getElem?_eq_getElem hi,Option.getD_some];exact h _ (List.getElem_mem hi)
theorem zW{l:List (List UInt8)}(h:qm l){i:Nat}(hi:i<l.length):((dgs l).drop (i*16)).take 16=ul l i:=by rw[IK h,List.drop_eq_getElem_cons hi,wV];have:(l[i]).length=16:=h _ (List.getElem_mem hi);rw[<-this,List.take_left];simp[ul,List.getD,List.getElem?_eq_getElem hi]
def spl(n:Nat):Nat:=2^Nat.log2 (n-1)
theorem yl(n:Nat):1<=spl n:=Nat.one_le_two_pow
theorem kK{n:Nat}(h:2<=n):spl n<n:=by have:=Nat.log2_self_le (n:=n-1) (by omega);unfold spl;omega
theorem AX{n:Nat}(h:2<=n):n<=2*spl n:=by have h1:n-1<2^(Nat.log2 (n-1)+1):=Nat.lt_log2_self;rw[Nat.pow_succ] at h1;unfold spl;omega
theorem Rl{a b n:Nat}(h1:2^a<n)(h2:n<=2*2^a)(h3:2^b<n)(h4:n<=2*2^b):a=b:=by
 rcases Nat.lt_trichotomy a b with h|h|h
 ·have:=Nat.pow_le_pow_right (n:=2) (by decide) (show a+1<=b from h);rw[Nat.pow_succ] at this;omega
 ·exact h
 have:=Nat.pow_le_pow_right (n:=2) (by decide) (show b+1<=a from h);rw[Nat.pow_succ] at this;omega
def Nc(n:Nat):Nat:=if n=0 then 0 else Nat.log2 n+1
theorem Zt{n k:Nat}(h1:2^k<=n)(h2:n<2^(k+1)):Nc n=k+1:=by
 have h0:n≠0:=by have:=Nat.one_le_two_pow (n:=k);omega
 rw[Nc,if_neg h0];have a1:=Nat.log2_self_le h0;have a2:n<2^(Nat.log2 n+1):=Nat.lt_log2_self;rcases Nat.lt_trichotomy (Nat.log2 n) k with h|h|h
 ·have:=Nat.pow_le_pow_right (n:=2) (by decide) (show Nat.log2 n+1<=k from h);omega
 ·rw[h]
 have:=Nat.pow_le_pow_right (n:=2) (by decide) (show k+1<=Nat.log2 n from h);omega
def cT(b:List UInt8):List UInt8:=(sha b).take 16
def root(l:List (List UInt8)):List UInt8:=
 if h:2<=l.length then bh 2 [root (l.take (spl l.length)),root (l.drop (spl l.length))] else bh 1 l
termination_by l.length
decreasing_by
 ·rw[List.length_take];have:=kK h;omega
 rw[List.length_drop];have:=yl l.length;omega
theorem EP{l:List (List UInt8)}(h:2<=l.length):root l=bh 2 [root (l.take (spl l.length)),root (l.drop (spl l.length))]:=by rw[root,dif_pos h]
theorem Ax{l:List (List UInt8)}(h:¬2<=l.length):root l=bh 1 l:=by rw[root,dif_neg h]
theorem sH(l:List (List UInt8)):(root l).length=16:=by
 by_cases h:2<=l.length
 ·rw[EP h];exact pG _ _
 rw[Ax h];exact pG _ _
inductive zr where
 |plain (c:av)
 |seq (a b:zr)
 |cond (c:Arg) (a b:zr)
 |block (id:Nat) (b:zr)
 |loop (b:zr)
 |yield (keep:List Nat) (gs:List tJ) (xs:List af) (d:Option Nat) (y:Nat) (as:List Arg) (zs:List af) (gd:Option (Nat×Bool):=none)
 |lean (s t:Nat) (keep:List Nat) (gs:List tJ) (zs:List af)
 deriving Inhabited
abbrev IQ:=aB->Nat×Bool->ASt->Prop
def Ok(f:Nat×Bool->ASt->Prop)(Q:IQ):IQ
 | .normal,p,st=>f p st
 |e,p,st=>Q e p st
def La(id:Nat)(Q:IQ):IQ
 | .exit id',p,st=>if id'=id then Q .normal p st else Q (.exit id') p st
 |e,p,st=>Q e p st
def yOk:oH->Bool
 | .undef=>true
 | .bp _ _=>true
 |c=>aC c
def Gj(cs:List oH):List oH:=if cs.all yOk=true then cs else cs.map λc=>if yOk c then c else .undef
@[simp] theorem z2oa{cs:List oH}(h:cs.all yOk=true):Gj cs=cs:=if_pos h
theorem No{cs:List oH}{i:Nat}{d:oH}(h:(Gj cs)[i]? =some d):∃c,cs[i]? =some c∧(d=c∨d= .undef):=by
 unfold Gj at h;split at h
 ·exact⟨d,h,.inl rfl⟩
 rw[List.getElem?_map] at h;cases hc:cs[i]? with
 |none=>rw[hc] at h;cases h
 |some c=>
  rw[hc] at h;simp only[Option.map_some,Option.some.injEq] at h;refine⟨c,rfl,?_⟩;split at h
  ·exact .inl h.symm
  exact .inr h.symm
@[simp] theorem z2ea(cs:List oH):(∀x∈Gj cs,yOk x=true)=True:=eq_true λx hx=>by
 unfold Gj at hx;split at hx
 ·rename_i h;exact List.all_eq_true.1 h x hx
 obtain⟨c,_,rfl⟩:=List.mem_map.1 hx;split
 ·assumption
 rfl
theorem z0za(l:List oH):hdA (l.drop 1)=(l[1]?).getD .undef:=by
 match l with
 |[]=>rfl
 |[_]=>rfl
 |_::_::_=>rfl
def OI(st:ASt):ASt:={st with env:=st.env.map λq=>(q.1,if yOk q.2 then q.2 else .undef),box:=st.box.map λq=>(q.1,q.2.map Gj)}
theorem z1P(st:ASt):∀q∈(OI st).env,yOk q.2=true:=λq hq=>by
 obtain⟨r,_,rfl⟩:=List.mem_map.1 hq;show yOk (if yOk r.2 then r.2 else .undef)=true;split
 ·assumption
 rfl
theorem US(s:Nat):∀e:List (Nat×oH),lk (e.map λq=>(q.1,if yOk q.2 then q.2 else .undef)) s=(lk e s).map λd=>if yOk d then d else .undef
 |[]=>rfl
 |(k,d)::e=>by
  simp only[List.map_cons,lk];split
  ·rfl
  exact US s e
theorem Z6{K:Cx}{base:aZ}{n:Nat}{st:ASt}{a:Act}{w:World}(hR:Rel K base n st a w):Rel K base n (OI st) a w:=by
 obtain⟨g,hI,hS,hO,h⟩:=hR;have hlk:∀(b:List (Nat×Option (List oH))) (id:Nat),lk (b.map λq=>(q.1,q.2.map Gj)) id=(lk b id).map λo=>o.map Gj:=λb id=>by
  induction b with
  |nil=>rfl
  |cons q b ih=>
   obtain⟨k,o⟩:=q;simp only[List.map_cons,lk];split
   ·rfl
   exact ih
 have hB:∀id,(OI st).getB id=(st.getB id).map Gj:=λid=>by
  show(lk (st.box.map λq=>(q.1,q.2.map Gj)) id).join=((lk st.box id).join).map Gj;rw[hlk];cases lk st.box id with
  |none=>rfl
  |some o=>rfl
 have hsome:∀id cs',(OI st).getB id=some cs'->∃cs,st.getB id=some cs∧cs'=Gj cs:=λid cs' h=>by
  rw[hB] at h;cases hc:st.getB id with
  |none=>rw[hc] at h;cases h
  |some cs=>rw[hc] at h;cases h;exact⟨cs,rfl,rfl⟩
 refine⟨g,{hI with bxok:=λid cs' hc=> ?_,nobx:=λid hn=> ?_,obok:=λid b cs' h1 h2 hc hne=> ?_},λs=> ?_,hO,h⟩
 ·obtain⟨cs,hcs,rfl⟩:=hsome id cs' hc;obtain⟨b,k1,k2,k3⟩:=hI.bxok id cs hcs;refine⟨b,k1,k2,λi d hd=> ?_⟩;obtain⟨c,hci,hdc⟩:=No hd;obtain⟨⟨x,hx,hr⟩,hf⟩:=k3 i c hci;refine⟨⟨x,hx,?_⟩,hf⟩;rcases hdc with rfl|rfl
  ·exact hr
  simp[Rep]
 ·rw[hB] at hn;refine hI.nobx id ?_;cases hc:st.getB id with
  |none=>rfl
  |some cs=>rw[hc] at hn;cases hn
 ·obtain⟨cs,hcs,rfl⟩:=hsome id cs' hc;refine hI.obok id b cs h1 h2 hcs λe=>hne ?_;rw[z0za] at e⊢;cases h9:(Gj cs)[1]? with
  |none=>rfl
  |some d=>
   obtain⟨c,hc1,hd⟩:=No h9;rw[hc1] at e;rcases hd with rfl|rfl
   ·exact e
   rfl
 have hs:=hS s;unfold ASt.get at hs⊢;rw[show lk (OI st).env s=(lk st.env s).map λd=>if yOk d then d else .undef from US s st.env,show(OI st).org=st.org from rfl];cases he:lk st.env s with
 |none=>rw[he] at hs;exact hs
 |some d=>
  rw[he] at hs;simp only[Option.map_some];split
  ·exact hs
  simp[Rep]
def Xh(d:Option Nat)(b:Bool)(st:ASt):ASt:={st with env:=d.toList.map (λs=>(s,bo' b))++st.env}
where bo' (b : Bool) : oH := .lit (.bool b)
theorem Sw{v:oH}{want:Bool}(h:isB v):fG v want=(asB v==want):=by
 unfold isB at h;split at h
 ·rfl
 exact h.elim
def z6X(d:Option Nat)(st:ASt):ASt:={st with env:=d.toList.map (λs=>(s,bR))++st.env}
def ifG(gd:Option (Nat×Bool))(st:ASt)(Y N:Prop):Prop:=match gd with
 |none=>Y
 |some (s,want)=>isB (st.get s)∧(asB (st.get s)=want->Y)∧(asB (st.get s)=(!want)->N)
theorem z8s{gd:Option (Nat×Bool)}{st:ASt}{Y N:Prop}(h:ifG gd st Y N)(hw:∀s want,gd=some (s,want)->isB (st.get s)->asB (st.get s)=want):Y:=by
 cases gd with
 |none=>exact h
 |some sw=>obtain⟨s,want⟩:=sw;exact h.2.1 (hw s want rfl h.1)
def JC(s:Nat)(d:oH)(st:ASt):ASt:={st with org:=(s,d)::st.org,env:=st.env.filter λp=>decide (p.1≠s)}
def C4(E:Env)(l:Nat)(el:Nat->Option (List oH)):zr->IQ->Nat×Bool->ASt->Prop
 | .plain c,Q,p,st=>awp E c (λe st'=>Q e p st') st
 | .seq a b,Q,p,st=>C4 E l el a (Ok (λp st=>C4 E l el b Q p st) Q) p st
 | .cond c a b,Q,p,st=>isB (arg E st.get c)∧(asB (arg E st.get c)=true->C4 E l el a Q p st)∧(asB (arg E st.get c)=false->C4 E l el b Q p st)
 | .block id b,Q,p,st=>C4 E l el b (La id Q) p st
 | .loop b,Q,p,st=>∃I:Nat×Bool->ASt->Prop,I p st∧∀p st,I p st->C4 E l el b (Ok (λp' st'=>I p' st'∧p.2=false∧(p'=(p.1+1,false)∨p'=(p.1,true))) Q) p st
 | .yield keep gs xs d y as zs gd,Q,p,st=>
  Aa E xs st∧(∀s∈d.toList,lk st.org s=none)∧
  (let st1:=OI (C3 E xs st)
   ifG gd st1 (p.2=false∧el p.1=some (as.map (arg E st1.get))∧aj (as.map (arg E st1.get))=true∧st1.get y= .lit (.func (.yield l) #[] #[])∧(∀q∈st1.box,∀cs,q.2=some cs->cs.all yOk=true∧q.1<1000000)∧
   ∀b:Bool,Aa E zs (Xh d b st1)∧iG gs (cB keep (C3 E zs (Xh d b st1)))∧Q .normal (if b then(p.1+1,false) else(p.1,true)) (cZ gs (cB keep (C3 E zs (Xh d b st1))))) (Aa E zs (z6X d st1)∧iG gs (cB keep (C3 E zs (z6X d st1)))∧Q .normal p (cZ gs (cB keep (C3 E zs (z6X d st1))))))
 | .lean s t keep gs zs,Q,p,st=>∃d ds,lk st.org t=some (.ep (d::ds))∧Aa E zs (JC s d st)∧iG gs (cB keep (C3 E zs (JC s d st)))∧Q .normal p (cZ gs (cB keep (C3 E zs (JC s d st))))
def EL(K:Cx)(n:Nat)(ops:Array Oper)(o:Oper)(d:Option Nat)(y:Nat)(as:List Arg)(gd:Option (Nat×Bool)):Bool:=
 (o.dst==d)&&d.toList.all (· <n)&&Dj ops o.guard gd&&(match o.op with| .call c=>(match c.callee with| .value (.tmp t)=>t==y|_=>false)&&argsL K c.args.toList as|_=>false)
where argsL (K : Cx) : List Operand -> List Arg -> Bool
 |[],[]=>true
 |x::xs,y::ys=>rk K x y&&argsL K xs ys
 |_,_=>false
def PO(K:Cx)(n:Nat):zr->Code->Bool
 | .plain c,x=>sg c&&tF c&&pC K n c x
 | .seq a b,x=>match x with| .seq p q=>PO K n a p&&PO K n b q|_=>false
 | .cond c a b,x=>match x with| .cond c' p q=>rk K c' c&&PO K n a p&&PO K n b q|_=>false
 | .block id b,x=>match x with| .block id' p=>(id==id')&&PO K n b p|_=>false
 | .loop b,x=>match x with| .loop p=>PO K n b p|_=>false
 | .yield _ gs xs d y as zs gd,x=>match x with
  | .region _ ops draw=> !draw&&(ops.size==xs.length+1+zs.length)&&zV K n ops (ops.toList.take xs.length) xs&&
   (match ops[xs.length]? with|some o=>EL K n ops o d y as gd|none=>false)&&zV K n ops (ops.toList.drop (xs.length+1)) zs&&gs.all tJ.cold
  |_=>false
 | .lean s t _ gs zs,x=>match x with
  | .region _ ops draw=> !draw&&(ops.size==zs.length+1)&&(match ops[0]? with|some o=>FK K n ops o ⟨some s,none,.load none none false (.s t)⟩|none=>false)&&zV K n ops (ops.toList.drop 1) zs&&gs.all tJ.cold
  |_=>false
def th:zr->List (Nat×Bool)
 | .plain c=>ae c
 | .seq a b=>th a++th b
 | .cond _ a b=>th a++th b
 | .block _ b=>th b
 | .loop b=>th b
 | .yield _ _ xs _ _ _ zs _=>(xs++zs).flatMap λx=>eu x.op
 | .lean _ _ _ _ zs=>zs.flatMap λx=>eu x.op
section
variable {K : Cx} {S : Nat -> Nat} {w0 : World} {n : Nat} {el : Nat -> Option (List oH)} {l : Nat} {J : Nat -> (Nat -> Prop) -> World -> Prop} {Jx : (Nat -> Prop) -> World -> Prop} {N : Nat} {O0 : Nat -> Prop}
structure Zi (S:Nat->Nat) (w0:World) (base:aZ):Prop where
 own:∀b,base.W b->w0.heap.size<=b∨S b=0
 size:w0.heap.size<=base.w0.heap.size
 kp:aP S w0 base.S base.w0
 le:∀b,base.S b<=S b
 dl:base.dl=[]
def HyI(O0:Nat->Prop)(J:Nat->(Nat->Prop)->World->Prop)(Jx:(Nat->Prop)->World->Prop)(base:aZ)(p:Nat×Bool):Prop:=
 ∃O:Nat->Prop,(∀b,base.W b->b<base.w0.heap.size->O b)∧(∀b,O0 b->O b∧b<base.w0.heap.size)∧(match p.2 with|false=>J p.1 O base.w0|true=>Jx O base.w0)
def Pn(K:Cx)(S:Nat->Nat)(w0:World)(O0:Nat->Prop)(J:Nat->(Nat->Prop)->World->Prop)(Jx:(Nat->Prop)->World->Prop)(n:Nat)(Q:IQ):Exit->Act->World->Prop
 | .normal,a,w=>∃base p st,Zi S w0 base∧HyI O0 J Jx base p∧Rel K base n st a w∧Q .normal p st
 | .exit id,a,w=>∃base p st,Zi S w0 base∧HyI O0 J Jx base p∧Rel K base n st a w∧Q (.exit id) p st
 | .ret,a,w=>∃base p st,Zi S w0 base∧HyI O0 J Jx base p∧Rel K base n st a w∧Q .ret p st
 |_,_,_=>False
theorem O3{base:aZ}{g:Gh}{w:World}{a:Act}{get:Nat->oH}{getB:Nat->Option (List oH)}(hI:Inv K base g w getB)(hS:dI K g w get a):∀{xs:List Operand} {ys:List Arg},EL.argsL K xs ys=true->an K.toCon g w (ys.map (arg K.E get)) (xs.map a.eval)
 |[],[],_=>by simp[an]
 |[],_::_,h=>by simp[EL.argsL] at h
 |_::_,[],h=>by simp[EL.argsL] at h
 |x::xs,y::ys,h=>by simp only[EL.argsL,Bool.and_eq_true] at h;simp only[List.map_cons,an];exact⟨_,_,rfl,o6 hI hS h.1,O3 hI hS h.2⟩
def WO(g:Gh)(O0:Nat->Prop)(b:Nat):Prop:=Wr g b∨O0 b
theorem z5o(hr:Ny K S el l J Jx N O0 w0){base:aZ}{p:Nat×Bool}{g:Gh}{w:World}{bx:Nat->Option (List oH)}(hh:HyI O0 J Jx base p)(hI:Inv K base g w bx):(∀b,O0 b->b<w.heap.size)∧match p.2 with|false=>J p.1 (WO g O0) w|true=>Jx (WO g O0) w:=by
 obtain⟨O,hO,hO0,hj⟩:=hh;have hf:Fr base.w0.heap.size O base.w0 w:=hI.fr.mono (Nat.le_refl _) λk hk hw=>hO k hw hk;have hw:∀b,WO g O0 b->(O b∨base.w0.heap.size<=b)∧b<w.heap.size:=λb hb=>by
  rcases hb with hb|hb
  case inr=>exact⟨.inl (hO0 b hb).1,Nat.lt_of_lt_of_le (hO0 b hb).2 hI.fr.size⟩
  refine⟨?_,?_⟩
  ·rcases Nat.lt_or_ge b base.w0.heap.size with hlt|hge
   ·rcases FV hI hb with h1|h1
    ·omega
    exact .inl (hO b h1 hlt)
   exact .inr hge
  rcases hb with⟨id,hi⟩|ho
  ·exact(hI.muW id b hi).2.1
  cases hl:g.ow b with
  |none=>exact absurd hl ho
  |some lo=>exact(hI.owW b lo hl).2
 obtain⟨i,s⟩:=p;cases s with
 |false=>exact⟨λb hb=>(hw b (.inr hb)).2,hr.stab i O (WO g O0) base.w0 w hj hf hw⟩
 |true=>exact⟨λb hb=>(hw b (.inr hb)).2,hr.stabx O (WO g O0) base.w0 w hj hf hw⟩
theorem UQ{K:Con}{g g':Gh}{w w':World}(hm:g'.mu=g.mu){d:oH}{v:Value}{l l':Option Loc}(hy:yOk d=true)(h:Rep K g w l d v):Rep K g' w' l' d v:=by
 cases d with
 |undef=>simp[Rep]
 |bp id off=>simp only[Rep,hm] at h⊢;exact h
 |lit x=>simp only[Rep] at h⊢;exact h
 |agg cs=>rw[E8 _ _ _ hy h];exact J2 _ _ hy
 |tup cs=>rw[E8 _ _ _ hy h];exact J2 _ _ hy
 |sl _ _ _ _=>simp[yOk,aC] at hy
 |bv _ _ _ _ _=>simp[yOk,aC] at hy
 |ep _=>simp[yOk,aC] at hy
 |otup _ _ _ _ _=>simp[yOk,aC] at hy
 |mp _=>simp[yOk,aC] at hy
 |pv _ _ _ _=>simp[yOk,aC] at hy
 |oagg _ _=>simp[yOk,aC] at hy
 |fn _ _ _=>simp[yOk,aC] at hy
theorem P2(hSx:∀b i,i<S b->∃x,w0.cell? ⟨b,i,none⟩=some x)(hg:∀m∈K.N.gs,am K.toCon S w0 (K.E.T m) (K.N.gnum m) 0){base:aZ}(hz:Zi S w0 base){st:ASt}{a:Act}{w B:World}{g:Gh}
  (hI:Inv K base g w st.getB) (hS:dI K g w st.get a) (hO:kS K base st a) (hd:a.defers=base.dl) (hsz:a.tmps.size=n) (he:∀q∈st.env,yOk q.2=true) (hb:∀q∈st.box,∀cs,q.2=some cs->cs.all yOk=true∧q.1<1000000)
  (hk:aP S w0 S B) (hown:∀b,Wr g b->B.heap[b]? =w.heap[b]?) (hsize:w.heap.size<=B.heap.size) {p:Nat×Bool} (h0:∀b,O0 b->b<w.heap.size) (hj:match p.2 with|false=>J p.1 (WO g O0) B|true=>Jx (WO g O0) B)
  {d:Option Nat} {v:Bool} (hdl:∀s∈d.toList,s<n) (hdo:∀s∈d.toList,lk st.org s=none):
  ∃base',Zi S w0 base'∧HyI O0 J Jx base' p∧Rel K base' n (Xh d v st) (a.put d (.bool v)) B:=by
 let g':Gh:={S:=λb=>if b<w0.heap.size then S b else 0,ow:=λ_=>none,mu:=g.mu}
 have hw:∀b,Wr g' b->Wr g b:=λb hb=>by
  rcases hb with hb|hb
  ·exact .inl hb
  exact absurd rfl hb
 have hge:∀b,Wr g b->w0.heap.size<=b∨S b=0:=λb hb=>by
  rcases FV hI hb with h1|h1
  ·exact .inl (Nat.le_trans hz.size h1)
  exact hz.own b h1
 have hB0:w0.heap.size<=B.heap.size:=Nat.le_trans hz.size (Nat.le_trans hI.fr.size hsize);have hkp:aP S w0 (aZ.S ⟨B,Wr g',g'.S,[],g'.mu⟩) B:=λb i x hi hc=>by have hlt:b<w0.heap.size:=World.block_lt_of_cell? w0 ⟨b,i,none⟩ hc;refine⟨?_,(hk b i x hi hc).2⟩;unfold aZ.S;rw[if_pos ⟨Nat.lt_of_lt_of_le hlt hB0,λh=>by rcases hge b (hw b h) with h9|h9<;>omega⟩];show i<if b<w0.heap.size then S b else 0;rw[if_pos hlt];exact hi
 have hk':aP S w0 g'.S B:=λb i x hi hc=>by have hlt:b<w0.heap.size:=World.block_lt_of_cell? w0 ⟨b,i,none⟩ hc;exact⟨by show i<if b<w0.heap.size then S b else 0;rw[if_pos hlt];exact hi,(hk b i x hi hc).2⟩
 have horg:aP base.S base.w0 (aZ.S ⟨B,Wr g',g'.S,[],g'.mu⟩) B:=λb i x hi hc=>by have hi':i<S b:=Nat.lt_of_lt_of_le hi (hz.le b);obtain⟨x',hx'⟩:=hSx b i hi';have h1:=(hz.kp b i x' hi' hx').2;rw[hc] at h1;cases h1;exact hkp b i x hi' hx'
 refine⟨⟨B,Wr g',g'.S,[],g'.mu⟩,⟨λb hb=>hge b (hw b hb),hB0,hkp,λb=> ?_,rfl⟩,⟨WO g O0,λb hb _=> .inl (hw b hb),λb hb=>⟨.inr hb,Nat.lt_of_lt_of_le (h0 b hb) hsize⟩,hj⟩,g',⟨Fr.refl _ _ _,λ_ _ _=>rfl,hI.inj,λid cs hc=> ?_,hI.nobx,λid b hb=> ?_,λb lo hb=> ?_,λm hm=>am.mono hk' _ _ _ (hg m hm),aP.refl _ _,λid b cs ho hmu hc _=> ?_,λ_ _ _ _ h=>h⟩,λs=> ?_,λs d' hs=> ?_,?_,?_⟩
 ·unfold aZ.S;split
  ·show(if b<w0.heap.size then S b else 0)<=S b;split<;>omega
  omega
 ·obtain⟨b,k1,k2,k3⟩:=hI.bxok id cs hc;have hbk:=hown b (.inl ⟨id,k1⟩);have hb0:=hge b (.inl ⟨id,k1⟩);have hbox:(id,some cs)∈st.box:=by
   have hc':(lk st.box id).join=some cs:=hc;cases hl:lk st.box id with
   |none=>rw[hl] at hc';cases hc'
   |some o=>rw[hl] at hc';simp only[Option.join_some] at hc';rw[<-hc'];exact Gi hl
  have hall:=(hb _ hbox cs rfl).1;refine⟨b,k1,by show(if b<w0.heap.size then S b else 0)=0;rcases hb0 with h9|h9<;>split<;>omega,λi e hi=> ?_⟩;obtain⟨⟨x,hx,hr⟩,hfz⟩:=k3 i e hi;refine⟨⟨x,?_,UQ (g:=g) (g':=g') rfl (List.all_eq_true.1 hall e (sj hi)) hr⟩,?_⟩
  ·rw[World.cell?_of_block (w:=w) (a:=⟨b,i,none⟩) hbk];exact hx
  simp only[World.frozen?,hbk] at hfz⊢;exact hfz
 ·exact⟨.inr (.inl ⟨id,hb⟩),Nat.lt_of_lt_of_le (hI.muW id b hb).2.1 hsize,rfl⟩
 ·cases hb
 ·have hbox:(id,some cs)∈st.box:=by
   have hc':(lk st.box id).join=some cs:=hc;cases hl:lk st.box id with
   |none=>rw[hl] at hc';cases hc'
   |some o=>rw[hl] at hc';simp only[Option.join_some] at hc';rw[<-hc'];exact Gi hl
  have:=(hb _ hbox cs rfl).2;simp only at this;omega
 ·rw[EK (by rw[hsz];exact hdl)];have hget:(Xh d v st).get s=if d=some s then .lit (.bool v) else st.get s:=by
   show(match lk (d.toList.map (λs=>(s,Xh.bo' v))++st.env) s with|some d=>d|none=>dem ((lk st.org s).getD .undef))=_;rw[aI];cases d with
   |none=>simp[lk];rfl
   |some t=>
    simp only[Option.toList_some,List.map_cons,List.map_nil,lk,Option.some.injEq];by_cases h:s=t
    ·simp[h,Xh.bo']
    rw[if_neg h,if_neg (λe=>h e.symm)];simp;rfl
  rw[hget];by_cases h:d=some s
  ·rw[if_pos h,if_pos h];simp[Rep]
  rw[if_neg h,if_neg h];have hs:=hS s;unfold ASt.get at hs⊢;cases hl:lk st.env s with
  |some e=>rw[hl] at hs;exact UQ (g:=g) (g':=g') rfl (he _ (Gi hl)) hs
  |none=>
   cases ho:lk st.org s with
   |none=>simp[Abs.dem,Rep]
   |some e=>
    refine ap.dem (g:=g') _ (ap.mono ?_ e _ (ap.mono horg e _ (hO s e ho)));intro b i x hi hc;refine⟨?_,hc⟩;unfold aZ.S at hi;split at hi
    ·exact hi
    omega
 ·rw[EK (by rw[hsz];exact hdl)];have hs':lk st.org s=some d':=hs;have hne:d≠some s:=λe=>by
   have:=hdo s (by simp[e]);rw[hs'] at this;cases this
  rw[if_neg hne];exact ap.mono horg d' _ (hO s d' hs')
 ·cases d<;>simp[Act.put,hd,hz.dl]
 cases d<;>simp[Act.put,hsz]
theorem z0b{E:Env}(o:af)(st:ASt):(ai E o st).org=st.org:=by
 unfold ai;split
 ·rfl
 split<;>rfl
theorem PK{E:Env}:∀(xs:List af) (st:ASt),Aa E xs st->(C3 E xs st).org=st.org
 |[],st,_=>rfl
 |x::xs,st,h=>by show(C3 E xs (ai E x st)).org=_;rw[PK xs _ h.2,z0b]
theorem PX{P:Program}{o:Oper}{a:Act}{w:World}{c:Call}{t:Tmp}{l:Nat}{r:Result Next}(ho:o.op= .call c)(hc:c.callee= .value (.tmp t))(hv:a.eval (.tmp t)= .func (.yield l) #[] #[])
  (h:(Instr.yield l (c.args.map a.eval)).run P w=r):(execOp a.eval o).run P w=r:=by
 rw[<-h];simp only[execOp,ho,resolve,hc,hv,Deferred.ofValue,invoke];simp[go_sem]
theorem V9{base:aZ}{ops:Array Oper}{oper:Oper}{s t:Nat}{d:oH}{ds:List oH}{st:ASt}{a:Act}{w:World}(hR:Rel K base n st a w){i:Nat}(hi:ops[i]? =some oper)(hm:FK K n ops oper ⟨some s,none,.load none none false (.s t)⟩=true)
  (ht:lk st.org t=some (.ep (d::ds))) {Kn:Act->World->Prop} {Q:Exit->Act->World->Prop} (hn:∀a' w',Rel K base n (JC s d st) a' w'->Kn a' w') {r:Option Nat} {m:Nat}:wpOpIn (WF r) m K.P ops Q i Kn a w:=by
 simp only[FK,Bool.and_eq_true,beq_iff_eq,List.all_eq_true,decide_eq_true_eq] at hm;obtain⟨⟨⟨hdst,hlt⟩,hgd⟩,hch⟩:=hm;have hR':=hR;obtain⟨g,hI,hS,hO,hdf,hsz⟩:=hR';have hp:=hO t _ ht;simp only[ap,am] at hp;obtain⟨b,o,hv,hb,⟨x,hx,hpx⟩,_⟩:=hp;have hw:=(uU hI) b o x hb hx;have hl:EF K oper.op none (.s t)=true:=hch;have hwant:Region.wanted oper (yielded ops a.tmps)=true:=by
  unfold Dj at hgd;split at hgd
  ·rename_i h1 _;unfold Region.wanted;rw[h1]
  ·rename_i h1 h2;cases h2
  cases hgd
 unfold EF at hl;split at hl
 ·rename_i ty x' ho;simp only[Bool.and_eq_true] at hl;obtain⟨⟨hk,_⟩,hx'⟩:=hl;have hrun:(execOp a.eval oper).run K.P w= .ok (.value x) w:=by
   cases x' with
   |tmp t'=>
    simp only[rk,beq_iff_eq] at hx';subst hx';have hev:a.eval (.tmp t')= .pointer (some ⟨b,o,none⟩):=hv;have hr:=Hf (P:=K.P) (w:=w) (bk:=b) (o:=o) (vs:=[x]) hk (λj v hj=>by
     cases j with
     |zero=>simp at hj;subst hj;exact hw.2
     |succ j=>simp at hj) (by simp)
    simp only[execOp,ho,hev,Sem.run_bind,hr,Result.andThen_ok,Sem.run_pure];rfl
   |_=>simp[rk] at hx'
  unfold wpOpIn;simp only[hi];rw[if_pos hwant];refine Ul (λc hc=>by rw[ho] at hc;cases hc) ?_;unfold Oper.wp;rw[hrun];refine hn _ _ ⟨g,hI,λs'=> ?_,λs' d' hs'=> ?_,?_,?_⟩
  ·rw[EK (by rw[hsz];intro s hs;exact hlt s (by rw[hdst] at hs;exact hs)),hdst];have hget:(JC s d st).get s'=if some s=some s' then dem d else st.get s':=by
    have h1:lk (st.env.filter λp=>decide (p.1≠s)) s'=if s'≠s then lk st.env s' else none:=by have:=tz (λk=>decide (k≠s)) st.env s';simpa using this
    show(match lk (st.env.filter λp=>decide (p.1≠s)) s' with|some d=>d|none=>dem ((lk ((s,d)::st.org) s').getD .undef))=_;rw[h1];by_cases h:s'=s
    ·subst h;simp[lk]
    rw[if_pos h,if_neg (λe=>h (by cases e;rfl))];simp only[lk,if_neg h];rfl
   rw[hget];by_cases h:some s=some s'
   ·rw[if_pos h,if_pos h];exact ap.dem _ (ap.mono (uU hI) d _ hpx)
   rw[if_neg h,if_neg h];exact hS s'
  ·rw[EK (by rw[hsz];intro s hs;exact hlt s (by rw[hdst] at hs;exact hs)),hdst];have hs':(if s'=s then some d else lk st.org s')=some d':=hs';by_cases h:s'=s
   ·rw[if_pos h] at hs';cases hs';rw[if_pos (by rw[h])];exact hpx
   rw[if_neg h] at hs';rw[if_neg (λe=>h (by cases e;rfl))];exact hO s' d' hs'
  ·rw[hdst];simp[Act.put,hdf]
  rw[hdst];simp[Act.put,hsz]
 cases hl
theorem AM{q:Nat}(hr:Ny K S el l J Jx N O0 w0)(hSx:∀b i,i<S b->∃x,w0.cell? ⟨b,i,none⟩=some x)(hg:∀m∈K.N.gs,am K.toCon S w0 (K.E.T m) (K.N.gnum m) 0):
  ∀(c:zr) (x:Code) (Q:IQ) (base:aZ) (p:Nat×Bool) (st:ASt) (a:Act) (w:World),PO K n c x=true->(∀p∈th c,VB K p)->C4 K.E l el c Q p st->Zi S w0 base->HyI O0 J Jx base p->Rel K base n st a w->x.wpIn (WF none) q K.P (Pn K S w0 O0 J Jx n Q) a w
 | .plain c,x,Q,base,p,st,a,w,hc,hv,h,hz,hh,hR=>by
  simp only[PO,Bool.and_eq_true] at hc;simp only[C4] at h;refine wpIn_mono (uE (Cd:=True) c x none q _ base st a w hc.2 hv hc.1.1 (.inl hc.1.2) h hR) ?_;intro e a' w' hl;cases e<;>simp only[HM] at hl<;>simp only[Pn]
  all_goals (obtain⟨b',⟨_,_,he⟩,st',hR',hq⟩:=hl;have he:=he trivial;subst he;exact⟨_,p,st',hz,hh,hR',hq⟩)
 | .seq u v,x,Q,base,p,st,a,w,hc,hv,h,hz,hh,hR=>by
  simp only[PO] at hc;simp only[C4] at h;simp only[th,List.mem_append] at hv;split at hc
  ·rename_i y z;simp only[Bool.and_eq_true] at hc;refine wpIn_seq (wpIn_mono (AM hr hSx hg u y _ base p st a w hc.1 (λf hf=>hv f (.inl hf)) h hz hh hR) ?_);intro e a' w' hl;cases e<;>simp only[Pn] at hl<;>simp only[Exit.then]
   ·obtain⟨b',p',st',hz',hh',hR',hq⟩:=hl;exact AM hr hSx hg v z Q b' p' st' a' w' hc.2 (λf hf=>hv f (.inr hf)) hq hz' hh' hR'
   ·exact hl
   exact hl
  cases hc
 | .cond c u v,x,Q,base,p,st,a,w,hc,hv,h,hz,hh,hR=>by
  simp only[PO] at hc;simp only[C4] at h;simp only[th,List.mem_append] at hv;split at hc
  ·rename_i c' y z;simp only[Bool.and_eq_true] at hc;obtain⟨⟨hcc,hy⟩,hzz⟩:=hc;obtain⟨hb,ht,hf⟩:=h;have hR':=hR;obtain⟨g,hI,hS,_⟩:=hR';obtain⟨_,hval⟩:=GA (o6 hI hS hcc) hb;refine wpIn_cond_split hval (λe=> ?_) (λe=> ?_)
   ·exact AM hr hSx hg u y Q base p st a w hy (λf hf=>hv f (.inl hf)) (ht e) hz hh hR
   exact AM hr hSx hg v z Q base p st a w hzz (λf hf=>hv f (.inr hf)) (hf e) hz hh hR
  cases hc
 | .block id b,x,Q,base,p,st,a,w,hc,hv,h,hz,hh,hR=>by
  simp only[PO] at hc;simp only[C4] at h;split at hc
  ·rename_i id' y;simp only[Bool.and_eq_true,beq_iff_eq] at hc;obtain⟨rfl,hp⟩:=hc;refine wpIn_block (wpIn_mono (AM hr hSx hg b y _ base p st a w hp hv h hz hh hR) ?_);intro e a' w' hl;cases e<;>simp only[Pn] at hl<;>simp only[Exit.inBlock]
   ·exact hl
   ·rename_i id';obtain⟨b',p',st',hz',hh',hR',hq⟩:=hl;simp only[La] at hq;split
    ·rename_i he;rw[if_pos he] at hq;exact⟨b',p',st',hz',hh',hR',hq⟩
    rename_i he;rw[if_neg he] at hq;exact⟨b',p',st',hz',hh',hR',hq⟩
   exact hl
  cases hc
 | .loop b,x,Q,base,p,st,a,w,hc,hv,h,hz,hh,hR=>by
  simp only[PO] at hc;simp only[C4] at h;split at hc
  ·rename_i y;obtain⟨I,hI0,hround⟩:=h;have hbd:∀(base:aZ) (p:Nat×Bool),HyI O0 J Jx base p->p.2=false->p.1<=N:=λbase p ⟨O,_,_,hj⟩ hp=>by
    rw[hp] at hj;exact hr.bound _ _ _ hj
   refine Du (λk a w=>∃base p st,Zi S w0 base∧HyI O0 J Jx base p∧Rel K base n st a w∧I p st∧k=(match p.2 with|true=>0|false=>N+1-p.1)) ⟨base,p,st,hz,hh,hR,hI0,rfl⟩ λk a w hj=> ?_;obtain⟨base',p',st',hz',hh',hR',hI',hk⟩:=hj;refine wpIn_mono (AM hr hSx hg b y _ base' p' st' a w hc hv (hround p' st' hI') hz' hh' hR') ?_;intro e a' w' hl;cases e<;>simp only[Pn] at hl<;>simp only[Exit.then]
   ·obtain⟨b2,p2,st2,hz2,hh2,hR2,hI2,hp,hp2⟩:=hl;have hle:=hbd base' p' hh' hp;rw[hp] at hk;simp only at hk;refine⟨match p2.2 with|true=>0|false=>N+1-p2.1,?_,b2,p2,st2,hz2,hh2,hR2,hI2,rfl⟩;rcases hp2 with rfl|rfl
    ·simp only;omega
    simp only;omega
   ·exact hl
   exact hl
  cases hc
 | .yield keep gs xs d y as zs gd,x,Q,base,p,st,a,w,hc,hv,h,hz,hh,hR=>by
  simp only[PO] at hc;simp only[C4] at h;obtain⟨hokx,hdo,hifg⟩:=h;have hye:=z1P (C3 K.E xs st);split at hc
  ·rename_i id ops draw;simp only[Bool.and_eq_true,Bool.not_eq_true',beq_iff_eq] at hc;obtain⟨⟨⟨⟨⟨hdraw,hsz⟩,hcx⟩,hco⟩,hcz⟩,hcold⟩:=hc;subst hdraw;have hVx:∀z∈xs,VOk K z.op:=λz hz f hf=>hv f (by simp only[th,List.mem_flatMap];exact⟨z,by simp[hz],hf⟩);have hVz:∀z∈zs,VOk K z.op:=λz hz f hf=>hv f (by simp only[th,List.mem_flatMap];exact⟨z,by simp[hz],hf⟩);refine wpIn_region ?_;have hrange:List.range ops.size=List.range' 0 xs.length++(xs.length::(List.range' (xs.length+1) zs.length)):=by
    rw[hsz,List.range_eq_range',show xs.length+1+zs.length=xs.length+(1+zs.length) by omega,<-List.range'_append_1,Nat.zero_add,Nat.add_comm 1,List.range'_succ]
   rw[hrange];refine Jh xs 0 st a w (by simpa using hcx) hVx hR hokx λa1 w1 hR1=> ?_
   replace hR1:=Z6 hR1
   rw[wpOpsIn_cons];split at hco
   ·rename_i o ho;unfold wpOpIn;simp only[ho];simp only[EL,Bool.and_eq_true,beq_iff_eq,List.all_eq_true,decide_eq_true_eq,Option.isNone_iff_eq_none] at hco;obtain⟨⟨⟨hdst,hdl⟩,hgd⟩,hop⟩:=hco;have hcz':zV K n ops ((ops.toList.drop (xs.length+1)).take zs.length) zs=true:=by
     rw[List.take_of_length_le]
     ·exact hcz
     simp only[List.length_drop,Array.length_toList,hsz];omega
    have er:List.range' (xs.length+1) zs.length=List.range' (xs.length+1) zs.length++[]:=by simp
    by_cases hwant:Region.wanted o (yielded ops a1.tmps)=true
    case neg=>
     rw[if_neg hwant];refine⟨λf _=>Mu _ f,?_⟩;cases gd with
     |none=>
      refine absurd ?_ hwant;unfold Dj at hgd;split at hgd
      ·rename_i h1 _;unfold Region.wanted;rw[h1]
      ·rename_i h1 h2;cases h2
      cases hgd
     |some sw=>
      obtain⟨s,want⟩:=sw;obtain⟨hb,_,hno⟩:=hifg;have hw:=El (o:=⟨none,some (s,want),.unsup⟩) hR1 hgd rfl (.inl hb);rw[hw,Sw hb] at hwant;have hx:∀a b:Bool,¬((a==b)=true)->a=(!b):=by decide
      have hno:=hno (hx _ _ hwant);obtain⟨hokz,hokg,hq⟩:=hno;have hR1':=hR1;obtain⟨g,hI,hS,_,_,_⟩:=hR1';have hput:=Pm (e:={val:=bR}) (v:=undef) (w':=w1) hR1 (o:=⟨d,none,.unsup⟩) hdl (λs hs=>by rw[show(OI (C3 K.E xs st)).org=(C3 K.E xs st).org from rfl,PK xs st hokx];exact hdo s hs) (by simp) ⟨g,hI,hS,by simp[Rep,bR]⟩;rw[er,hdst];exact Jh zs (xs.length+1) (z6X d (OI (C3 K.E xs st))) _ w1 hcz' hVz (by simpa[z6X] using hput) hokz λa' w' hR'=>⟨base,p,_,hz,hh,Ib gs hcold (vo keep hR') hokg,hq⟩
    have hpos:=z8s hifg λs want e hb=>by subst e;have hw:=El (o:=⟨none,some (s,want),.unsup⟩) hR1 hgd rfl (.inl hb);rw[hw,Sw hb] at hwant;simpa using hwant
    obtain⟨hp,hel,hmf,hly,hyb,hrest⟩:=hpos;rw[if_pos hwant];split at hop
    ·rename_i c hoc;simp only[Bool.and_eq_true] at hop;obtain⟨hcal,hargs⟩:=hop;split at hcal
     ·rename_i t hct;simp only[beq_iff_eq] at hcal;subst hcal;obtain⟨g,hI,hS,hO,hdf,hsz1⟩:=hR1;have hyv:a1.eval (.tmp t)= .func (.yield l) #[] #[]:=by
       have:=hS t;rw[hly] at this;simpa[Rep,Act.eval] using this
      have hvs:=C9 _ _ hmf (O3 hI hS hargs);have hargs':c.args.map a1.eval=(nE (as.map (arg K.E (OI (C3 K.E xs st)).get))).toArray:=by apply Array.toList_inj.1;rw[Array.toList_map,hvs]
      obtain⟨h0,hnow⟩:=z5o hr hh hI;rw[hp] at hnow;simp only at hnow;obtain⟨fn,tm,asg,bdy,hyr,hround⟩:=hr.round p.1 (WO g O0) w1 _ (q-1) hnow hel;refine⟨λf _=>Mu _ f,?_⟩;rw[Oper.semAt_plain (WF none) _ _ (by rw[hoc];intro c' hc';cases hc'),PX hoc hct hyv rfl,hargs',hyr,Oper.uponIn_round];refine⟨λh=>by simp[M9] at h,hround.mono λe B hB=> ?_⟩;obtain⟨k1,k2,k3,_,_,_,k4⟩:=hB;have goOn:∀b:Bool,(match(if b then(p.1+1,false) else(p.1,true):Nat×Bool).2 with|false=>J (if b then(p.1+1,false) else(p.1,true):Nat×Bool).1 (WO g O0) B|true=>Jx (WO g O0) B)->
        wpOpsIn (WF none) q K.P ops (Pn K S w0 O0 J Jx n Q) (List.range' (xs.length+1) zs.length) (a1.put o.dst (.bool b)) B:=λb hj=>by
       obtain⟨base2,hz2,hh2,hR2⟩:=P2 (p:=if b then(p.1+1,false) else(p.1,true)) hSx hg hz hI hS hO hdf hsz1 hye hyb k1 (λb hb=>k2 b (.inl hb)) k3 h0 hj hdl (λs hs=>by rw[show(OI (C3 K.E xs st)).org=(C3 K.E xs st).org from rfl,PK xs st hokx];exact hdo s hs) (v:=b);obtain⟨hokz,hokg,hq⟩:=hrest b;rw[hdst];rw[er];exact Jh zs (xs.length+1) _ _ B hcz' hVz hR2 hokz λa' w' hR'=>⟨base2,_,_,hz2,hh2,Ib gs hcold (vo keep hR') hokg,hq⟩
      rcases k4 with⟨rfl,hj⟩|⟨rfl,hj⟩
      ·exact goOn true hj
      exact goOn false hj
     cases hcal
    cases hop
   cases hco
  cases hc
 | .lean s t keep gs zs,x,Q,base,p,st,a,w,hc,hv,h,hz,hh,hR=>by
  simp only[PO] at hc;simp only[C4] at h;obtain⟨d,ds,ht,hokz,hokg,hq⟩:=h;split at hc
  ·rename_i id ops draw;simp only[Bool.and_eq_true,Bool.not_eq_true',beq_iff_eq] at hc;obtain⟨⟨⟨⟨hdraw,hsz⟩,hco⟩,hcz⟩,hcold⟩:=hc;subst hdraw;have hVz:∀z∈zs,VOk K z.op:=λz hz f hf=>hv f (by simp only[th,List.mem_flatMap];exact⟨z,hz,hf⟩);refine wpIn_region ?_;have hrange:List.range ops.size=0::(List.range' 1 zs.length++[]):=by
    rw[hsz,List.range_eq_range',List.range'_succ,List.append_nil]
   rw[hrange,wpOpsIn_cons];split at hco
   ·rename_i o ho;refine V9 hR ho hco ht λa' w' hR'=> ?_;have hcz':zV K n ops ((ops.toList.drop 1).take zs.length) zs=true:=by
     rw[List.take_of_length_le]
     ·exact hcz
     simp only[List.length_drop,Array.length_toList,hsz];omega
    exact Jh zs 1 _ _ _ hcz' hVz hR' hokz λa2 w2 hR2=>⟨base,p,_,hz,hh,Ib gs hcold (vo keep hR2) hokg,hq⟩
   cases hco
  cases hc
def Vt(w:World)(b:Nat):Nat:=match w.heap[b]? with|some (.cells c _ _)=>c.size|_=>0
theorem Tu{w:World}{b i:Nat}(h:i<Vt w b):∃x,w.cell? ⟨b,i,none⟩=some x:=by
 unfold Vt at h;unfold World.cell?;split at h
 ·rename_i c e fr hb;simp only[hb];exact⟨c[i],by simp[h]⟩
 omega
theorem XF{w:World}{b i:Nat}{x:Value}(h:w.cell? ⟨b,i,none⟩=some x):i<Vt w b:=by
 unfold World.cell? at h;unfold Vt;cases hb:w.heap[b]? with
 |none=>simp[hb] at h
 |some q=>
  cases q with
  |cells c e fr=>simp[hb] at h;exact(Array.getElem?_eq_some_iff.1 h).1
  |_=>simp[hb] at h
structure z5oa where
 nx:Nat
 ny:Nat
 body:zr
def lvS(lv:List Nat)(x:List oH):List Nat:=lv.map (· +(x.length+1))
def WB(l:Nat)(lv:List Nat)(x y:List oH):ASt:=
 {org:=(aR 0 (x++ .lit (.func (.yield l) #[] #[])::y)).filter λp=> !(lvS lv x).contains p.1
  env:=(lvS lv x).map λs=>(s,.bp s 0)
  box:=(lvS lv x).map λs=>(s,some (dg ((x++ .lit (.func (.yield l) #[] #[])::y).getD s .undef)))}
def z9na(lv:List Nat)(x:List oH)(B:Nat->Option Nat)(s:Nat):Option Nat:=if s∈lvS lv x then B (s-(x.length+1)) else none
theorem z12{K:Cx}{S:Nat->Nat}{w:World}{n l m:Nat}{lv:List Nat}{B:Nat->Option Nat}{x y:List oH}{vx vy:List Value}(hg:∀n∈K.N.gs,am K.toCon S w (K.E.T n) (K.N.gnum n) 0)(hx:ag K.toCon S w x vx)(hy:z6m K S w lv B y vy)(hn:x.length+1+y.length<=1000000)(hm:(vx++Value.func (.yield l) #[] #[]::vy).length+m=n):
  Rel K ⟨w,λb=>∃i,B i=some b,S,[],z9na lv x B⟩ n (WB l lv x y) {tmps:=(vx++Value.func (.yield l) #[] #[]::vy).toArray++Array.replicate m undef,defers:=[]} w:=by
 have hlx:=hx.len;have hly:=hy.len;obtain⟨ds,hds⟩:∃ds,ds=x++oH.lit (.func (.yield l) #[] #[])::y:=⟨_,rfl⟩;obtain⟨vs,hvs⟩:∃vs,vs=vx++Value.func (.yield l) #[] #[]::vy:=⟨_,rfl⟩;have hdl:ds.length=vs.length:=by rw[hds,hvs];simp[hlx,hly]
 have hmem:∀s,s∈lvS lv x↔∃i∈lv,s=i+(x.length+1):=λs=>by simp[lvS,eq_comm]
 have key:∀s d,ds[s]? =some d->∃v,vs[s]? =some v∧if s∈lvS lv x then∃b cs,B (s-(x.length+1))=some b∧d= .ep cs∧v= .pointer (some ⟨b,0,none⟩)∧S b=0∧b<w.heap.size∧aj cs=true∧∀(j:Nat) e,cs[j]? =some e->w.cell? ⟨b,j,none⟩=some (toV e)∧w.frozen? ⟨b,j,none⟩=false else ap K.toCon S w d v:=λs d hd=>by
  rw[hds] at hd;rcases Nat.lt_trichotomy s x.length with h|h|h
  ·rw[List.getElem?_append_left h] at hd;obtain⟨v,hv,hr⟩:=hx.get s d hd;refine⟨v,by rw[hvs,List.getElem?_append_left (by omega)];exact hv,?_⟩;rw[if_neg (λhc=>by obtain⟨i,_,e⟩:=(hmem s).1 hc;omega)];exact hr
  ·rw[List.getElem?_append_right (by omega),show s-x.length=0 by omega] at hd;simp only[List.getElem?_cons_zero,Option.some.injEq] at hd;subst hd;refine⟨.func (.yield l) #[] #[],by rw[hvs,List.getElem?_append_right (by omega),show s-vx.length=0 by omega];rfl,?_⟩;rw[if_neg (λhc=>by obtain⟨i,_,e⟩:=(hmem s).1 hc;omega)];simp[ap]
  rw[List.getElem?_append_right (by omega),show s-x.length=(s-(x.length+1))+1 by omega,List.getElem?_cons_succ] at hd;have hi:s-(x.length+1)<y.length:=(List.getElem?_eq_some_iff.1 hd).1;have hv:vy[s-(x.length+1)]? =some (vy[s-(x.length+1)]'(by omega)):=List.getElem?_eq_getElem _;have ha:=hy.at' _ _ _ hd hv;refine⟨_,by rw[hvs,List.getElem?_append_right (by omega),show s-vx.length=(s-(x.length+1))+1 by omega,List.getElem?_cons_succ];exact hv,?_⟩;have hiff:s∈lvS lv x↔s-(x.length+1)∈lv:=by
   rw[hmem];constructor
   ·rintro⟨i,h1,h2⟩;rw[show s-(x.length+1)=i by omega];exact h1
   intro h1;exact⟨_,h1,by omega⟩
  by_cases hs:s∈lvS lv x
  ·rw[if_pos hs];rw[if_pos (hiff.1 hs)] at ha;exact ha
  rw[if_neg hs];rw[if_neg (λh=>hs (hiff.2 h))] at ha;exact ha
 have hlvd:∀s,s∈lvS lv x->∃d,ds[s]? =some d:=λs hs=>by obtain⟨i,hi,e⟩:=(hmem s).1 hs;have:=hy.lt i hi;exact⟨_,List.getElem?_eq_getElem (by rw[hds];simp;omega)⟩
 have hget:∀s v,vs[s]? =some v->(vs.toArray++Array.replicate m undef).getD s undef=v:=λs v hv=>by have hs:s<vs.length:=(List.getElem?_eq_some_iff.1 hv).1;rw[Array.getD_eq_getD_getElem?,Array.getElem?_append_left (by simpa using hs)];simp[hv]
 have hBx:∀i b,B i=some b->S b=0∧b<w.heap.size:=λi b hb=>by have hi:=hy.dom i b hb;have hs:i+(x.length+1)∈lvS lv x:=(hmem _).2 ⟨i,hi,rfl⟩;obtain⟨d,hd⟩:=hlvd _ hs;obtain⟨v,_,h2⟩:=key _ d hd;rw[if_pos hs,show i+(x.length+1)-(x.length+1)=i by omega] at h2;obtain⟨b',cs,k1,_,_,k4,k5,_⟩:=h2;rw[hb] at k1;cases k1;exact⟨k4,k5⟩
 have hW:∀b,(∃i,B i=some b)->S b=0:=λb ⟨i,hi⟩=>(hBx i b hi).1;have hk:aP S w (aZ.S ⟨w,λb=>∃i,B i=some b,S,[],z9na lv x B⟩) w:=λb i z hi hc=>by refine⟨?_,hc⟩;have hb:b<w.heap.size:=World.block_lt_of_cell? w ⟨b,i,none⟩ hc;unfold aZ.S;rw[if_pos ⟨hb,λh=>by have:=hW b h;omega⟩];exact hi
 have hst:WB l lv x y={org:=(aR 0 ds).filter λp=> !(lvS lv x).contains p.1,env:=(lvS lv x).map λs=>(s,.bp s 0),box:=(lvS lv x).map λs=>(s,some (dg (ds.getD s .undef)))}:=by rw[hds];rfl
 have horg:∀s,lk (WB l lv x y).org s=if s∈lvS lv x then none else ds[s]? :=λs=>by rw[hst];show lk ((aR 0 ds).filter λp=>(λk=> !(lvS lv x).contains k) p.1) s=_;rw[tz (λk=> !(lvS lv x).contains k),LC];by_cases h:s∈lvS lv x<;>simp[h]
 have henv:∀s,lk (WB l lv x y).env s=if s∈lvS lv x then some (.bp s 0) else none:=λs=>by rw[hst];exact FU (λs=>oH.bp s 0) s _
 have hbox:∀s,(WB l lv x y).getB s=if s∈lvS lv x then some (dg (ds.getD s .undef)) else none:=λs=>by rw[hst];show(lk ((lvS lv x).map λs=>(s,some (dg (ds.getD s .undef)))) s).join=_;rw[FU λs=>some (dg (ds.getD s .undef))];split<;>rfl
 rw[<-hvs];have live:∀s,s∈lvS lv x->∃b cs,B (s-(x.length+1))=some b∧ds.getD s .undef= .ep cs∧vs[s]? =some (.pointer (some ⟨b,0,none⟩))∧S b=0∧b<w.heap.size∧aj cs=true∧∀(j:Nat) e,cs[j]? =some e->w.cell? ⟨b,j,none⟩=some (toV e)∧w.frozen? ⟨b,j,none⟩=false:=λs hs=>by obtain⟨d,hd⟩:=hlvd s hs;obtain⟨v,hv,h2⟩:=key s d hd;rw[if_pos hs] at h2;obtain⟨b,cs,k1,k2,k3,k4,k5,k6,k7⟩:=h2;exact⟨b,cs,k1,by rw[List.getD_eq_getElem?_getD,hd,k2];rfl,by rw[hv,k3],k4,k5,k6,k7⟩
 refine⟨⟨S,λ_=>none,λs=>if s∈lvS lv x then B (s-(x.length+1)) else none⟩,⟨Fr.refl _ _ _,λ_ _ _=>rfl,λi j b hi hj=> ?_,λid cs hc=> ?_,λid hid=> ?_,λid b hb=> ?_,λ_ _ h=>(by cases h),hg,aP.refl _ _,λid b cs ho hb _ _=> ?_,λ_ _ _ _ h=>h⟩,λs=> ?_,λs d hs=> ?_,rfl,by rw[hvs];simp only[List.size_toArray,Array.size_append,Array.size_replicate];exact hm⟩
 ·simp only at hi hj;split at hi
  ·rename_i h1;split at hj
   ·rename_i h2;have:=hy.inj _ _ b hi hj;obtain⟨i',_,e1⟩:=(hmem i).1 h1;obtain⟨j',_,e2⟩:=(hmem j).1 h2;omega
   cases hj
  cases hi
 ·rw[hbox] at hc;split at hc
  ·rename_i hs;obtain⟨b,cs',k1,k2,_,k4,_,k6,k7⟩:=live id hs;rw[k2] at hc;simp only[dg,Option.some.injEq] at hc;subst hc;refine⟨b,by simp only[if_pos hs];exact k1,k4,λj e he=> ?_⟩;obtain⟨c1,c2⟩:=k7 j e he;have hme:aC e=true:=by
    have:∀(cs:List oH) (j:Nat),aj cs=true->cs[j]? =some e->aC e=true:=λcs=>by
     induction cs with
     |nil=>intro j _ h;simp at h
     |cons c cs ih=>
      intro j hm hd;simp only[aj,Bool.and_eq_true] at hm;cases j with
      |zero=>simp at hd;subst hd;exact hm.1
      |succ j=>exact ih j hm.2 (by simpa using hd)
    exact this _ j k6 he
   exact⟨⟨_,c1,J2 e _ hme⟩,c2⟩
  cases hc
 ·rw[hbox] at hid;split at hid
  ·cases hid
  rename_i hs;simp only[if_neg hs]
 ·simp only at hb;split at hb
  ·exact⟨.inr ⟨_,hb⟩,(hBx _ b hb).2,rfl⟩
  cases hb
 ·simp only at hb;split at hb
  ·rename_i hs;obtain⟨d,hd⟩:=hlvd id hs;have:=(List.getElem?_eq_some_iff.1 hd).1;rw[hds] at this;simp at this;omega
  cases hb
 ·unfold ASt.get;rw[henv,horg];by_cases hs:s∈lvS lv x
  ·rw[if_pos hs];obtain⟨b,cs,k1,_,k3,_⟩:=live s hs;simp only[Rep,if_pos hs];exact⟨b,k1,hget s _ k3⟩
  rw[if_neg hs,if_neg hs];cases hd:ds[s]? with
  |none=>simp[Abs.dem,Rep]
  |some d=>obtain⟨v,hv,h2⟩:=key s d hd;rw[if_neg hs] at h2;rw[hget s v hv];exact ap.dem (g:=⟨S,_,_⟩) _ h2
 rw[horg] at hs;split at hs
 ·cases hs
 rename_i hn';obtain⟨v,hv,h2⟩:=key s d hs;rw[if_neg hn'] at h2;rw[hget s v hv];exact ap.mono hk d v h2
def itQ(el:Nat->Option (List oH)):IQ
 | .normal,p,_| .ret,p,_=>p.2=true∨el p.1=none
 |_,_,_=>False
def WH(K:Cx)(F:z5oa)(fn:Func):Bool:=
 !(fn.name== "runtime.NumGoroutine")&&(match fn.body with|some c=>PO K fn.ntmps F.body c|none=>false)&&(fn.results.size==0)&&decide (F.nx+1+F.ny≤fn.ntmps∧F.nx+1+F.ny≤1000000)
theorem L8{f:Nat}{fn:Func}{F:z5oa}{c:ItC}(hf:K.P.funcs[K.nu f]? =some fn)(hc:WH K F fn=true)(hv:∀p∈th F.body,VB K p)
  (h:∀x y l,c.pre x y->x.length=F.nx∧y.length=F.ny∧C4 K.E l (c.el x y) F.body (itQ (c.el x y)) (0,false) (WB l c.lv x y)):uu K f c:=by
 simp only[WH,Bool.and_eq_true,Bool.not_eq_true',decide_eq_true_eq,beq_iff_eq] at hc;obtain⟨⟨⟨hname,hbody⟩,hres⟩,hsz⟩:=hc;cases hb:fn.body with
 |none=>rw[hb] at hbody;cases hbody
 |some code=>
  rw[hb] at hbody;simp only at hbody;refine⟨⟨fn,hf,by rw[hb];rfl,hname⟩,λS w x y vx vy B hg hx hy hpre l J Jx N hr=> ?_⟩;obtain⟨hlx,hly,hw⟩:=h x y l hpre;obtain⟨S1,hS1⟩:∃S1:Nat->Nat,S1=λb=>min (S b) (Vt w b):=⟨_,rfl⟩;have hk1:aP S w S1 w:=λb i v hi hcell=>⟨by rw[hS1];exact Nat.lt_min.2 ⟨hi,XF hcell⟩,hcell⟩;have hle:∀b,S1 b<=S b:=λb=>by rw[hS1];exact Nat.min_le_left _ _
  have hSx:∀b i,i<S1 b->∃x,w.cell? ⟨b,i,none⟩=some x:=λb i hi=>by rw[hS1] at hi;exact Tu (Nat.lt_min.1 hi).2
  have hr1:Ny K S1 (c.el x y) l J Jx N (λb=>∃i,B i=some b) w:=by refine⟨hr.start,hr.bound,hr.stab,hr.stabx,λi O A xs q hj hel=> ?_⟩;obtain⟨fn',tm,asg,bdy,h1,h2⟩:=hr.round i O A xs q hj hel;exact⟨fn',tm,asg,bdy,h1,h2.mono λe B ⟨k1,k2⟩=>⟨λb i v hi hcell=>⟨hi,(k1 b i v (Nat.lt_of_lt_of_le hi (hle b)) hcell).2⟩,k2⟩⟩
  have hg1:∀m∈K.N.gs,am K.toCon S1 w (K.E.T m) (K.N.gnum m) 0:=λm hm=>am.mono hk1 _ _ _ (hg m hm);have hz0:∀i b,B i=some b->S1 b=0:=λi b hb=>by have hi:=hy.dom i b hb;have hil:=hy.lt i hi;have:=hy.at' i y[i] (vy[i]'(by rw[<-hy.len];exact hil)) (List.getElem?_eq_getElem hil) (List.getElem?_eq_getElem _);rw[if_pos hi] at this;obtain⟨b',_,k1,_,_,k4,_⟩:=this;rw[hb] at k1;cases k1;have:=hle b;omega
  have hy1:z6m K S1 w c.lv B y vy:=hy.keep hk1 hz0 (Nat.le_refl _) (λ_ _ _=>rfl);have hx1:=ag.mono hk1 _ _ hx;have hlen1:=hx1.len;have hlen2:=hy1.len;refine callsIn_wide.1 (callsIn_of_wp_marks (F:=WF none) (n:=0) hf hb (Mu none _) ?_);have hR:=z12 (n:=fn.ntmps) (l:=l) (m:=fn.ntmps-(vx++Value.func (.yield l) #[] #[]::vy).length) hg1 hx1 hy1 (by omega) (by simp only[List.length_append,List.length_cons];omega);simp only[List.size_toArray];have hz:Zi S1 w ⟨w,λb=>∃i,B i=some b,S1,[],z9na c.lv x B⟩:=by
   refine⟨λb h=> .inr (by obtain⟨i,hi⟩:=h;exact hz0 i b hi),Nat.le_refl _,λb i v hi hcell=>⟨?_,hcell⟩,λb=> ?_,rfl⟩
   ·unfold aZ.S;rw[if_pos ⟨World.block_lt_of_cell? w ⟨b,i,none⟩ hcell,λh=>by obtain⟨j,hj⟩:=h;have:=hz0 j b hj;omega⟩];exact hi
   unfold aZ.S;split
   ·exact Nat.le_refl _
   omega
  have hh:HyI (λb=>∃i,B i=some b) J Jx ⟨w,λb=>∃i,B i=some b,S1,[],z9na c.lv x B⟩ (0,false):=⟨λb=>∃i,B i=some b,λ_ h _=>h,λb hb=>⟨hb,by
   obtain⟨i,hi⟩:=hb;have hm:=hy.dom i b hi;have hil:=hy.lt i hm;have:=hy.at' i y[i] (vy[i]'(by rw[<-hy.len];exact hil)) (List.getElem?_eq_getElem hil) (List.getElem?_eq_getElem _);rw[if_pos hm] at this;obtain⟨b',_,k1,_,_,_,k5,_⟩:=this;rw[hi] at k1;cases k1;exact k5⟩,hr.start⟩
  have hwp:=AM (q:=0) hr1 hSx hg1 F.body code _ _ _ _ _ w hbody hv hw hz hh hR;refine wpIn_mono hwp λe a' w' hl=> ?_;have fin:∀(base:aZ) (p:Nat×Bool) (st:ASt),Zi S1 w base->HyI (λb=>∃i,B i=some b) J Jx base p->Rel K base fn.ntmps st a' w'->(p.2=true∨c.el x y p.1=none)->
    LeavesInM (WF none) 0 K.P fn a'.tmps (λe B'=>∃v,e=Ending.returned v∧∃O,(∀b,(∃i,B i=some b)->O b)∧((∃i,c.el x y i=none∧J i O B')∨Jx O B')) a'.defers .returning w':=λbase p st hz' hh' hR' hq=>by
   obtain⟨g,hI,_,_,hd,_⟩:=hR';obtain⟨_,hnow⟩:=z5o hr1 hh' hI;rw[hd,hz'.dl];have hre:fn.results= #[]:=Array.eq_empty_of_size_eq_zero hres;refine⟨.tuple #[],?_,_,rfl,WO g (λb=>∃i,B i=some b),λb hb=> .inr hb,?_⟩
   ·have:results fn a'.tmps=(do
     let vs<-fn.results.mapM (zX a'.tmps)
     pure (if h:vs.size=1 then vs[0] else .tuple vs)):=rfl
    rw[this,hre];simp[Sem.run_bind,Sem.run_pure]
   obtain⟨i,s⟩:=p;cases s with
   |true=>exact .inr hnow
   |false=>exact .inl ⟨i,hq.resolve_left (by simp),hnow⟩
  cases e<;>simp only[Pn] at hl<;>simp only[bodyPostM]
  ·obtain⟨b',p',st',hz',hh',hR',hq⟩:=hl;exact fin b' p' st' hz' hh' hR' hq
  ·obtain⟨b',p',st',hz',hh',hR',hq⟩:=hl;exact hq
  obtain⟨b',p',st',hz',hh',hR',hq⟩:=hl;exact fin b' p' st' hz' hh' hR' hq
end
end Go.Abs