/- Lemmas. -/
import Derived.Test.YtiehmnjjlbndlaaGreatDoorF
set_option linter.all false
namespace Go.Abs
def bF(n:Nat):List UInt8:=List.replicate n 0
def qG(n:Nat):List UInt32:=List.replicate n 0
@[simp] theorem ff(n:Nat):(bF n).length=n:=by simp[bF]
@[simp] theorem Xi(n:Nat):(qG n).length=n:=by simp[qG]
@[simp] theorem SD(l:List UInt8):(bys l).length=l.length:=by simp[bys]
@[simp] theorem hJ(l:List UInt32):(bg l).length=l.length:=by simp[bg]
@[simp] theorem ov:bys []=[]:=rfl
@[simp] theorem me:bg []=[]:=rfl
theorem sP(l m:List UInt8):bys (l++m)=bys l++bys m:=by simp[bys]
theorem oG(l m:List UInt8):bys l++bys m=bys (l++m):=(sP l m).symm
theorem oF(l:List UInt8)(x:UInt8):bys l++[u8 x]=bys (l++[x]):=by simp[bys]
@[simp] theorem mz(l:List UInt8)(n:Nat):(bys l).take n=bys (l.take n):=by simp[bys]
@[simp] theorem mE(l:List UInt8)(n:Nat):(bys l).drop n=bys (l.drop n):=by simp[bys]
@[simp] theorem lN(l:List UInt8):(bys l).tail=bys l.tail:=by cases l<;>rfl
@[simp] theorem nP(l:List UInt8):Ia l=bys l:=rfl
theorem FX{P:oH->Prop}{l:List UInt8}(h:∀x,P (u8 x)):∀c∈bys l,P c:=λc hc=>by simp only[bys,List.mem_map] at hc;obtain⟨x,_,rfl⟩:=hc;exact h x
theorem br{P:oH->Prop}{l:List UInt32}(h:∀x,P (u32 x)):∀c∈bg l,P c:=λc hc=>by simp only[bg,List.mem_map] at hc;obtain⟨x,_,rfl⟩:=hc;exact h x
@[simp] theorem lK(l:List UInt8):(∀c∈bys l,ah c)↔True:=iff_true_intro (FX (by simp))
@[simp] theorem n9(l:List UInt8):(∀c∈bys l,ao c=false)↔True:=iff_true_intro (FX (by simp))
@[simp] theorem mB(l:List UInt8):(∀c∈bys l,ak c=true)↔True:=iff_true_intro (FX (by simp))
@[simp] theorem Xs(l:List UInt8):(∀c∈bys l,ak c=true∧ah c)↔True:=iff_true_intro (FX (by simp))
@[simp] theorem z2n(l:List UInt8):(∀c∈bys l,ah c∧ao c=false)↔True:=iff_true_intro (FX (by simp))
@[simp] theorem my(l:List UInt8):(∀c∈bys l,z5E .u8 c)↔True:=iff_true_intro (FX (by simp))
@[simp] theorem ka(l:List UInt32):(∀c∈bg l,ah c)↔True:=iff_true_intro (br (by simp))
@[simp] theorem z3la(l:List UInt32):(∀c∈bg l,ao c=false)↔True:=iff_true_intro (br (by simp))
@[simp] theorem ke(l:List UInt32):(∀c∈bg l,ak c=true)↔True:=iff_true_intro (br (by simp))
theorem bN{l:List oH}(h:∀c∈l,ak c=true):au l=true:=(bE l).2 h
@[simp] theorem kd(l:List UInt8):au (bys l)=true:=bN (FX (by simp))
@[simp] theorem iM(l:List UInt32):au (bg l)=true:=bN (br (by simp))
attribute [simp] cq
@[simp] theorem dn(l m:List oH):aj (l++m)=(aj l&&aj m):=by induction l<;>simp_all [aj,Bool.and_assoc]
@[simp] theorem fv(l:List UInt8):aj (bys l)=true:=by induction l<;>simp_all [bys,aj]
@[simp] theorem XU(l:List UInt32):aj (bg l)=true:=by induction l<;>simp_all [bg,aj]
attribute [simp] Eu
@[simp] theorem z7Y(l:List UInt8):pT (bys l)=[]:=by induction l<;>simp_all [bys,pT]
@[simp] theorem iK(l:List UInt32):pT (bg l)=[]:=by induction l<;>simp_all [bg,pT]
@[simp] theorem iZ(x y:UInt8):aE .sub (u8 x) (u8 y)=u8 (x-y):=be (by
 show IntKind.u8.wrap ((x.toNat:Int)-y.toNat)=_;rw[UInt8.toNat_sub];have:=x.toNat_lt;have:=y.toNat_lt;unfold IntKind.wrap IntKind.bits IntKind.signed;simp only[Bool.false_and,Bool.false_eq_true,if_false];omega)
@[simp] theorem io(x y:UInt8):aE .quo (u8 x) (u8 y)=u8 (x/y):=be (by
 show IntKind.u8.wrap ((x.toNat:Int).tdiv y.toNat)=_;rw[Int.tdiv_eq_ediv_of_nonneg (by omega),<-Int.natCast_ediv,bA,UInt8.toNat_div,Nat.mod_eq_of_lt];exact Nat.lt_of_le_of_lt (Nat.div_le_self _ _) x.toNat_lt)
@[simp] theorem iw(x y:UInt8):aE .rem (u8 x) (u8 y)=u8 (x% y):=be (by
 show((x.toNat:Int).tmod y.toNat)=_;rw[UInt8.toNat_mod];rfl)
@[simp] theorem fD(x y:UInt8):oV .quo (u8 x) (u8 y)=(y≠0):=by simp only[oV,u8,true_and,ne_eq,Int.natCast_eq_zero,<-UInt8.toNat_inj];rfl
@[simp] theorem fx(x y:UInt8):oV .rem (u8 x) (u8 y)=(y≠0):=by simp only[oV,u8,true_and,ne_eq,Int.natCast_eq_zero,<-UInt8.toNat_inj];rfl
@[simp] theorem jh(x y:UInt8):aE .lss (u8 x) (u8 y)=bo (decide (x<y)):=by show oH.lit (.bool (decide ((x.toNat:Int)<y.toNat)))= .lit (.bool _);congr 2;simp[UInt8.lt_iff_toNat_lt]
@[simp] theorem iL(x y:UInt8):aE .gtr (u8 x) (u8 y)=bo (decide (y<x)):=by show oH.lit (.bool (decide ((x.toNat:Int)>y.toNat)))= .lit (.bool _);congr 2;simp[UInt8.lt_iff_toNat_lt]
@[simp] theorem z1w(x y:UInt64):aE .neq (u64 x) (u64 y)=bo (x !=y):=by show oH.lit (.bool ((x.toNat:Int) !=y.toNat))= .lit (.bool _);congr 2;rw[Bool.eq_iff_iff];simp only[beq_iff_eq,bne_iff_ne,ne_eq,<-UInt64.toNat_inj];omega
def z7j(x y:Int):Int:=W (BitVec.ofInt 64 x&&&BitVec.ofInt 64 y).toNat
@[simp] theorem z8C(x y:Int):aE .and (i64 x) (i64 y)=i64 (z7j x y):=rfl
theorem dT{p:Prop}[Decidable p](h:p):decide p=true:=decide_eq_true h
theorem dF{p:Prop}[Decidable p](h:¬p):decide p=false:=decide_eq_false h
@[simp] theorem jQ:dem .undef= .undef:=rfl
@[simp] theorem dem_mp(m:List (List UInt8×List UInt8)):dem (.mp m)= .undef:=rfl
@[simp] theorem kR(m:List (List UInt8×List UInt8)):ah (.mp m)=True:=rfl
@[simp] theorem z8pa(m:List (List UInt8×List UInt8)):ak (.mp m)=true:=rfl
@[simp] theorem nh(m:List (List UInt8×List UInt8)):aF (.mp m)=[]:=rfl
@[simp] theorem jr(m:List (List UInt8×List UInt8)):ao (.mp m)=true:=rfl
@[simp] theorem ren_mp(r:List (Nat×Nat))(m:List (List UInt8×List UInt8)):Abs.ren r (.mp m)= .mp m:=rfl
@[simp] theorem dem_pv(e n:Nat)(cs:List oH):dem (.pv none e n cs)= .undef:=rfl
@[simp] theorem nz(q:Option Addr)(c e n:Nat)(cs:List oH):dem (.pv (some (q,c)) e n cs)= .lit (.slice q n c):=rfl
@[simp] theorem mH(o:Option (Option Addr×Nat))(e n:Nat)(cs:List oH):ak (.pv o e n cs)=true:=rfl
@[simp] theorem nV(o:Option (Option Addr×Nat))(e n:Nat)(cs:List oH):aF (.pv o e n cs)=[]:=rfl
@[simp] theorem pvN_pv(o:Option (Option Addr×Nat))(e n:Nat)(cs:List oH):pvN (.pv o e n cs)=n:=rfl
@[simp] theorem pvC_pv(o:Option (Option Addr×Nat))(e n:Nat)(cs:List oH):pvC (.pv o e n cs)=cs:=rfl
@[simp] theorem pvN_sl(m:cH)(nl:Option Bool)(n:Nat)(cs:List oH):pvN (.sl m nl n cs)=0:=rfl
@[simp] theorem pvC_sl(m:cH)(nl:Option Bool)(n:Nat)(cs:List oH):pvC (.sl m nl n cs)=[]:=rfl
@[simp] theorem mr(q:Option Addr)(n c:Nat):bc (.lit (.slice q n c))=n:=rfl
@[simp] theorem mc(q:Option Addr)(n c:Nat):z1m (.lit (.slice q n c))=True:=rfl
@[simp] theorem z5Aa(cs:List oH):dem (.agg cs)= .agg cs:=rfl
@[simp] theorem nO(cs:List oH):dem (.tup cs)= .tup cs:=rfl
@[simp] theorem lS(e:Nat)(nl:Option Bool)(n:Nat)(cs rest:List oH):dem (.otup e nl n cs rest)= .tup (.sl .plain nl n cs::rest):=rfl
@[simp] theorem iO(e:Nat)(nl:Option Bool)(n:Nat)(cs rest:List oH):ak (.otup e nl n cs rest)=au rest:=rfl
@[simp] theorem mj(m:List (List UInt8×List UInt8))(rest:List oH):dem (.oagg m rest)= .agg (.undef::rest):=rfl
@[simp] theorem jH(m:List (List UInt8×List UInt8))(rest:List oH):aF (.oagg m rest)=pT rest:=rfl
@[simp] theorem kP(e:Nat)(nl:Option Bool)(n:Nat)(cs rest:List oH):aF (.otup e nl n cs rest)=pT rest:=rfl
@[simp] theorem dem_bp(i o:Nat):dem (.bp i o)= .bp i o:=rfl
@[simp] theorem dem_bv(i e o n c:Nat):dem (.bv i e o n c)= .bv i e o n c:=rfl
@[simp] theorem dem_ep(cs:List oH):dem (.ep cs)= .ep cs:=rfl
@[simp] theorem dem_fn(f:Nat)(x y:List oH):dem (.fn f x y)= .fn f x y:=rfl
@[simp] theorem mZ(v:Value):dem (.lit v)= .lit v:=rfl
@[simp] theorem m8(e:Nat)(nl:Option Bool)(n:Nat)(cs:List oH):dem (.sl (.own e) nl n cs)= .sl .plain nl n cs:=rfl
@[simp] theorem j0(nl:Option Bool)(n:Nat)(cs:List oH):dem (.sl .plain nl n cs)= .sl .plain nl n cs:=rfl
@[simp] theorem mI(nl:Option Bool)(n:Nat)(cs:List oH):dem (.sl .clip nl n cs)= .sl .clip nl n cs:=rfl
@[simp] theorem iS(cs:List oH):ah (.agg cs)=False:=rfl
@[simp] theorem z17(m:cH)(nl:Option Bool)(n:Nat)(cs:List oH):ah (.sl m nl n cs)=True:=rfl
@[simp] theorem z3ja(i o:Nat):ah (.bp i o)=True:=rfl
@[simp] theorem z70(i e o n c:Nat):ah (.bv i e o n c)=True:=rfl
@[simp] theorem kX(f:Nat)(x y:List oH):ah (.fn f x y)=True:=rfl
@[simp] theorem ko(cs:List oH):ah (.ep cs)=True:=rfl
@[simp] theorem jf:ah (.lit (.slice none 0 0))=True:=rfl
@[simp] theorem kl(cs:List oH):ak (.agg cs)=au cs:=rfl
@[simp] theorem jA(cs:List oH):ak (.tup cs)=au cs:=rfl
@[simp] theorem lH(m:cH)(nl:Option Bool)(n:Nat)(cs:List oH):ak (.sl m nl n cs)=true:=by cases m<;>rfl
@[simp] theorem mL(cs:List oH):ak (.ep cs)=true:=rfl
@[simp] theorem lY(i o:Nat):ak (.bp i o)=false:=rfl
@[simp] theorem mm(i e o n c:Nat):ak (.bv i e o n c)=false:=rfl
@[simp] theorem mC(f:Nat)(x y:List oH):ak (.fn f x y)=(au x&&au y):=rfl
@[simp] theorem jX:ak (.lit (.slice none 0 0))=true:=rfl
@[simp] theorem fT(cs:List oH):aC (.agg cs)=aj cs:=rfl
@[simp] theorem hU(cs:List oH):aC (.tup cs)=aj cs:=rfl
@[simp] theorem gZ:aC (.lit (.slice none 0 0))=true:=rfl
@[simp] theorem iI(m:cH)(nl:Option Bool)(n:Nat)(cs:List oH):aC (.sl m nl n cs)=false:=by cases m<;>rfl
@[simp] theorem lW(cs:List oH):aF (.agg cs)=pT cs:=rfl
@[simp] theorem lP(cs:List oH):aF (.tup cs)=pT cs:=rfl
@[simp] theorem ni(m:cH)(nl:Option Bool)(n:Nat)(cs:List oH):aF (.sl m nl n cs)=[]:=by cases m<;>rfl
@[simp] theorem om(i o:Nat):aF (.bp i o)=[i]:=rfl
@[simp] theorem z4ra(i e o n c:Nat):aF (.bv i e o n c)=[i]:=rfl
@[simp] theorem nw(cs:List oH):aF (.ep cs)=[]:=rfl
@[simp] theorem nt(f:Nat)(x y:List oH):aF (.fn f x y)=pT x++pT y:=rfl
@[simp] theorem ix:aF .undef=[]:=rfl
@[simp] theorem l8(v:Value):aF (.lit v)=[]:=rfl
@[simp] theorem z6R(e:Nat)(nl:Option Bool)(n:Nat)(cs:List oH):ao (.sl (.own e) nl n cs)=true:=rfl
@[simp] theorem fF(nl:Option Bool)(n:Nat)(cs:List oH):ao (.sl .plain nl n cs)=false:=rfl
@[simp] theorem z9I(nl:Option Bool)(n:Nat)(cs:List oH):ao (.sl .clip nl n cs)=false:=rfl
@[simp] theorem kY(i o:Nat):ao (.bp i o)=false:=rfl
@[simp] theorem z84(i e o n c:Nat):ao (.bv i e o n c)=false:=rfl
@[simp] theorem ii(cs:List oH):aA (.agg cs)=cs:=rfl
@[simp] theorem jv(m:cH)(nl:Option Bool)(n:Nat)(cs:List oH):aA (.sl m nl n cs)=[.sl m nl n cs]:=rfl
@[simp] theorem iy:aA (.lit (.slice none 0 0))=[.lit (.slice none 0 0)]:=rfl
@[simp] theorem jU(i o:Nat):aA (.bp i o)=[.bp i o]:=rfl
@[simp] theorem jx(f:Nat)(x y:List oH):aA (.fn f x y)=[.fn f x y]:=rfl
@[simp] theorem nL(m:cH)(nl:Option Bool)(n:Nat)(cs:List oH):bc (.sl m nl n cs)=n:=rfl
@[simp] theorem nK(i e o n c:Nat):bc (.bv i e o n c)=n:=rfl
@[simp] theorem lw:bc (.lit (.slice none 0 0))=0:=rfl
@[simp] theorem jW(bx:List oH)(m:cH)(nl:Option Bool)(n:Nat)(cs:List oH):az bx (.sl m nl n cs)=cs:=rfl
@[simp] theorem kB(bx:List oH)(i e o n c:Nat):az bx (.bv i e o n c)=(bx.drop o).take (n*e):=rfl
@[simp] theorem ig(bx:List oH):az bx (.lit (.slice none 0 0))=[]:=rfl
@[simp] theorem z8Aa(m:cH)(nl:Option Bool)(n:Nat)(cs:List oH):z1m (.sl m nl n cs)=True:=rfl
@[simp] theorem z4va(i e o n c:Nat):z1m (.bv i e o n c)=True:=rfl
@[simp] theorem lI:z1m (.lit (.slice none 0 0))=True:=rfl
@[simp] theorem okS_sl(esz:Nat)(b:Option Nat)(bx:Option (List oH))(m:cH)(nl:Option Bool)(n:Nat)(cs:List oH):okS esz b bx (.sl m nl n cs)=(cs.length=n*esz):=rfl
@[simp] theorem okS_bv(esz:Nat)(b:Option Nat)(bx:Option (List oH))(i e o n c:Nat):okS esz b bx (.bv i e o n c)=(b=some i∧e=esz∧(∃cs,bx=some cs∧o+n*e<=cs.length)):=rfl
@[simp] theorem nN(esz:Nat)(b:Option Nat)(bx:Option (List oH)):okS esz b bx (.lit (.slice none 0 0))=True:=rfl
@[simp] theorem mN(f:Nat->Option (List oH))(b:Option Nat)(n i o:Nat):cA f b n (.bp i o)=(b=some i∧∃cs,f i=some cs∧o+n<=cs.length):=rfl
@[simp] theorem z7pa(f:Nat->Option (List oH))(b:Option Nat)(n:Nat)(cs:List oH):cA f b n (.ep cs)=(b=none∧n<=cs.length):=rfl
@[simp] theorem z5G(f:Nat->Option (List oH))(b:Option Nat)(i o:Nat):aL f b (.bp i o)=(bxl f b).drop o:=rfl
@[simp] theorem z7O(f:Nat->Option (List oH))(b:Option Nat)(cs:List oH):aL f b (.ep cs)=cs:=rfl
@[simp] theorem z0C(v:oH):cN none v=[dem v]:=rfl
@[simp] theorem f7(n:Nat)(v:oH):cN (some n) v=aA v:=rfl
@[simp] theorem lz(v:oH):isK none v=ah v:=rfl
@[simp] theorem mJ(n:Nat)(cs:List oH):isK (some n) (.agg cs)=(cs.length=n∧(∀c∈cs,ah c)∧(∀c∈cs,ao c=false)):=rfl
@[simp] theorem ju(f:Nat)(x y as:List oH):xX (.fn f x y) as=x++as++y:=rfl
@[simp] theorem ku(f:Nat->List oH)(x:UInt8):bV f (u8 x)=u8 x:=rfl
@[simp] theorem z9ma(f:Nat->List oH)(x:UInt8):aS f (u8 x)=u8 x:=rfl
@[simp] theorem z5da(f:Nat->List oH)(x:UInt32):aS f (u32 x)=u32 x:=rfl
@[simp] theorem kC(f:Nat->List oH)(x:UInt64):aS f (u64 x)=u64 x:=rfl
@[simp] theorem jV(f:Nat->List oH)(x:Int):aS f (i64 x)=i64 x:=rfl
@[simp] theorem lM(f:Nat->List oH)(x:Bool):aS f (bo x)=bo x:=rfl
@[simp] theorem mK(f:Nat->List oH)(x:List UInt8):aS f (st x)=st x:=rfl
@[simp] theorem z6Z(f:Nat->List oH)(x:List oH):aS f (.agg x)= .agg x:=rfl
@[simp] theorem z8ga(f:Nat->List oH):aS f (.lit (.slice none 0 0))= .sl .plain (some true) 0 []:=rfl
@[simp] theorem kD(f:Nat->List oH)(e:Nat)(nl:Option Bool)(n:Nat)(cs:List oH):aS f (.sl (.own e) nl n cs)= .sl .plain nl n cs:=rfl
@[simp] theorem z6K(f:Nat->List oH)(nl:Option Bool)(n:Nat)(cs:List oH):aS f (.sl .plain nl n cs)= .sl .plain nl n cs:=rfl
@[simp] theorem it(f:Nat->List oH)(nl:Option Bool)(n:Nat)(cs:List oH):aS f (.sl .clip nl n cs)= .sl .plain nl n cs:=rfl
@[simp] theorem mP(f:Nat->List oH)(i o:Nat):aS f (.bp i o)= .ep ((f i).drop o):=rfl
@[simp] theorem mb(f:Nat->List oH)(i e o n c:Nat):aS f (.bv i e o n c)= .sl .plain (some false) n (((f i).drop o).take (n*e)):=rfl
@[simp] theorem z6ma(f:Nat->List oH)(cs:List oH):aS f (.ep cs)= .ep cs:=rfl
@[simp] theorem lO(f:Nat->List oH)(g:Nat)(x y:List oH):aS f (.fn g x y)= .fn g (x.map (bV f)) (y.map (bV f)):=rfl
@[simp] theorem z7ka(bs:List Nat)(f:Nat->Option (List oH))(x:UInt8):aG bs f (u8 x)=True:=by simp[aG,aU,u8,ak]
@[simp] theorem jI(bs:List Nat)(f:Nat->Option (List oH))(x:UInt32):aG bs f (u32 x)=True:=by simp[aG,aU,u32,ak]
@[simp] theorem jD(bs:List Nat)(f:Nat->Option (List oH))(x:UInt64):aG bs f (u64 x)=True:=by simp[aG,aU,u64,ak]
@[simp] theorem kz(bs:List Nat)(f:Nat->Option (List oH))(x:Int):aG bs f (i64 x)=True:=by simp[aG,aU,i64,ak]
@[simp] theorem mO(bs:List Nat)(f:Nat->Option (List oH))(x:Bool):aG bs f (bo x)=True:=by simp[aG,aU,bo,ak]
@[simp] theorem lF(bs:List Nat)(f:Nat->Option (List oH))(x:List UInt8):aG bs f (st x)=True:=by simp[aG,aU,st,ak]
@[simp] theorem kH(bs:List Nat)(f:Nat->Option (List oH))(x:List oH):aG bs f (.agg x)=(au x=true):=rfl
@[simp] theorem lU(bs:List Nat)(f:Nat->Option (List oH))(m:cH)(nl:Option Bool)(n:Nat)(cs:List oH):aG bs f (.sl m nl n cs)=True:=by simp[aG,aU]
@[simp] theorem z6V(bs:List Nat)(f:Nat->Option (List oH)):aG bs f (.lit (.slice none 0 0))=True:=by simp[aG,aU]
@[simp] theorem lL(bs:List Nat)(f:Nat->Option (List oH))(i o:Nat):aG bs f (.bp i o)=(i∈bs∧∃cs,f i=some cs∧o<=cs.length):=rfl
@[simp] theorem mF(bs:List Nat)(f:Nat->Option (List oH))(i e o n c:Nat):aG bs f (.bv i e o n c)=(i∈bs∧∃cs,f i=some cs∧o+n*e<=cs.length):=rfl
@[simp] theorem lV(bs:List Nat)(f:Nat->Option (List oH))(cs:List oH):aG bs f (.ep cs)=True:=by simp[aG,aU]
@[simp] theorem z8O(x:UInt32)(n:Int):oV .shr (u32 x) (i64 n)=(0<=n):=rfl
@[simp] theorem fW(x:UInt32)(n:Int):oV .shl (u32 x) (i64 n)=(0<=n):=rfl
@[simp] theorem gi(x:UInt64)(n:Int):oV .shr (u64 x) (i64 n)=(0<=n):=rfl
@[simp] theorem z4Q(x:UInt64)(n:Int):oV .shl (u64 x) (i64 n)=(0<=n):=rfl
@[simp] theorem z5n(x:UInt32)(n:UInt64):oV .shr (u32 x) (u64 n)=True:=by simp[oV,u32,u64]
@[simp] theorem z6l(x:UInt32)(n:UInt64):oV .shl (u32 x) (u64 n)=True:=by simp[oV,u32,u64]
@[simp] theorem fi(x:UInt64)(n:UInt64):oV .shr (u64 x) (u64 n)=True:=by simp[oV,u64]
@[simp] theorem fM(x:UInt64)(n:UInt64):oV .shl (u64 x) (u64 n)=True:=by simp[oV,u64]
@[simp] theorem kN(x y:Int):oV .quo (i64 x) (i64 y)=(y≠0):=by simp[oV,i64]
@[simp] theorem jP(x y:Int):oV .rem (i64 x) (i64 y)=(y≠0):=by simp[oV,i64]
@[simp] theorem z7r(x y:UInt64):oV .rem (u64 x) (u64 y)=(y≠0):=by simp only[oV,u64,true_and,ne_eq,Int.natCast_eq_zero,<-UInt64.toNat_inj];rfl
@[simp] theorem fC(x y:UInt8):oV .add (u8 x) (u8 y)=True:=by simp[oV,u8]
@[simp] theorem Zm(x y:UInt32):oV .add (u32 x) (u32 y)=True:=by simp[oV,u32]
@[simp] theorem Za(x y:UInt64):oV .add (u64 x) (u64 y)=True:=by simp[oV,u64]
@[simp] theorem Ze(x y:Int):oV .add (i64 x) (i64 y)=True:=by simp[oV,i64]
@[simp] theorem fO(x y:UInt8):oV .sub (u8 x) (u8 y)=True:=by simp[oV,u8]
@[simp] theorem XH(x y:UInt32):oV .sub (u32 x) (u32 y)=True:=by simp[oV,u32]
@[simp] theorem dZ(x y:UInt64):oV .sub (u64 x) (u64 y)=True:=by simp[oV,u64]
@[simp] theorem eK(x y:Int):oV .sub (i64 x) (i64 y)=True:=by simp[oV,i64]
@[simp] theorem z4m(x y:UInt8):oV .mul (u8 x) (u8 y)=True:=by simp[oV,u8]
@[simp] theorem dQ(x y:UInt32):oV .mul (u32 x) (u32 y)=True:=by simp[oV,u32]
@[simp] theorem eF(x y:UInt64):oV .mul (u64 x) (u64 y)=True:=by simp[oV,u64]
@[simp] theorem eQ(x y:Int):oV .mul (i64 x) (i64 y)=True:=by simp[oV,i64]
@[simp] theorem fw(x y:UInt8):oV .and (u8 x) (u8 y)=True:=by simp[oV,u8]
@[simp] theorem dY(x y:UInt32):oV .and (u32 x) (u32 y)=True:=by simp[oV,u32]
@[simp] theorem z0f(x y:UInt64):oV .and (u64 x) (u64 y)=True:=by simp[oV,u64]
@[simp] theorem dX(x y:Int):oV .and (i64 x) (i64 y)=True:=by simp[oV,i64]
@[simp] theorem fS(x y:UInt8):oV .or (u8 x) (u8 y)=True:=by simp[oV,u8]
@[simp] theorem eY(x y:UInt32):oV .or (u32 x) (u32 y)=True:=by simp[oV,u32]
@[simp] theorem fb(x y:UInt64):oV .or (u64 x) (u64 y)=True:=by simp[oV,u64]
@[simp] theorem z4j(x y:Int):oV .or (i64 x) (i64 y)=True:=by simp[oV,i64]
@[simp] theorem ft(x y:UInt8):oV .xor (u8 x) (u8 y)=True:=by simp[oV,u8]
@[simp] theorem dU(x y:UInt32):oV .xor (u32 x) (u32 y)=True:=by simp[oV,u32]
@[simp] theorem eh(x y:UInt64):oV .xor (u64 x) (u64 y)=True:=by simp[oV,u64]
@[simp] theorem dV(x y:Int):oV .xor (i64 x) (i64 y)=True:=by simp[oV,i64]
@[simp] theorem fI(x y:UInt8):oV .eql (u8 x) (u8 y)=True:=by simp[oV,u8]
@[simp] theorem Z9(x y:UInt32):oV .eql (u32 x) (u32 y)=True:=by simp[oV,u32]
@[simp] theorem XN(x y:UInt64):oV .eql (u64 x) (u64 y)=True:=by simp[oV,u64]
@[simp] theorem dS(x y:Int):oV .eql (i64 x) (i64 y)=True:=by simp[oV,i64]
@[simp] theorem eZ(x y:UInt8):oV .neq (u8 x) (u8 y)=True:=by simp[oV,u8]
@[simp] theorem ee(x y:UInt32):oV .neq (u32 x) (u32 y)=True:=by simp[oV,u32]
@[simp] theorem eC(x y:UInt64):oV .neq (u64 x) (u64 y)=True:=by simp[oV,u64]
@[simp] theorem eT(x y:Int):oV .neq (i64 x) (i64 y)=True:=by simp[oV,i64]
@[simp] theorem eW(x y:UInt8):oV .lss (u8 x) (u8 y)=True:=by simp[oV,u8]
@[simp] theorem eL(x y:UInt32):oV .lss (u32 x) (u32 y)=True:=by simp[oV,u32]
@[simp] theorem dR(x y:UInt64):oV .lss (u64 x) (u64 y)=True:=by simp[oV,u64]
@[simp] theorem eP(x y:Int):oV .lss (i64 x) (i64 y)=True:=by simp[oV,i64]
@[simp] theorem fE(x y:UInt8):oV .leq (u8 x) (u8 y)=True:=by simp[oV,u8]
@[simp] theorem z3h(x y:UInt32):oV .leq (u32 x) (u32 y)=True:=by simp[oV,u32]
@[simp] theorem z1a(x y:UInt64):oV .leq (u64 x) (u64 y)=True:=by simp[oV,u64]
@[simp] theorem eM(x y:Int):oV .leq (i64 x) (i64 y)=True:=by simp[oV,i64]
@[simp] theorem fj(x y:UInt8):oV .gtr (u8 x) (u8 y)=True:=by simp[oV,u8]
@[simp] theorem XB(x y:UInt32):oV .gtr (u32 x) (u32 y)=True:=by simp[oV,u32]
@[simp] theorem z1e(x y:UInt64):oV .gtr (u64 x) (u64 y)=True:=by simp[oV,u64]
@[simp] theorem eO(x y:Int):oV .gtr (i64 x) (i64 y)=True:=by simp[oV,i64]
@[simp] theorem fN(x y:UInt8):oV .geq (u8 x) (u8 y)=True:=by simp[oV,u8]
@[simp] theorem z5a(x y:UInt32):oV .geq (u32 x) (u32 y)=True:=by simp[oV,u32]
@[simp] theorem dP(x y:UInt64):oV .geq (u64 x) (u64 y)=True:=by simp[oV,u64]
@[simp] theorem z7a(x y:Int):oV .geq (i64 x) (i64 y)=True:=by simp[oV,i64]
@[simp] theorem fc(x y:List UInt8):oV .eql (st x) (st y)=True:=rfl
@[simp] theorem fa(x y:List UInt8):oV .neq (st x) (st y)=True:=rfl
@[simp] theorem fo(x y:List UInt8):oV .lss (st x) (st y)=True:=rfl
@[simp] theorem fe(x y:List UInt8):oV .leq (st x) (st y)=True:=rfl
@[simp] theorem fg(x y:List UInt8):oV .gtr (st x) (st y)=True:=rfl
@[simp] theorem fh(x y:List UInt8):oV .geq (st x) (st y)=True:=rfl
@[simp] theorem fL(x y:List UInt8):oV .add (st x) (st y)=(((x.length+y.length:Nat):Int)<=9223372036854775807):=rfl
@[simp] theorem ja(x y:List UInt8):aE .add (st x) (st y)=st (x++y):=by show oH.lit (.string (ByteArray.mk x.toArray++ByteArray.mk y.toArray))=_;rw[st];congr 2
@[simp] theorem iR(x y:List UInt8):aE .eql (st x) (st y)=bo (decide (x=y)):=by show oH.lit (.bool ((ByteArray.mk x.toArray).toList==(ByteArray.mk y.toArray).toList))=_;rw[bo,ByteArray.toList_eq,ByteArray.toList_eq];congr 2;rw[Bool.eq_iff_iff];simp
@[simp] theorem ip(x y:List UInt8):aE .neq (st x) (st y)=bo (!decide (x=y)):=by show oH.lit (.bool (!((ByteArray.mk x.toArray).toList==(ByteArray.mk y.toArray).toList)))=_;rw[bo,ByteArray.toList_eq,ByteArray.toList_eq];congr 2;rw[Bool.eq_iff_iff];simp
@[simp] theorem l5(x:Int):iF .neg (i64 x)=True:=rfl
@[simp] theorem l6(x:Bool):iF .not (bo x)=True:=rfl
@[simp] theorem i6(x:UInt32):iF .xor (u32 x)=True:=rfl
@[simp] theorem iN(x:UInt64):iF .xor (u64 x)=True:=rfl
attribute [simp] lk ASt.get ASt.getB bK cc dL arg bxc bxl bnd bn af.W AOp.wrS bO BP pT eE bQ au aj
attribute [simp] lr F5 Rn gj jq
def z1R(wr:List Nat):Nat->List oH->List (Nat×oH)
 |_,[]=>[]
 |i,d::ds=>if wr.contains i then z1R wr (i+1) ds else(i,d)::z1R wr (i+1) ds
def i8(wr:List Nat):Nat->List oH->List (Nat×oH)
 |_,[]=>[]
 |i,d::ds=>if wr.contains i then(i,dem d)::i8 wr (i+1) ds else i8 wr (i+1) ds
theorem VA(wr:List Nat):∀(ds:List oH) (i:Nat),z1R wr i ds=(aR i ds).filter λp=> !wr.contains p.1
 |[],i=>rfl
 |d::ds,i=>by rw[z1R,aR,List.filter_cons,VA wr ds];show(if wr.contains i=true then _ else _)=if(!wr.contains i)=true then _ else _;cases wr.contains i<;>rfl
theorem dx(wr:List Nat):∀(ds:List oH) (i:Nat),i8 wr i ds=((aR i ds).filter λp=>wr.contains p.1).map λp=>(p.1,dem p.2)
 |[],i=>rfl
 |d::ds,i=>by rw[i8,aR,List.filter_cons,dx wr ds];show(if wr.contains i=true then _ else _)=List.map _ (if wr.contains i=true then _ else _);cases wr.contains i<;>rfl
@[simp] theorem ky(wr:List Nat)(ds:List oH):fP wr ds=⟨z1R wr 0 ds,i8 wr 0 ds,[]⟩:=by rw[VA,dx];rfl
attribute [simp] z1R i8
@[simp] theorem ml(E:Env)(Q:aB->ASt->Prop)(s:ASt):awp E .skip Q s=Q .normal s:=rfl
def ir(Q:aB->ASt->Prop):List tJ->ASt->Prop
 |[],st=>Q .normal st
 |g::gs,st=>bK g st∧ir Q gs (oS g st)
def iq(E:Env)(keep:List Nat)(gs:List tJ)(Q:aB->ASt->Prop):List af->ASt->Prop
 |[],st=>ir Q gs (cB keep st)
 |o::os,st=>okA E o st∧iq E keep gs Q os (ai E o st)
theorem dp(Q:aB->ASt->Prop):∀(gs:List tJ) (st:ASt),ir Q gs st=(iG gs st∧Q .normal (cZ gs st))
 |[],st=>by simp[ir,iG,cZ]
 |g::gs,st=>by simp only[ir,iG,cZ,dp Q gs];exact propext and_assoc.symm
theorem dJ(E:Env)(keep:List Nat)(gs:List tJ)(Q:aB->ASt->Prop):∀(xs:List af) (st:ASt),iq E keep gs Q xs st=(Aa E xs st∧iG gs (cB keep (C3 E xs st))∧Q .normal (cZ gs (cB keep (C3 E xs st))))
 |[],st=>by simp only[iq,Aa,C3,true_and];exact dp Q gs _
 |o::os,st=>by simp only[iq,Aa,C3,dJ E keep gs Q os];exact propext and_assoc.symm
@[simp] theorem ji(E:Env)(keep:List Nat)(gs:List tJ)(xs:List af)(Q:aB->ASt->Prop)(s:ASt):
  awp E (.region keep gs xs) Q s=iq E keep gs Q xs s:=(dJ E keep gs Q xs s).symm
def z3da(o e:List (Nat×oH))(b:List (Nat×Option (List oH)))(d:Nat)(x:Eff):ASt:=⟨o,(d,x.val)::(x.sl++e),x.bx++b⟩
def put0(o e:List (Nat×oH))(b:List (Nat×Option (List oH)))(x:Eff):ASt:=⟨o,x.sl++e,x.bx++b⟩
def cE(o e:List (Nat×oH))(b:List (Nat×Option (List oH)))(d:Nat)(t:Bool)(x:Eff):ASt:=if t then z3da o e b d x else⟨o,(d,bR)::e,b⟩
@[simp] theorem oq(o e:List (Nat×oH))(b:List (Nat×Option (List oH)))(d:Nat)(v:oH)(sl:List (Nat×oH))(bx:List (Nat×Option (List oH))):z3da o e b d ⟨v,sl,bx⟩=⟨o,(d,v)::(sl++e),bx++b⟩:=rfl
@[simp] theorem nj(o e:List (Nat×oH))(b:List (Nat×Option (List oH)))(v:oH)(sl:List (Nat×oH))(bx:List (Nat×Option (List oH))):put0 o e b ⟨v,sl,bx⟩=⟨o,sl++e,bx++b⟩:=rfl
@[simp] theorem mM(o e:List (Nat×oH))(b:List (Nat×Option (List oH)))(d:Nat)(x:Eff):cE o e b d true x=z3da o e b d x:=rfl
@[simp] theorem mq(o e:List (Nat×oH))(b:List (Nat×Option (List oH)))(d:Nat)(x:Eff):cE o e b d false x=⟨o,(d,bR)::e,b⟩:=rfl
@[simp] theorem kw(E:Env)(d:Nat)(op:AOp)(o e:List (Nat×oH))(b:List (Nat×Option (List oH))):
  ai E ⟨some d,none,op⟩ ⟨o,e,b⟩=z3da o e b d (eff E (ASt.get ⟨o,e,b⟩) (ASt.getB ⟨o,e,b⟩) op):=rfl
@[simp] theorem kG(E:Env)(op:AOp)(o e:List (Nat×oH))(b:List (Nat×Option (List oH))):
  ai E ⟨none,none,op⟩ ⟨o,e,b⟩=put0 o e b (eff E (ASt.get ⟨o,e,b⟩) (ASt.getB ⟨o,e,b⟩) op):=rfl
@[simp] theorem z4S(E:Env)(d s:Nat)(w:Bool)(op:AOp)(o e:List (Nat×oH))(b:List (Nat×Option (List oH))):
  ai E ⟨some d,some (s,w),op⟩ ⟨o,e,b⟩=cE o e b d (fG (ASt.get ⟨o,e,b⟩ s) w) (eff E (ASt.get ⟨o,e,b⟩) (ASt.getB ⟨o,e,b⟩) op):=by
 simp only[ai,cE,z3da];generalize fG (ASt.get ⟨o,e,b⟩ s) w=t;cases t<;>simp
@[simp] theorem oc(x w:Bool):fG (bo x) w=(x==w):=rfl
@[simp] theorem kI(w:Bool):fG bR w=false:=rfl
@[simp] theorem okG_bo(x:Bool):okG (bo x)=True:=eq_true (.inl trivial)
@[simp] theorem z5na:okG bR=True:=eq_true (.inr rfl)
@[simp] theorem mh:dem bR=bR:=rfl
@[simp] theorem kf:aF bR=[]:=rfl
attribute [simp] ir iq
def cX(f:Nat->oH):List Nat->List (Nat×oH)
 |[]=>[]
 |s::l=>(s,f s)::cX f l
def Ui(f:Nat->Option (List oH)):List Nat->List (Nat×Option (List oH))
 |[]=>[]
 |s::l=>(s,f s)::Ui f l
def cw(ids:List Nat):List (Nat×Option (List oH))->List (Nat×Option (List oH))
 |[]=>[]
 |p::l=>if ids.contains p.1 then cw ids l else p::cw ids l
theorem cQ(f:Nat->oH):∀l,cX f l=l.map λs=>(s,f s)
 |[]=>rfl
 |s::l=>by rw[cX,cQ f l];rfl
theorem cM(f:Nat->Option (List oH)):∀l,Ui f l=l.map λs=>(s,f s)
 |[]=>rfl
 |s::l=>by rw[Ui,cM f l];rfl
theorem MT(ids:List Nat):∀l,cw ids l=l.filter λp=> !ids.contains p.1
 |[]=>rfl
 |p::l=>by rw[cw,MT ids l,List.filter_cons];cases ids.contains p.1<;>rfl
attribute [simp] cX Ui cw
@[simp] theorem eV(keep:List Nat)(o e:List (Nat×oH))(b:List (Nat×Option (List oH))):cB keep ⟨o,e,b⟩=⟨o,cX (ASt.get ⟨o,e,b⟩) keep,b⟩:=by rw[cQ];rfl
@[simp] theorem m4(ids:List Nat)(o e:List (Nat×oH))(b:List (Nat×Option (List oH))):oS (.norm ids) ⟨o,e,b⟩=⟨o,e,Ui (ASt.getB ⟨o,e,b⟩) ids⟩:=by rw[cM];rfl
@[simp] theorem oe(ids:List Nat)(o e:List (Nat×oH))(b:List (Nat×Option (List oH))):oS (.drop ids) ⟨o,e,b⟩=⟨o,e,cw ids b⟩:=by rw[MT];rfl
def Tc(s:Nat):List (Nat×oH)->List (Nat×oH)
 |[]=>[]
 |(k,v)::l=>if k=s then Tc s l else(k,v)::Tc s l
theorem cL(s:Nat):∀l,Tc s l=l.filter λp=>decide (p.1≠s)
 |[]=>rfl
 |(k,v)::l=>by rw[Tc,cL s l,List.filter_cons];by_cases h:k=s<;>simp[h]
attribute [simp] Tc
@[simp] theorem z8ma(s:Nat)(o e:List (Nat×oH))(b:List (Nat×Option (List oH))):oS (.unorg s) ⟨o,e,b⟩=⟨Tc s o,(s,ASt.get ⟨o,e,b⟩ s)::e,b⟩:=by rw[cL];rfl
def gy(b i:Nat)(x:Option (List oH))(box:List (Nat×Option (List oH))):List (Nat×Option (List oH)):=match x with|some bs=>(b,some (bs.set i .undef))::box|none=>box
@[simp] theorem iP(b i:Nat)(bs:List oH)(box:List (Nat×Option (List oH))):gy b i (some bs) box=(b,some (bs.set i .undef))::box:=rfl
@[simp] theorem mi(b i:Nat)(o e:List (Nat×oH))(box:List (Nat×Option (List oH))):oS (.hideB b i) ⟨o,e,box⟩=⟨o,e,gy b i (ASt.getB ⟨o,e,box⟩ b) box⟩:=by simp only[oS,gy];split<;>simp_all
def reL(b i:Nat)(r:Option Nat)(x:Option (List oH))(box:List (Nat×Option (List oH))):List (Nat×Option (List oH)):=match x with|some bs=>(b,some (bs.set i (DZ r (bs.getD i .undef))))::box|none=>box
@[simp] theorem z0la(b i:Nat)(r:Option Nat)(bs:List oH)(box:List (Nat×Option (List oH))):reL b i r (some bs) box=(b,some (bs.set i (DZ r (bs.getD i .undef))))::box:=rfl
@[simp] theorem reB_mk(b i:Nat)(r:Option Nat)(o e:List (Nat×oH))(box:List (Nat×Option (List oH))):oS (.reB b i r) ⟨o,e,box⟩=⟨o,e,reL b i r (ASt.getB ⟨o,e,box⟩ b) box⟩:=by simp only[oS,reL];split<;>simp_all
@[simp] theorem z9x(c:oH):DZ none c=dem c:=rfl
@[simp] theorem jj(e:Nat):DZ (some e) (.sl .plain (some true) 0 [])= .sl (.own e) none 0 []:=rfl
@[simp] theorem m6(keep:List Nat)(o e:List (Nat×oH))(b:List (Nat×Option (List oH))):oS (.keep keep) ⟨o,e,b⟩=⟨o,cX (ASt.get ⟨o,e,b⟩) keep,b⟩:=eV keep o e b
@[simp] theorem jN(ids:List Nat)(o e:List (Nat×oH))(b:List (Nat×Option (List oH))):oS (.freeze ids) ⟨o,e,b⟩=
  ⟨o,e.map λp=>(p.1,eE ids (λid=>(ASt.getB ⟨o,e,b⟩ id).getD []) p.2),(cw ids b).map λp=>(p.1,p.2.map (bQ ids λid=>(ASt.getB ⟨o,e,b⟩ id).getD []))⟩:=by rw[MT];rfl
@[simp] theorem qg(E:Env)(a b:av)(Q:aB->ASt->Prop)(s:ASt):awp E (.seq a b) Q s=awp E a (cc (awp E b Q) Q) s:=rfl
theorem bq(E:Env)(c:Arg)(a b:av)(Q:aB->ASt->Prop)(s:ASt):
  awp E (.cond c a b) Q s=(isB (arg E s.get c)∧(asB (arg E s.get c)=true->awp E a Q s)∧(asB (arg E s.get c)=false->awp E b Q s)):=rfl
@[simp] theorem kg(E:Env)(id:Nat)(b:av)(Q:aB->ASt->Prop)(s:ASt):awp E (.block id b) Q s=awp E b (dL id Q) s:=rfl
@[simp] theorem jS(E:Env)(b:av)(Q:aB->ASt->Prop)(s:ASt):awp E (.scope b) Q s=awp E b Q s:=rfl
@[simp] theorem lJ(E:Env)(id:Nat)(Q:aB->ASt->Prop)(s:ASt):awp E (.exit id) Q s=Q (.exit id) s:=rfl
@[simp] theorem z3ta(E:Env)(Q:aB->ASt->Prop)(s:ASt):awp E .ret Q s=Q .ret s:=rfl
@[simp] theorem z54(E:Env)(g:tJ)(c:av)(Q:aB->ASt->Prop)(s:ASt):awp E (.ghost g c) Q s=(bK g s∧awp E c Q (oS g s)):=rfl
attribute [simp] okA eff okp okp.okApp bX cY
def nth(ds:List oH)(i:Nat):oH:=ds.getD i .undef
def gU8(v:oH):UInt8:=UInt8.ofInt (asI v)
def nI(v:oH):UInt32:=UInt32.ofInt (asI v)
def m9(v:oH):UInt64:=UInt64.ofInt (asI v)
def gS(v:oH):List UInt8:=(asS v).data.toList
def gCs(v:oH):List oH:=match v with| .agg cs=>cs| .sl _ _ _ cs=>cs| .ep cs=>cs| .tup cs=>cs|_=>[]
def gBs(l:List oH):List UInt8:=l.map gU8
def gWs(l:List oH):List UInt32:=l.map nI
@[simp] theorem nth_0(d:oH)(ds:List oH):nth (d::ds) 0=d:=rfl
@[simp] theorem nth_s(d:oH)(ds:List oH)(i:Nat):nth (d::ds) (i+1)=nth ds i:=rfl
@[simp] theorem z1k(x:UInt8):gU8 (u8 x)=x:=by apply UInt8.toNat_inj.1;rw[gU8,dv,eX];have:=x.toNat_lt;omega
@[simp] theorem cP(x:UInt32):nI (u32 x)=x:=by apply UInt32.toNat_inj.1;rw[nI,dw,gK];have:=x.toNat_lt;omega
@[simp] theorem cO(x:UInt64):m9 (u64 x)=x:=by apply UInt64.toNat_inj.1;rw[m9,cd,gQ];have:=x.toNat_lt;omega
@[simp] theorem j9(l:List UInt8):gS (st l)=l:=rfl
@[simp] theorem z9ya(l:List oH):gCs (.agg l)=l:=rfl
@[simp] theorem m5(l:List oH):gCs (.tup l)=l:=rfl
@[simp] theorem gCs_ep(l:List oH):gCs (.ep l)=l:=rfl
@[simp] theorem gCs_sl(m:cH)(nl:Option Bool)(n:Nat)(l:List oH):gCs (.sl m nl n l)=l:=rfl
@[simp] theorem nT:gCs (.lit (.slice none 0 0))=[]:=rfl
@[simp] theorem dK(l:List UInt8):gBs (bys l)=l:=by simp[gBs,bys,Function.comp_def]
@[simp] theorem cG(l:List UInt32):gWs (bg l)=l:=by simp[gWs,bg,Function.comp_def]
@[simp] theorem oh:gBs []=[]:=rfl
@[simp] theorem u8_inj(x y:UInt8):(u8 x=u8 y)=(x=y):=propext ⟨λh=>by rw[<-z1k x,h,z1k],λh=>by rw[h]⟩
@[simp] theorem m7(x y:UInt32):(u32 x=u32 y)=(x=y):=propext ⟨λh=>by rw[<-cP x,h,cP],λh=>by rw[h]⟩
@[simp] theorem nY(x y:UInt64):(u64 x=u64 y)=(x=y):=propext ⟨λh=>by rw[<-cO x,h,cO],λh=>by rw[h]⟩
@[simp] theorem oy(x y:Int):(i64 x=i64 y)=(x=y):=propext ⟨λh=>by rw[<-dq x,h,dq],λh=>by rw[h]⟩
@[simp] theorem bo_inj(x y:Bool):(bo x=bo y)=(x=y):=propext ⟨λh=>by rw[<-z6j x,h,z6j],λh=>by rw[h]⟩
@[simp] theorem st_inj(x y:List UInt8):(st x=st y)=(x=y):=propext ⟨λh=>by rw[<-j9 x,h,j9],λh=>by rw[h]⟩
@[simp] theorem ot(x y:List UInt8):(bys x=bys y)=(x=y):=propext ⟨λh=>by rw[<-dK x,h,dK],λh=>by rw[h]⟩
@[simp] theorem mD(x y:List UInt32):(bg x=bg y)=(x=y):=propext ⟨λh=>by rw[<-cG x,h,cG],λh=>by rw[h]⟩
theorem JN(x:UInt32)(l:List UInt32):bg (x::l)=u32 x::bg l:=rfl
theorem oI{E:Env}{c:av}{Q:aB->ASt->Prop}{st:ASt}(h:∀Q',Q'=Q->awp E c Q' st):awp E c Q st:=h Q rfl
theorem dH{E:Env}{b:av}{Q:aB->ASt->Prop}{st:ASt}{α:Type}(S:α->ASt)(μ:α->Nat)(inv:α->Prop)(a0:α)(h0:st=S a0)(hi:inv a0)
  (hr:∀a,inv a->awp E b (cc (λst'=>∃a',μ a'<μ a∧inv a'∧st'=S a') Q) (S a)):awp E (.loop b) Q st:=by
 refine⟨λm st=>∃a,μ a=m∧inv a∧st=S a,⟨μ a0,a0,rfl,hi,h0⟩,?_⟩;rintro m _ ⟨a,rfl,hia,rfl⟩;have e:(cc (λst'=>∃a',μ a'<μ a∧inv a'∧st'=S a') Q)=(cc (λst'=>∃m',m'<μ a∧∃a',μ a'=m'∧inv a'∧st'=S a') Q):=by
  funext e st';cases e<;>simp only[cc];apply propext;constructor
  ·rintro⟨a',h1,h2,h3⟩;exact⟨_,h1,a',rfl,h2,h3⟩
  rintro⟨_,h1,a',rfl,h2,h3⟩;exact⟨a',h1,h2,h3⟩
 rw[<-e];exact hr a hia
@[simp] theorem Vz(a x:oH)(l:List oH):splice (a::l) 0 [x]=x::l:=by simp[splice]
@[simp] theorem gr(a:oH)(l:List oH)(n:Nat)(xs:List oH):splice (a::l) (n+1) xs=a::splice l n xs:=by simp only[splice,List.take_succ_cons,List.cons_append,List.cons.injEq,true_and];congr 1;rw[show n+1+xs.length=(n+xs.length)+1 by omega,List.drop_succ_cons]
theorem oJ{l xs:List oH}(h:xs.length=l.length):splice l 0 xs=xs:=by simp[splice,h]
theorem FF{a b xs:List oH}{n:Nat}(h:n+xs.length<=a.length):splice (a++b) n xs=splice a n xs++b:=by simp only[splice,List.append_assoc];rw[List.take_append_of_le_length (by omega),List.drop_append_of_le_length h]
theorem Ep{a b xs:List oH}{n:Nat}(h:a.length<=n):splice (a++b) n xs=a++splice b (n-a.length) xs:=by simp only[splice];rw[List.take_append,List.take_of_length_le h,List.drop_append,List.drop_of_length_le (by omega)];simp only[List.append_assoc,List.nil_append];rw[show n+xs.length-a.length=n-a.length+xs.length by omega]
theorem G7{l:List UInt8}{n:Nat}{x:UInt8}(h:n<l.length):splice (bys l) n [u8 x]=bys (l.set n x):=by simp only[splice,bys,<-List.map_take,<-List.map_drop,List.length_singleton];rw[List.set_eq_take_append_cons_drop,if_pos h];simp
theorem vJ{l:List UInt32}{n:Nat}{x:UInt32}(h:n<l.length):splice (bg l) n [u32 x]=bg (l.set n x):=by simp only[splice,bg,<-List.map_take,<-List.map_drop,List.length_singleton];rw[List.set_eq_take_append_cons_drop,if_pos h];simp
def at8(l:List UInt8)(i:Nat):UInt8:=l.getD i 0
def bJ(l:List UInt32)(i:Nat):UInt32:=l.getD i 0
theorem Zx{l:List oH}{n:Nat}:hdA (l.drop n)=l.getD n .undef:=by rw[hdA,List.headD_eq_head?_getD,List.head?_drop];rfl
theorem z4i{l:List UInt8}{n:Nat}(h:n<l.length):(bys l).getD n .undef=u8 (at8 l n):=by simp[at8,bys,List.getD,List.getElem?_eq_getElem h]
theorem Ki{l:List UInt32}{n:Nat}(h:n<l.length):(bg l).getD n .undef=u32 (bJ l n):=by simp[bJ,bg,List.getD,List.getElem?_eq_getElem h]
theorem Lq{l:List UInt8}{n:Nat}(h:n<l.length):hdA (bys (l.drop n))=u8 (at8 l n):=by rw[<-mE,Zx,z4i h]
@[simp] theorem z7X(l:List UInt32)(n:Nat):(bg l).take n=bg (l.take n):=by simp[bg]
@[simp] theorem Jq(l:List UInt32)(n:Nat):(bg l).drop n=bg (l.drop n):=by simp[bg]
theorem AH{l:List UInt32}{n:Nat}(h:n<l.length):hdA (bg (l.drop n))=u32 (bJ l n):=by rw[<-Jq,Zx,Ki h]
theorem z2c{l:List UInt32}(h:0<l.length):hdA (bg l)=u32 (bJ l 0):=by rw[<-AH h,List.drop_zero]
@[simp] theorem fu(l:List UInt32)(i:Nat)(h:i<(bg l).length):(bg l)[i]=u32 (bJ l i):=by
 have h':i<l.length:=by simpa using h
 simp[bJ,bg,List.getElem?_eq_getElem h']
@[simp] theorem z4J(l:List UInt8)(i:Nat)(h:i<(bys l).length):(bys l)[i]=u8 (at8 l i):=by
 have h':i<l.length:=by simpa using h
 simp[at8,bys,List.getElem?_eq_getElem h']
@[simp] theorem Zg(x:UInt32)(l:List UInt32):hdA (bg (x::l))=u32 x:=rfl
@[simp] theorem fm(x:UInt8)(l:List UInt8):hdA (bys (x::l))=u8 x:=rfl
@[simp] theorem z6na(a:oH)(l:List oH):hdA (a::l)=a:=rfl
theorem z9B{a b:List UInt8}{i:Nat}(h:i<a.length):at8 (a++b) i=at8 a i:=by simp[at8,List.getD,List.getElem?_append_left h]
theorem Rx{a b:List UInt32}{i:Nat}(h:i<a.length):bJ (a++b) i=bJ a i:=by simp[bJ,List.getD,List.getElem?_append_left h]
theorem WX{a b:List UInt8}{i:Nat}(h:a.length<=i):at8 (a++b) i=at8 b (i-a.length):=by simp[at8,List.getD,List.getElem?_append_right h]
theorem Ti{a b:List UInt32}{i:Nat}(h:a.length<=i):bJ (a++b) i=bJ b (i-a.length):=by simp[bJ,List.getD,List.getElem?_append_right h]
theorem Zu{a:List UInt8}{i n:Nat}(h:i<n):at8 (a.take n) i=at8 a i:=by simp[at8,List.getD,List.getElem?_take,h]
@[simp] theorem mo{a:List UInt8}{i n:Nat}:at8 (a.drop n) i=at8 a (n+i):=by simp[at8,List.getD]
@[simp] theorem jp{a:List UInt32}{i n:Nat}:bJ (a.drop n) i=bJ a (n+i):=by simp[bJ,List.getD]
@[simp] theorem km(x:UInt32)(l:List UInt32):bJ (x::l) 0=x:=rfl
@[simp] theorem jn(x:UInt32)(l:List UInt32)(n:Nat):bJ (x::l) (n+1)=bJ l n:=rfl
@[simp] theorem mG(x:UInt8)(l:List UInt8):at8 (x::l) 0=x:=rfl
@[simp] theorem l9(x:UInt8)(l:List UInt8)(n:Nat):at8 (x::l) (n+1)=at8 l n:=rfl
def ks8(n:Nat):List LK:=List.replicate n (.int .u8)
@[simp] theorem z5s(n:Nat)(l:List UInt8):cu (ks8 n) (bys l)=(l.length=n):=by
 induction n generalizing l with
 |zero=>cases l<;>simp[ks8,cu,bys]
 |succ n ih=>
  cases l with
  |nil=>simp[ks8,List.replicate_succ,cu,bys]
  |cons x l=>have:=ih l;simp only[ks8,bys] at this;simp[ks8,List.replicate_succ,cu,bys,z8la,u8,this]
theorem vR{n:Nat}{a b:List UInt8}(ha:a.length=n)(hb:b.length=n):dk (ks8 n) (bys a) (bys b)=decide (a=b):=by
 induction n generalizing a b with
 |zero=>have e1:=List.length_eq_zero_iff.1 ha;have e2:=List.length_eq_zero_iff.1 hb;subst e1;subst e2;rfl
 |succ n ih=>
  match a,b,ha,hb with
  |x::a,y::b,ha,hb=>have:=ih (a:=a) (b:=b) (by simpa using ha) (by simpa using hb);simp only[ks8,bys] at this;simp only[ks8,List.replicate_succ,bys,List.map_cons,dk,z0qa,eX,this];rw[Bool.eq_iff_iff];simp only[Bool.and_eq_true,beq_iff_eq,decide_eq_true_eq,List.cons.injEq,<-UInt8.toNat_inj,Int.natCast_inj]
@[simp] theorem z3ua(l:List UInt8):(ByteArray.mk l.toArray).size=l.length:=by simp[ByteArray.size]
@[simp] theorem mod64(n:UInt64):((n.toNat:Int)% 64).toNat=n.toNat% 64:=by omega
@[simp] theorem dm(n:Int):oH.lit (.int .i64 n)=i64 n:=rfl
@[simp] theorem z15(b:Bool):oH.lit (.bool b)=bo b:=rfl
@[simp] theorem ou(x:UInt8):oH.lit (.int .u8 (x.toNat:Int))=u8 x:=rfl
@[simp] theorem dh(l:List UInt8):oH.lit (.string (FN (bys l)))=st l:=by simp only[st,FN,bys,List.map_map];congr 3;rw[show((λc=>UInt8.ofNat (asI c).toNat)∘u8)=id from funext λx=>by simp[eX]];simp
@[simp] theorem i9(x:UInt8):oH.lit (.string (FN [u8 x]))=st [x]:=dh [x]
@[simp] theorem z4B(l:List UInt8)(a b:Nat):oH.lit (.string ((ByteArray.mk l.toArray).extract a b))=st ((l.drop a).take (b-a)):=by simp only[st];congr 2;apply ByteArray.ext;rw[ByteArray.data_extract];simp[List.extract]
attribute [simp] qH PY nW mV dg okM fR cv iJ fnd Abs.ren renL
@[simp] theorem ren_u8(m:List (Nat×Nat))(x:UInt8):Abs.ren m (u8 x)=u8 x:=rfl
@[simp] theorem og(m:List (Nat×Nat))(x:UInt32):Abs.ren m (u32 x)=u32 x:=rfl
@[simp] theorem z3Aa(m:List (Nat×Nat))(x:UInt64):Abs.ren m (u64 x)=u64 x:=rfl
@[simp] theorem z0ta(m:List (Nat×Nat))(x:Int):Abs.ren m (i64 x)=i64 x:=rfl
@[simp] theorem ren_bo(m:List (Nat×Nat))(x:Bool):Abs.ren m (bo x)=bo x:=rfl
@[simp] theorem ren_st(m:List (Nat×Nat))(x:List UInt8):Abs.ren m (st x)=st x:=rfl
@[simp] abbrev Ym(d s:Nat):af:=⟨some d,none,.mv false (.s s)⟩
@[simp] abbrev YM(d s:Nat):af:=⟨some d,none,.mv true (.s s)⟩
@[simp] abbrev Yc(d:Nat)(n:Int):af:=⟨some d,none,.mv false (.c (i64 n))⟩
@[simp] abbrev Yw(d:Nat)(b:Bool):af:=⟨some d,none,.mv false (.c (bo b))⟩
@[simp] abbrev Yl(d b a:Nat):af:=⟨some d,none,.load none (some b) false (.s a)⟩
@[simp] abbrev YL(d k b a:Nat):af:=⟨some d,none,.load (some k) (some b) false (.s a)⟩
@[simp] abbrev Yj(d a:Nat):af:=⟨some d,none,.load none none false (.s a)⟩
@[simp] abbrev YJ(d k a:Nat):af:=⟨some d,none,.load (some k) none false (.s a)⟩
@[simp] abbrev Yf(d n a:Nat):af:=⟨some d,none,.fieldAddr n (.s a)⟩
@[simp] abbrev Yn(d a:Nat):af:=⟨some d,none,.len false (.s a)⟩
@[simp] abbrev Yb(d:Nat)(o:BinOp)(x y:Nat):af:=⟨some d,none,.bin o (.s x) (.s y)⟩
@[simp] abbrev YB(d:Nat)(o:BinOp)(x:Nat)(n:Int):af:=⟨some d,none,.bin o (.s x) (.c (i64 n))⟩
@[simp] abbrev Yp(d x y:Nat):af:=⟨some d,none,.pick (.s x) (.s y) (.c (bo false))⟩
@[simp] abbrev YP(d x y:Nat):af:=⟨some d,none,.pick (.s x) (.c (bo true)) (.s y)⟩
@[simp] abbrev Yk(d f x:Nat):af:=⟨some d,none,.call f [.s x] []⟩
@[simp] abbrev YK(d f x y:Nat):af:=⟨some d,none,.call f [.s x,.s y] []⟩
@[simp] abbrev Yt(d f x y z:Nat):af:=⟨some d,none,.call f [.s x,.s y,.s z] []⟩
@[simp] abbrev YT(d f:Nat)(l:List Nat):af:=⟨some d,none,.call f (l.map .s) []⟩
@[simp] abbrev Yx(d i k a:Nat):af:=⟨some d,none,.box i (some k) false (.s a)⟩
@[simp] abbrev Yi(d e x y:Nat):af:=⟨some d,none,.idxSl e (.s x) (.s y)⟩
@[simp] abbrev Ye(d i x:Nat):af:=⟨some d,none,.extract i (.s x)⟩
@[simp] abbrev Ya(d n e x y:Nat):af:=⟨some d,none,.idxArr n e (.s x) (.s y)⟩
@[simp] abbrev YA(d n e x:Nat)(y:Int):af:=⟨some d,none,.idxArr n e (.s x) (.c (i64 y))⟩
@[simp] abbrev Yz(d i n:Nat):af:=⟨some d,none,.alloc i (bys (bF n))⟩
@[simp] abbrev Yo(d:Nat)(o:AOp):af:=⟨some d,none,o⟩
@[simp] abbrev YO(o:AOp):af:=⟨none,none,o⟩
@[simp] abbrev Ys(k b a v:Nat):af:=⟨none,none,.store (some k) b false (.s a) (.s v)⟩
@[simp] abbrev YS(b a v:Nat):af:=⟨none,none,.store none b false (.s a) (.s v)⟩
@[simp] abbrev Yv(d n:Nat):af:=⟨some d,none,.mv true (.c (.sl (.own n) none 0 []))⟩
@[simp] abbrev Yh(d i:Nat):af:=⟨some d,none,.alloc i [i64 0,.sl .plain none 0 [],.sl .plain none 0 []]⟩
@[simp] abbrev YH(d i:Nat):af:=⟨some d,none,.alloc i [i64 0,.sl .plain none 0 []]⟩
@[simp] abbrev YN(d e b x y:Nat):af:=⟨some d,none,.append e b false none none x (.s y)⟩
@[simp] abbrev YU(d:Nat)(o:UnOp)(x:Nat):af:=⟨some d,none,.un o (.s x)⟩
@[simp] abbrev YI(d e x:Nat)(n:Int):af:=⟨some d,none,.idxSl e (.s x) (.c (i64 n))⟩
@[simp] abbrev YC(d f x:Nat)(n:Int):af:=⟨some d,none,.call f [.s x,.c (i64 n)] []⟩
@[simp] abbrev YD(d f x:Nat)(n m:Int):af:=⟨some d,none,.call f [.s x,.c (i64 n),.c (i64 m)] []⟩
@[simp] abbrev YV(d x:Nat):af:=⟨some d,none,.nilchk (.s x)⟩
@[simp] abbrev YE(d:Nat)(k:IntKind)(x:Nat):af:=⟨some d,none,.toInt k (.s x)⟩
@[simp] abbrev YF(d e x y:Nat):af:=⟨some d,none,.slSl e (.s x) (some (.s y)) none none⟩
@[simp] abbrev YX(d e x y:Nat):af:=⟨some d,none,.slSl e (.s x) none (some (.s y)) none⟩
@[simp] abbrev YQ(d x:Nat):af:=⟨some d,none,.buildSl 16 1 (bys (bF 16)) [(0,16,.s x)]⟩
@[simp] abbrev YW(d:Nat)(o:BinOp)(x:Nat)(v:oH):af:=⟨some d,none,.bin o (.s x) (.c v)⟩
@[simp] abbrev YG(g:Nat)(o:af):af:=⟨o.dst,some (g,true),o.op⟩
@[simp] abbrev Yg(g:Nat)(o:af):af:=⟨o.dst,some (g,false),o.op⟩
@[simp] abbrev Yr(k:List Nat)(l:List af)(r:av):av:= .seq (.region k [] l) r
@[simp] abbrev YR(k:List Nat)(g:List tJ)(l:List af)(r:av):av:= .seq (.region k g l) r
@[simp] abbrev Yq(a b:av):av:= .seq a b
@[simp] abbrev Yy(k:List Nat):av:= .ghost (.keep k) .skip
@[simp] abbrev YY(k:List Nat):av:= .ghost (.keep k) (.exit 0)
@[simp] abbrev Yu(k:List Nat)(l:List af):av:= .region k [] l
@[simp] abbrev Yd(s:Nat)(a b:av):av:= .cond (.s s) a b
end Go.Abs
namespace Go.Abs
def dN(x:UInt32)(n:Nat):UInt32:=Mn x n|||eD x (32-n)
def Qe(x:UInt32)(k:Int):UInt32:=eD x (UInt64.ofInt k&&&31).toNat|||Mn x (32-(UInt64.ofInt k&&&31)).toNat
theorem z9W(x:UInt32):Qe x (-7)=dN x 7:=UInt32.or_comm _ _
theorem z2r(x:UInt32):Qe x (-18)=dN x 18:=UInt32.or_comm _ _
theorem z6D(x:UInt32):Qe x (-17)=dN x 17:=UInt32.or_comm _ _
theorem z4x(x:UInt32):Qe x (-19)=dN x 19:=UInt32.or_comm _ _
theorem z2aa(x:UInt32):Qe x (-6)=dN x 6:=UInt32.or_comm _ _
theorem z9s(x:UInt32):Qe x (-11)=dN x 11:=UInt32.or_comm _ _
theorem z0B(x:UInt32):Qe x (-25)=dN x 25:=UInt32.or_comm _ _
theorem z3aa(x:UInt32):Qe x (-2)=dN x 2:=UInt32.or_comm _ _
theorem z1t(x:UInt32):Qe x (-13)=dN x 13:=UInt32.or_comm _ _
theorem z6s(x:UInt32):Qe x (-22)=dN x 22:=UInt32.or_comm _ _
structure H8 where
 a:UInt32
 b:UInt32
 c:UInt32
 d:UInt32
 e:UInt32
 f:UInt32
 g:UInt32
 h:UInt32
def H8.l(s:H8):List UInt32:=[s.a,s.b,s.c,s.d,s.e,s.f,s.g,s.h]
def H8.of(l:List UInt32):H8:=⟨bJ l 0,bJ l 1,bJ l 2,bJ l 3,bJ l 4,bJ l 5,bJ l 6,bJ l 7⟩
@[simp] theorem H8.of_l(s:H8):H8.of s.l=s:=rfl
@[simp] theorem H8.len(s:H8):s.l.length=8:=rfl
def iv:H8:=⟨1779033703,3144134277,1013904242,2773480762,1359893119,2600822924,528734635,1541459225⟩
def kc:List UInt32:=[1116352408,1899447441,3049323471,3921009573,961987163,1508970993,2453635748,2870763221,3624381080,310598401,607225278,1426881987,1925078388,2162078206,2614888103,3248222580,3835390401,4022224774,264347078,604807628,770255983,1249150122,1555081692,1996064986,2554220882,2821834349,2952996808,3210313671,3336571891,3584528711,113926993,338241895,666307205,773529912,1294757372,1396182291,1695183700,1986661051,2177026350,2456956037,2730485921,2820302411,3259730800,3345764771,3516065817,3600352804,4094571909,275423344,430227734,506948616,659060556,883997877,958139571,1322822218,1537002063,1747873779,1955562222,2024104815,2227730452,2361852424,2428436474,2756734187,3204031479,3329325298]
def Xk:aW:=⟨λds=>∃x k,ds=[u32 x,i64 k],λds=>u32 (Qe (nI (nth ds 0)) (asI (nth ds 1)))⟩
def z4k:aW:=⟨λds=>∃x i j k,ds=[u32 x,i64 i,i64 j,i64 k],λds=>u32 (Qe (nI (nth ds 0)) (W (-asI (nth ds 1)))^^^Qe (nI (nth ds 0)) (W (-asI (nth ds 2)))^^^Qe (nI (nth ds 0)) (W (-asI (nth ds 3))))⟩
def ldw(b:List UInt8)(t:Nat):Nat->UInt32
 |0=>0
 |j+1=>eD (ldw b t j) 8|||(at8 b (4*t+j)).toUInt32
def sg0(p:UInt32):UInt32:=dN p 7^^^dN p 18^^^Mn p 3
def sg1(q:UInt32):UInt32:=dN q 17^^^dN q 19^^^Mn q 10
def KA(b:List UInt8)(t:Nat)(w:List UInt32):UInt32:=
 if t<16 then ldw b t 4 else bJ w (t-16)+sg0 (bJ w (t-15))+bJ w (t-7)+sg1 (bJ w (t-2))
def qX(b:List UInt8):Nat->List UInt32
 |0=>[]
 |t+1=>qX b t++[KA b t (qX b t)]
theorem sT(b:List UInt8):∀t,(qX b t).length=t
 |0=>rfl
 |t+1=>by simp[qX,sT b t]
def Be:aW:=⟨λds=>∃nl b,b.length=64∧ds=[.sl .plain nl 64 (bys b)],λds=> .agg (bg (qX (gBs (gCs (nth ds 0))) 64))⟩
def rnd(k w:UInt32)(s:H8):H8:=
 let x:=s.h+(dN s.e 6^^^dN s.e 11^^^dN s.e 25)+((s.e&&&s.f)^^^(~~~s.e&&&s.g))+k+w
 let y:=(dN s.a 2^^^dN s.a 13^^^dN s.a 22)+((s.a&&&s.b)^^^(s.a&&&s.c)^^^(s.b&&&s.c))
 ⟨x+y,s.a,s.b,s.c,s.d+x,s.e,s.f,s.g⟩
def Kp(w:List UInt32)(s:H8):Nat->H8
 |0=>s
 |t+1=>rnd (bJ kc t) (bJ w t) (Kp w s t)
def H8.add(s v:H8):H8:=⟨s.a+v.a,s.b+v.b,s.c+v.c,s.d+v.d,s.e+v.e,s.f+v.f,s.g+v.g,s.h+v.h⟩
def Ni(s:H8)(b:List UInt8):H8:=s.add (Kp (qX b 64) s 64)
def Ie:aW:=⟨λds=>∃(s:H8) (nl:Option Bool) (b:List UInt8),b.length=64∧ds=[.agg (bg s.l),.sl .plain nl 64 (bys b)],λds=> .agg (bg (Ni (H8.of (gWs (gCs (nth ds 0)))) (gBs (gCs (nth ds 1)))).l)⟩
theorem EU{t:Nat}(h:t<64):qG (64-t)=0::qG (63-t):=by rw[show 64-t=(63-t)+1 by omega];rfl
theorem IR{α:Type}{a c:List α}{i:Nat}{x y:α}(h:i=a.length):(a++x::c).set i y=a++y::c:=by subst h;simp
structure bP where
 h:H8
 b:List UInt8
 n:UInt64
def scs(s:bP):List oH:=bg s.h.l++(bys s.b++[u64 s.n])
def bP.v(s:bP):oH:= .agg (scs s)
def bP.of(l:List oH):bP:=⟨H8.of (gWs (l.take 8)),gBs ((l.drop 8).take 64),m9 (nth l 72)⟩
section cells
variable {s : bP}
theorem yo(h:s.b.length=64):(scs s).length=73:=by simp[scs,h]
theorem z0d(h:s.b.length=64):hdA ((scs s).drop 72)=u64 s.n:=by rw[Zx];simp[scs,List.getD,List.getElem?_append,h]
theorem z3O(s:bP):(scs s).take 8=bg s.h.l:=by simp[scs]
theorem z9A(h:s.b.length=64):((scs s).drop 8).take 64=bys s.b:=by rw[scs,List.drop_left' (by simp),List.take_left' (by simp[h])]
theorem TK(h:s.b.length=64):(scs s).take 73=scs s:=List.take_of_length_le (by rw[yo h];decide)
@[simp] theorem ll(s:bP):(∀c∈scs s,ah c)↔True:=by simp[scs,or_imp,forall_and]
@[simp] theorem nJ(s:bP):(∀c∈scs s,ao c=false)↔True:=by simp[scs,or_imp,forall_and]
@[simp] theorem dr(s:bP):au (scs s)=true:=by simp[scs]
@[simp] theorem z4a(s:bP):(∀c∈scs s,ak c=true)↔True:=iff_true_intro ((bE _).1 (dr s))
@[simp] theorem ox(s:bP):aj (scs s)=true:=by simp[scs]
@[simp] theorem ZM(s:bP):pT (scs s)=[]:=by simp[scs]
theorem NW{x:H8}:splice (scs s) 0 (bg x.l)=scs {s with h:=x}:=by rw[scs,FF (by simp),oJ (by simp)];rfl
theorem Up{n:UInt64}(h:s.b.length=64):splice (scs s) 72 [u64 n]=scs {s with n:=n}:=by rw[scs,Ep (by simp),Ep (by simp[h])];simp[h,scs]
theorem V3{i:Nat}{xs:List UInt8}(h:s.b.length=64)(hi:i+xs.length<=64):splice (scs s) (8+i) (bys xs)=scs {s with b:=s.b.take i++xs++s.b.drop (i+xs.length)}:=by rw[scs,Ep (by simp),FF (by simp[h];omega)];simp only[H8.len,hJ,Nat.add_sub_cancel_left,scs];rw[splice,SD,sP,sP,mz,mE]
theorem LP{l:List oH}(h:s.b.length=64)(hl:l.length=73):splice l 0 (scs s)=scs s:=oJ (by rw[hl,yo h])
end cells
theorem R9:(bg (qG 8)++(bys (bF 64)++[u64 0])).length=73:=by simp
def z7S(s:bP)(x:UInt8):bP:=
 let b':=s.b.set (s.n.toNat% 64) x
 ⟨if s.n.toNat% 64=63 then Ni s.h b' else s.h,b',s.n+1⟩
def bP.add(s:bP)(m:List UInt8):bP:=m.foldl z7S s
theorem Y1(s:bP)(x:UInt8):(z7S s x).b.length=s.b.length:=by simp[z7S]
theorem Hk(m:List UInt8):∀s:bP,(s.add m).b.length=s.b.length:=by
 induction m with
 |nil=>intro s;rfl
 |cons x m ih=>intro s;rw[bP.add,List.foldl_cons];exact(ih _).trans (Y1 s x)
theorem CK(s:bP)(m k:List UInt8):s.add (m++k)=(s.add m).add k:=by simp[bP.add]
theorem bP.of_scs(s:bP)(hb:s.b.length=64):bP.of (scs s)=s:=by
 have h3:nth (scs s) 72=u64 s.n:=by rw[nth,<-Zx,z0d hb]
 rw[bP.of,z3O,z9A hb,h3];simp
def bP.init:bP:=⟨iv,bF 64,0⟩
def Er:aW:=⟨λds=>ds=[],λ_=>bP.init.v⟩
def QS:aW:=⟨λds=>∃(s:bP) (m:List UInt8),s.b.length=64∧ds=[s.v,st m],λds=>((bP.of (gCs (nth ds 0))).add (gS (nth ds 1))).v⟩
theorem I4(s:bP)(hb:s.b.length=64):∀(j:Nat) (m:List UInt8),m.length=j->s.n.toNat% 64+j<=64->
  s.add m=⟨if s.n.toNat% 64+j=64 then Ni s.h (s.b.take (s.n.toNat% 64)++(m++s.b.drop (s.n.toNat% 64+j))) else s.h,
   s.b.take (s.n.toNat% 64)++(m++s.b.drop (s.n.toNat% 64+j)),s.n+UInt64.ofNat j⟩
 |0,m,hm,h=>by have hm':=List.length_eq_zero_iff.1 hm;subst hm';have h1:s.n.toNat% 64<64:=Nat.mod_lt _ (by decide);rw[if_neg (by omega)];simp[bP.add]
 |j+1,m,hm,h=>by
  have hne:m≠[]:=λe=>by rw[e] at hm;simp at hm
  obtain⟨k,x,rfl⟩:∃k x,m=k++[x]:=⟨m.dropLast,m.getLast hne,(List.dropLast_concat_getLast hne).symm⟩;have hk:k.length=j:=by simp at hm;exact hm
  rw[CK,I4 s hb j k hk (by omega),if_neg (by omega)];have hn:(s.n+UInt64.ofNat j).toNat% 64=s.n.toNat% 64+j:=by rw[UInt64.toNat_add,UInt64.toNat_ofNat'];omega
  have hset:(s.b.take (s.n.toNat% 64)++(k++s.b.drop (s.n.toNat% 64+j))).set (s.n.toNat% 64+j) x=s.b.take (s.n.toNat% 64)++((k++[x])++s.b.drop (s.n.toNat% 64+(j+1))):=by rw[List.drop_eq_getElem_cons (show s.n.toNat% 64+j<s.b.length by omega),<-List.append_assoc,IR (by simp[hk];omega)];simp[Nat.add_assoc]
  simp only[bP.add,List.foldl_cons,List.foldl_nil,z7S,hn,hset];congr 1
  ·by_cases h63:s.n.toNat% 64+j=63
   ·rw[if_pos h63,if_pos (by omega)]
   rw[if_neg h63,if_neg (by omega)]
  rw[UInt64.add_assoc];congr 1;apply UInt64.toNat_inj.1;simp
def KC(n:Nat):Nat:=(119-n% 64)% 64
def be8(n:UInt64):Nat->List UInt8
 |0=>[]
 |i+1=>be8 n i++[(ct n (56-8*i)).toUInt8]
theorem HX(n:UInt64):∀i,(be8 n i).length=i
 |0=>rfl
 |i+1=>by simp[be8,HX n i]
def nQ(n:UInt64):List UInt8:=(128::bF (KC n.toNat))++be8 (8*n) 8
def SK(h:H8):Nat->List UInt8
 |0=>[]
 |i+1=>SK h i++[(Mn (bJ h.l (i/4)) (24-8*(i% 4))).toUInt8]
theorem cI(h:H8):∀i,(SK h i).length=i
 |0=>rfl
 |i+1=>by simp[SK,cI h i]
def bP.sum(s:bP):List UInt8:=SK (s.add (nQ s.n)).h 32
def Us:aW:=⟨λds=>∃s:bP,s.b.length=64∧s.n.toNat<1099511627776∧ds=[s.v],λds=> .agg (bys (bP.of (gCs (nth ds 0))).sum)⟩
theorem z62{s:bP}{j:Nat}(h:j<8):hdA ((scs s).drop j)=u32 (bJ s.h.l j):=by
 rw[scs,List.drop_append_of_le_length (by simp;omega),Jq,hdA];rw[show(bg (s.h.l.drop j)++(bys s.b++[u64 s.n])).headD .undef=hdA (bg (s.h.l.drop j)) by
  rw[List.drop_eq_getElem_cons (show j<s.h.l.length from h)];rfl]
 exact AH h
theorem Pk(n:Nat):KC n<64:=Nat.mod_lt _ (by decide)
theorem Ps(n:Nat):(n+(KC n+1))% 64=56:=by unfold KC;omega
theorem Ko(k:Nat):bF k++[0]=bF (k+1):=by simp[bF,List.replicate_succ']
theorem LY{t n:Nat}(h:t<n):bF (n-t)=0::bF (n-1-t):=by rw[show n-t=(n-1-t)+1 by omega];rfl
theorem z22(m:List UInt8):∀s:bP,(s.add m).n=s.n+UInt64.ofNat m.length:=by
 induction m with
 |nil=>intro s;simp[bP.add]
 |cons x m ih=>intro s;have:s.add (x::m)=(z7S s x).add m:=rfl;rw[this,ih];simp only[z7S,List.length_cons];rw[UInt64.add_assoc];congr 1;apply UInt64.toNat_inj.1;simp;omega
theorem Ja(m:List UInt8)(s:bP)(h:s.n.toNat+m.length<18446744073709551616):(s.add m).n.toNat=s.n.toNat+m.length:=by rw[z22,UInt64.toNat_add,UInt64.toNat_ofNat'];omega
def sha(l:List UInt8):List UInt8:=(bP.init.add l).sum
theorem J4(l:List UInt8):(sha l).length=32:=cI _ 32
theorem IJ:bP.init.b.length=64:=by simp[bP.init]
def LT:aW:=⟨λds=>∃(nl:Option Bool) (l:List UInt8),l.length<1099511627776∧ds=[.sl .plain nl l.length (bys l)],λds=> .agg (bys (sha (gBs (gCs (nth ds 0)))))⟩
set_option maxRecDepth 100000
def Ay:nH:=
 {n:=1,wr:=[],res:=[.cell 2 (some 32) 2],body:=YR [2] [.norm [2]] [Yz 2 2 32] (YR [2] [.norm [2]] [YT 3 0 [],Ym 4 0,Yo 5 (.toStr none (.s 4)),YK 6 1 3 5,Yk 7 2 6,Ys 32 2 2 7] .ret)}
def wC:nH:=
 {n:=0,wr:=[],res:=[.cell 0 (some 73) 0],body:=YR [0] [.norm [0]] [Yo 0 (.alloc 0 (bg (qG 8)++bys (bF 64)++[u64 0]))] (YR [0] [.norm [0]] [Yo 1 (.build [u32 0,u32 0,u32 0,u32 0,u32 0,u32 0,u32 0,u32 0] [(0,1,.c (u32 1779033703)),(1,1,.c (u32 3144134277)),(2,1,.c (u32 1013904242)),(3,1,.c (u32 2773480762)),(4,1,.c (u32 1359893119)),(5,1,.c (u32 2600822924)),(6,1,.c (u32 528734635)),(7,1,.c (u32 1541459225))]),Yo 2 (.build (bg (qG 8)++bys (bF 64)++[u64 0]) [(0,8,.s 1)]),Ys 73 0 0 2] .ret)}
def su:nH:=
 {n:=2,wr:=[1],res:=[.cell 4 (some 73) 4],body:=YR [1,2,4] [.norm [2,4]] [Yx 2 2 73 0,Yo 4 (.alloc 4 (bg (qG 8)++bys (bF 64)++[u64 0]))] (Yq (.block 0 (.loop (Yq (Yr [1,2,4,8] [Ym 7 1,YW 8 .neq 7 (st [])] (Yd 8 (Yy [1,2,4]) (YY [2,4]))) (.block 1 (YR [1,2,4,5] [.norm [2,4]] [Yf 9 72 2,Yl 10 2 9,YW 11 .rem 10 (u64 64),YE 12 .i64 11,Ym 5 12] (YR [1,2,4,5,6] [.norm [2,4]] [Yf 13 8 2,Ym 14 5,Yo 15 (.slArr 64 1 (.s 13) (some (.s 14)) none none),Ym 16 1,Yo 17 (.copy 1 true 2 none (.s 15) (.s 16)),Ym 6 17] (Yr [1,2,4,5,6] [Ym 18 1,Ym 19 6,Yo 20 (.slStr (.s 18) (some (.s 19)) none),Ym 1 20] (YR [1,2,4,5,6] [.norm [2,4]] [Yf 21 72 2,Yl 22 2 21,Ym 23 6,YE 24 .u64 23,Yb 25 .add 22 24,Yf 26 72 2,YS 2 26 25] (Yr [1,2,4,30] [Ym 27 5,Ym 28 6,Yb 29 .add 27 28,YB 30 .eql 29 64] (Yd 30 (.region [1,2,4] [.norm [2,4]] [Yf 31 0 2,YL 32 8 2 31,Yf 33 8 2,Yo 34 (.slArr 64 1 (.s 33) none none none),Yo 35 (.call 4 [.s 32,.s 34] [2]),Yf 36 0 2,Ys 8 2 36 35]) (Yy [1,2,4]))))))))))) (YR [4] [.norm [2,4]] [YL 37 73 2 2,Ys 73 4 4 37] .ret))}
def sr:nH:=
 {n:=1,wr:=[],res:=[.cell 2 (some 32) 2],body:=YR [1,2] [.norm [1,2]] [Yx 1 1 73 0,Yz 2 2 32] (YR [1,2,3] [.norm [1,2]] [Yf 8 72 1,Yl 9 1 8,Yo 10 (.bin .mul (.c (u64 8)) (.s 9)),Ym 3 10] (Yr [1,2,3,4] [Yo 11 (.buildSl 1 1 [u8 0] [(0,1,.c (u8 128))]),YM 4 11] (Yq (.block 0 (.loop (Yq (YR [1,2,3,4,19] [.norm [1,2]] [Yf 12 72 1,Yl 13 1 12,YE 14 .i64 13,Ym 15 4,Yn 16 15,Yb 17 .add 14 16,YB 18 .rem 17 64,YB 19 .neq 18 56] (Yd 19 (Yy [1,2,3,4]) (YY [1,2,3,4]))) (.block 1 (Yu [1,2,3,4] [YM 20 4,Yo 21 (.buildSl 1 1 [u8 0] [(0,1,.c (u8 0))]),Yo 22 (.append 1 1 false (some false) none 20 (.s 21)),YM 4 22]))))) (Yq (Yr [1,2,3,4,23] [Yc 23 0] (.block 2 (.loop (Yr [1,2,3,4,23,24] [YB 24 .lss 23 8] (Yq (Yd 24 (Yy [1,2,3,4,23]) (.ghost (.keep [1,2,4]) (.exit 2))) (Yq (.block 3 (Yr [1,2,3,4,5,23] [Ym 25 23,Ym 5 25] (Yu [1,2,3,4,23] [YM 26 4,Ym 27 3,Ym 28 5,Yo 29 (.bin .mul (.c (i64 8)) (.s 28)),Yo 30 (.bin .sub (.c (i64 56)) (.s 29)),Yb 31 .shr 27 30,YE 32 .u8 31,Yo 33 (.buildSl 1 1 [u8 0] [(0,1,.s 32)]),Yo 34 (.append 1 1 false (some false) none 26 (.s 33)),YM 4 34]))) (Yu [1,2,3,4,23] [YB 35 .add 23 1,Ym 23 35]))))))) (YR [1,2] [.norm [1,2]] [YL 36 73 1 1,YM 37 4,Yo 38 (.toStr none (.s 37)),YK 39 1 36 38,Ys 73 1 1 39] (YR [1,2,6] [.norm [1,2,6]] [Yz 6 6 32] (Yq (Yr [1,2,6,40] [Yc 40 0] (.block 4 (.loop (Yr [1,2,6,40,41] [YB 41 .lss 40 32] (Yq (Yd 41 (Yy [1,2,6,40]) (.ghost (.keep [2,6]) (.exit 4))) (Yq (.block 5 (Yr [1,2,6,7,40] [Ym 42 40,Ym 7 42] (.region [1,2,6,40] [.norm [1,2,6]] [Ym 43 7,Ym 44 7,YB 45 .quo 44 4,Yf 46 0 1,Ya 47 8 1 46 45,Yl 48 1 47,Ym 49 7,YB 50 .rem 49 4,Yo 51 (.bin .mul (.c (i64 8)) (.s 50)),Yo 52 (.bin .sub (.c (i64 24)) (.s 51)),Yb 53 .shr 48 52,YE 54 .u8 53,Ya 55 32 1 6 43,YS 6 55 54]))) (Yu [1,2,6,40] [YB 56 .add 40 1,Ym 40 56]))))))) (YR [2] [.norm [1,2,6]] [YL 57 32 6 6,Ys 32 2 2 57] .ret))))))))}
def CB:nH:=
 {n:=2,wr:=[],res:=[.cell 4 (some 16) 4],body:=YR [4] [.norm [4]] [Yz 4 4 16] (YR [4,5] [.norm [4,5]] [YT 9 0 [],Ym 10 0,YE 11 .u8 10,Yo 12 (.buildSl 1 1 [u8 0] [(0,1,.s 11)]),Yo 13 (.toStr none (.s 12)),YK 14 1 9 13,Yo 5 (.alloc 5 (bg (qG 8)++bys (bF 64)++[u64 0])),Ys 73 5 5 14] (Yq (Yr [4,5,15,16,17] [Ym 15 1,Yn 16 15,Yc 17 0] (.block 0 (.loop (Yr [4,5,15,16,17,18] [Yb 18 .lss 17 16] (Yq (Yd 18 (Yy [4,5,15,16,17]) (YY [4,5])) (Yq (.block 1 (YR [4,5,7,15,16,17] [.norm [4,5]] [Yi 19 1 15 17,Yj 20 19,Ym 7 20] (.region [4,5,15,16,17] [.norm [4,5]] [YL 21 73 5 5,Ym 22 7,Yk 23 7 22,Yo 24 (.toStr none (.s 23)),YK 25 1 21 24,Ys 73 5 5 25]))) (Yu [4,5,15,16,17] [YB 26 .add 17 1,Ym 17 26]))))))) (YR [4,8] [.norm [4,5,8]] [YL 27 73 5 5,Yk 28 2 27,Yz 8 8 32,Ys 32 8 8 28] (YR [4] [.norm [4,5,8]] [Yo 29 (.slArr 32 1 (.s 8) none (some (.c (i64 16))) none),Yo 30 (.s2ap 16 (.s 29)),YL 31 16 8 30,Ys 16 4 4 31] .ret))))}
def tt:nH:=
 {n:=2,wr:=[],res:=[.cell 4 (some 8) 4],body:=YR [2,4] [.norm [2,4]] [Yx 2 2 8 0,Yo 4 (.alloc 4 (bg (qG 8)))] (YR [2,4,5] [.norm [2,4,5]] [Ym 13 1,Yk 14 10 13,Yo 5 (.alloc 5 (bg (qG 64))),Ys 64 5 5 14] (YR [2,4,5,6,7] [.norm [2,4,5,6,7]] [Yo 15 (.slArr 8 1 (.s 2) none (some (.c (i64 4))) none),Yo 16 (.s2ap 4 (.s 15)),YL 17 4 2 16,Yo 18 (.slArr 8 1 (.s 2) (some (.c (i64 4))) none none),Yo 19 (.s2ap 4 (.s 18)),YL 20 4 2 19,Yo 6 (.alloc 6 [u32 0,u32 0,u32 0,u32 0]),Yo 7 (.alloc 7 [u32 0,u32 0,u32 0,u32 0]),Ys 4 6 6 17,Ys 4 7 7 20] (Yq (YR [2,4,5,6,7,21,22] [.norm [2,4,5,6,7]] [Yo 21 (.load (some 64) none false (.g 0)),Yc 22 0] (.block 0 (.loop (Yr [2,4,5,6,7,21,22,23] [YB 23 .lss 22 64] (Yq (Yd 23 (Yy [2,4,5,6,7,21,22]) (YY [2,4,6,7])) (Yq (.block 1 (Yr [2,4,5,6,7,8,9,21,22] [Ym 24 22,Yo 25 (.idxA none 1 64 (.s 21) (.s 22)),Ym 8 24,Ym 9 25] (YR [2,4,5,6,7,10,21,22] [.norm [2,4,5,6,7]] [YA 26 4 1 7 3,Yl 27 7 26,YA 28 4 1 7 0,Yl 29 7 28,Yo 30 (.call 11 [.s 29,.c (i64 6),.c (i64 11),.c (i64 25)] []),Yb 31 .add 27 30,YA 32 4 1 7 0,Yl 33 7 32,YA 34 4 1 7 1,Yl 35 7 34,Yb 36 .and 33 35,YA 37 4 1 7 0,Yl 38 7 37,YU 39 .xor 38,YA 40 4 1 7 2,Yl 41 7 40,Yb 42 .and 39 41,Yb 43 .xor 36 42,Yb 44 .add 31 43,Ym 45 9,Yb 46 .add 44 45,Ym 47 8,Ya 48 64 1 5 47,Yl 49 5 48,Yb 50 .add 46 49,Ym 10 50] (YR [2,4,5,6,7,10,11,21,22] [.norm [2,4,5,6,7]] [YA 51 4 1 6 0,Yl 52 6 51,Yo 53 (.call 11 [.s 52,.c (i64 2),.c (i64 13),.c (i64 22)] []),YA 54 4 1 6 0,Yl 55 6 54,YA 56 4 1 6 1,Yl 57 6 56,Yb 58 .and 55 57,YA 59 4 1 6 0,Yl 60 6 59,YA 61 4 1 6 2,Yl 62 6 61,Yb 63 .and 60 62,Yb 64 .xor 58 63,YA 65 4 1 6 1,Yl 66 6 65,YA 67 4 1 6 2,Yl 68 6 67,Yb 69 .and 66 68,Yb 70 .xor 64 69,Yb 71 .add 53 70,Ym 11 71] (YR [2,4,5,6,7,10,11,21,22] [.norm [2,4,5,6,7]] [YA 72 4 1 6 3,Yl 73 6 72,Ym 74 10,Yb 75 .add 73 74,YA 76 4 1 7 0,Yl 77 7 76,YA 78 4 1 7 1,Yl 79 7 78,YA 80 4 1 7 2,Yl 81 7 80,Yo 82 (.build [u32 0,u32 0,u32 0,u32 0] [(0,1,.s 75),(1,1,.s 77),(2,1,.s 79),(3,1,.s 81)]),Ys 4 7 7 82] (.region [2,4,5,6,7,21,22] [.norm [2,4,5,6,7]] [Ym 83 10,Ym 84 11,Yb 85 .add 83 84,YA 86 4 1 6 0,Yl 87 6 86,YA 88 4 1 6 1,Yl 89 6 88,YA 90 4 1 6 2,Yl 91 6 90,Yo 92 (.build [u32 0,u32 0,u32 0,u32 0] [(0,1,.s 85),(1,1,.s 87),(2,1,.s 89),(3,1,.s 91)]),Ys 4 6 6 92])))))) (Yu [2,4,5,6,7,21,22] [YB 93 .add 22 1,Ym 22 93]))))))) (Yq (Yr [2,4,6,7,94] [Yc 94 0] (.block 2 (.loop (Yr [2,4,6,7,94,95] [YB 95 .lss 94 4] (Yq (Yd 95 (Yy [2,4,6,7,94]) (.ghost (.keep [2,4]) (.exit 2))) (Yq (.block 3 (Yr [2,4,6,7,12,94] [Ym 96 94,Ym 12 96] (YR [2,4,6,7,12,94] [.norm [2,4,5,6,7]] [Ym 97 12,Ya 98 8 1 2 97,Yl 99 2 98,Ym 100 12,Ya 101 4 1 6 100,Yl 102 6 101,Yb 103 .add 99 102,Ya 104 8 1 2 97,YS 2 104 103] (.region [2,4,6,7,94] [.norm [2,4,5,6,7]] [Ym 105 12,YB 106 .add 105 4,Ya 107 8 1 2 106,Yl 108 2 107,Ym 109 12,Ya 110 4 1 7 109,Yl 111 7 110,Yb 112 .add 108 111,Ya 113 8 1 2 106,YS 2 113 112])))) (Yu [2,4,6,7,94] [YB 114 .add 94 1,Ym 94 114]))))))) (YR [4] [.norm [2,4,5,6,7]] [YL 115 8 2 2,Ys 8 4 4 115] .ret)))))}
def uT:nH:=
 {n:=1,wr:=[],res:=[.t 2],body:=Yr [] [Yv 2 1] (Yr [2] [Ym 3 0,Yo 4 (.len true (.s 3)),Yk 5 12 4,Ym 6 0,Yo 7 (.append 1 1 true (some false) none 5 (.s 6)),YM 2 7] .ret)}
def tA:nH:=
 {n:=1,wr:=[],res:=[.cell 2 (some 64) 2],body:=YR [2] [.norm [2]] [Yo 2 (.alloc 2 (bg (qG 64)))] (YR [2,3] [.norm [2,3]] [Yo 3 (.alloc 3 (bg (qG 64)))] (Yq (Yr [2,3,11] [Yc 11 0] (.block 0 (.loop (Yr [2,3,11,12] [YB 12 .lss 11 64] (Yq (Yd 12 (Yy [2,3,11]) (YY [2,3])) (Yq (.block 1 (Yr [2,3,4,11] [Ym 13 11,Ym 4 13] (Yq (Yr [2,3,4,11,15] [Ym 14 4,YB 15 .lss 14 16] (Yd 15 (Yq (Yr [2,3,4,11,22,23,24] [Ym 16 0,Ym 17 4,Yo 18 (.bin .mul (.c (i64 4)) (.s 17)),Ym 19 4,Yo 20 (.bin .mul (.c (i64 4)) (.s 19)),YB 21 .add 20 4,Yo 22 (.slSl 1 (.s 16) (some (.s 18)) (some (.s 21)) none),Yn 23 22,Yc 24 0] (.block 2 (.loop (Yr [2,3,4,11,22,23,24,25] [Yb 25 .lss 24 23] (Yq (Yd 25 (Yy [2,3,4,11,22,23,24]) (.ghost (.keep [2,3,11]) (.exit 2))) (Yq (.block 3 (YR [2,3,4,6,11,22,23,24] [.norm [2,3]] [Yi 26 1 22 24,Yj 27 26,Ym 6 27] (.region [2,3,4,11,22,23,24] [.norm [2,3]] [Ym 28 4,Ym 29 4,Ya 30 64 1 3 29,Yl 31 3 30,YW 32 .shl 31 (u64 8),Ym 33 6,YE 34 .u32 33,Yb 35 .or 32 34,Ya 36 64 1 3 28,YS 3 36 35]))) (Yu [2,3,4,11,22,23,24] [YB 37 .add 24 1,Ym 24 37]))))))) (.ghost (.keep [2,3,11]) (.exit 1))) (Yy [2,3,4,11]))) (YR [2,3,4,7,8,11] [.norm [2,3]] [Ym 38 4,YB 39 .sub 38 15,Ya 40 64 1 3 39,Yl 41 3 40,Ym 42 4,YB 43 .sub 42 2,Ya 44 64 1 3 43,Yl 45 3 44,Ym 7 41,Ym 8 45] (Yr [2,3,4,8,9,11] [Ym 46 7,YC 47 13 46 (-7),Ym 48 7,YC 49 13 48 (-18),Yb 50 .xor 47 49,Ym 51 7,YW 52 .shr 51 (u64 3),Yb 53 .xor 50 52,Ym 9 53] (Yr [2,3,4,9,10,11] [Ym 54 8,YC 55 13 54 (-17),Ym 56 8,YC 57 13 56 (-19),Yb 58 .xor 55 57,Ym 59 8,YW 60 .shr 59 (u64 10),Yb 61 .xor 58 60,Ym 10 61] (.region [2,3,11] [.norm [2,3]] [Ym 62 4,Ym 63 4,YB 64 .sub 63 16,Ya 65 64 1 3 64,Yl 66 3 65,Ym 67 9,Yb 68 .add 66 67,Ym 69 4,YB 70 .sub 69 7,Ya 71 64 1 3 70,Yl 72 3 71,Yb 73 .add 68 72,Ym 74 10,Yb 75 .add 73 74,Ya 76 64 1 3 62,YS 3 76 75]))))))) (Yu [2,3,11] [YB 77 .add 11 1,Ym 11 77]))))))) (YR [2] [.norm [2,3]] [YL 78 64 3 3,Ys 64 2 2 78] .ret)))}
def AG:nH:=
 {n:=4,wr:=[],res:=[.t 8],body:=Yr [] [Yo 8 (.mv false (.c (u32 0)))] (Yr [8] [Ym 9 0,Ym 10 1,YU 11 .neg 10,YK 12 13 9 11,Ym 13 0,Ym 14 2,YU 15 .neg 14,YK 16 13 13 15,Yb 17 .xor 12 16,Ym 18 0,Ym 19 3,YU 20 .neg 19,YK 21 13 18 20,Yb 22 .xor 17 21,Ym 8 22] .ret)}
def aH:nH:=
 {n:=1,wr:=[],res:=[.t 2],body:=Yr [] [Yv 2 1] (.scope (Yr [3,4] [Ym 8 0,YE 9 .u64 8,Ym 3 9,Yo 4 (.mv false (.c (u8 0)))] (Yq (Yr [3,4,11] [Ym 10 0,YB 11 .lss 10 0] (Yd 11 (Yu [3,4] [Ym 12 3,YU 13 .xor 12,Ym 3 13,Yo 4 (.mv false (.c (u8 255)))]) (Yy [3,4]))) (Yr [3,4,5] [Yc 5 8] (Yq (Yy [3,4,5]) (Yq (.block 0 (.loop (Yq (Yr [3,4,5,15] [Ym 14 5,YB 15 .gtr 14 0] (Yd 15 (Yy [3,4,5]) (YY [3,4,5]))) (.block 1 (Yq (Yr [3,4,5,21] [Ym 16 3,Ym 17 5,YB 18 .sub 17 1,Yo 19 (.bin .mul (.c (i64 8)) (.s 18)),Yb 20 .shr 16 19,YW 21 .gtr 20 (u64 0)] (Yd 21 (YY [3,4,5]) (Yy [3,4,5]))) (Yu [3,4,5] [Ym 22 5,YB 23 .sub 22 1,Ym 5 23])))))) (Yr [3,4,5,6] [Ym 24 5,Yo 25 (.bin .add (.c (i64 128)) (.s 24)),YE 26 .u8 25,Ym 27 4,Yb 28 .xor 26 27,Yo 29 (.buildSl 1 1 [u8 0] [(0,1,.s 28)]),YM 6 29] (Yq (Yr [3,4,6,7] [Ym 30 5,YB 31 .sub 30 1,Ym 7 31] (.block 2 (.loop (Yq (Yr [3,4,6,7,33] [Ym 32 7,YB 33 .geq 32 0] (Yd 33 (Yy [3,4,6,7]) (.ghost (.keep [6]) (.exit 2)))) (Yq (.block 3 (Yu [3,4,6,7] [YM 36 6,Ym 37 3,Ym 38 7,Yo 39 (.bin .mul (.c (i64 8)) (.s 38)),Yb 40 .shr 37 39,YE 41 .u8 40,Ym 42 4,Yb 43 .xor 41 42,Yo 44 (.buildSl 1 1 [u8 0] [(0,1,.s 43)]),Yo 45 (.append 1 1 false (some false) none 36 (.s 44)),YM 6 45])) (Yu [3,4,6,7] [Ym 34 7,YB 35 .sub 34 1,Ym 7 35])))))) (Yr [2] [YM 46 6,YM 2 46] .ret)))))))))}
def rC:nH:=
 {n:=2,wr:=[],res:=[.t 4],body:=Yr [] [Yo 4 (.mv false (.c (u32 0)))] (Yr [5] [Ym 6 1,YE 7 .u64 6,YW 8 .and 7 (u64 31),Ym 5 8] (Yr [4] [Ym 9 0,Ym 10 5,Yb 11 .shl 9 10,Ym 12 0,Ym 13 5,Yo 14 (.bin .sub (.c (u64 32)) (.s 13)),Yb 15 .shr 12 14,Yb 16 .or 11 15,Ym 4 16] .ret))}
def bW(n:Nat):List UInt8:=if h:n=0 then [] else UInt8.ofNat n::bW (n/256)
termination_by n
decreasing_by omega
theorem ue:bW 0=[]:=by rw[bW];simp
theorem bu{n:Nat}(h:n≠0):bW n=UInt8.ofNat n::bW (n/256):=by rw[bW];simp[h]
def mag(n:Int):Nat:=(if n<0 then-1-n else n).toNat
def flp(n:Int)(c:UInt8):UInt8:=if n<0 then 255-c else c
def eU(n:Int):List UInt8:=
 flp n (UInt8.ofNat (128+(bW (mag n)).length))::(bW (mag n)).reverse.map (flp n)
theorem Ig:∀(i n:Nat) (h:i<(bW n).length),(bW n)[i]=UInt8.ofNat (n/256^i)
 |0,n,h=>by
  by_cases hn:n=0
  ·subst hn;simp[ue] at h
  simp[bu hn]
 |i+1,n,h=>by
  by_cases hn:n=0
  ·subst hn;simp[ue] at h
  simp only[bu hn,List.length_cons,Nat.add_lt_add_iff_right] at h⊢;rw[List.getElem_cons_succ,Ig i (n/256) h,Nat.div_div_eq_div_mul,Nat.pow_succ,Nat.mul_comm]
theorem bz:∀(k n:Nat),(bW n).length<=k↔n<256^k
 |0,n=>by
  by_cases hn:n=0
  ·subst hn;simp[ue]
  simp[bu hn];omega
 |k+1,n=>by
  by_cases hn:n=0
  ·subst hn;simp[ue,Nat.pow_pos]
  rw[bu hn,List.length_cons,Nat.add_le_add_iff_right,bz k,Nat.div_lt_iff_lt_mul (by decide),Nat.pow_succ]
theorem ci{x:UInt64}{N m:Nat}(hx:x.toNat=N):(0<ct x m)↔2^m<=N:=by rw[UInt64.lt_iff_toNat_lt];show 0<(x.toBitVec>>>m).toNat↔_;rw[BitVec.toNat_ushiftRight,Nat.shiftRight_eq_div_pow];show 0<x.toNat/2^m↔_;rw[hx,Nat.div_pos_iff];have:=Nat.two_pow_pos m;omega
theorem cD(k:Nat):2^(8*k)=256^k:=by rw[Nat.pow_mul]
theorem cW{x:UInt64}{N m:Nat}(hx:x.toNat=N):(ct x m).toUInt8=UInt8.ofNat (N/2^m):=by apply UInt8.toNat_inj.1;rw[UInt64.toNat_toUInt8,UInt8.toNat_ofNat'];show(x.toBitVec>>>m).toNat% 256=_;rw[BitVec.toNat_ushiftRight,Nat.shiftRight_eq_div_pow];show x.toNat/2^m% 256=_;rw[hx]
def aO(n:Int):Prop:= -9223372036854775808<=n∧n<=9223372036854775807
def gx:aW:=⟨λds=>∃n,aO n∧ds=[i64 n],λds=> .sl (.own 1) (some false) (eU (asI (nth ds 0))).length (bys (eU (asI (nth ds 0))))⟩
set_option maxRecDepth 100000 in
theorem gu(c:UInt8):c^^^255=255-c:=by
 have h:∀k:Fin 256,UInt8.ofNat k.val^^^255=255-UInt8.ofNat k.val:=by decide+kernel
 have:=h ⟨c.toNat,c.toNat_lt⟩;simpa using this
theorem jy(E:Env):∀ds,gx.pre ds->ds.length=aH.n∧awp E aH.body (qH aH.res (gx.post ds)) (fP aH.wr ds):=by
 rintro _ ⟨n,⟨hn0,hn1⟩,rfl⟩;simp(disch:=first|omega|(simp;omega)) [aH,gx];refine oI λQ0 hQ0=> ?_;have key:∀(x:UInt64) (f:UInt8),x.toNat=mag n->(∀c,c^^^f=flp n c)->Q0 .normal ⟨[(0,i64 n)],[(3,u64 x),(4,u8 f)],[]⟩:=by
  intro x f hx hf;simp(disch:=first|omega|(simp;omega)) [hQ0];refine oI λQ1 hQ1=> ?_;have key2:∀k:Nat,k<=8->(bW (mag n)).length=k->Q1 (.exit 0) ⟨[(0,i64 n)],[(3,u64 x),(4,u8 f),(5,i64 k)],[]⟩:=by
   intro k hk8 hk;simp(disch:=first|omega|(simp;omega)) [hQ1,fJ];refine oI λQ2 hQ2=> ?_;have ehd:(UInt8.ofInt 128+UInt8.ofInt (k:Int))^^^f=flp n (UInt8.ofNat (128+k)):=by rw[<-hf];congr 1;apply UInt8.toNat_inj.1;simp[dv];omega
   rw[ehd];refine dH (λj:Nat=>⟨[(0,i64 n)],[(3,u64 x),(4,u8 f),(6,.sl (.own 1) (some false) (1+j) (bys (flp n (UInt8.ofNat (128+k))::((bW (mag n)).reverse.take j).map (flp n)))),(7,i64 ((k:Int)-1-j))],[]⟩)
    (λj=>k-j) (· <=k) 0 (by simp;rfl) (by simp) λj hj=> ?_
   refine oI λQ3 hQ3=> ?_;simp(disch:=first|omega|(simp;omega)) [fJ];rw[bq];refine⟨by simp,λh=> ?_,λh=> ?_⟩<;>simp at h
   ·simp(disch:=first|omega|(simp;omega)) [fJ];refine⟨by omega,by omega,?_⟩;have hjk:j<k:=by omega
    have e8:(8*((k:Int)-1-(j:Int))).toNat=8*(k-1-j):=by omega
    have hel:(ct x (8*(k-1-j))).toUInt8^^^f=flp n ((bW (mag n))[k-1-j]'(by omega)):=by rw[hf,Ig,cW hx,cD]
    have htk:((bW (mag n)).map (flp n)).reverse.take (j+1)=((bW (mag n)).map (flp n)).reverse.take j++[flp n ((bW (mag n))[k-1-j]'(by omega))]:=by rw[List.take_succ_eq_append_getElem (by simp;omega)];simp[hk]
    rw[hQ3,e8,hel];simp;refine⟨j+1,by omega,by omega,⟨by omega,?_⟩,by omega⟩;rw[htk];simp[bys]
   have e:j=k:=by omega
   subst e;simp[hQ3,hQ2,eU,hk,List.take_of_length_le];omega
  refine dH (λk:Nat=>⟨[(0,i64 n)],[(3,u64 x),(4,u8 f),(5,i64 k)],[]⟩) (λk=>k) (λk=>k<=8∧(bW (mag n)).length<=k) 8 rfl ?_ λk hk=> ?_
  ·refine⟨by decide,(bz 8 _).2 ?_⟩;rw[<-hx];exact x.toNat_lt
  obtain⟨hk8,hkl⟩:=hk;refine oI λQ2 hQ2=> ?_;simp(disch:=first|omega|(simp;omega)) [fJ];rw[bq];refine⟨by simp,λh=> ?_,λh=> ?_⟩<;>simp at h
  ·obtain⟨j,rfl⟩:∃j,k=j+1:=⟨k-1,by omega⟩;have e1:((8:Int)*(((j+1:Nat):Int)-1)).toNat=8*j:=by omega
   simp(disch:=first|omega|(simp;omega)) [fJ];refine⟨by omega,?_⟩;rw[bq];refine⟨by simp,λh2=> ?_,λh2=> ?_⟩<;>simp at h2
   ·simp[hQ2];refine key2 (j+1) hk8 ?_;have h3:¬(bW (mag n)).length<=j:=by
     rw[bz,<-cD,Nat.not_lt,<-ci hx,<-e1];simpa using h2
    omega
   simp(disch:=first|omega|(simp;omega)) [hQ2,fJ];have h3:¬0<ct x (8*j):=by rw[<-e1];simpa using h2
   have h4:(bW (mag n)).length<=j:=by rw[bz,<-cD,<-Nat.not_le,<-ci hx];exact h3
   exact⟨j,by omega,⟨by omega,h4⟩,by omega⟩
  simp[hQ2];subst h;exact key2 0 (by decide) (by omega)
 rw[bq];have hge:∀m:Int,0<=m->m<18446744073709551616->(UInt64.ofInt m).toNat=m.toNat:=λm h0 h1=>by rw[cd,Int.emod_eq_of_lt h0 h1]
 refine⟨by simp,λh=> ?_,λh=> ?_⟩<;>simp at h
 ·simp;refine key _ 255 ?_ ?_
  ·rw[mag,if_pos h,UInt64.toNat_not,cd];have:UInt64.size=18446744073709551616:=rfl;omega
  intro c;rw[flp,if_pos h];exact gu c
 simp;refine key _ 0 ?_ ?_
 ·rw[hge n h (by omega),mag,if_neg (by omega)]
 intro c;rw[flp,if_neg (by omega)];simp
def mX(s:List UInt8):List UInt8:=eU s.length++s
def Dy:aW:=⟨λds=>∃s:List UInt8,s.length<=1099511000000∧ds=[st s],λds=> .sl (.own 1) (some false) (mX (gS (nth ds 0))).length (bys (mX (gS (nth ds 0))))⟩
theorem Ga{n:Int}(h:aO n):(bW (mag n)).length<=8:=by rw[bz,mag];obtain⟨h1,h2⟩:=h;split<;>omega
theorem rJ{n:Int}(h:aO n):(eU n).length<=9:=by have:=Ga h;simp[eU];omega
theorem z6d(E:Env)(h12:E.G 12=gx):∀ds,Dy.pre ds->ds.length=uT.n∧awp E uT.body (qH uT.res (Dy.post ds)) (fP uT.wr ds):=by rintro _ ⟨s,hs,rfl⟩;have hi:aO (s.length:Int):=⟨by omega,by omega⟩;have hl:=rJ hi;simp(disch:=first|omega|(simp;omega)) [uT,Dy,h12,gx,mX,hi,sP];omega
end Go.Abs