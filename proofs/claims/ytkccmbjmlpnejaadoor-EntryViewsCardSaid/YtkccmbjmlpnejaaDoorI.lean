/- Lemmas: an abstract interpreter, and what the functions compute. -/
import Derived.Test.YtkccmbjmlpnejaaDoorE
set_option linter.unusedSimpArgs false
set_option linter.unusedVariables false
set_option linter.unusedSectionVars false
section
namespace Go.Abs
theorem z8bb {n:Nat} (h0:n≠0) (h1:n<256):z0fa n=[UInt8.ofNat n]:=by rw[z5Q h0,Nat.div_eq_of_lt h1,z0B]
theorem dig1:z0fa 1=[1]:=z8bb (by decide) (by decide)
theorem dig2:z0fa 2=[2]:=z8bb (by decide) (by decide)
theorem enc0:z1t 0=[128]:=by simp[z1t,mag,flp,z0B]
theorem enc1:z1t 1=[129,1]:=by simp[z1t,mag,flp,dig1]
theorem enc2:z1t 2=[129,2]:=by simp[z1t,mag,flp,dig2]
def exD:List UInt8:=[1,2,0,0,0,0,0,0,0,0,0,0,0,0,0,0]
theorem x1:z6l [130,1,0,9]=(256,3,0):=by decide
theorem x2:z6l [130,1]=(0,0,5):=by decide
theorem x3:z6l [129,0]=(0,0,6):=by decide
theorem x4:z9ea [129,2,97,98,7]=([97,98],4,0):=by decide
theorem x5:z5x z6l 1 [129,2,129,1,127]=([1,-1],5,0):=by decide
theorem x6:z0yc (z3Ec 1 exD)=(exD,18,0):=by rw[z3Ec,show((1:Nat):Int)=1 from rfl,enc1];decide
theorem x7:z5x z9ea 1 [129,2,128,129,1,97,5]=([[],[97]],6,0):=by decide
theorem x8:z6rc [[],[97]]=[129,2,128,129,1,97]:=by simp[z6rc,z3U,enc0,enc1,enc2]
theorem f1 (x:UInt8):[u8 x]=bys [x]:=rfl
theorem f2 (x:UInt8) (l:List UInt8):u8 x::bys l=bys (x::l):=rfl
theorem f3 (x:List UInt8):[st x]=sts [x]:=rfl
theorem f4 (x:List UInt8) (l:List (List UInt8)):st x::sts l=sts (x::l):=rfl
theorem f5 (x:Int):[i64 x]=z4j [x]:=rfl
theorem f6 (x:Int) (l:List Int):i64 x::z4j l=z4j (x::l):=rfl
end Go.Abs
end

section
namespace Go.Abs
def z8Xc (x:List (List UInt8)):Nat:=(x.map fun s=>s.length+1).sum
def z9wc:z5a:=⟨fun ds=>∃nl x,z8Xc x≤100000000∧ds=[.sl .plain nl x.length (sts x)],fun ds=>bo (decide (z8Xc (gSs (gCs (nth ds 0)))≤2000))⟩
@[simp] theorem z8Cc (m:z0ea) (nl:Option Bool) (n:Nat) (x:List (List UInt8)):z9wc.post [.sl m nl n (sts x)]=bo (decide (z8Xc x≤2000)):=by simp[z9wc]
end Go.Abs
end

section
namespace Go.Abs
theorem z4mb {α:Type} {f:List UInt8→α×Nat×Nat} {enc:α→List UInt8} {P:α→Prop} (hf:∀c,(f c).2.2=0→(f c).2.1≤c.length∧c.take (f c).2.1=enc (f c).1∧P (f c).1):
  ∀(n:Nat) (b:List UInt8) (i:Nat),i≤b.length→(z4aa f n b i).2.2=0→
   i≤(z4aa f n b i).2.1∧(z4aa f n b i).2.1≤b.length∧(z4aa f n b i).1.length=n∧(b.drop i).take ((z4aa f n b i).2.1-i)=(z4aa f n b i).1.flatMap enc∧∀x∈(z4aa f n b i).1,P x
 |0,b,i,hi,_=>by simp[z4aa,hi]
 |n+1,b,i,hi,h=>by
  rw[z4aa] at h⊢
  by_cases h1:(f (b.drop i)).2.2=0
  ·rw[if_neg (by simpa using h1)] at h⊢
   obtain⟨k1,k2,k3⟩:=hf _ h1
   rw[List.length_drop] at k1
   by_cases h2:(z4aa f n b (i+(f (b.drop i)).2.1)).2.2=0
   ·rw[if_neg (by simpa using h2)]
    obtain⟨j1,j2,j3,j4,j5⟩:=z4mb hf n b (i+(f (b.drop i)).2.1) (by omega) h2
    simp only
    refine⟨by omega,j2,by simp[j3],?_,fun x hx=> ?_⟩
    ·generalize(z4aa f n b (i+(f (b.drop i)).2.1)).2.1=w at*
     rw[List.flatMap_cons,←j4,←k2,show w-i=(f (b.drop i)).2.1+(w-(i+(f (b.drop i)).2.1)) by omega,List.take_add,List.drop_drop]
    ·rcases List.mem_cons.1 hx with rfl|hx
     ·exact k3
     ·exact j5 x hx
   ·rw[if_pos h2] at h
    exact absurd h h2
  ·rw[if_pos h1] at h
   exact absurd h h1
theorem z0Bb {α:Type} {f:List UInt8→α×Nat×Nat} {enc:α→List UInt8} {P:α→Prop} (hf:∀c,(f c).2.2=0→(f c).2.1≤c.length∧c.take (f c).2.1=enc (f c).1∧P (f c).1) {b:List UInt8} (h:(z5x f 1 b).2.2=0):
  (z5x f 1 b).2.1≤b.length∧b.take (z5x f 1 b).2.1=z1t (z5x f 1 b).1.length++(z5x f 1 b).1.flatMap enc∧∀x∈(z5x f 1 b).1,P x:=by
 unfold z5x at h⊢
 rcases z3ga b 1 (by decide) with(hE|hE)|⟨hE,n,u,hg,hu,hn,hu9⟩
 ·rw[hE] at h;simp at h
 ·rw[hE] at h;simp at h
 ·rw[if_pos hE,hg] at h⊢
  simp only[Int.toNat_natCast] at h⊢
  obtain⟨j1,j2,j3,j4,j5⟩:=z4mb hf n b u hu h
  obtain⟨e1,e2,e3,e4⟩:=z9ta hg
  refine⟨j2,?_,j5⟩
  rw[j3,←e3,←j4]
  generalize(z4aa f n b u).2.1=w at*
  rw[show w=u+(w-u) by omega,List.take_add,show u+(w-u)-u=w-u by omega]
theorem z0vb (c:List UInt8) (h:(z6l c).2.2=0):(z6l c).2.1≤c.length∧c.take (z6l c).2.1=z1t (z6l c).1∧z2l (z6l c).1:=by
 obtain⟨n,u,e⟩:∃n u,z6l c=(n,u,0):=⟨_,_,Prod.ext rfl (Prod.ext rfl h)⟩
 obtain⟨e1,e2,e3,e4⟩:=z9ta e
 rw[e];exact⟨e2,e3,e1⟩
def isV (c:List UInt8) (u:Int) (e:Int) (b:List UInt8):Bool:=e !=0||(decide (0≤u)&&decide (u≤b.length)&&c==b.take u.toNat)
def isC:z5a:=⟨fun ds=>∃(nc nl:Option Bool) (c b:List UInt8) (u e:Int),c.length≤1000000000∧b.length≤1000000000∧ds=[.sl .plain nc c.length (bys c),i64 u,i64 e,.ep [.sl .plain nl b.length (bys b)]],
 fun ds=>bo (isV (gBs (gCs (nth ds 0))) (asI (nth ds 1)) (asI (nth ds 2)) (gBs (gCs (hdA (gCs (nth ds 3))))))⟩
@[simp] theorem z0Zc (m m':z0ea) (nc nl:Option Bool) (k n:Nat) (c b:List UInt8) (u e:Int):isC.post [.sl m nc k (bys c),i64 u,i64 e,.ep [.sl m' nl n (bys b)]]=bo (isV c u e b):=by simp[isC]
end Go.Abs
end
