/- Lemmas: an abstract interpreter, and what the functions compute. -/
import Derived.Test.YtkccmbjmlpnejaaDoorE
import Derived.Test.YtkccmbjmlpnejaaDoorT
import Derived.Test.YtkccmbjmlpnejaaDoorI
import Derived.Test.YtkccmbjmlpnejaaDoorD
set_option linter.unusedSimpArgs false
set_option linter.unusedVariables false
set_option linter.unusedSectionVars false
section
namespace Go.Abs
@[simp] theorem z2vc (c:Cmd) (nl nb:Option Bool) (b:List UInt8):z7g (z46 c nl b nb)=[]:=by simp[z46,z1q,z7g]
end Go.Abs
end

section
namespace Go.Abs
end Go.Abs
end

section
namespace Go.Abs
@[simp] theorem gC9 (a b c d e f:Int) (s:List UInt8) (nl:Option Bool) (n:Nat) (l:List Int) (x:z2a):z1Ha [i64 a,i64 b,i64 c,i64 d,i64 e,i64 f,st s,.sl .plain nl n (z4j l),x]=⟨a,b,c,d,e,f,s,l⟩:=by simp[z1Ha,nth]
@[simp] theorem z56c:z1Ub.bx=[0]:=rfl
@[simp] theorem z86c:z1Ub.nb=[]:=rfl
@[simp] theorem z2Fc (x y z:z2a):z1Ub.post [x,y,z]=i64 (asI z):=rfl
end Go.Abs
end

section
namespace Go.Abs
end Go.Abs
end

section
namespace Go.Abs
theorem z4nc {n:Nat} {b:List UInt8} (h:(z6l b).2.2≠0):z2pa (n+1) b=([],b,(z6l b).2.2):=by simp[z2pa,h]
theorem z1Jc {n:Nat} {b:List UInt8} (h:(z6l b).2.2=0):z2pa (n+1) b=((z6l b).1::(z2pa n (b.drop (z6l b).2.1)).1,(z2pa n (b.drop (z6l b).2.1)).2):=by simp[z2pa,h]
def z0bb (L:List Int) (c:Cmd):List Int:=L++(six c).drop L.length
theorem z9zb {L:List Int} {c:Cmd} (h:L.length≤6):(z0bb L c).length=6:=by simp[z0bb,six];omega
theorem z7Xc {l:List Int} (h:l.length=6):∃a b c d e f,l=[a,b,c,d,e,f]:=by
 match l,h with
 |[a,b,c,d,e,f],_=>exact⟨a,b,c,d,e,f,rfl⟩
theorem z8Dc {L:List Int} {c:Cmd} (h:L.length=6):z0bb L c=L:=by
 obtain⟨a,b,d,e,f,g,rfl⟩:=z7Xc h
 rfl
theorem z8Hb {L:List Int} {c:Cmd} {n:Int} (h:L.length<6):(z0bb L c).set L.length n=z0bb (L++[n]) c:=by
 have h6:L.length<(six c).length:=h
 have e:=List.drop_eq_getElem_cons h6
 rw[z0bb,List.set_append_right _ _ (Nat.le_refl _),Nat.sub_self,e]
 simp only[z0bb,List.set_cons_zero,List.length_append,List.length_singleton,List.append_assoc,List.singleton_append]
theorem z4Sa {l:List Int} {n:Nat} {x:Int} (h:n<l.length):splice (z4j l) n [i64 x]=z4j (l.set n x):=by
 simp only[splice,z4j,←List.map_take,←List.map_drop,List.length_singleton]
 rw[List.set_eq_take_append_cons_drop,if_pos h]
 simp
theorem z0Ka (m:List (Nat×Nat)):∀(l:List Int) (r:List z2a),z5na m (z4j l++r)=z4j l++z5na m r
 |[],_=>rfl
 |n::l,r=>congrArg (i64 n::·) (z0Ka m l r)
def rt (d:List UInt8) (nl nb:Option Bool) (ls:List Int) (b:List UInt8):List z2a:=[st d,.sl .plain nl ls.length (z4j ls),.sl .plain nb b.length (bys b)]
end Go.Abs
end

section
namespace Go.Abs
@[simp] theorem z80c (E:Env) (a b:z4a) (Q:z0n→ASt→Prop) (s:ASt):awp E (.alt a b) Q s=(awp E a Q s∨awp E b Q s):=rfl
@[simp] theorem z9Dc (f:Nat) (x y:List z2a):z1f (.fn f x y)=false:=rfl
def d1 (b:List UInt8):List Int×List UInt8×Nat:=z2pa 6 b
def c1 (b:List UInt8):Cmd:=z41c z5J (d1 b).1
def b1 (b:List UInt8):List UInt8:=(d1 b).2.1
def d2 (b:List UInt8):List UInt8×Nat×Nat:=z9ea (b1 b)
def c2 (b:List UInt8):Cmd:={c1 b with data:=(d2 b).1}
def b2 (b:List UInt8):List UInt8:=aft (b1 b) (d2 b).2.1 (d2 b).2.2
def d3 (b:List UInt8):List Int×Nat×Nat:=z5x z6l 1 (b2 b)
def c3 (b:List UInt8):Cmd:={c2 b with list:=(d3 b).1}
def b3 (b:List UInt8):List UInt8:=aft (b2 b) (d3 b).2.1 (d3 b).2.2
def dst (b:List UInt8):Nat→Cmd×List UInt8
 |0=>(z5J,b)
 |1=>(c1 b,b1 b)
 |2=>(c2 b,b2 b)
 |_=>(c3 b,b3 b)
@[simp] theorem rM_bx:z8aa.bx=[0]∧z5ab.bx=[0]∧z69a.bx=[0]∧z5ec.bx=[0]∧z8aa.nb=[]∧z5ab.nb=[]∧z69a.nb=[]∧z5ec.nb=[]:=⟨rfl,rfl,rfl,rfl,rfl,rfl,rfl,rfl⟩
@[simp] theorem z0Sb (c:Cmd) (nl nb:Option Bool) (b:List UInt8):z8aa.post [.ep (z46 c nl b nb)]=i64 (z2pa 6 b).2.2:=by simp[z8aa]
@[simp] theorem z0Gc (c:Cmd) (nl nb:Option Bool) (b:List UInt8):z5ab.post [.ep (z46 c nl b nb)]=i64 (z9ea b).2.2:=by simp[z5ab]
@[simp] theorem z6Bc (c:Cmd) (nl nb:Option Bool) (b:List UInt8):z69a.post [.ep (z46 c nl b nb)]=i64 (z5x z6l 1 b).2.2:=by simp[z69a]
@[simp] theorem z1Lc (c:Cmd) (nl nb:Option Bool) (b:List UInt8):z5ec.post [.ep (z46 c nl b nb)]=i64 ((if 0<b.length then 6 else z8dc c:Nat):Int):=by
 simp only[z5ec,z7Tb,z6Tb]
 split<;>rfl
@[simp] theorem z6Sb (c:Cmd) (nl nb:Option Bool) (b:List UInt8) (j:Nat):z8aa.out [.ep (z46 c nl b nb)] j=z46 (z41c c (z2pa 6 b).1) nl (z2pa 6 b).2.1 nb:=by simp[z8aa]
@[simp] theorem z6Pc (c:Cmd) (nl nb:Option Bool) (b:List UInt8) (j:Nat):z5ab.out [.ep (z46 c nl b nb)] j=z46 {c with data:=(z9ea b).1} nl (aft b (z9ea b).2.1 (z9ea b).2.2) nb:=by simp[z5ab]
@[simp] theorem z8Jc (c:Cmd) (nl nb:Option Bool) (b:List UInt8) (j:Nat):z69a.out [.ep (z46 c nl b nb)] j=z46 {c with list:=(z5x z6l 1 b).1} none (aft b (z5x z6l 1 b).2.1 (z5x z6l 1 b).2.2) nb:=by simp[z69a]
@[simp] theorem z98c (c:Cmd) (nl nb:Option Bool) (b:List UInt8) (j:Nat):z5ec.out [.ep (z46 c nl b nb)] j=z46 c nl b nb:=by simp[z5ec]
@[simp] theorem z4Sc (c:Cmd) (nl nb:Option Bool) (b:List UInt8):(z46 c nl b nb).length=9:=rfl
@[simp] theorem z9qc (c:Cmd) (nl nb:Option Bool) (b:List UInt8):z2h (z46 c nl b nb)=true:=by simp[z46,z1q,z2h]
@[simp] theorem z1Fc (c:Cmd) (nl nb:Option Bool) (b:List UInt8):(z46 c nl b nb).take 8=z1q c nl:=rfl
@[simp] theorem z7Oc (m:List (Nat×Nat)) (c:Cmd) (nl nb:Option Bool) (b:List UInt8):z5na m (z46 c nl b nb)=z46 c nl b nb:=by simp[z46,z1q]
end Go.Abs
end

section
namespace Go.Abs
theorem z4za {zs:List z2a} (c:Cmd) (nl:Option Bool) (h:zs.length=8):splice zs 0 (z1q c nl)=z1q c nl:=z8f (by rw[h];rfl)
end Go.Abs
end
