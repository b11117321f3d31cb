/- Lemmas: an abstract interpreter, and what the functions compute. -/
import Derived.Test.YtkccmbjmlpnejaaDoorV
import Derived.Test.YtkccmbjmlpnejaaDoorP
import Derived.Test.YtkccmbjmlpnejaaDoorT
import Derived.Test.YtkccmbjmlpnejaaDoorW
set_option linter.unusedSimpArgs false
set_option linter.unusedVariables false
set_option linter.unusedSectionVars false
section
namespace Go.Abs
set_option maxRecDepth 100000
theorem z94b {z:List z2a} {k n:Nat} (h:k<n):hdA ((z.take n).drop k)=hdA (z.drop k):=by
 rw[List.drop_take]
 obtain⟨m,hm⟩:∃m,n-k=m+1:=⟨n-k-1,by omega⟩
 rw[hm]
 cases z.drop k<;>rfl
end Go.Abs
end

section
namespace Go.Abs
set_option maxRecDepth 100000
def coS (s id:Nat) (d:z2a) (st:ASt):ASt:=match d with| .bv _ e _ n _=>{st with env:=(s,.sl (.own e) none n (((st.getB id).getD []).take (n*e)))::st.env,box:=(id,none)::st.box}|_=>st
@[simp] theorem z19c (s id:Nat) (o e:List (Nat×z2a)) (box:List (Nat×Option (List z2a))):z2b (.cool s id) ⟨o,e,box⟩=coS s id (ASt.get ⟨o,e,box⟩ s) ⟨o,e,box⟩:=rfl
@[simp] theorem coS_bv (s id j k q n c:Nat) (o e:List (Nat×z2a)) (box:List (Nat×Option (List z2a))):coS s id (.bv j k q n c) ⟨o,e,box⟩=⟨o,(s,.sl (.own k) none n (((ASt.getB ⟨o,e,box⟩ id).getD []).take (n*k)))::e,(id,none)::box⟩:=rfl
theorem z5tb {l:List z3e} (h:z5d l) {i:Nat} (hi:i<l.length):hdA ((z6b l).drop (i*24))=i64 (atD l i).id:=by
 have:=z4wa h hi
 rw[show hdA ((z6b l).drop (i*24))=hdA (((z6b l).drop (i*24)).take 24) from by cases(z6b l).drop (i*24)<;>rfl,this]
 rfl
end Go.Abs
end
