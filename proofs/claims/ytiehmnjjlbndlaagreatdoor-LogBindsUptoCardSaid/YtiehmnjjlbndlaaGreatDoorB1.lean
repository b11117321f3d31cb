/- Lemmas. -/
import Derived.Shelf.RegionOpenPlain
import Derived.WalkKit
import Derived.Lib.Walk
import Derived.Lib.SliceRun
import Derived.DeepKeys4
import Derived.StillTailTactics
import Derived.Test.YtiehmnjjlbndlaaGreatDoorProg
import Derived.Test.YtiehmnjjlbndlaaGreatDoorQ
set_option linter.all false
set_option linter.unusedVariables false
set_option linter.unusedSimpArgs false
namespace Go.Abs.TryzP
open Go.Abs Go.RowKit Go.Proofs Go.Lib
theorem Zr{P:Program}{e:TypeId}(he:P.underlying e=some .string){v:Value}{z:DataW Unit}{ps:List MemPlace}(h:plainElem P e v=some (z,ps)):∃s,v= .string s∧z= .lit (.string s.data.toList):=by unfold plainElem at h;rw[he] at h;cases v<;>simp at h;exact⟨_,rfl,h.2.1.symm⟩
theorem z26{D:Array Value}(h:D.size=16):∃q0 q1 q2 q3 q4 q5 q6 q7 q8 q9 q10 q11 q12 q13 q14 q15,D= #[q0,q1,q2,q3,q4,q5,q6,q7,q8,q9,q10,q11,q12,q13,q14,q15]:=by
 obtain⟨l⟩:=D
 match l,h with
 |[q0,q1,q2,q3,q4,q5,q6,q7,q8,q9,q10,q11,q12,q13,q14,q15],_=>exact⟨q0,q1,q2,q3,q4,q5,q6,q7,q8,q9,q10,q11,q12,q13,q14,q15,rfl⟩
theorem z8l{P:Program}(W:World)(r:Nat)(C:Array Value)(t:TypeId)(D:Array Value)(hr:W.heap[r]? =some (.cells C t (0,0)))(hC:C.size=D.size)(hD:∀v∈D.toList,v.oneCell'=true):
  ∃W2:World,(storeCells ⟨r,0,none⟩ D.toList).run P W= .ok () W2∧W2.heap.size=W.heap.size∧(∀k,k≠r->W2.heap[k]? =W.heap[k]?)∧W2.rangeAt r 0 D.toList∧(W2.os=W.os∧W2.tape=W.tape∧W2.output=W.output):=by
 have hth:∀j,j<D.toList.length->(W.cell? ⟨r,0+j,none⟩).isSome=true:=λj hj=>by rw[Lib.cell_of_heap hr,Array.getElem?_eq_getElem (by rw[hC];simpa using hj)];rfl
 have h:=run_storeCells_cells (P:=P) r 0 D.toList 0 W (λj hj=>by simpa using hth j hj) (λj hj=>Lib.frozen_of_heap hr _) hD;refine⟨_,h,sQ r _ _ _,λk hk=>rn r _ _ _ k hk,λj v hv=> ?_,Dx r _ _ _⟩;obtain⟨hj,rfl⟩:=List.getElem?_eq_some_iff.1 hv;exact World.cell?_setCells_in r D.toList 0 W hth j hj
theorem PB{w w':World}{b:Nat}(h:w.mapTurned w' b):(∀k,k≠b->w'.heap[k]? =w.heap[k]?)∧w'.heap.size=w.heap.size∧w'.os=w.os∧w'.tape=w.tape∧w'.output=w.output:=by obtain⟨es,ck,es',ck',hb,rfl⟩:=h;exact⟨λk hk=>ChangeMaps.heap_setBlock_other hb _ hk,by simp[ChangeMaps.setBlock],rfl,rfl,rfl⟩
theorem z8ba:Tryz.prog.follows .mixedOrders=true:=by kernel_rfl
theorem z3Ba:laidOutB Tryz.prog=true:=by kernel_rfl
theorem keyP:Maps.Keyed Tryz.prog 36:=Maps.Keyed.of_law (deep_law_laid z3Ba (m:=2) (by decide) (of_decide_eq_true (by kernel_rfl)) (by kernel_rfl) (by kernel_rfl))
set_option maxHeartbeats 4000000 in
set_option maxRecDepth 100000 in
theorem z3C(w:World)(b bm n:Nat)(M:DataW Unit)(c:Bool)(inp:Value)(d':List UInt8)(s:ByteArray)(hx:s.size<=maxLen)
  (h0:w.cell? ⟨b,0,none⟩=some (.map (some bm))) (h1:w.cell? ⟨b,1,none⟩=some (.bool c)) (hf:w.frozen? ⟨b,1,none⟩=false) (hb:b<w.heap.size) (hne:bm≠b)
  (hown:w.ownsMap Tryz.prog 36 (plainElem Tryz.prog 9) bm n M) (hn:n<maxLen) (old:List UInt8) (is:Bool) (hat:M.atKey (.string d') (.lit (.string []))= .lit (.string old)) (hhas:Maps.has M (.string d')=is)
  (D:Array Value) (hD16:D.size=16) (hD1:∀v∈D.toList,v.oneCell'=true) (hD:Go.keyOf Tryz.prog 36 (.agg D)=some (.string d'))
  (c':Bool) (hc':(if is&& !(old==s.toList) then true else c)=c')
  (hsh:∀W:World,w.heap.size<=W.heap.size->(∀k,k<w.heap.size->W.heap[k]? =w.heap[k]?)->Calls Tryz.prog 94 #[inp] W λe W'=>e= .returned (.agg D)∧Fr W.heap.size (λ_=>False) W W')
  (hcv:∀W:World,(∀k,k<w.heap.size->k≠b->k≠bm->W.heap[k]? =w.heap[k]?)->(convert 82 9 inp).run Tryz.prog W= .ok (.string s) W):
  Calls Tryz.prog 41 #[.pointer (some ⟨b,0,none⟩),inp] w λe w'=>e= .returned (.agg D)∧w'.ownsMap Tryz.prog 36 (plainElem Tryz.prog 9) bm (n+1) (M.put (.string d') (.lit (.string s.data.toList)))∧w'.cell? ⟨b,0,none⟩=some (.map (some bm))∧w'.cell? ⟨b,1,none⟩=some (.bool c')∧(∀i,w'.frozen? ⟨b,i,none⟩=w.frozen? ⟨b,i,none⟩)∧
   (∀k,k<w.heap.size->k≠b->k≠bm->w'.heap[k]? =w.heap[k]?)∧w.heap.size<=w'.heap.size∧w'.os=w.os∧w'.tape=w.tape∧w'.output=w.output:=by
 have mixed:=z8ba;have t36:=Tryz.underlying36;have a36:=Tryz.isAgg36;have z36:=Tryz.sizeOf36;have v36:=Tryz.zeroValue36;have u36:=run_underlying Tryz.underlying36;have t9:=Tryz.underlying9;have a9:=Tryz.isAgg9;have z9:=Tryz.sizeOf9;have v9:=Tryz.zeroValue9;have u9:=run_underlying Tryz.underlying9;have t4:=Tryz.underlying4;have a4:=Tryz.isAgg4;have z4:=Tryz.sizeOf4;have v4:=Tryz.zeroValue4;have u4:=run_underlying Tryz.underlying4;have t43:=Tryz.underlying43;have a43:=Tryz.isAgg43;have z43:=Tryz.sizeOf43;have v43:=Tryz.zeroValue43;have u43:=run_underlying Tryz.underlying43;have t45:=Tryz.underlying45;have a45:=Tryz.isAgg45;have z45:=Tryz.sizeOf45;have v45:=Tryz.zeroValue45;have u45:=run_underlying Tryz.underlying45;have t82:=Tryz.underlying82;have a82:=Tryz.isAgg82;have z82:=Tryz.sizeOf82;have v82:=Tryz.zeroValue82;have u82:=run_underlying Tryz.underlying82;have hlt:=hown.lt
 go_enter Tryz.func41,Tryz.ntmps41
 go_wp2_with (go_at_fn 94;fail)
 refine(hsh _ (by simp) (λk hk=> ?_)).mono ?_
 ·exact(show(w.heap.push _)[k]? =w.heap[k]? by rw[Array.getElem?_push,if_neg (by omega)])
 rintro e W1 ⟨rfl,hfr⟩
 go_wp2
 have hW0:w.heap.size+1<=W1.heap.size:=by have:=hfr.size;simpa using this
 obtain⟨W2,hst,e1,e2,e3,e4⟩:∃W2:World,(storeCells ⟨W1.heap.size,0,none⟩ D.toList).run Tryz.prog (W1.alloc (.cells #[Value.int IntKind.u8 0,Value.int IntKind.u8 0,Value.int IntKind.u8 0,Value.int IntKind.u8 0,Value.int IntKind.u8 0,Value.int IntKind.u8 0,Value.int IntKind.u8 0,Value.int IntKind.u8 0,Value.int IntKind.u8 0,Value.int IntKind.u8 0,Value.int IntKind.u8 0,Value.int IntKind.u8 0,Value.int IntKind.u8 0,Value.int IntKind.u8 0,Value.int IntKind.u8 0,Value.int IntKind.u8 0] 36))= .ok () W2∧
   W2.heap.size=W1.heap.size+1∧(∀k,k<W1.heap.size->W2.heap[k]? =W1.heap[k]?)∧W2.rangeAt W1.heap.size 0 D.toList∧(W2.os=W1.os∧W2.tape=W1.tape∧W2.output=W1.output):=by
  obtain⟨W2,k1,k2,k3,k4⟩:=z8l (P:=Tryz.prog) (W1.alloc (.cells #[Value.int IntKind.u8 0,Value.int IntKind.u8 0,Value.int IntKind.u8 0,Value.int IntKind.u8 0,Value.int IntKind.u8 0,Value.int IntKind.u8 0,Value.int IntKind.u8 0,Value.int IntKind.u8 0,Value.int IntKind.u8 0,Value.int IntKind.u8 0,Value.int IntKind.u8 0,Value.int IntKind.u8 0,Value.int IntKind.u8 0,Value.int IntKind.u8 0,Value.int IntKind.u8 0,Value.int IntKind.u8 0] 36)) W1.heap.size _ 36 D (show(W1.heap.push _)[W1.heap.size]? =_ by rw[Array.getElem?_push,if_pos rfl]) (by rw[hD16];rfl) hD1;exact⟨W2,k1,by rw[k2];simp,λk hk=>by rw[k3 k (by omega)];exact(show(W1.heap.push _)[k]? =W1.heap[k]? by rw[Array.getElem?_push,if_neg (by omega)]),k4⟩
 rw[hst];simp only[Result.andThen];rw[Oper.upon_skip]
 go_wp2
 rename_i K3 hK3;have hq:∀k,k<w.heap.size->W2.heap[k]? =w.heap[k]? :=λk hk=>by rw[e2 k (by omega),hfr.block k (by simp;omega) (λh=>h)];exact(show(w.heap.push _)[k]? =w.heap[k]? by rw[Array.getElem?_push,if_neg (by omega)])
 have hqr:W2.heap[w.heap.size]? =some (.cells #[Value.int IntKind.u8 0,Value.int IntKind.u8 0,Value.int IntKind.u8 0,Value.int IntKind.u8 0,Value.int IntKind.u8 0,Value.int IntKind.u8 0,Value.int IntKind.u8 0,Value.int IntKind.u8 0,Value.int IntKind.u8 0,Value.int IntKind.u8 0,Value.int IntKind.u8 0,Value.int IntKind.u8 0,Value.int IntKind.u8 0,Value.int IntKind.u8 0,Value.int IntKind.u8 0,Value.int IntKind.u8 0] 36 (0,0)):=by rw[e2 _ (by omega),hfr.block _ (by simp) (λh=>h)];exact(show(w.heap.push _)[w.heap.size]? =_ by rw[Array.getElem?_push,if_pos rfl])
 have hq0:W2.os=w.os∧W2.tape=w.tape∧W2.output=w.output:=⟨e4.1.trans hfr.os,e4.2.1.trans hfr.tape,e4.2.2.trans hfr.output⟩;clear hfr hsh;rename_i K5 hK5;have tail:∀(W3:World) (x6 x7 x8 x9 x10 x11 x12 x13 x14 x15 x16 x17 x18 x19 x20 x21 x22 x23 x24 x25 x26 x27 x28 x29 x30 x31 x32 x33 x34 x35 x36:Value),W3.cell? ⟨b,0,none⟩=some (.map (some bm))->W3.cell? ⟨b,1,none⟩=some (.bool c')->(∀k,k≠b->W3.heap[k]? =W2.heap[k]?)->(∀i,W3.frozen? ⟨b,i,none⟩=W2.frozen? ⟨b,i,none⟩)->W3.heap.size=W2.heap.size->(W3.os=W2.os∧W3.tape=W2.tape∧W3.output=W2.output)->
   K5 ⟨#[.pointer (some ⟨b,0,none⟩),inp,undef,undef,.pointer (some ⟨w.heap.size,0,none⟩),.pointer (some ⟨W1.heap.size,0,none⟩),x6,x7,x8,x9,x10,x11,x12,x13,x14,x15,x16,x17,x18,x19,x20,x21,x22,x23,x24,x25,x26,x27,x28,x29,x30,x31,x32,x33,x34,x35,x36],[]⟩ W3:=by
  intro W3 x6 x7 x8 x9 x10 x11 x12 x13 x14 x15 x16 x17 x18 x19 x20 x21 x22 x23 x24 x25 x26 x27 x28 x29 x30 x31 x32 x33 x34 x35 x36 g0 g1 gh gf gz go;clear hK3 K3;apply hK5;obtain⟨q0,q1,q2,q3,q4,q5,q6,q7,q8,q9,q10,q11,q12,q13,q14,q15,rfl⟩:=z26 hD16
  go_wp2
  refine wp_region_still_tail 7 (by kernel_rfl) (by kernel_rfl) ?_;simp only[List.take_succ_cons,List.take_zero,List.drop_succ_cons,List.drop_zero];obtain⟨W4,hW4,hh,ho4⟩:∃W4:World,({heap:=W3.heap,tape:=W3.tape,drawn:=W3.drawn+1,os:=W3.os,output:=W3.output}:World)=W4∧W4.heap=W3.heap∧W4.os=W3.os∧W4.tape=W3.tape∧W4.output=W3.output:=⟨_,rfl,rfl,rfl,rfl,rfl⟩;rw[hW4];clear hW4;have hcv4:(convert 82 9 inp).run Tryz.prog W4= .ok (.string s) W4:=hcv _ λk hk hkb _=>by rw[hh,gh k hkb];exact hq k hk
  have m0:W4.cell? ⟨b,0,none⟩=some (.map (some bm)):=by rw[World.cell?_of_block (w:=W3) (a:=⟨b,0,none⟩) (by rw[hh])];exact g0
  have d:∀i v,[q0,q1,q2,q3,q4,q5,q6,q7,q8,q9,q10,q11,q12,q13,q14,q15][i]? =some v->W4.cell? ⟨W1.heap.size,i,none⟩=some v:=λi v hv=>by rw[World.cell?_of_block (w:=W2) (a:=⟨W1.heap.size,i,none⟩) (by rw[hh];exact gh _ (show W1.heap.size≠b by omega))];have:=e3 i v hv;simpa using this
  have d0:=d 0 q0 rfl;have d1:=d 1 q1 rfl;have d2:=d 2 q2 rfl;have d3:=d 3 q3 rfl;have d4:=d 4 q4 rfl;have d5:=d 5 q5 rfl;have d6:=d 6 q6 rfl;have d7:=d 7 q7 rfl;have d8:=d 8 q8 rfl;have d9:=d 9 q9 rfl;have d10:=d 10 q10 rfl;have d11:=d 11 q11 rfl;have d12:=d 12 q12 rfl;have d13:=d 13 q13 rfl;have d14:=d 14 q14 rfl;have d15:=d 15 q15 rfl;have hown4:W4.ownsMap Tryz.prog 36 (plainElem Tryz.prog 9) bm n M:=by obtain⟨es,ck,k1,k2⟩:=hown;exact⟨es,ck,by rw[hh,gh bm hne,hq bm hlt];exact k1,k2⟩
  repeat still_step
  refine wpStill_nil ?_;refine wpList_mapUpdate_in W4 rfl _ _ _ 43 rfl 36 9 keyP t43 _ bm n M rfl hown4 hn _ _ (.string d') rfl rfl hD (.lit (.string s.data.toList)) [] (plainElem_string t9 hx) ?_;intro W5 hown5 hturn5;have hh5:(∀k,k≠bm->W5.heap[k]? =W4.heap[k]?)∧W5.heap.size=W4.heap.size∧W5.os=W4.os∧W5.tape=W4.tape∧W5.output=W4.output:=PB hturn5;have hr5:W5.heap[w.heap.size]? =some (.cells #[Value.int IntKind.u8 0,Value.int IntKind.u8 0,Value.int IntKind.u8 0,Value.int IntKind.u8 0,Value.int IntKind.u8 0,Value.int IntKind.u8 0,Value.int IntKind.u8 0,Value.int IntKind.u8 0,Value.int IntKind.u8 0,Value.int IntKind.u8 0,Value.int IntKind.u8 0,Value.int IntKind.u8 0,Value.int IntKind.u8 0,Value.int IntKind.u8 0,Value.int IntKind.u8 0,Value.int IntKind.u8 0] 36 (0,0)):=by rw[hh5.1 _ (by omega),hh,gh _ (by omega)];exact hqr
  rw[<-World.cell?_of_block (w:=W4) (a:=⟨W1.heap.size,0,none⟩) (hh5.1 _ (show W1.heap.size≠bm by omega))] at d0;rw[<-World.cell?_of_block (w:=W4) (a:=⟨W1.heap.size,1,none⟩) (hh5.1 _ (show W1.heap.size≠bm by omega))] at d1;rw[<-World.cell?_of_block (w:=W4) (a:=⟨W1.heap.size,2,none⟩) (hh5.1 _ (show W1.heap.size≠bm by omega))] at d2;rw[<-World.cell?_of_block (w:=W4) (a:=⟨W1.heap.size,3,none⟩) (hh5.1 _ (show W1.heap.size≠bm by omega))] at d3;rw[<-World.cell?_of_block (w:=W4) (a:=⟨W1.heap.size,4,none⟩) (hh5.1 _ (show W1.heap.size≠bm by omega))] at d4;rw[<-World.cell?_of_block (w:=W4) (a:=⟨W1.heap.size,5,none⟩) (hh5.1 _ (show W1.heap.size≠bm by omega))] at d5;rw[<-World.cell?_of_block (w:=W4) (a:=⟨W1.heap.size,6,none⟩) (hh5.1 _ (show W1.heap.size≠bm by omega))] at d6;rw[<-World.cell?_of_block (w:=W4) (a:=⟨W1.heap.size,7,none⟩) (hh5.1 _ (show W1.heap.size≠bm by omega))] at d7;rw[<-World.cell?_of_block (w:=W4) (a:=⟨W1.heap.size,8,none⟩) (hh5.1 _ (show W1.heap.size≠bm by omega))] at d8;rw[<-World.cell?_of_block (w:=W4) (a:=⟨W1.heap.size,9,none⟩) (hh5.1 _ (show W1.heap.size≠bm by omega))] at d9;rw[<-World.cell?_of_block (w:=W4) (a:=⟨W1.heap.size,10,none⟩) (hh5.1 _ (show W1.heap.size≠bm by omega))] at d10;rw[<-World.cell?_of_block (w:=W4) (a:=⟨W1.heap.size,11,none⟩) (hh5.1 _ (show W1.heap.size≠bm by omega))] at d11;rw[<-World.cell?_of_block (w:=W4) (a:=⟨W1.heap.size,12,none⟩) (hh5.1 _ (show W1.heap.size≠bm by omega))] at d12;rw[<-World.cell?_of_block (w:=W4) (a:=⟨W1.heap.size,13,none⟩) (hh5.1 _ (show W1.heap.size≠bm by omega))] at d13;rw[<-World.cell?_of_block (w:=W4) (a:=⟨W1.heap.size,14,none⟩) (hh5.1 _ (show W1.heap.size≠bm by omega))] at d14;rw[<-World.cell?_of_block (w:=W4) (a:=⟨W1.heap.size,15,none⟩) (hh5.1 _ (show W1.heap.size≠bm by omega))] at d15;obtain⟨W6,hst6,f1,f2,f3,f4⟩:=z8l (P:=Tryz.prog) W5 w.heap.size _ 36 #[q0,q1,q2,q3,q4,q5,q6,q7,q8,q9,q10,q11,q12,q13,q14,q15] hr5 rfl hD1
  go_wp2
  simp[storeCells,Addr.add] at hst6;rw[hst6];simp only[Result.andThen];rw[Oper.upon_skip];have f:∀i v,[q0,q1,q2,q3,q4,q5,q6,q7,q8,q9,q10,q11,q12,q13,q14,q15][i]? =some v->W6.cell? ⟨w.heap.size,i,none⟩=some v:=λi v hv=>by have:=f3 i v hv;simpa using this
  have f0':=f 0 q0 rfl;have f1':=f 1 q1 rfl;have f2':=f 2 q2 rfl;have f3':=f 3 q3 rfl;have f4':=f 4 q4 rfl;have f5':=f 5 q5 rfl;have f6':=f 6 q6 rfl;have f7':=f 7 q7 rfl;have f8':=f 8 q8 rfl;have f9':=f 9 q9 rfl;have f10':=f 10 q10 rfl;have f11':=f 11 q11 rfl;have f12':=f 12 q12 rfl;have f13':=f 13 q13 rfl;have f14':=f 14 q14 rfl;have f15':=f 15 q15 rfl;have fin:W6.ownsMap Tryz.prog 36 (plainElem Tryz.prog 9) bm (n+1) (M.put (.string d') (.lit (.string s.data.toList)))∧W6.cell? ⟨b,0,none⟩=some (.map (some bm))∧W6.cell? ⟨b,1,none⟩=some (.bool c')∧(∀i,W6.frozen? ⟨b,i,none⟩=w.frozen? ⟨b,i,none⟩)∧
    (∀k,k<w.heap.size->k≠b->k≠bm->W6.heap[k]? =w.heap[k]?)∧w.heap.size<=W6.heap.size∧W6.os=w.os∧W6.tape=w.tape∧W6.output=w.output:=by
   have hb6:W6.heap[b]? =W3.heap[b]? :=by rw[f2 b (by omega),hh5.1 b (λe=>hne e.symm),hh]
   refine⟨?_,by rw[World.cell?_of_block (w:=W3) (a:=⟨b,0,none⟩) hb6];exact g0,by rw[World.cell?_of_block (w:=W3) (a:=⟨b,1,none⟩) hb6];exact g1,λi=> ?_,λk k1 k2 k3=> ?_,by have:=hh5.2.1;rw[hh] at this;omega,?_⟩
   ·obtain⟨es,ck,k1,k2⟩:=hown5;exact⟨es,ck,by rw[f2 bm (by omega)];exact k1,k2⟩
   ·rw[World.frozen?_of_block (w:=W3) (a:=⟨b,i,none⟩) hb6,gf,World.frozen?_of_block (w:=w) (a:=⟨b,i,none⟩) (hq b hb)]
   ·rw[f2 k (by omega),hh5.1 k k3,hh,gh k k2,hq k k1]
   obtain⟨a1,a2,a3⟩:=hh5.2.2;obtain⟨b1,b2,b3⟩:=ho4;obtain⟨c1,c2,c3⟩:=go;obtain⟨p1,p2,p3⟩:=hq0;exact⟨by rw[f4.1,a1,b1,c1,p1],by rw[f4.2.1,a2,b2,c2,p2],by rw[f4.2.2,a3,b3,c3,p3]⟩
  clear hh5 hh ho4 go f2 f4 hq hq0 gh gf gz hown5 hturn5 hown4 hown g0 g1 m0 f1 hr5
  go_wp2
  have hld6:(loadVar 36 ⟨w.heap.size,0,none⟩).run Tryz.prog W6= .ok (.agg #[q0,q1,q2,q3,q4,q5,q6,q7,q8,q9,q10,q11,q12,q13,q14,q15]) W6:=run_loadVar_mid W6 w.heap.size 0 36 [q0,q1,q2,q3,q4,q5,q6,q7,q8,q9,q10,q11,q12,q13,q14,q15] _ (λj v hv=>by simpa using f j v hv) t36 rfl (by kernel_rfl);refine bodyPost_ret (v:= .agg #[q0,q1,q2,q3,q4,q5,q6,q7,q8,q9,q10,q11,q12,q13,q14,q15]) ?_ rfl ⟨rfl,fin⟩;have:results Tryz.f41=λtmps=>(do
    let vs<- #[ResultVar.cell 4 36].mapM (zX tmps)
    pure (if h:vs.size=1 then vs[0] else .tuple vs)):=rfl
  rw[this];simp[zX,asAddr,hld6,Act.put]
 have h20:W2.cell? ⟨b,0,none⟩=some (.map (some bm)):=by rw[World.cell?_of_block (w:=w) (a:=⟨b,0,none⟩) (hq b hb)];exact h0
 have h21:W2.cell? ⟨b,1,none⟩=some (.bool c):=by rw[World.cell?_of_block (w:=w) (a:=⟨b,1,none⟩) (hq b hb)];exact h1
 clear hK5 hqr hq0;obtain⟨q0,q1,q2,q3,q4,q5,q6,q7,q8,q9,q10,q11,q12,q13,q14,q15,rfl⟩:=z26 hD16;have d:∀i v,[q0,q1,q2,q3,q4,q5,q6,q7,q8,q9,q10,q11,q12,q13,q14,q15][i]? =some v->W2.cell? ⟨W1.heap.size,i,none⟩=some v:=λi v hv=>by have:=e3 i v hv;simpa using this
 have d0:=d 0 q0 rfl;have d1:=d 1 q1 rfl;have d2:=d 2 q2 rfl;have d3:=d 3 q3 rfl;have d4:=d 4 q4 rfl;have d5:=d 5 q5 rfl;have d6:=d 6 q6 rfl;have d7:=d 7 q7 rfl;have d8:=d 8 q8 rfl;have d9:=d 9 q9 rfl;have d10:=d 10 q10 rfl;have d11:=d 11 q11 rfl;have d12:=d 12 q12 rfl;have d13:=d 13 q13 rfl;have d14:=d 14 q14 rfl;have d15:=d 15 q15 rfl;have hlk:∀nq,(Instr.lookup 43 (.map (some bm)) (.agg #[q0,q1,q2,q3,q4,q5,q6,q7,q8,q9,q10,q11,q12,q13,q14,q15]) true).run Tryz.prog (W2.drewN nq)= .ok (.tuple #[.string ⟨old.toArray⟩,.bool is]) (W2.drewN nq):=λnq=>by
  have hown2:(W2.drewN nq).ownsMap Tryz.prog 36 (plainElem Tryz.prog 9) bm n M:=by obtain⟨es,ck,k1,k2⟩:=hown;exact⟨es,ck,by rw[show(W2.drewN nq).heap=W2.heap from rfl,hq bm hlt];exact k1,k2⟩
  obtain⟨v,ps,k1,k2⟩:=hown2.look_ok keyP t43 (v9 _) (plainElem_string t9 (s:=⟨#[]⟩) (Nat.zero_le _)) hD;obtain⟨sv,rfl,k3⟩:=Zr t9 k2;have k4:sv.data.toList=old:=by rw[show(ByteArray.mk #[]).data.toList=([]:List UInt8) from rfl,hat] at k3;simpa using k3.symm
  rw[k1,hhas,<-k4]
 have hcvq:∀nq,(convert 82 9 inp).run Tryz.prog (W2.drewN nq)= .ok (.string s) (W2.drewN nq):=λnq=>hcv _ λk hk _ _=>hq k hk;have hcr:∀nq a,(W2.drewN nq).cell? a=W2.cell? a:=λnq a=>World.cell?_of_block rfl;clear d e3 hcv hat hhas
 go_quiet (fail)
 have f1:(W2.drewN nq).frozen? ⟨b,1,none⟩=false:=(World.frozen?_of_block (w:=w) (w':=W2.drewN nq) (a:=⟨b,1,none⟩) (hq b hb)).trans hf
 go_wp2
 ·rename_i k1 k2;refine tail _ _ _ _ _ _ _ _ _ _ _ _ _ _ _ _ _ _ _ _ _ _ _ _ _ _ _ _ _ _ _ _ ?_ ?_ ?_ ?_ ?_ ?_
  ·rw[World.cell?_setCell_other _ _ _ _ (by simp),hcr];exact h20
  ·rw[World.cell?_setCell_same _ _ _ (by rw[hcr,h21]),<-hc',if_pos (by rw[k1,k2];rfl)]
  ·intro k hk;simp only[World.setCell,Array.getElem?_modify];rw[if_neg (by simpa using λe=>hk e.symm)];rfl
  ·intro i;rw[World.frozen?_setCell];exact World.frozen?_of_block rfl
  ·simp[World.setCell]
  exact⟨rfl,rfl,rfl⟩
 ·rename_i k1 k2;refine tail _ _ _ _ _ _ _ _ _ _ _ _ _ _ _ _ _ _ _ _ _ _ _ _ _ _ _ _ _ _ _ _ (by rw[hcr];exact h20) (by rw[hcr,<-hc',if_neg (by rw[k1,k2];simp)];exact h21) (λ_ _=>rfl) (λi=>World.frozen?_of_block rfl) rfl ⟨rfl,rfl,rfl⟩
 rename_i k1;refine tail _ _ _ _ _ _ _ _ _ _ _ _ _ _ _ _ _ _ _ _ _ _ _ _ _ _ _ _ _ _ _ _ (by rw[hcr];exact h20) (by rw[hcr,<-hc',if_neg (by simp[k1])];exact h21) (λ_ _=>rfl) (λi=>World.frozen?_of_block rfl) rfl ⟨rfl,rfl,rfl⟩
end Go.Abs.TryzP
set_option linter.unusedVariables false
set_option linter.unusedSimpArgs false
namespace Go.Abs.TryzP
open Go.Abs Go.RowKit Go.Proofs Go.Lib
theorem u8wf(u:UInt8):(Lit.int .u8 (u.toNat:Int)).wf=true:=by have:=u.toNat_lt;simp[Lit.wf,IntKind.min,IntKind.max,IntKind.signed,IntKind.bits];omega
theorem z2ua(u:UInt8):Lit.keyBytes (.int .u8 (u.toNat:Int))=[u]:=by
 have h:=u.toNat_lt;have e:((u.toNat:Int)% 2^IntKind.u8.bits).toNat=u.toNat:=by show((u.toNat:Int)% 256).toNat=_;omega
 simp only[Lit.keyBytes,e];show(bytesLE 1 u.toNat).reverse=[u];simp[bytesLE]
theorem z4za{x:List UInt8}(h:x.length=16):Go.keyOf Tryz.prog 36 (.agg (x.map λu=>Value.int .u8 u.toNat).toArray)=some (.string x):=by
 match x,h with
 |[x0,x1,x2,x3,x4,x5,x6,x7,x8,x9,x10,x11,x12,x13,x14,x15],_=>
  have hk:Tryz.prog.keyType 36=true:=by kernel_rfl
  have hc:Tryz.prog.cellsOf 36=16:=by kernel_rfl
  have hc5:Tryz.prog.cellsOf 5=1:=by kernel_rfl
  obtain⟨n,hn⟩:∃n,Tryz.prog.types.size=n+1:=by have:1<=Tryz.prog.types.size:=of_decide_eq_true (by kernel_rfl);exact⟨Tryz.prog.types.size-1,by omega⟩
  have r:List.range 16=[0,1,2,3,4,5,6,7,8,9,10,11,12,13,14,15]:=rfl;simp[Go.keyOf,Tryz.underlying36,hk,Value.formed,hc,hn,Program.keyLits,hc5,r,keyBytes,z2ua,u8wf,Value.cells,Tryz.underlying5]
theorem Wh{K:Con}{g:Gh}{w:World}:∀d:List UInt8,an K g w (bys d) (d.map λu=>Value.int .u8 u.toNat)
 |[]=>by simp[bys,an]
 |u::d=>by show an K g w (u8 u::bys d) (_::_);simp only[an];exact⟨_,_,rfl,by simp only[Rep,u8],Wh d⟩
theorem put_valid{K:Cx}(hP:K.P=Tryz.prog)(hn:K.nu 401=41)(hs:K.nu 28=94)(hm:K.mkt=36)(he:K.met=9)(hc:ek Tryz.prog 41)(hV:oK K 28 zZ):ru K 401 Ks:=by
 refine⟨by rw[hP,hn];exact hc,λg w ds vs hI hArg hp=> ?_⟩;obtain⟨s,nl,x,h1,h2,rfl⟩:=hp;obtain⟨hlen,hArg⟩:=hArg;obtain⟨v0,v1,rfl⟩:∃v0 v1,vs=[v0,v1]:=by
  match vs,hlen with
  |[v0,v1],_=>exact⟨v0,v1,rfl⟩
 have a0:=hArg 0 _ v0 rfl rfl;have a1:=hArg 1 _ v1 rfl rfl;rw[if_pos (by simp)] at a0;rw[if_neg (by simp)] at a1;obtain⟨b,hb,rfl⟩:=a0;have hin:Ks.ins [.ep (hA s),.sl .plain nl x.length (bys x)] 0=some (hA s):=rfl;obtain⟨b',k1,k2,k3⟩:=hI.bxok 0 _ hin;rw[hb] at k1;cases k1;obtain⟨⟨x0,c0,r0⟩,z0⟩:=k3 0 (.mp (G9 s.1)) rfl;obtain⟨⟨x1,c1,r1⟩,z1⟩:=k3 1 (bo s.2) rfl;simp only[Rep,bo] at r0 r1;subst r1;obtain⟨bm,rfl,how,hown⟩:=r0.2 _ rfl;have hbW:=hI.muW 0 b hb;have hmW:=hI.owW bm _ how;have hne:bm≠b:=λe=>by rw[e,hbW.2.2] at how;cases how
 rw[hP,hm,he] at hown;have hmap:∀i,w.cell? ⟨bm,i,none⟩=none:=λi=>by obtain⟨es,ck,hk,_⟩:=hown;simp[World.cell?,hk]
 have key:∀W:World,(∀k,k<w.heap.size->k≠b->k≠bm->W.heap[k]? =w.heap[k]?)->aP g.S w g.S W:=λW hW b0 i y hi hy=>by
  have hlt:b0<w.heap.size:=World.block_lt_of_cell? w ⟨b0,i,none⟩ hy;have n1:b0≠b:=λe=>by rw[e,k2] at hi;omega
  have n2:b0≠bm:=λe=>by rw[e,hmap] at hy;cases hy
  exact⟨hi,by rw[World.cell?_of_block (w:=w) (a:=⟨b0,i,none⟩) (hW b0 hlt n1 n2)];exact hy⟩
 have hlx:(cT x).length=16:=iH x;have hlook:=z1da (G9 s.1) (cT x);have hhas:=z1N (G9 s.1) (cT x);have hcount:(G9 s.1).length=s.1.length:=by simp[G9]
 rw[hcount] at hown;have sb:(ByteArray.mk x.toArray).data.toList=x:=by simp
 generalize hM:mpD (G9 s.1)=M at*
 generalize hd:cT x=d at*
 obtain⟨D,hD⟩:∃D:Array Value,D=(d.map λu=>Value.int .u8 u.toNat).toArray:=⟨_,rfl⟩;have hD16:D.size=16:=by rw[hD,List.size_toArray,List.length_map,hlx]
 have hDk:Go.keyOf Tryz.prog 36 (.agg D)=some (.string d):=by rw[hD];exact z4za hlx
 generalize hold:(Bo (G9 s.1) d).getD []=old at*
 generalize his:(Bo (G9 s.1) d).isSome=is at*
 generalize hby:ByteArray.mk x.toArray=bx at*
 generalize hc':(DG s x).2=c';have H1:bx.size<=maxLen:=by rw[<-hby];show x.toArray.size<=maxLen;rw[List.size_toArray];exact Nat.le_trans h2 (by decide)
 have H2:s.1.length<maxLen:=Nat.lt_of_le_of_lt h1 (by decide);have H3:∀v∈D.toList,v.oneCell'=true:=λv hv=>by rw[hD] at hv;simp only[List.mem_map] at hv;obtain⟨u,_,rfl⟩:=hv;rfl
 have H4:(if(is&& !(old==bx.toList))=true then true else s.2)=c':=by rw[<-hc',<-hold,<-his,ByteArray.toList_eq,sb];simp only[DG,hit,hd];cases Bo (G9 s.1) d<;>simp
 have H5:∀W:World,w.heap.size<=W.heap.size->(∀k,k<w.heap.size->W.heap[k]? =w.heap[k]?)->Calls Tryz.prog 94 #[v1] W λe W'=>e= .returned (.agg D)∧Fr W.heap.size (λ_=>False) W W':=λW hz hW=>by
  have hk:=key W λk hk _ _=>hW k hk;have hc28:=hV.2 g.S W [.sl .plain nl x.length (bys x)] [v1] (λn hn=>am.mono hk _ _ _ (hI.glob n hn)) (by simp only[ag];exact⟨v1,[],rfl,ap.mono hk _ _ a1,rfl⟩) (of_eq_true (D1 rfl (by omega)));rw[hP,hs] at hc28;refine hc28.mono ?_;rintro e W' ⟨v,g',rfl,hfr,hr,_⟩;refine⟨?_,hfr⟩;rw[ES,show(sha x).take 16=d from hd] at hr;simp only[Rep] at hr;obtain⟨a,rfl,hr⟩:=hr;have hv:=QB hr (λc hc=>by
   simp only[bys,List.mem_map] at hc;obtain⟨u,_,rfl⟩:=hc;rfl)
  have:a=D:=by rw[hD];apply Array.ext';rw[hv];show((d.map u8).map asI).map (Value.int .u8)=d.map _;rw[List.map_map,List.map_map];rfl
  rw[this]
 have H6:∀W:World,(∀k,k<w.heap.size->k≠b->k≠bm->W.heap[k]? =w.heap[k]?)->(convert 82 9 v1).run Tryz.prog W= .ok (.string bx) W:=λW hW=>by
  have ha:=ap.mono (key W hW) _ _ a1;have hr:=Od (P:=Tryz.prog) W Tryz.underlying82 Tryz.underlying5 Tryz.underlying9 (v:=v1) (x.map λu=>(u.toNat:Int)) (List.length_map _) (by
   simp only[ap] at ha;rcases ha with⟨bk,o,cap,rfl,_,hc,_⟩|⟨q,rfl,hz,_⟩
   ·refine .inr ⟨bk,o,cap,rfl,λj v hv=> ?_⟩;rw[List.map_map,List.getElem?_map] at hv;cases hx:x[j]? with
    |none=>rw[hx] at hv;cases hv
    |some u=>rw[hx] at hv;simp only[Option.map_some,Option.some.injEq,Function.comp] at hv;obtain⟨_,y,hy,hr⟩:=hc.get j (u8 u) (by rw[bys,List.getElem?_map,hx];rfl);rw[hy,<-hv];simp only[ap,u8] at hr;rw[hr]
   have:x=[]:=List.eq_nil_of_length_eq_zero hz;exact .inl ⟨q,rfl,by rw[this];rfl⟩)
  rw[hr,foldl_push_bytes];have e:(ByteArray.mk (ByteArray.empty.data++((x.map λu=>(u.toNat:Int)).map λn=>UInt8.ofNat n.toNat).toArray))=bx:=by rw[<-hby,List.map_map,show((λn:Int=>UInt8.ofNat n.toNat)∘λu:UInt8=>(u.toNat:Int))=id from funext λu=>by simp,List.map_id,show ByteArray.empty.data= #[] from rfl,Array.empty_append]
  rw[e]
 have hrun:=z3C w b bm s.1.length M s.2 v1 d bx H1 c0 c1 z1 hbW.2.1 hne hown H2 old is hlook hhas D hD16 H3 hDk c' H4 H5 H6;rw[hP,hn];refine hrun.mono ?_;rintro e w' ⟨rfl,p1,p2,p3,p4,p5,p6,p7,p8,p9⟩;have hk:=key w' λk k1 k2 k3=>p5 k k1 k2 k3;have wr:∀k,¬Wr g k->k≠b∧k≠bm:=λk hk=>⟨λe=>hk (.inl ⟨0,by rw[e];exact hb⟩),λe=>hk (.inr (by rw[e,how];simp))⟩;have outs:∀j cs,Ks.outs [.ep (hA s),.sl .plain nl x.length (bys x)] j=some cs->j=0∧cs=hA (DG s x):=λj cs hj=>by
  unfold CM.outs at hj;split at hj
  ·rename_i hm;simp only[z1Z,z7da,List.append_nil,List.mem_singleton] at hm;rw[z3P] at hj;exact⟨hm,(Option.some.inj hj).symm⟩
  cases hj
 have hD':mpD (G9 (DG s x).1)=M.put (.string d) (.lit (.string bx.data.toList)):=by rw[sb,<-hM,<-hd];simp only[DG,G9,List.map_append,mpD,List.foldl_append,List.map_cons,List.map_nil,List.foldl_cons,List.foldl_nil]
 have hl':(G9 (DG s x).1).length=s.1.length+1:=by simp[G9,DG]
 refine⟨_,g,rfl,⟨⟨p7,p8,p9,p6,λk k1 k2=>p5 k k1 (wr k k2).1 (wr k k2).2⟩,λ_ _ _=>rfl,hI.inj,λj cs hj=> ?_,λj hj=> ?_,λj b1 hj=> ?_,λb1 l hj=> ?_,λn hn=>am.mono hk _ _ _ (hI.glob n hn),hk,λj b1 cs hj _ hc1 _=> ?_,hI.old⟩,λj _=>rfl,?_⟩
 ·obtain⟨rfl,rfl⟩:=outs j cs hj;refine⟨b,hb,k2,λi e hi=>⟨?_,by rw[p4];exact(k3 i ((hA s).getD i .undef) (by
   match i,hi with
   |0,_=>rfl
   |1,_=>rfl
   |_+2,hi=>simp[hA] at hi)).2⟩⟩
  match i,hi with
  |0,hi=>simp only[hA,List.getElem?_cons_zero,Option.some.injEq] at hi;subst hi;refine⟨_,p2,?_⟩;simp only[Rep];refine⟨⟨bm,rfl⟩,λl' hl=> ?_⟩;cases hl;exact⟨bm,rfl,how,by rw[hP,hm,he,hD',hl'];exact p1⟩
  |1,hi=>simp only[hA,List.getElem?_cons_succ,List.getElem?_cons_zero,Option.some.injEq] at hi;subst hi;exact⟨_,p3,by simp only[Rep,bo,hc']⟩
  |_+2,hi=>simp[hA] at hi
 ·refine hI.nobx j ?_;unfold CM.outs at hj;unfold CM.ins;split at hj
  ·cases hj
  rename_i hm;rw[if_neg λh=>hm (List.mem_append_left _ h)]
 ·have h:=hI.muW j b1 hj;exact⟨h.1,Nat.lt_of_lt_of_le h.2.1 p6,h.2.2⟩
 ·have h:=hI.owW b1 l hj;exact⟨h.1,Nat.lt_of_lt_of_le h.2 p6⟩
 ·obtain⟨rfl,_⟩:=outs j cs hc1;omega
 rw[z2i,hd];simp only[Rep];refine⟨D,rfl,?_⟩;rw[hD];exact Wh d
end Go.Abs.TryzP
namespace Go.Abs
set_option maxRecDepth 100000
def C0:av:=
 Yq (.block 1 (YR [1,3,41,42,43] [.norm [1,3]] [Yi 45 30 41 43,YJ 46 30 45,Yo 3 (.alloc 3 (List.replicate 10 (i64 0)++[st []]++[.sl .plain none 0 []]++bys (bF 16)++[.sl (.own 24) none 0 []]++[.sl (.own 1) none 0 []])),Ys 30 3 3 46] (YR [1,4,5,41,42,43] [.norm [1,3,4]] [YL 48 3 1 1,YL 49 30 3 3,YK 50 357 48 49,Ym 47 50,Ye 51 0 47,Ye 52 1 47,Yh 4 4,Ys 3 4 4 51,Ym 5 52] (Yq (Yr [1,4,41,42,43,54] [Ym 53 5,YB 54 .neq 53 0] (Yd 54 (Yr [0] [Yw 0 false] .ret) (Yy [1,4,41,42,43]))) (.region [1,41,42,43] [.norm [1,3,4]] [YL 55 3 4 4,Ys 3 1 1 55]))))) (.region [1,41,42,43] [.drop [3,4]] [YB 56 .add 43 1,Ym 43 56])
def Cv:av:=
 Yr [1,41,42,43,44] [Yb 44 .lss 43 42] (Yq (Yd 44 (Yy [1,41,42,43]) (YY [1])) C0)
def CD:av:=
 YR [1,7,9,10,11,13,16,29,30,31] [.norm [1,3,4,6,8,10,11,13,15,17,19,21,25,27,30]] [YL 204 3 13 13,YL 205 3 11 11,YK 206 365 204 205,Ym 203 206,Ye 207 0 203,Ye 208 1 203,Yh 30 30,Ys 3 30 30 207,Ym 31 208] (YR [1,7,9,10,11,16,29,30,31,33] [.norm [1,3,4,6,8,10,11,13,15,17,19,21,25,27,30,32]] [YL 210 3 11 11,YL 211 3 13 13,YK 212 365 210 211,Ym 209 212,Ye 213 0 209,Ye 214 1 209,Yh 32 32,Ys 3 32 32 213,Ym 33 214] (YR [1,7,9,10,11,16,29,30,31,33,34] [.norm [1,3,4,6,8,10,11,13,15,17,19,21,25,27,30,32,34]] [YL 215 3 11 11,Yh 34 34,Ys 3 34 34 215] (YR [1,7,9,10,11,16,29,30,31,33,34] [.norm [1,3,4,6,8,10,11,13,15,17,19,21,25,27,30,32,34]] [Yf 216 1 11,Yl 217 11 216,YI 218 30 217 1,YJ 219 30 218,Yf 220 1 11,Yl 221 11 220,YI 222 30 221 0,YJ 223 30 222,Yo 224 (.buildSl 30 2 [i64 0,i64 0,i64 0,i64 0,i64 0,i64 0,i64 0,i64 0,i64 0,i64 0,st [],.sl .plain none 0 [],u8 0,u8 0,u8 0,u8 0,u8 0,u8 0,u8 0,u8 0,u8 0,u8 0,u8 0,u8 0,u8 0,u8 0,u8 0,u8 0,.sl .plain none 0 [],.sl .plain none 0 [],i64 0,i64 0,i64 0,i64 0,i64 0,i64 0,i64 0,i64 0,i64 0,i64 0,st [],.sl .plain none 0 [],u8 0,u8 0,u8 0,u8 0,u8 0,u8 0,u8 0,u8 0,u8 0,u8 0,u8 0,u8 0,u8 0,u8 0,u8 0,u8 0,.sl .plain none 0 [],.sl .plain none 0 []] [(0,30,.s 219),(30,30,.s 223)]),Yf 225 1 34,YS 34 225 224] (YR [1,7,9,10,11,16,29,30,31,33,34,35,36] [.norm [1,3,4,6,8,10,11,13,15,17,19,21,25,27,30,32,34]] [YL 227 3 1 1,YC 228 353 227 2,Ym 226 228,Ye 229 0 226,Ye 230 1 226,YM 35 229,Ym 36 230] (YR [1,7,9,10,11,16,29,30,31,33,34,35,36,37,38] [.norm [1,3,4,6,8,10,11,13,15,17,19,21,25,27,30,32,34,37]] [YL 232 3 11 11,Yk 233 369 232,Yk 234 368 233,Ym 231 234,Ye 235 0 231,Ye 236 1 231,Yh 37 37,Ys 3 37 37 235,Ym 38 236] (YR [1,7,9,10,11,16,29,30,31,33,34,35,36,37,38,40] [.norm [1,3,4,6,8,10,11,13,15,17,19,21,25,27,30,32,34,37,39]] [Yo 238 (.call 368 [.c (st [])] []),Ym 237 238,Ye 239 0 237,Ye 240 1 237,Yh 39 39,Ys 3 39 39 239,Ym 40 240] (YR [0] [.norm [1,3,4,6,8,10,11,13,15,17,19,21,25,27,30,32,34,37,39]] [Ym 241 29,Ym 242 241,YG 242 (Ym 243 7),YG 242 (YB 244 .eql 243 20),Yp 245 242 244,Ym 246 245,YG 246 (Ym 247 9),YG 246 (YB 248 .eql 247 1),Yp 249 246 248,Ym 250 249,YG 250 (YL 251 3 1 1),YG 250 (Yk 252 349 251),YG 250 (YB 253 .eql 252 3),Yp 254 250 253,Ym 255 254,YG 255 (YL 256 3 1 1),YG 255 (Yk 257 386 256),YG 255 (YL 258 16 10 10),YG 255 (Yo 259 (.eqF (ks8 16) false (.s 257) (.s 258))),Yp 260 255 259,Ym 261 260,YG 261 (Ym 262 16),YG 261 (YB 263 .eql 262 11),Yp 264 261 263,Ym 265 264,YG 265 (YL 266 16 10 10),YG 265 (YL 267 3 11 11),YG 265 (Yo 268 (.call 363 [.s 266,.c (i64 3),.s 267] [])),YG 265 (YB 269 .eql 268 0),Yp 270 265 269,Ym 271 270,YG 271 (YL 272 16 10 10),YG 271 (YL 273 3 11 11),YG 271 (Yo 274 (.call 363 [.s 272,.c (i64 4),.s 273] [])),YG 271 (YB 275 .eql 274 8),Yp 276 271 275,Ym 277 276,YG 277 (YL 278 16 10 10),YG 277 (YL 279 3 11 11),YG 277 (Yo 280 (.call 363 [.s 278,.c (i64 2),.s 279] [])),YG 277 (YB 281 .eql 280 1),Yp 282 277 281,Ym 283 282,YG 283 (YL 284 16 10 10),YG 283 (YL 285 3 34 34),YG 283 (Yo 286 (.call 363 [.s 284,.c (i64 3),.s 285] [])),YG 283 (YB 287 .eql 286 8),Yp 288 283 287,Ym 289 288,YG 289 (Ym 290 31),YG 289 (YB 291 .eql 290 0),Yp 292 289 291,Ym 293 292,YG 293 (Yf 294 1 30),YG 293 (Yl 295 30 294),YG 293 (Yn 296 295),YG 293 (YB 297 .eql 296 3),Yp 298 293 297,Ym 299 298,YG 299 (Ym 300 33),YG 299 (YB 301 .eql 300 1),Yp 302 299 301,Ym 303 302,YG 303 (YL 304 16 10 10),YG 303 (YL 305 3 30 30),YG 303 (Yo 306 (.call 363 [.s 304,.c (i64 3),.s 305] [])),YG 303 (YB 307 .eql 306 0),Yp 308 303 307,Ym 309 308,YG 309 (Ym 310 35),YG 309 (Yn 311 310),YG 309 (YB 312 .eql 311 1),Yp 313 309 312,Ym 314 313,YG 314 (Ym 315 36),YG 314 (YB 316 .eql 315 0),Yp 317 314 316,Ym 318 317,YG 318 (YL 319 3 11 11),YG 318 (YL 320 3 37 37),YG 318 (YK 321 377 319 320),Yp 322 318 321,Ym 323 322,YG 323 (Ym 324 38),YG 323 (YB 325 .eql 324 0),Yp 326 323 325,Ym 327 326,YG 327 (Ym 328 40),YG 327 (YB 329 .eql 328 5),Yp 330 327 329,Ym 0 330] .ret)))))))
def CU:av:=
 YR [1,7,9,10,11,12,13,14,16,29] [.norm [1,3,4,6,8,10,11,13,15,17,19,21,25,27]] [Ym 138 22,YB 139 .eql 138 11,Ym 140 139,YG 140 (Ym 141 24),YG 140 (YB 142 .eql 141 11),Yp 143 140 142,Ym 144 143,YG 144 (Ym 145 28),YG 144 (YB 146 .eql 145 11),Yp 147 144 146,Ym 148 147,YG 148 (Yf 149 0 17),YG 148 (Yf 150 0 149),YG 148 (Yl 151 17 150),YG 148 (YB 152 .eql 151 2),Yp 153 148 152,Ym 154 153,YG 154 (Yf 155 0 17),YG 154 (YL 156 2 17 155),YG 154 (YL 157 2 25 25),YG 154 (YK 158 209 156 157),Yp 159 154 158,Ym 160 159,YG 160 (YL 161 3 17 17),YG 160 (Yk 162 355 161),YG 160 (YL 163 16 10 10),YG 160 (Yo 164 (.eqF (ks8 16) false (.s 162) (.s 163))),Yp 165 160 164,Ym 166 165,YG 166 (YL 167 3 17 17),YG 166 (Yk 168 349 167),YG 166 (YB 169 .eql 168 3),Yp 170 166 169,Ym 171 170,YG 171 (YL 172 16 10 10),YG 171 (YL 173 3 19 19),YG 171 (Yo 174 (.call 363 [.s 172,.c (i64 3),.s 173] [])),YG 171 (YB 175 .eql 174 0),Yp 176 171 175,Ym 29 176] (Yq (YR [1,7,9,10,11,13,16,29,202] [.norm [1,3,4,6,8,10,11,13,15,17,19,21,25,27]] [Ym 177 12,YB 178 .neq 177 0,Ym 179 178,Yg 179 (Ym 180 14),Yg 179 (YB 181 .neq 180 0),YP 182 179 181,Ym 183 182,Yg 183 (Yf 184 1 11),Yg 183 (Yl 185 11 184),Yg 183 (Yn 186 185),Yg 183 (YB 187 .neq 186 2),YP 188 183 187,Ym 189 188,Yg 189 (Yf 190 2 11),Yg 189 (Yl 191 11 190),Yg 189 (Yn 192 191),Yg 189 (YB 193 .neq 192 2),YP 194 189 193,Ym 195 194,Yg 195 (Yf 196 2 11),Yg 195 (Yl 197 11 196),Yg 195 (YI 198 1 197 0),Yg 195 (Yj 199 198),Yg 195 (Yn 200 199),Yg 195 (YB 201 .neq 200 1),YP 202 195 201] (Yd 202 (Yr [0] [Yw 0 false] .ret) (Yy [1,7,9,10,11,13,16,29]))) CD)
def CF:av:=
 YR [1,7] [.norm [1,3,4,6]] [YL 58 3 1 1,Yo 59 (.build (List.replicate 10 (i64 0)++[st []]++[.sl .plain none 0 []]++bys (bF 16)++[.sl .plain none 0 []]++[.sl .plain none 0 []]) [(0,1,.c (i64 3)),(3,1,.c (i64 1))]),YK 60 357 58 59,Ym 57 60,Ye 61 0 57,Ye 62 1 57,Yh 6 6,Ys 3 6 6 61,Ym 7 62] (YR [1,7,9] [.norm [1,3,4,6,8]] [YL 64 3 1 1,Yo 65 (.build (List.replicate 10 (i64 0)++[st []]++[.sl .plain none 0 []]++bys (bF 16)++[.sl .plain none 0 []]++[.sl .plain none 0 []]) [(0,1,.c (i64 9))]),YK 66 357 64 65,Ym 63 66,Ye 67 0 63,Ye 68 1 63,Yh 8 8,Ys 3 8 8 67,Ym 9 68] (YR [1,7,9,10] [.norm [1,3,4,6,8,10]] [YL 69 3 1 1,Yk 70 355 69,Yz 10 10 16,Ys 16 10 10 70] (YR [1,7,9,10,11,12] [.norm [1,3,4,6,8,10,11]] [YL 72 3 1 1,YD 73 360 72 1 3,Ym 71 73,Ye 74 0 71,Ye 75 1 71,Yh 11 11,Ys 3 11 11 74,Ym 12 75] (YR [1,7,9,10,11,12,13,14] [.norm [1,3,4,6,8,10,11,13]] [YL 77 3 1 1,YD 78 360 77 0 1,Ym 76 78,Ye 79 0 76,Ye 80 1 76,Yh 13 13,Ys 3 13 13 79,Ym 14 80] (YR [1,7,9,10,11,12,13,14,16] [.norm [1,3,4,6,8,10,11,13,15]] [YL 82 3 1 1,YD 83 360 82 2 2,Ym 81 83,Ye 84 0 81,Ye 85 1 81,Yh 15 15,Ys 3 15 15 84,Ym 16 85] (YR [1,7,9,10,11,12,13,14,16,17,18] [.norm [1,3,4,6,8,10,11,13,15,17]] [YL 87 3 1 1,YC 88 359 87 2,Ym 86 88,Ye 89 0 86,Ye 90 1 86,Yh 17 17,Ys 3 17 17 89,Ym 18 90] (YR [1,7,9,10,11,12,13,14,16,17,18,19,20] [.norm [1,3,4,6,8,10,11,13,15,17,19]] [YL 92 3 17 17,YD 93 360 92 2 3,Ym 91 93,Ye 94 0 91,Ye 95 1 91,Yh 19 19,Ys 3 19 19 94,Ym 20 95] (YR [1,7,9,10,11,12,13,14,16,17,18,19,20,22] [.norm [1,3,4,6,8,10,11,13,15,17,19,21]] [YL 97 3 17 17,YD 98 360 97 1 3,Ym 96 98,Ye 99 0 96,Ye 100 1 96,Yh 21 21,Ys 3 21 21 99,Ym 22 100] (YR [1,7,9,10,11,12,13,14,16,17,18,19,20,22,24] [.norm [1,3,4,6,8,10,11,13,15,17,19,21]] [YL 102 3 17 17,YC 103 353 102 1,Ym 101 103,Ye 104 0 101,Ye 105 1 101,YM 23 104,Ym 24 105] (YR [1,7,9,10,11,12,13,14,16,17,18,19,20,22,24,25,26] [.norm [1,3,4,6,8,10,11,13,15,17,19,21,25]] [YL 107 3 1 1,YC 108 348 107 2,Ym 106 108,Ye 109 0 106,Ye 110 1 106,YH 25 25,Ys 2 25 25 109,Ym 26 110] (YR [1,7,9,10,11,12,13,14,16,17,18,19,20,22,24,25,26,28] [.norm [1,3,4,6,8,10,11,13,15,17,19,21,25,27]] [YL 112 3 1 1,YC 113 348 112 4,Ym 111 113,Ye 114 0 111,Ye 115 1 111,YH 27 27,Ys 2 27 27 114,Ym 28 115] (Yq (YR [1,7,9,10,11,12,13,14,16,17,19,22,24,25,28,137] [.norm [1,3,4,6,8,10,11,13,15,17,19,21,25,27]] [Ym 116 18,YB 117 .neq 116 0,Ym 118 117,Yg 118 (Ym 119 20),Yg 118 (YB 120 .neq 119 0),YP 121 118 120,Ym 122 121,Yg 122 (Ym 123 26),Yg 122 (YB 124 .neq 123 0),YP 125 122 124,Ym 126 125,Yg 126 (Yf 127 1 25),Yg 126 (Yl 128 25 127),Yg 126 (Yn 129 128),Yg 126 (YB 130 .neq 129 1),YP 131 126 130,Ym 132 131,Yg 132 (Yf 133 2 17),Yg 132 (Yl 134 17 133),Yg 132 (Yn 135 134),Yg 132 (YB 136 .neq 135 1),YP 137 132 136] (Yd 137 (Yr [0] [Yw 0 false] .ret) (Yy [1,7,9,10,11,12,13,14,16,17,19,22,24,25,28]))) CU))))))))))))
def D3:nH:=
 {n:=0,wr:=[],res:=[.t 0],body:=Yr [] [Yw 0 false] (YR [1] [.norm [1]] [Yh 1 1] (Yq (Yr [1,41,42,43] [YT 41 396 [],Yn 42 41,Yc 43 0] (.block 0 (.loop Cv))) CF))}
end Go.Abs